import PyProof.Rows.All
import Wide.All
import OpenK.AllK
import Wide.FinOn
import HandS.ForMost
import HandS.ForExc
import HandS.Wide
import HandS.Deep
import HandS.IsInst
import HandS.ExcInit
import HandS.ExcIs
import HandS.ExcField
import HandS.Lambda
import HandS.EndTab
import HandS.Defaults
import HandS.Flow
import KE.SortData
import HandS.More
import HandS.Dict
import HandS.Property
import HandS.MakeKw
import HandS.HeadWalk
import HandS.ClsMeth
import HandS.HeadNt
import HandS.Zip
import KE.GoesMore
import PyProof.DictRoadsH
import KE.KeyNested
import KE.KTupSum
import PyProof.InstEq
import KE.KExcIs
import HandS.HeadHook4
import HandS.Head2
import PySem.Challenge.RW_sixviews_k07_mixed_numbers_and_rims
set_option Elab.async false
set_option linter.all false
set_option maxRecDepth 100000
set_option maxHeartbeats 4000000
namespace Y
open PySem PySem.Spec PyProof.Rows L2

/-! ## data -/
structure Num where
  T : Type
  val : T → Int
  lit : Int → T
  add : T → T → Option T
  sub : T → T → Option T
  mul : T → T → Option T
  div : T → T → Option T
  mod : T → T → Option T
  neg : T → T
  cmp : T → T → Option Ordering
  con : T → Option Int
  lit_ok : ∀ i, val (lit i) = i
  add_ok : ∀ {a b c}, add a b = some c → val c = val a + val b
  sub_ok : ∀ {a b c}, sub a b = some c → val c = val a - val b
  mul_ok : ∀ {a b c}, mul a b = some c → CMulW (val a) (val b) ∧ val c = val a * val b
  div_ok : ∀ {a b c}, div a b = some c → CDivW (val a) (val b) ∧ val c = val a / val b
  mod_ok : ∀ {a b c}, mod a b = some c → 0 < val b ∧ val c = val a % val b
  neg_ok : ∀ a, val (neg a) = - val a
  cmp_ok : ∀ {a b o}, cmp a b = some o → compare (val a) (val b) = o
  con_ok : ∀ {a i}, con a = some i → val a = i

inductive D (T : Type) where
  | non | bl (b : Bool) | int (n : T) | str (s : Str) | tup (l : List (D T)) | lst (l : List (D T)) | obj (c : Nat) (l : List (D T)) | dct (ks vs : List (D T)) | scr (l : List (D T))

/-- owned trees -/
inductive OT (T : Type) where
  | fr (d : D T) | lst (l : List (OT T)) | dct (ks vs : List (D T)) | obj (c : Nat) (l : List (D T))

mutual
def OT.d {T : Type} : OT T → D T
  | .fr d => d
  | .lst l => .lst (OT.ds l)
  | .dct ks vs => .dct ks vs
  | .obj c l => .obj c l
def OT.ds {T : Type} : List (OT T) → List (D T)
  | [] => []
  | o :: os => OT.d o :: OT.ds os
end

structure Cf where
  nm : Num
  P : Program
  w : World
  K : PySem.W.Frag
  mg : Str → Option Value
  T : List (Addr × Str)
  cls : Nat → Addr
  fld : Nat → List Str
  exa : Nat → Addr
  exf : Nat → List Str

abbrev Cf.D (c : Cf) := Y.D c.nm.T
abbrev Cf.O (c : Cf) := Y.OT c.nm.T

mutual
inductive Rep (c : Cf) (G : Hp) : V → c.D → Prop
  | non : Rep c G .non .non
  | bl (b : Bool) : Rep c G (.bl b) (.bl b)
  | int (n : c.nm.T) : Rep c G (.int (c.nm.val n)) (.int n)
  | str (s : Str) : Rep c G (.str s) (.str s)
  | tup {a : Addr} {xs : List V} {ds : List c.D} : SqT c.K G a xs → RepL c G xs ds → Rep c G (.ref a) (.tup ds)
  | lst {a : Addr} {xs : List V} {ds : List c.D} : G a = some (.lst xs) → RepL c G xs ds → Rep c G (.ref a) (.lst ds)
  | dct {a : Addr} {kvs : List (Key × V)} {ks vs : List c.D} : G a = some (.dK kvs) → RepL c G (kvs.map fun p => kV p.1) ks → RepL c G (kvs.map fun p => p.2) vs → Rep c G (.ref a) (.dct ks vs)
  | scr {a : Addr} {xs : List V} {ds : List c.D} : SqL c.K G a xs → RepL c G xs ds → Rep c G (.ref a) (.scr ds)
  | obj {a dx : Addr} {fs : List (Str × V)} {k : Nat} {ds : List c.D} : G a = some (.ins (c.cls k) dx fs) → fs.map (fun p => p.1) = (c.fld k).take ds.length → RepL c G (fs.map fun p => p.2) ds → Rep c G (.ref a) (.obj k ds)
inductive RepL (c : Cf) (G : Hp) : List V → List c.D → Prop
  | nil : RepL c G [] []
  | cons {v : V} {vs : List V} {d : c.D} {ds : List c.D} : Rep c G v d → RepL c G vs ds → RepL c G (v :: vs) (d :: ds)
end

mutual
theorem Rep.mono {c : Cf} {G G' : Hp} (h : Same G G') : ∀ {v : V} {d : c.D}, Rep c G v d → Rep c G' v d
  | _, _, .non => .non
  | _, _, .bl b => .bl b
  | _, _, .int n => .int n
  | _, _, .str s => .str s
  | _, _, .tup (a := a) (xs := xs) s r => .tup (by
      rcases s with (s | ⟨o, s⟩) | s
      · exact .inl (.inl (h _ _ s))
      · exact .inl (.inr ⟨o, h _ _ s⟩)
      · exact .inr s) (RepL.mono h r)
  | _, _, .lst s r => .lst (h _ _ s) (RepL.mono h r)
  | _, _, .dct s r1 r2 => .dct (h _ _ s) (RepL.mono h r1) (RepL.mono h r2)
  | _, _, .scr s r => .scr (h.seq s) (RepL.mono h r)
  | _, _, .obj s e r => .obj (h _ _ s) e (RepL.mono h r)
theorem RepL.mono {c : Cf} {G G' : Hp} (h : Same G G') : ∀ {v : List V} {d : List c.D}, RepL c G v d → RepL c G' v d
  | _, _, .nil => .nil
  | _, _, .cons a b => .cons (Rep.mono h a) (RepL.mono h b)
end
theorem RepL.length {c : Cf} {G : Hp} : ∀ {vs : List V} {ds : List c.D}, RepL c G vs ds → vs.length = ds.length
  | _, _, .nil => rfl
  | _, _, .cons _ b => congrArg Nat.succ b.length
theorem RepL.get {c : Cf} {G : Hp} : ∀ {vs : List V} {ds : List c.D} {i : Nat} {d : c.D}, RepL c G vs ds → ds[i]? = some d → ∃ v, vs[i]? = some v ∧ Rep c G v d
  | _, _, _, _, .nil, e => by simp at e
  | _, _, 0, _, .cons a _, e => by simp at e; subst e; exact ⟨_, rfl, a⟩
  | _, _, i + 1, _, .cons _ b, e => by simpa using RepL.get b (by simpa using e)
theorem RepL.getV {c : Cf} {G : Hp} : ∀ {vs : List V} {ds : List c.D} {i : Nat} {v : V}, RepL c G vs ds → vs[i]? = some v → ∃ d, ds[i]? = some d ∧ Rep c G v d
  | _, _, _, _, .nil, e => by simp at e
  | _, _, 0, _, .cons a _, e => by simp at e; subst e; exact ⟨_, rfl, a⟩
  | _, _, i + 1, _, .cons _ b, e => by simpa using RepL.getV b (by simpa using e)
theorem RepL.append {c : Cf} {G : Hp} : ∀ {vs ws : List V} {ds es : List c.D}, RepL c G vs ds → RepL c G ws es → RepL c G (vs ++ ws) (ds ++ es)
  | _, _, _, _, .nil, h => h
  | _, _, _, _, .cons a b, h => .cons a (RepL.append b h)
theorem RepL.drop {c : Cf} {G : Hp} : ∀ {vs : List V} {ds : List c.D} (n : Nat), RepL c G vs ds → RepL c G (vs.drop n) (ds.drop n)
  | _, _, 0, h => h
  | _, _, _ + 1, .nil => .nil
  | _, _, n + 1, .cons _ b => RepL.drop n b
theorem RepL.take {c : Cf} {G : Hp} : ∀ {vs : List V} {ds : List c.D} (n : Nat), RepL c G vs ds → RepL c G (vs.take n) (ds.take n)
  | _, _, 0, _ => .nil
  | _, _, _ + 1, .nil => .nil
  | _, _, n + 1, .cons a b => .cons a (RepL.take n b)

/-- a list or a dict -/
def LvO (u : HO) : Prop := (∃ xs, u = .lst xs) ∨ (∃ kvs, u = .dK kvs) ∨ ∃ C dx fs, u = .ins C dx fs
def Lv (H : Hp) (b : Addr) : Prop := ∃ u, H b = some u ∧ LvO u
theorem lv_lst {H : Hp} {b : Addr} {xs : List V} (h : H b = some (.lst xs)) : Lv H b := ⟨_, h, .inl ⟨_, rfl⟩⟩
theorem lv_dk {H : Hp} {b : Addr} {kvs : List (Key × V)} (h : H b = some (.dK kvs)) : Lv H b := ⟨_, h, .inr (.inl ⟨_, rfl⟩)⟩
theorem lv_ins {H : Hp} {b C dx : Addr} {fs : List (Str × V)} (h : H b = some (.ins C dx fs)) : Lv H b := ⟨_, h, .inr (.inr ⟨_, _, _, rfl⟩)⟩
theorem lv_eq {H H' : Hp} {b : Addr} (e : H' b = H b) (h : Lv H b) : Lv H' b := by
  obtain ⟨u, q, l⟩ := h
  exact ⟨u, e.trans q, l⟩
theorem lv_upd {H : Hp} {a b : Addr} {u : HO} (ne : b ≠ a) (h : Lv H b) : Lv (upd H a u) b := lv_eq (upd_ne ne) h
theorem LvO.ntbl {u : HO} (h : LvO u) (ps : Array Value) : u ≠ .tbl ps := by
  rcases h with ⟨xs, rfl⟩ | ⟨xs, rfl⟩ | ⟨_, _, _, rfl⟩ <;> (intro z; cases z)
theorem LvO.ncode {u : HO} (h : LvO u) (c : Addr) (q : Str) : u ≠ LamX.CodeO c q := by
  rcases h with ⟨xs, rfl⟩ | ⟨xs, rfl⟩ | ⟨_, _, _, rfl⟩ <;> (intro z; unfold LamX.CodeO at z; cases z)
mutual
inductive ORep (c : Cf) (G H : Hp) : V → c.O → List Addr → Prop
  | fr {v : V} {d : c.D} : Rep c G v d → ORep c G H v (.fr d) []
  | lst {a : Addr} {xs : List V} {os : List c.O} {f : List Addr} : H a = some (.lst xs) → G a = none → ORepL c G H xs os f → ORep c G H (.ref a) (.lst os) (a :: f)
  | dct {a : Addr} {kvs : List (Key × V)} {ks vs : List c.D} : H a = some (.dK kvs) → G a = none → RepL c G (kvs.map fun p => kV p.1) ks → RepL c G (kvs.map fun p => p.2) vs → ORep c G H (.ref a) (.dct ks vs) [a]
  | obj {a dx : Addr} {fs : List (Str × V)} {k : Nat} {ds : List c.D} : H a = some (.ins (c.cls k) dx fs) → G a = none → fs.map (fun p => p.1) = (c.fld k).take ds.length → RepL c G (fs.map fun p => p.2) ds → ORep c G H (.ref a) (.obj k ds) [a]
inductive ORepL (c : Cf) (G H : Hp) : List V → List c.O → List Addr → Prop
  | nil : ORepL c G H [] [] []
  | cons {v : V} {vs : List V} {o : c.O} {os : List c.O} {f g : List Addr} : ORep c G H v o f → ORepL c G H vs os g → ORepL c G H (v :: vs) (o :: os) (f ++ g)
end
mutual
theorem ORep.live {c : Cf} {G H : Hp} : ∀ {v : V} {o : c.O} {f : List Addr}, ORep c G H v o f → ∀ b ∈ f, G b = none ∧ Lv H b
  | _, _, _, .fr _, b, hb => by simp at hb
  | _, _, _, .lst h g r, b, hb => by
    rcases List.mem_cons.mp hb with e | hb
    · subst e; exact ⟨g, lv_lst h⟩
    · exact ORepL.live r b hb
  | _, _, _, .dct h g _ _, b, hb => by
    rw [List.mem_singleton.mp hb]; exact ⟨g, lv_dk h⟩
  | _, _, _, .obj h g _ _, b, hb => by
    rw [List.mem_singleton.mp hb]; exact ⟨g, lv_ins h⟩
theorem ORepL.live {c : Cf} {G H : Hp} : ∀ {v : List V} {o : List c.O} {f : List Addr}, ORepL c G H v o f → ∀ b ∈ f, G b = none ∧ Lv H b
  | _, _, _, .nil, b, hb => by simp at hb
  | _, _, _, .cons a r, b, hb => by
    rcases List.mem_append.mp hb with hb | hb
    · exact ORep.live a b hb
    · exact ORepL.live r b hb
end
mutual
theorem ORep.move {c : Cf} {G H G' H' : Hp} : ∀ {v : V} {o : c.O} {f : List Addr}, ORep c G H v o f → Same G G' → (∀ b ∈ f, G' b = none ∧ H' b = H b) → ORep c G' H' v o f
  | _, _, _, .fr r, s, _ => .fr (r.mono s)
  | _, _, _, .lst (a := a) h g r, s, k => .lst ((k a (List.mem_cons_self ..)).2.trans h) (k a (List.mem_cons_self ..)).1 (ORepL.move r s fun b hb => k b (List.mem_cons_of_mem _ hb))
  | _, _, _, .dct (a := a) h g r1 r2, s, k => .dct ((k a (List.mem_cons_self ..)).2.trans h) (k a (List.mem_cons_self ..)).1 (r1.mono s) (r2.mono s)
  | _, _, _, .obj (a := a) h g e r, s, k => .obj ((k a (List.mem_cons_self ..)).2.trans h) (k a (List.mem_cons_self ..)).1 e (r.mono s)
theorem ORepL.move {c : Cf} {G H G' H' : Hp} : ∀ {v : List V} {o : List c.O} {f : List Addr}, ORepL c G H v o f → Same G G' → (∀ b ∈ f, G' b = none ∧ H' b = H b) → ORepL c G' H' v o f
  | _, _, _, .nil, _, _ => .nil
  | _, _, _, .cons a r, s, k => .cons (ORep.move a s fun b hb => k b (List.mem_append_left _ hb)) (ORepL.move r s fun b hb => k b (List.mem_append_right _ hb))
end
mutual
theorem ORep.view {c : Cf} {G H : Hp} (s : Same G H) : ∀ {v : V} {o : c.O} {f : List Addr}, ORep c G H v o f → Rep c H v o.d
  | _, _, _, .fr r => r.mono s
  | _, _, _, .lst h g r => .lst h (ORepL.view s r)
  | _, _, _, .dct h g r1 r2 => .dct h (r1.mono s) (r2.mono s)
  | _, _, _, .obj h g e r => .obj h e (r.mono s)
theorem ORepL.view {c : Cf} {G H : Hp} (s : Same G H) : ∀ {v : List V} {o : List c.O} {f : List Addr}, ORepL c G H v o f → RepL c H v (OT.ds o)
  | _, _, _, .nil => .nil
  | _, _, _, .cons a r => .cons (ORep.view s a) (ORepL.view s r)
end
/-- frozen -/
def frz (G H : Hp) (f : List Addr) : Hp := fun b => if b ∈ f then H b else G b
theorem frz_in {G H : Hp} {f : List Addr} {b : Addr} (h : b ∈ f) : frz G H f b = H b := if_pos h
theorem frz_out {G H : Hp} {f : List Addr} {b : Addr} (h : b ∉ f) : frz G H f b = G b := if_neg h
theorem frz_same {G H : Hp} {f : List Addr} (h : ∀ b ∈ f, G b = none) : Same G (frz G H f) := fun b o e => by
  by_cases hb : b ∈ f
  · rw [h b hb] at e; cases e
  · rw [frz_out hb]; exact e
theorem frz_sub {G H : Hp} {f : List Addr} (s : Same G H) : Same (frz G H f) H := fun b o e => by
  by_cases hb : b ∈ f
  · rw [frz_in hb] at e; exact e
  · rw [frz_out hb] at e; exact s _ _ e
mutual
theorem ORep.frzd {c : Cf} {G H F : Hp} (s : Same G F) : ∀ {v : V} {o : c.O} {f : List Addr}, ORep c G H v o f → (∀ b ∈ f, F b = H b) → Rep c F v o.d
  | _, _, _, .fr r, _ => r.mono s
  | _, _, _, .lst (a := a) h g r, k => .lst ((k a (List.mem_cons_self ..)).trans h) (ORepL.frzd s r fun b hb => k b (List.mem_cons_of_mem _ hb))
  | _, _, _, .dct (a := a) h g r1 r2, k => .dct ((k a (List.mem_cons_self ..)).trans h) (r1.mono s) (r2.mono s)
  | _, _, _, .obj (a := a) h g e r, k => .obj ((k a (List.mem_cons_self ..)).trans h) e (r.mono s)
theorem ORepL.frzd {c : Cf} {G H F : Hp} (s : Same G F) : ∀ {v : List V} {o : List c.O} {f : List Addr}, ORepL c G H v o f → (∀ b ∈ f, F b = H b) → RepL c F v (OT.ds o)
  | _, _, _, .nil, _ => .nil
  | _, _, _, .cons a r, k => .cons (ORep.frzd s a fun b hb => k b (List.mem_append_left _ hb)) (ORepL.frzd s r fun b hb => k b (List.mem_append_right _ hb))
end
theorem ORepL.length {c : Cf} {G H : Hp} : ∀ {vs : List V} {os : List c.O} {f : List Addr}, ORepL c G H vs os f → vs.length = os.length
  | _, _, _, .nil => rfl
  | _, _, _, .cons _ b => congrArg Nat.succ b.length
theorem ORepL.snoc {c : Cf} {G H : Hp} : ∀ {vs : List V} {os : List c.O} {f g : List Addr} {v : V} {o : c.O}, ORepL c G H vs os f → ORep c G H v o g → ORepL c G H (vs ++ [v]) (os ++ [o]) (f ++ g)
  | _, _, _, g, _, _, .nil, h => by simpa using ORepL.cons h .nil
  | _, _, _, g, _, _, .cons a b, h => by simpa using ORepL.cons a (ORepL.snoc b h)


/-! ## the state of an activation -/
structure Ent where
  H0 : Hp
  G0 : Hp
  A0 : List Addr
  pin : Option V

structure JG (c : Cf) (E : Ent) (ρ : List (Option c.O)) (σ : List (Option V)) (H G : Hp) (f : Nat → List Addr) : Prop where
  sub : Same G H
  sub0 : Same E.G0 G
  old : ∀ b o, E.H0 b = some o → b ∉ E.A0 → H b = some o ∨ ∃ ps qs, o = .tbl ps ∧ H b = some (.tbl qs)
  tab : LamX.Tabs c.T H
  own : ∀ i, ∀ b ∈ f i, b ∈ E.A0 ∨ E.H0 b = none
  liv : ∀ i, ∀ b ∈ f i, G b = none ∧ Lv H b
  unf : ∀ b, E.G0 b = none → E.H0 b ≠ none → b ∉ E.A0 → G b = none
  rep : ∀ i o, ρ[i]? = some (some o) → ∃ v, σ[i]? = some (some v) ∧ ORep c G H v o (f i)
  nd : ∀ i, (f i).Nodup
  dj : ∀ i j, i ≠ j → ∀ b ∈ f i, b ∉ f j
  out : ∀ i, ρ.length ≤ i → f i = []
  a0 : ∀ b ∈ E.A0, H b ≠ none
  ntb : ∀ b ps, G b ≠ some (.tbl ps)

theorem tabs_upd {T : List (Addr × Str)} {H : Hp} {a : Addr} {o : HO} (t : LamX.Tabs T H) (h : ∀ u, H a = some u → (∀ ps, u ≠ .tbl ps) ∧ ∀ q, u ≠ LamX.CodeO a q) : LamX.Tabs T (upd H a o) := fun p hp => by
  obtain ⟨ps, h1, h2, h3⟩ := t p hp
  have ne1 : p.1 ≠ a := fun e => by rw [e] at h1; exact (h _ h1).1 ps rfl
  refine ⟨ps, by rw [upd_ne ne1]; exact h1, h2, fun pos cv hc => ?_⟩
  obtain ⟨c, e1, e2⟩ := h3 pos cv hc
  have ne2 : c ≠ a := fun e => by rw [e] at e2; exact (h _ e2).2 _ rfl
  exact ⟨c, e1, by rw [upd_ne ne2]; exact e2⟩
theorem tabs_new {T : List (Addr × Str)} {H : Hp} {a : Addr} {o : HO} (t : LamX.Tabs T H) (h : H a = none) : LamX.Tabs T (upd H a o) := tabs_upd t fun u e => by rw [h] at e; cases e
theorem tabs_lst {T : List (Addr × Str)} {H : Hp} {a : Addr} {o : HO} {xs : List V} (t : LamX.Tabs T H) (h : H a = some (.lst xs)) : LamX.Tabs T (upd H a o) := tabs_upd t fun u e => by
  rw [h] at e; cases e
  exact ⟨fun ps z => (by cases z), fun q z => (by unfold LamX.CodeO at z; cases z)⟩
theorem tabs_lv {T : List (Addr × Str)} {H : Hp} {a : Addr} {o u : HO} (t : LamX.Tabs T H) (h : H a = some u) (l : LvO u) : LamX.Tabs T (upd H a o) := tabs_upd t fun w e => by
  rw [h] at e; cases e
  exact ⟨fun ps => l.ntbl ps, fun q => l.ncode a q⟩

def fset (f : Nat → List Addr) (i : Nat) (l : List Addr) : Nat → List Addr := fun j => if j = i then l else f j
theorem fset_same {f : Nat → List Addr} {i : Nat} {l : List Addr} : fset f i l i = l := if_pos rfl
theorem fset_ne {f : Nat → List Addr} {i j : Nat} {l : List Addr} (h : j ≠ i) : fset f i l j = f j := if_neg h

section
variable {c : Cf} {E : Ent} {ρ : List (Option c.O)} {σ : List (Option V)} {H G : Hp} {f : Nat → List Addr}

theorem JG.fresh (j : JG c E ρ σ H G f) {p : Addr} (h : H p = none) : G p = none ∧ (∀ i, p ∉ f i) ∧ E.H0 p = none ∧ p ∉ E.A0 := by
  have na : p ∉ E.A0 := fun hp => j.a0 p hp h
  refine ⟨j.sub.free h, fun i hp => ?_, ?_, na⟩
  · obtain ⟨_, xs, e, _⟩ := j.liv i p hp
    rw [h] at e; cases e
  · cases q : E.H0 p with
    | none => rfl
    | some o =>
      rcases j.old p o q na with e | ⟨_, _, _, e⟩ <;> (rw [h] at e; cases e)

/-- cut to a shorter row of cells -/
theorem JG.cut {l : List (Option c.O)} {m : List (Option V)} (j : JG c E (ρ ++ l) (σ ++ m) H G f) (hl : ρ.length = σ.length) : JG c E ρ σ H G (fun i => if i < ρ.length then f i else []) := by
  refine ⟨j.sub, j.sub0, j.old, j.tab, fun i b hb => ?_, fun i b hb => ?_, j.unf, fun i o e => ?_, fun i => ?_, fun i k hik b hb => ?_, fun i hi => by rw [if_neg (by omega)], j.a0, j.ntb⟩
  · by_cases h : i < ρ.length
    · rw [if_pos h] at hb; exact j.own i b hb
    · rw [if_neg h] at hb; simp at hb
  · by_cases h : i < ρ.length
    · rw [if_pos h] at hb; exact j.liv i b hb
    · rw [if_neg h] at hb; simp at hb
  · have h : i < ρ.length := (List.getElem?_eq_some_iff.mp e).1
    obtain ⟨v, e2, r⟩ := j.rep i o (by rw [List.getElem?_append_left h]; exact e)
    rw [List.getElem?_append_left (by omega)] at e2
    exact ⟨v, e2, by rw [if_pos h]; exact r⟩
  · by_cases h : i < ρ.length
    · rw [if_pos h]; exact j.nd i
    · rw [if_neg h]; exact List.nodup_nil
  · by_cases h : i < ρ.length
    · rw [if_pos h] at hb
      by_cases h2 : k < ρ.length
      · rw [if_pos h2]; exact j.dj i k hik b hb
      · rw [if_neg h2]; simp
    · rw [if_neg h] at hb; simp at hb

/-- one more cell, with owned places that none of the others has -/
theorem JG.push (j : JG c E ρ σ H G f) (hl : ρ.length = σ.length) {o : Option c.O} {v : V} {g : List Addr} (r : ∀ x, o = some x → ORep c G H v x g) (hn : g.Nodup) (ho : ∀ b ∈ g, b ∈ E.A0 ∨ E.H0 b = none) (hd : ∀ i, ∀ b ∈ g, b ∉ f i)
    (hv : ∀ b ∈ g, G b = none ∧ Lv H b) : JG c E (ρ ++ [o]) (σ ++ [some v]) H G (fset f ρ.length g) := by
  refine ⟨j.sub, j.sub0, j.old, j.tab, fun i b hb => ?_, fun i b hb => ?_, j.unf, fun i x e => ?_, fun i => ?_, fun i k hik b hb => ?_, fun i hi => ?_, j.a0, j.ntb⟩
  · by_cases h : i = ρ.length
    · subst h; rw [fset_same] at hb; exact ho b hb
    · rw [fset_ne h] at hb; exact j.own i b hb
  · by_cases h : i = ρ.length
    · subst h; rw [fset_same] at hb; exact hv b hb
    · rw [fset_ne h] at hb; exact j.liv i b hb
  · by_cases h : i < ρ.length
    · rw [List.getElem?_append_left h] at e
      obtain ⟨w, e2, r2⟩ := j.rep i x e
      refine ⟨w, by rw [List.getElem?_append_left (by omega)]; exact e2, ?_⟩
      rw [fset_ne (by omega)]; exact r2
    · have hi : i = ρ.length := by
        have := (List.getElem?_eq_some_iff.mp e).1
        simp at this; omega
      subst hi
      rw [List.getElem?_append_right (Nat.le_refl _), Nat.sub_self] at e
      have e' : o = some x := by simpa using e
      refine ⟨v, by rw [hl, List.getElem?_append_right (Nat.le_refl _), Nat.sub_self]; rfl, ?_⟩
      rw [fset_same]; exact r x e'
  · by_cases h : i = ρ.length
    · subst h; rw [fset_same]; exact hn
    · rw [fset_ne h]; exact j.nd i
  · by_cases h : i = ρ.length
    · subst h; rw [fset_same] at hb; rw [fset_ne (fun e => hik e.symm)]; exact hd k b hb
    · rw [fset_ne h] at hb
      by_cases h2 : k = ρ.length
      · subst h2; rw [fset_same]; exact fun z => hd i b z hb
      · rw [fset_ne h2]; exact j.dj i k hik b hb
  · rw [fset_ne (by simp at hi; omega)]
    exact j.out i (by simp at hi; omega)
/-- one cell filled anew -/
theorem JG.put (j : JG c E ρ σ H G f) (hl : ρ.length = σ.length) {n : Nat} (hi : n < ρ.length) {o : Option c.O} {v : Option V} {g : List Addr} (r : ∀ x, o = some x → ∃ w, v = some w ∧ ORep c G H w x g) (hn : g.Nodup) (ho : ∀ b ∈ g, b ∈ E.A0 ∨ E.H0 b = none) (hd : ∀ i, i ≠ n → ∀ b ∈ g, b ∉ f i)
    (hv : ∀ b ∈ g, G b = none ∧ Lv H b) : JG c E (ρ.set n o) (σ.set n v) H G (fset f n g) := by
  refine ⟨j.sub, j.sub0, j.old, j.tab, fun i b hb => ?_, fun i b hb => ?_, j.unf, fun i x e => ?_, fun i => ?_, fun i k hik b hb => ?_, fun i h => ?_, j.a0, j.ntb⟩
  · by_cases h : i = n
    · subst h; rw [fset_same] at hb; exact ho b hb
    · rw [fset_ne h] at hb; exact j.own i b hb
  · by_cases h : i = n
    · subst h; rw [fset_same] at hb; exact hv b hb
    · rw [fset_ne h] at hb; exact j.liv i b hb
  · by_cases h : i = n
    · subst h
      rw [List.getElem?_set_self hi] at e
      obtain ⟨w, e2, r2⟩ := r x (Option.some.inj e)
      refine ⟨w, by rw [List.getElem?_set_self (by omega), e2], ?_⟩
      rw [fset_same]; exact r2
    · rw [List.getElem?_set_ne (fun z => h z.symm)] at e
      obtain ⟨w, e2, r2⟩ := j.rep i x e
      refine ⟨w, by rw [List.getElem?_set_ne (fun z => h z.symm)]; exact e2, ?_⟩
      rw [fset_ne h]; exact r2
  · by_cases h : i = n
    · subst h; rw [fset_same]; exact hn
    · rw [fset_ne h]; exact j.nd i
  · by_cases h : i = n
    · subst h; rw [fset_same] at hb; rw [fset_ne (fun e => hik e.symm)]; exact hd k (fun e => hik e.symm) b hb
    · rw [fset_ne h] at hb
      by_cases h2 : k = n
      · subst h2; rw [fset_same]; exact fun z => hd i h b z hb
      · rw [fset_ne h2]; exact j.dj i k hik b hb
  · rw [List.length_set] at h
    rw [fset_ne (by omega)]; exact j.out i h
/-- a cell's places frozen -/
theorem JG.freeze (j : JG c E ρ σ H G f) {n : Nat} {o : c.O} {v : V} (e : ρ[n]? = some (some o)) (ev : σ[n]? = some (some v)) : JG c E (ρ.set n (some (.fr o.d))) σ H (frz G H (f n)) (fset f n []) := by
  obtain ⟨v', e2, r⟩ := j.rep n o e
  rw [ev] at e2; cases e2
  have hi : n < ρ.length := (List.getElem?_eq_some_iff.mp e).1
  have s1 : Same G (frz G H (f n)) := frz_same fun b hb => (j.liv n b hb).1
  refine ⟨frz_sub j.sub, j.sub0.trans s1, j.old, j.tab, fun i b hb => ?_, fun i b hb => ?_, fun b h1 h2 h3 => ?_, fun i x ex => ?_, fun i => ?_, fun i k hik b hb => ?_, fun i h => ?_, j.a0, fun b ps e => ?_⟩
  · by_cases h : i = n
    · subst h; rw [fset_same] at hb; simp at hb
    · rw [fset_ne h] at hb; exact j.own i b hb
  · by_cases h : i = n
    · subst h; rw [fset_same] at hb; simp at hb
    · rw [fset_ne h] at hb
      rw [frz_out (j.dj i n h b hb)]; exact j.liv i b hb
  · have nb : b ∉ f n := fun hb => by
      rcases j.own n b hb with z | z
      · exact h3 z
      · exact h2 z
    rw [frz_out nb]; exact j.unf b h1 h2 h3
  · by_cases h : i = n
    · subst h
      rw [List.getElem?_set_self hi] at ex
      cases ex
      refine ⟨v, ev, ?_⟩
      rw [fset_same]
      exact .fr (r.frzd s1 fun b hb => frz_in hb)
    · rw [List.getElem?_set_ne (fun z => h z.symm)] at ex
      obtain ⟨w, e2, r2⟩ := j.rep i x ex
      refine ⟨w, e2, ?_⟩
      rw [fset_ne h]
      exact r2.move s1 fun b hb => ⟨by rw [frz_out (j.dj i n h b hb)]; exact (j.liv i b hb).1, rfl⟩
  · by_cases h : i = n
    · subst h; rw [fset_same]; exact List.nodup_nil
    · rw [fset_ne h]; exact j.nd i
  · by_cases h : i = n
    · subst h; rw [fset_same] at hb; simp at hb
    · rw [fset_ne h] at hb
      by_cases h2 : k = n
      · subst h2; rw [fset_same]; simp
      · rw [fset_ne h2]; exact j.dj i k hik b hb
  · rw [List.length_set] at h
    rw [fset_ne (by omega)]; exact j.out i h
  · by_cases hb : b ∈ f n
    · rw [frz_in hb] at e
      obtain ⟨_, xs, e2, e3⟩ := j.liv n b hb
      rw [e2] at e; cases e; exact e3.ntbl ps rfl
    · rw [frz_out hb] at e; exact j.ntb b ps e
/-- a new object, frozen at once -/
theorem JG.newG (j : JG c E ρ σ H G f) {p : Addr} {u : HO} (h : H p = none) (hu : ∀ ps, u ≠ .tbl ps) : JG c E ρ σ (upd H p u) (upd G p u) f := by
  obtain ⟨g0, g1, g2, g3⟩ := j.fresh h
  have sH : Same H (upd H p u) := fun b o e => by rw [upd_ne (ne_of_none e h)]; exact e
  have sG : Same G (upd G p u) := fun b o e => by rw [upd_ne (ne_of_none e g0)]; exact e
  refine ⟨fun b o e => ?_, j.sub0.trans sG, fun b o e nb => ?_, tabs_new j.tab h, j.own, fun i b hb => ?_, fun b h1 h2 h3 => ?_, fun i x ex => ?_, j.nd, j.dj, j.out, fun b hb z => ?_, fun b ps e => ?_⟩
  · by_cases hb : b = p
    · subst hb; rw [upd_same] at e ⊢; exact e
    · rw [upd_ne hb] at e ⊢; exact j.sub b o e
  · rcases j.old b o e nb with z | ⟨ps, qs, z1, z2⟩
    · exact .inl (sH _ _ z)
    · exact .inr ⟨ps, qs, z1, sH _ _ z2⟩
  · have nb : b ≠ p := fun z => g1 i (z ▸ hb)
    exact ⟨by rw [upd_ne nb]; exact (j.liv i b hb).1, lv_upd nb (j.liv i b hb).2⟩
  · have nb : b ≠ p := fun z => h2 (z ▸ g2)
    rw [upd_ne nb]; exact j.unf b h1 h2 h3
  · obtain ⟨w, e2, r2⟩ := j.rep i x ex
    refine ⟨w, e2, r2.move sG fun b hb => ?_⟩
    have nb : b ≠ p := fun z => g1 i (z ▸ hb)
    rw [upd_ne nb, upd_ne nb]; exact ⟨(j.liv i b hb).1, rfl⟩
  · have nb : b ≠ p := fun z => g3 (z ▸ hb)
    rw [upd_ne nb] at z
    exact j.a0 b hb z
  · by_cases hb : b = p
    · subst hb; rw [upd_same] at e; exact hu ps (Option.some.inj e)
    · rw [upd_ne hb] at e; exact j.ntb b ps e
/-- a new list, owned by nobody as yet -/
theorem JG.newH (j : JG c E ρ σ H G f) {p : Addr} {u : HO} (h : H p = none) : JG c E ρ σ (upd H p u) G f := by
  obtain ⟨g0, g1, g2, g3⟩ := j.fresh h
  have sH : Same H (upd H p u) := fun b o e => by rw [upd_ne (ne_of_none e h)]; exact e
  refine ⟨j.sub.trans sH, j.sub0, fun b o e nb => ?_, tabs_new j.tab h, j.own, fun i b hb => ?_, j.unf, fun i x ex => ?_, j.nd, j.dj, j.out, fun b hb z => ?_, j.ntb⟩
  · rcases j.old b o e nb with z | ⟨ps, qs, z1, z2⟩
    · exact .inl (sH _ _ z)
    · exact .inr ⟨ps, qs, z1, sH _ _ z2⟩
  · have nb : b ≠ p := fun z => g1 i (z ▸ hb)
    exact ⟨(j.liv i b hb).1, lv_upd nb (j.liv i b hb).2⟩
  · obtain ⟨w, e2, r2⟩ := j.rep i x ex
    refine ⟨w, e2, r2.move (Same.refl _) fun b hb => ?_⟩
    have nb : b ≠ p := fun z => g1 i (z ▸ hb)
    rw [upd_ne nb]; exact ⟨(j.liv i b hb).1, rfl⟩
  · have nb : b ≠ p := fun z => g3 (z ▸ hb)
    rw [upd_ne nb] at z
    exact j.a0 b hb z
/-- an owned list written anew: cell n's root -/
theorem JG.write (j : JG c E ρ σ H G f) {n : Nat} {a : Addr} {f0 g : List Addr} {xs ys : List V} {os : List c.O} (hl : ρ.length = σ.length) (hn : n < ρ.length) (hv : σ[n]? = some (some (.ref a))) (hf : f n = a :: f0) (hx : H a = some (.lst xs))
    (r : ORepL c G H ys os g) (hg : ∀ b ∈ g, b ≠ a ∧ (b ∈ E.A0 ∨ E.H0 b = none) ∧ ∀ i, i ≠ n → b ∉ f i) (gn : g.Nodup) : JG c E (ρ.set n (some (.lst os))) σ (upd H a (.lst ys)) G (fset f n (a :: g)) := by
  have ga : G a = none := (j.liv n a (by rw [hf]; exact List.mem_cons_self ..)).1
  have oa := j.own n a (by rw [hf]; exact List.mem_cons_self ..)
  have na : ∀ i, i ≠ n → a ∉ f i := fun i h => j.dj n i (fun e => h e.symm) a (by rw [hf]; exact List.mem_cons_self ..)
  have glive := r.live
  refine ⟨fun b o e => ?_, j.sub0, fun b o e nb => ?_, tabs_lst j.tab hx, fun i b hb => ?_, fun i b hb => ?_, j.unf, fun i x ex => ?_, fun i => ?_, fun i k hik b hb => ?_, fun i h => ?_, fun b hb z => ?_, j.ntb⟩
  · rw [upd_ne (ne_of_none e ga)]; exact j.sub b o e
  · have nba : b ≠ a := fun z => by
      subst z
      rcases oa with z | z
      · exact nb z
      · rw [z] at e; cases e
    rcases j.old b o e nb with z | ⟨ps, qs, z1, z2⟩
    · exact .inl (by rw [upd_ne nba]; exact z)
    · exact .inr ⟨ps, qs, z1, by rw [upd_ne nba]; exact z2⟩
  · by_cases h : i = n
    · subst h; rw [fset_same] at hb
      rcases List.mem_cons.mp hb with z | z
      · rw [z]; exact oa
      · exact (hg b z).2.1
    · rw [fset_ne h] at hb; exact j.own i b hb
  · by_cases h : i = n
    · subst h; rw [fset_same] at hb
      rcases List.mem_cons.mp hb with z | z
      · subst z; exact ⟨ga, lv_lst upd_same⟩
      · exact ⟨(glive b z).1, lv_upd (hg b z).1 (glive b z).2⟩
    · rw [fset_ne h] at hb
      have nba : b ≠ a := fun z => na i h (z ▸ hb)
      exact ⟨(j.liv i b hb).1, lv_upd nba (j.liv i b hb).2⟩
  · by_cases h : i = n
    · subst h
      rw [List.getElem?_set_self hn] at ex
      cases ex
      refine ⟨_, hv, ?_⟩
      rw [fset_same]
      exact .lst upd_same ga (r.move (Same.refl _) fun b hb => ⟨(glive b hb).1, by rw [upd_ne (hg b hb).1]⟩)
    · rw [List.getElem?_set_ne (fun z => h z.symm)] at ex
      obtain ⟨w, e2, r2⟩ := j.rep i x ex
      refine ⟨w, e2, ?_⟩
      rw [fset_ne h]
      refine r2.move (Same.refl _) fun b hb => ?_
      have nba : b ≠ a := fun z => na i h (z ▸ hb)
      rw [upd_ne nba]; exact ⟨(j.liv i b hb).1, rfl⟩
  · by_cases h : i = n
    · subst h; rw [fset_same]; exact List.nodup_cons.mpr ⟨fun z => (hg a z).1 rfl, gn⟩
    · rw [fset_ne h]; exact j.nd i
  · by_cases h : i = n
    · subst h; rw [fset_same] at hb; rw [fset_ne (fun e => hik e.symm)]
      rcases List.mem_cons.mp hb with z | z
      · rw [z]; exact na k (fun e => hik e.symm)
      · exact (hg b z).2.2 k (fun e => hik e.symm)
    · rw [fset_ne h] at hb
      by_cases h2 : k = n
      · subst h2; rw [fset_same]
        intro z
        rcases List.mem_cons.mp z with z | z
        · subst z; exact na i h hb
        · exact (hg b z).2.2 i h hb
      · rw [fset_ne h2]; exact j.dj i k hik b hb
  · rw [List.length_set] at h
    rw [fset_ne (by omega)]; exact j.out i h
  · by_cases hba : b = a
    · subst hba; rw [upd_same] at z; cases z
    · rw [upd_ne hba] at z; exact j.a0 b hb z
/-- an owned dict written anew: cell n's root -/
theorem JG.writeK (j : JG c E ρ σ H G f) {n : Nat} {a : Addr} {kvs kvs' : List (Key × V)} {ks vs : List c.D} (hl : ρ.length = σ.length) (hn : n < ρ.length) (hv : σ[n]? = some (some (.ref a))) (hf : f n = [a]) (hx : H a = some (.dK kvs)) (r1 : RepL c G (kvs'.map fun p => kV p.1) ks) (r2 : RepL c G (kvs'.map fun p => p.2) vs) : JG c E (ρ.set n (some (.dct ks vs))) σ (upd H a (.dK kvs')) G (fset f n [a]) := by
  have ga : G a = none := (j.liv n a (by rw [hf]; exact List.mem_cons_self ..)).1
  have oa := j.own n a (by rw [hf]; exact List.mem_cons_self ..)
  have na : ∀ i, i ≠ n → a ∉ f i := fun i h => j.dj n i (fun e => h e.symm) a (by rw [hf]; exact List.mem_cons_self ..)
  have glive : ∀ b ∈ ([] : List Addr), G b = none ∧ Lv H b := by simp
  have hg : ∀ b ∈ ([] : List Addr), b ≠ a ∧ (b ∈ E.A0 ∨ E.H0 b = none) ∧ ∀ i, i ≠ n → b ∉ f i := by simp
  have gn : ([] : List Addr).Nodup := List.nodup_nil
  refine ⟨fun b o e => ?_, j.sub0, fun b o e nb => ?_, tabs_lv j.tab hx (.inr (.inl ⟨_, rfl⟩)), fun i b hb => ?_, fun i b hb => ?_, j.unf, fun i x ex => ?_, fun i => ?_, fun i k hik b hb => ?_, fun i h => ?_, fun b hb z => ?_, j.ntb⟩
  · rw [upd_ne (ne_of_none e ga)]; exact j.sub b o e
  · have nba : b ≠ a := fun z => by
      subst z
      rcases oa with z | z
      · exact nb z
      · rw [z] at e; cases e
    rcases j.old b o e nb with z | ⟨ps, qs, z1, z2⟩
    · exact .inl (by rw [upd_ne nba]; exact z)
    · exact .inr ⟨ps, qs, z1, by rw [upd_ne nba]; exact z2⟩
  · by_cases h : i = n
    · subst h; rw [fset_same] at hb
      rcases List.mem_cons.mp hb with z | z
      · rw [z]; exact oa
      · exact (hg b z).2.1
    · rw [fset_ne h] at hb; exact j.own i b hb
  · by_cases h : i = n
    · subst h; rw [fset_same] at hb
      rcases List.mem_cons.mp hb with z | z
      · subst z; exact ⟨ga, lv_dk upd_same⟩
      · exact ⟨(glive b z).1, lv_upd (hg b z).1 (glive b z).2⟩
    · rw [fset_ne h] at hb
      have nba : b ≠ a := fun z => na i h (z ▸ hb)
      exact ⟨(j.liv i b hb).1, lv_upd nba (j.liv i b hb).2⟩
  · by_cases h : i = n
    · subst h
      rw [List.getElem?_set_self hn] at ex
      cases ex
      refine ⟨_, hv, ?_⟩
      rw [fset_same]
      exact .dct upd_same ga r1 r2
    · rw [List.getElem?_set_ne (fun z => h z.symm)] at ex
      obtain ⟨w, e2, r2⟩ := j.rep i x ex
      refine ⟨w, e2, ?_⟩
      rw [fset_ne h]
      refine r2.move (Same.refl _) fun b hb => ?_
      have nba : b ≠ a := fun z => na i h (z ▸ hb)
      rw [upd_ne nba]; exact ⟨(j.liv i b hb).1, rfl⟩
  · by_cases h : i = n
    · subst h; rw [fset_same]; exact List.nodup_cons.mpr ⟨fun z => (hg a z).1 rfl, gn⟩
    · rw [fset_ne h]; exact j.nd i
  · by_cases h : i = n
    · subst h; rw [fset_same] at hb; rw [fset_ne (fun e => hik e.symm)]
      rcases List.mem_cons.mp hb with z | z
      · rw [z]; exact na k (fun e => hik e.symm)
      · exact (hg b z).2.2 k (fun e => hik e.symm)
    · rw [fset_ne h] at hb
      by_cases h2 : k = n
      · subst h2; rw [fset_same]
        intro z
        rcases List.mem_cons.mp z with z | z
        · subst z; exact na i h hb
        · exact (hg b z).2.2 i h hb
      · rw [fset_ne h2]; exact j.dj i k hik b hb
  · rw [List.length_set] at h
    rw [fset_ne (by omega)]; exact j.out i h
  · by_cases hba : b = a
    · subst hba; rw [upd_same] at z; cases z
    · rw [upd_ne hba] at z; exact j.a0 b hb z
end

/-! ## the state with what lies on the way -/
inductive Tm (c : Cf) where
  | o (x : c.O) | sl (i : Nat)
def Tm.cell {c : Cf} : Tm c → Option c.O
  | .o x => some x
  | .sl _ => none
abbrev Stk (c : Cf) := List (Tm c × V)
abbrev Rho (c : Cf) := List (Option c.O)
def cO {c : Cf} (ts : Stk c) : List (Option c.O) := ts.map fun t => t.1.cell
def cV {c : Cf} (ts : Stk c) : List (Option V) := ts.map fun t => some t.2
def SlOk {c : Cf} (ρ : Rho c) (σ : List (Option V)) (t : Tm c × V) : Prop := match t.1 with
  | .o _ => True
  | .sl i => σ[i]? = some (some t.2) ∧ ∃ o, ρ[i]? = some (some o)
structure J (c : Cf) (E : Ent) (ρ : Rho c) (σ : List (Option V)) (ts : Stk c) (H : Hp) : Prop where
  len : ρ.length = σ.length
  pin : ∀ v0, E.pin = some v0 → σ[0]? = some (some v0)
  sl : ∀ t ∈ ts, SlOk ρ σ t
  ex : ∃ G f, JG c E (ρ ++ cO ts) (σ ++ cV ts) H G f
section
variable {c : Cf} {E : Ent} {ρ ρ' : Rho c} {σ : List (Option V)} {ts : Stk c} {H : Hp} {v : V} {tm : Tm c}
theorem cO_snoc {t : Tm c × V} : cO (ts ++ [t]) = cO ts ++ [t.1.cell] := by simp [cO]
theorem cV_snoc {t : Tm c × V} : cV (ts ++ [t]) = cV ts ++ [some t.2] := by simp [cV]
theorem cO_app {us : Stk c} : cO (ts ++ us) = cO ts ++ cO us := by simp [cO]
theorem cV_app {us : Stk c} : cV (ts ++ us) = cV ts ++ cV us := by simp [cV]
theorem cO_len : (cO ts).length = ts.length := by simp [cO]
theorem cV_len : (cV ts).length = ts.length := by simp [cV]
theorem J.lens (j : J c E ρ σ ts H) : (ρ ++ cO ts).length = (σ ++ cV ts).length := by
  simp only [List.length_append, cO_len, cV_len, j.len]
theorem J.cut {us : Stk c} (j : J c E ρ σ (ts ++ us) H) : J c E ρ σ ts H := by
  obtain ⟨h1, h2, h3, G, f, g⟩ := j
  rw [cO_app, cV_app, ← List.append_assoc, ← List.append_assoc] at g
  exact ⟨h1, h2, fun t ht => h3 t (List.mem_append_left _ ht), G, _, g.cut (by simp only [List.length_append, cO_len, cV_len, h1])⟩
theorem J.push (j : J c E ρ σ ts H) (h : ∀ G : Hp, Same G H → (∀ f, JG c E (ρ ++ cO ts) (σ ++ cV ts) H G f → Rep c G v d)) : J c E ρ σ (ts ++ [(.o (.fr d), v)]) H := by
  have hl := j.lens
  obtain ⟨h1, h2, h3, G, f, g⟩ := j
  refine ⟨h1, h2, fun t ht => ?_, G, fset f (ρ ++ cO ts).length [], ?_⟩
  · rcases List.mem_append.mp ht with ht | ht
    · exact h3 t ht
    · rw [List.mem_singleton.mp ht]; trivial
  · rw [cO_snoc, cV_snoc, ← List.append_assoc, ← List.append_assoc]
    exact g.push hl (fun x e => by cases e; exact .fr (h G g.sub f g)) List.nodup_nil (by simp) (by simp) (by simp)
theorem J.atom (j : J c E ρ σ ts H) {d : c.D} (h : ∀ G : Hp, Rep c G v d) : J c E ρ σ (ts ++ [(.o (.fr d), v)]) H := j.push fun G _ _ _ => h G
theorem J.slot (j : J c E ρ σ ts H) {i : Nat} (h : σ[i]? = some (some v)) (h' : ∃ o, ρ[i]? = some (some o)) : J c E ρ σ (ts ++ [(.sl i, v)]) H := by
  have hl := j.lens
  obtain ⟨h1, h2, h3, G, f, g⟩ := j
  refine ⟨h1, h2, fun t ht => ?_, G, fset f (ρ ++ cO ts).length [], ?_⟩
  · rcases List.mem_append.mp ht with ht | ht
    · exact h3 t ht
    · rw [List.mem_singleton.mp ht]; exact ⟨h, h'⟩
  · rw [cO_snoc, cV_snoc, ← List.append_assoc, ← List.append_assoc]
    exact g.push hl (fun x e => by cases e) List.nodup_nil (by simp) (by simp) (by simp)
/-- what an operand is -/
def tO (ρ : Rho c) : Tm c → Option c.O
  | .o x => some x
  | .sl i => (ρ[i]?).join
def tD (ρ : Rho c) (t : Tm c) : Option c.D := (tO ρ t).map OT.d
theorem join_some {α : Type} {l : List (Option α)} {i : Nat} {x : α} (h : (l[i]?).join = some x) : l[i]? = some (some x) := by
  cases e : l[i]? with
  | none => rw [e] at h; cases h
  | some y => rw [e] at h; exact congrArg some h
theorem J.tO (j : J c E ρ σ ts H) (hm : (tm, v) ∈ ts) {o : c.O} (h : tO ρ tm = some o) : ∃ G f, Same G H ∧ ORep c G H v o f := by
  obtain ⟨h1, h2, h3, G, f, g⟩ := j
  cases tm with
  | o x =>
    cases h
    obtain ⟨k, hk, e⟩ := List.mem_iff_getElem.mp hm
    have e1 : (ρ ++ cO ts)[ρ.length + k]? = some (some o) := by
      rw [List.getElem?_append_right (by omega), Nat.add_sub_cancel_left]
      simp [cO, hk, e, Tm.cell]
    obtain ⟨w, e2, r⟩ := g.rep _ _ e1
    rw [h1, List.getElem?_append_right (by omega), Nat.add_sub_cancel_left] at e2
    have : w = v := by simpa [cV, hk, e] using e2.symm
    subst this
    exact ⟨G, _, g.sub, r⟩
  | sl i =>
    have e := join_some h
    have hs : σ[i]? = some (some v) := (h3 _ hm).1
    have hi : i < ρ.length := (List.getElem?_eq_some_iff.mp e).1
    obtain ⟨w, e2, r⟩ := g.rep i o (by rw [List.getElem?_append_left hi]; exact e)
    rw [List.getElem?_append_left (by omega), hs] at e2
    cases e2
    exact ⟨G, _, g.sub, r⟩
theorem J.tD (j : J c E ρ σ ts H) (hm : (tm, v) ∈ ts) {d : c.D} (h : tD ρ tm = some d) : Rep c H v d := by
  obtain ⟨o, e, e2⟩ := Option.map_eq_some_iff.mp h
  subst e2
  obtain ⟨G, f, s, r⟩ := j.tO hm e
  exact r.view s
end
end Y

set_option Elab.async false
set_option linter.all false
set_option maxRecDepth 100000
set_option maxHeartbeats 4000000
namespace Y
open PySem PySem.Spec PyProof.Rows L2
/-! ## numbers: whole numbers as they are; sums of unknown ones -/
theorem cmp_int (a b : Int) : compare a b = if a < b then .lt else if a = b then .eq else .gt := by
  rfl
def IntN : Num where
  T := Int
  val := id
  lit := id
  add a b := some (a + b)
  sub a b := some (a - b)
  mul a b := if a.natAbs.log2 + b.natAbs.log2 < 1000000 then some (a * b) else none
  div a b := if 0 < b ∧ b.natAbs.log2 < 9000 then some (a / b) else none
  mod a b := if 0 < b then some (a % b) else none
  neg a := -a
  cmp a b := some (compare a b)
  con a := some a
  lit_ok _ := rfl
  add_ok h := by cases h; rfl
  sub_ok h := by cases h; rfl
  mul_ok h := by
    split at h
    · rename_i q; cases h; exact ⟨q, rfl⟩
    · cases h
  div_ok h := by
    split at h
    · rename_i q; cases h; exact ⟨q, rfl⟩
    · cases h
  mod_ok h := by
    split at h
    · rename_i q; cases h; exact ⟨q, rfl⟩
    · cases h
  neg_ok _ := rfl
  cmp_ok h := by cases h; rfl
  con_ok h := by cases h; rfl
def dot : List Int → List Int → Int
  | [], _ => 0
  | _ :: _, [] => 0
  | a :: as, x :: xs => a * x + dot as xs
def addL : List Int → List Int → List Int
  | [], b => b
  | a :: as, [] => a :: as
  | a :: as, b :: bs => (a + b) :: addL as bs
def mulL (k : Int) : List Int → List Int
  | [] => []
  | a :: as => k * a :: mulL k as
theorem dot_nil (l : List Int) : dot l [] = 0 := by cases l <;> rfl
theorem dot_add : ∀ (a b xs : List Int), dot (addL a b) xs = dot a xs + dot b xs
  | [], b, xs => by simp [addL, dot]
  | a :: as, [], xs => by cases xs <;> simp [addL, dot]
  | a :: as, b :: bs, [] => by simp [addL, dot]
  | a :: as, b :: bs, x :: xs => by
    simp only [addL, dot]
    rw [dot_add as bs xs, Int.add_mul]
    omega
theorem dot_mul (k : Int) : ∀ (a xs : List Int), dot (mulL k a) xs = k * dot a xs
  | [], xs => by simp [mulL, dot]
  | a :: as, [] => by simp [mulL, dot]
  | a :: as, x :: xs => by
    simp only [mulL, dot]
    rw [dot_mul k as xs, Int.mul_add, Int.mul_assoc]
def allZ : List Int → Bool
  | [] => true
  | a :: as => decide (a = 0) && allZ as
theorem dot_z : ∀ {a : List Int}, allZ a = true → ∀ xs, dot a xs = 0
  | [], _, xs => by simp [dot]
  | a :: as, h, [] => by simp [dot]
  | a :: as, h, x :: xs => by
    simp only [allZ, Bool.and_eq_true, decide_eq_true_eq] at h
    simp only [dot]
    rw [dot_z h.2 xs, h.1]; simp
/-- a constant and factors of unknown numbers -/
structure LT where
  k : Int
  f : List Int
def LT.small (a : LT) : Bool := decide (a.k.natAbs < 2 ^ 200) && a.f.all (fun x => decide (x.natAbs < 2 ^ 20)) && decide (a.f.length ≤ 64)
theorem dot_small {xs : List Int} (hx : ∀ x ∈ xs, x.natAbs < 2 ^ 200) : ∀ {f : List Int}, (∀ a ∈ f, a.natAbs < 2 ^ 20) → (dot f xs).natAbs ≤ f.length * 2 ^ 220 := by
  intro f
  induction f generalizing xs with
  | nil => intro _; simp [dot]
  | cons a f ih =>
    intro h
    cases xs with
    | nil => simp [dot]
    | cons x xs =>
      have i := ih (fun y hy => hx y (List.mem_cons_of_mem _ hy)) fun y hy => h y (List.mem_cons_of_mem _ hy)
      have h1 := hx x (List.mem_cons_self ..)
      have h2 := h a (List.mem_cons_self ..)
      have h3 : (a * x).natAbs ≤ 2 ^ 220 := by
        rw [Int.natAbs_mul]
        calc a.natAbs * x.natAbs ≤ 2 ^ 20 * 2 ^ 200 := Nat.mul_le_mul (Nat.le_of_lt h2) (Nat.le_of_lt h1)
          _ = 2 ^ 220 := by decide
      have h4 := Int.natAbs_add_le (a * x) (dot f xs)
      simp only [dot, List.length_cons]
      rw [Nat.add_mul]
      omega
theorem small_ok {xs : List Int} (hx : ∀ x ∈ xs, x.natAbs < 2 ^ 200) {a : LT} (h : a.small = true) : (a.k + dot a.f xs).natAbs < 2 ^ 300 := by
  unfold LT.small at h
  simp only [Bool.and_eq_true, decide_eq_true_eq, List.all_eq_true] at h
  have h1 := dot_small hx h.1.2
  have h2 := Int.natAbs_add_le a.k (dot a.f xs)
  have h3 : a.f.length * 2 ^ 220 ≤ 64 * 2 ^ 220 := Nat.mul_le_mul_right _ h.2
  have h4 : 64 * 2 ^ 220 + 2 ^ 200 < 2 ^ 300 := by decide
  have := h.1.1
  omega
def LinN (xs : List Int) (hx : ∀ x ∈ xs, x.natAbs < 2 ^ 200) : Num where
  T := LT
  val a := a.k + dot a.f xs
  lit i := ⟨i, []⟩
  add a b := some ⟨a.k + b.k, addL a.f b.f⟩
  sub a b := some ⟨a.k - b.k, addL a.f (mulL (-1) b.f)⟩
  mul a b := if a.small && b.small then (if allZ a.f then some ⟨a.k * b.k, mulL a.k b.f⟩ else if allZ b.f then some ⟨a.k * b.k, mulL b.k a.f⟩ else none) else none
  div a b := if allZ a.f && allZ b.f && decide (0 < b.k) && decide (b.k.natAbs.log2 < 9000) then some ⟨a.k / b.k, []⟩ else none
  mod a b := if allZ a.f && allZ b.f && decide (0 < b.k) then some ⟨a.k % b.k, []⟩ else none
  neg a := ⟨-a.k, mulL (-1) a.f⟩
  cmp a b := if allZ (addL a.f (mulL (-1) b.f)) then some (compare a.k b.k) else none
  con a := if allZ a.f then some a.k else none
  lit_ok i := by simp [dot]
  add_ok h := by
    cases h
    simp only [dot_add]
    omega
  sub_ok h := by
    cases h
    simp only [dot_add, dot_mul]
    omega
  mul_ok h := by
    rename_i a b z
    split at h
    · rename_i q
      rw [Bool.and_eq_true] at q
      have w : CMulW (a.k + dot a.f xs) (b.k + dot b.f xs) := wide_mul (small_ok hx q.1) (small_ok hx q.2) (by decide) (by decide) (by decide)
      refine ⟨w, ?_⟩
      split at h
      · rename_i z1
        cases h
        simp only [dot_mul]
        rw [dot_z z1 xs, Int.add_zero, Int.mul_add]
      · split at h
        · rename_i z1
          cases h
          simp only [dot_mul]
          rw [dot_z z1 xs, Int.add_zero, Int.add_mul, Int.mul_comm b.k (dot a.f xs)]
        · cases h
    · cases h
  div_ok h := by
    split at h
    · rename_i q
      simp only [Bool.and_eq_true, decide_eq_true_eq] at q
      cases h
      rw [dot_z q.1.1.1 xs, dot_z q.1.1.2 xs]
      simp only [Int.add_zero, dot]
      exact ⟨⟨q.1.2, q.2⟩, trivial⟩
    · cases h
  mod_ok h := by
    split at h
    · rename_i q
      simp only [Bool.and_eq_true, decide_eq_true_eq] at q
      cases h
      rw [dot_z q.1.1 xs, dot_z q.1.2 xs]
      simp only [Int.add_zero, dot]
      exact ⟨q.2, trivial⟩
    · cases h
  neg_ok a := by
    simp only [dot_mul]
    omega
  cmp_ok h := by
    rename_i a b o
    split at h
    · rename_i q
      cases h
      have e := dot_z q xs
      rw [dot_add, dot_mul] at e
      have e2 : dot a.f xs = dot b.f xs := by omega
      rw [e2]
      rw [cmp_int, cmp_int]
      have h1 : (a.k + dot b.f xs < b.k + dot b.f xs) = (a.k < b.k) := by apply propext; omega
      have h2 : (a.k + dot b.f xs = b.k + dot b.f xs) = (a.k = b.k) := by apply propext; omega
      simp only [h1, h2]
    · cases h
  con_ok h := by
    split at h
    · rename_i q
      cases h
      rw [dot_z q xs, Int.add_zero]
    · cases h
end Y

set_option Elab.async false
set_option linter.all false
set_option maxRecDepth 100000
set_option maxHeartbeats 4000000
namespace Y
open PySem PySem.Spec PyProof.Rows L2
section
variable {c : Cf} {E : Ent} {ρ ρ' : Rho c} {σ : List (Option V)} {ts : Stk c} {H : Hp} {v : V} {tm : Tm c}

theorem J.ofEx (h1 : ρ.length = σ.length) (h2 : ∀ v0, E.pin = some v0 → σ[0]? = some (some v0)) (h3 : ∀ t ∈ ts, SlOk ρ σ t) (g : ∃ G f, JG c E (ρ ++ cO ts) (σ ++ cV ts) H G f) : J c E ρ σ ts H := ⟨h1, h2, h3, g⟩
theorem J.of {G : Hp} {f : Nat → List Addr} (h1 : ρ.length = σ.length) (h2 : ∀ v0, E.pin = some v0 → σ[0]? = some (some v0)) (h3 : ∀ t ∈ ts, SlOk ρ σ t) (g : JG c E (ρ ++ cO ts) (σ ++ cV ts) H G f) : J c E ρ σ ts H := ⟨h1, h2, h3, G, f, g⟩
theorem ORep.unfr {G : Hp} {d : c.D} {f : List Addr} (h : ORep c G H v (.fr d) f) : Rep c G v d := by
  cases h with
  | fr r => exact r
theorem sl_snoc {us : Stk c} {o : c.O} {v : V} (h3 : ∀ t ∈ ts ++ us, SlOk ρ σ t) : ∀ t ∈ ts ++ [(Tm.o o, v)], SlOk ρ σ t := fun t ht => by
  rcases List.mem_append.mp ht with ht | ht
  · exact h3 t (List.mem_append_left _ ht)
  · rw [List.mem_singleton.mp ht]; trivial
theorem set_app_last {α : Type} (l : List α) (x y : α) : (l ++ [x]).set l.length y = l ++ [y] := by simp
theorem get_last {α : Type} (l : List α) (x : α) : (l ++ [x])[l.length]? = some x := by simp

/-- the operand on top frozen -/
def fzR (ρ : Rho c) (t : Tm c) (d : c.D) : Rho c := match t with
  | .o _ => ρ
  | .sl i => ρ.set i (some (.fr d))
theorem SlOk.fz {t : Tm c × V} {tm : Tm c} {d : c.D} (h : SlOk ρ σ t) : SlOk (fzR ρ tm d) σ t := by
  unfold SlOk at h ⊢
  split at h
  · trivial
  · obtain ⟨h1, o, h2⟩ := h
    refine ⟨h1, ?_⟩
    rename_i i _
    cases tm with
    | o x => exact ⟨o, h2⟩
    | sl k =>
      by_cases e : k = i
      · subst e; exact ⟨_, List.getElem?_set_self (List.getElem?_eq_some_iff.mp h2).1⟩
      · exact ⟨o, by show (List.set ρ k _)[i]? = _; rw [List.getElem?_set_ne e]; exact h2⟩
theorem J.fz (j : J c E ρ σ (ts ++ [(tm, v)]) H) {o : c.O} (h : Y.tO ρ tm = some o) : J c E (fzR ρ tm o.d) σ (ts ++ [(.o (.fr o.d), v)]) H := by
  have hl := j.lens
  have jt := J.cut j
  obtain ⟨h1, h2, h3, G, f, g⟩ := j
  have hs : ∀ t ∈ ts ++ [(Tm.o (OT.fr o.d), v)], SlOk (fzR ρ tm o.d) σ t := fun t ht => by
    rcases List.mem_append.mp ht with ht | ht
    · exact (h3 t (List.mem_append_left _ ht)).fz
    · rw [List.mem_singleton.mp ht]; trivial
  rw [cO_snoc, cV_snoc, ← List.append_assoc, ← List.append_assoc] at g
  cases tm with
  | o x =>
    cases h
    apply J.of h1 h2 hs
    have hl2 : (ρ ++ cO ts).length = (σ ++ cV ts).length := jt.lens
    have q := g.freeze (n := (ρ ++ cO ts).length) (get_last _ _) (by rw [hl2]; exact get_last _ _)
    rw [set_app_last] at q
    rw [cO_snoc, cV_snoc, ← List.append_assoc, ← List.append_assoc]
    exact q
  | sl i =>
    have e := join_some h
    have hi : i < ρ.length := (List.getElem?_eq_some_iff.mp e).1
    have hv : σ[i]? = some (some v) := (h3 (.sl i, v) (List.mem_append_right _ (List.mem_singleton.mpr rfl))).1
    have q := g.freeze (n := i) (o := o) (v := v) (by rw [List.getElem?_append_left (by simp; omega), List.getElem?_append_left hi]; exact e) (by rw [List.getElem?_append_left (by simp; omega), List.getElem?_append_left (by omega)]; exact hv)
    rw [List.set_append_left _ _ (by simp; omega), List.set_append_left _ _ hi] at q
    have hl3 : ((ρ.set i (some (.fr o.d))) ++ cO ts).length = (σ ++ cV ts).length := by rw [List.length_append, List.length_set, ← List.length_append]; exact jt.lens
    have q2 := q.cut hl3
    obtain ⟨w, e3, r3⟩ := q2.rep i (.fr o.d) (by rw [List.getElem?_append_left (by rw [List.length_set]; exact hi), List.getElem?_set_self hi])
    rw [List.getElem?_append_left (by omega), hv] at e3
    cases e3
    have r3 := r3.unfr
    apply J.of (by simp [fzR, h1]) h2 hs
    rw [cO_snoc, cV_snoc, ← List.append_assoc, ← List.append_assoc]
    exact q2.push hl3 (fun x e => by cases e; exact .fr r3) List.nodup_nil (by simp) (by simp) (by simp)

/-- frozen operands in a row -/
def fS (ds : List c.D) (vs : List V) : Stk c := (ds.zip vs).map fun p => (.o (.fr p.1), p.2)
theorem seg_fr : ∀ {ds : List c.D} {vs : List V} {ρ : Rho c} {σ : List (Option V)} {G : Hp} {f : Nat → List Addr}, JG c E (ρ ++ cO (fS ds vs)) (σ ++ cV (fS ds vs)) H G f → ρ.length = σ.length → ds.length = vs.length → RepL c G vs ds
  | [], [], _, _, _, _, _, _, _ => .nil
  | [], _ :: _, _, _, _, _, _, _, e => by simp at e
  | _ :: _, [], _, _, _, _, _, _, e => by simp at e
  | d :: ds, v :: vs, ρ, σ, G, f, g, hl, e => by
    have e1 : cO (fS (d :: ds) (v :: vs)) = some (.fr d) :: cO (fS ds vs) := rfl
    have e2 : cV (fS (d :: ds) (v :: vs)) = some v :: cV (c := c) (fS ds vs) := rfl
    rw [e1, e2] at g
    obtain ⟨w, e3, r⟩ := g.rep ρ.length (.fr d) (by simp)
    rw [hl] at e3
    have : w = v := by simpa using e3.symm
    subst this
    refine .cons r.unfr (seg_fr (ρ := ρ ++ [some (.fr d)]) (σ := σ ++ [some w]) (f := f) ?_ (by simp [hl]) (by simpa using e))
    rw [List.append_assoc, List.append_assoc]; exact g
theorem fS_len {ds : List c.D} {vs : List V} (h : ds.length = vs.length) : (fS (c := c) ds vs).length = vs.length := by simp [fS, h]
theorem fS_snoc {ds : List c.D} {vs : List V} {d : c.D} {v : V} (h : ds.length = vs.length) : fS (ds ++ [d]) (vs ++ [v]) = fS ds vs ++ [(.o (.fr d), v)] := by
  simp [fS, List.zip_append h]

theorem J.tup {ds : List c.D} {vs : List V} (j : J c E ρ σ (ts ++ fS ds vs) H) (hl : ds.length = vs.length) {p : Addr} (hp : H p = none) : J c E ρ σ (ts ++ [(.o (.fr (.tup ds)), .ref p)]) (upd H p (.tup vs)) := by
  have jt := J.cut j
  obtain ⟨h1, h2, h3, G, f, g⟩ := j
  rw [cO_app, cV_app, ← List.append_assoc, ← List.append_assoc] at g
  have r := seg_fr g jt.lens hl
  have g2 := (g.cut jt.lens).newG (u := .tup vs) hp (fun ps z => by cases z)
  apply J.of h1 h2 (sl_snoc h3)
  · rw [cO_snoc, cV_snoc, ← List.append_assoc, ← List.append_assoc]
    refine g2.push jt.lens (fun x e => ?_) List.nodup_nil (by simp) (by simp) (by simp)
    cases e
    exact .fr (.tup (SqT.of upd_same) (r.mono fun b o e => by rw [upd_ne (ne_of_none e (g.fresh hp).1)]; exact e))

theorem orepL_fr {G : Hp} : ∀ {vs : List V} {ds : List c.D}, RepL c G vs ds → ORepL c G H vs (ds.map .fr) []
  | _, _, .nil => .nil
  | _, _, .cons a b => by simpa using ORepL.cons (.fr a) (orepL_fr b)
theorem orepL_fr' {G : Hp} : ∀ {ds : List c.D} {vs : List V} {g : List Addr}, ORepL c G H vs (ds.map .fr) g → RepL c G vs ds ∧ g = []
  | [], _, _, .nil => ⟨.nil, rfl⟩
  | d :: ds, _, _, .cons (.fr a) b => by
    obtain ⟨r, e⟩ := orepL_fr' b
    exact ⟨.cons a r, by simp [e]⟩

theorem J.lstF {ds : List c.D} {vs : List V} (j : J c E ρ σ (ts ++ fS ds vs) H) (hl : ds.length = vs.length) {p : Addr} (hp : H p = none) : J c E ρ σ (ts ++ [(.o (.lst (ds.map .fr)), .ref p)]) (upd H p (.lst vs)) := by
  have jt := J.cut j
  obtain ⟨h1, h2, h3, G, f, g⟩ := j
  rw [cO_app, cV_app, ← List.append_assoc, ← List.append_assoc] at g
  have r := seg_fr g jt.lens hl
  obtain ⟨q0, q1, q2, q3⟩ := g.fresh hp
  have g2 := (g.cut jt.lens).newH (u := .lst vs) hp
  obtain ⟨_, w1, _, _⟩ := (g.cut jt.lens).fresh hp
  apply J.of h1 h2 (sl_snoc h3)
  · rw [cO_snoc, cV_snoc, ← List.append_assoc, ← List.append_assoc]
    refine g2.push (g := [p]) jt.lens (fun x e => ?_) (List.nodup_cons.mpr ⟨by simp, List.nodup_nil⟩) (fun b hb => ?_) (fun i b hb => ?_) fun b hb => ?_
    · cases e
      exact .lst upd_same q0 (orepL_fr r)
    · rw [List.mem_singleton.mp hb]; exact .inr q2
    · rw [List.mem_singleton.mp hb]; exact w1 i
    · rw [List.mem_singleton.mp hb]; exact ⟨q0, lv_lst upd_same⟩

/-- owned operands in a row -/
def oS (os : List c.O) (vs : List V) : Stk c := (os.zip vs).map fun p => (.o p.1, p.2)
theorem oS_snoc {ds : List c.O} {vs : List V} {d : c.O} {v : V} (h : ds.length = vs.length) : oS (ds ++ [d]) (vs ++ [v]) = oS ds vs ++ [(.o d, v)] := by
  simp [oS, List.zip_append h]
theorem seg_o : ∀ {os : List c.O} {vs : List V} {ρ : Rho c} {σ : List (Option V)} {G : Hp} {f : Nat → List Addr}, JG c E (ρ ++ cO (oS os vs)) (σ ++ cV (oS os vs)) H G f → ρ.length = σ.length → os.length = vs.length →
    ∃ g, ORepL c G H vs os g ∧ g.Nodup ∧ ∀ b ∈ g, ∃ k, ρ.length ≤ k ∧ b ∈ f k
  | [], [], _, _, _, _, _, _, _ => ⟨[], .nil, List.nodup_nil, by simp⟩
  | [], _ :: _, _, _, _, _, _, _, e => by simp at e
  | _ :: _, [], _, _, _, _, _, _, e => by simp at e
  | d :: ds, v :: vs, ρ, σ, G, f, g, hl, e => by
    have e1 : cO (oS (d :: ds) (v :: vs)) = some d :: cO (oS ds vs) := rfl
    have e2 : cV (oS (d :: ds) (v :: vs)) = some v :: cV (c := c) (oS ds vs) := rfl
    rw [e1, e2] at g
    obtain ⟨w, e3, r⟩ := g.rep ρ.length d (by simp)
    rw [hl] at e3
    have : w = v := by simpa using e3.symm
    subst this
    obtain ⟨g', r', nd, hk⟩ := seg_o (ρ := ρ ++ [some d]) (σ := σ ++ [some w]) (f := f) (by rw [List.append_assoc, List.append_assoc]; exact g) (by simp [hl]) (by simpa using e)
    refine ⟨_, .cons r r', List.nodup_append.mpr ⟨g.nd _, nd, fun a ha b hb => ?_⟩, fun b hb => ?_⟩
    · rintro rfl
      obtain ⟨k, h1, h2⟩ := hk a hb
      exact g.dj ρ.length k (by simp at h1; omega) a ha h2
    · rcases List.mem_append.mp hb with hb | hb
      · exact ⟨_, Nat.le_refl _, hb⟩
      · obtain ⟨k, h1, h2⟩ := hk b hb
        exact ⟨k, by simp at h1; omega, h2⟩
theorem J.lstV {os : List c.O} {vs : List V} (j : J c E ρ σ (ts ++ oS os vs) H) (hl : os.length = vs.length) {p : Addr} (hp : H p = none) : J c E ρ σ (ts ++ [(.o (.lst os), .ref p)]) (upd H p (.lst vs)) := by
  have jt := J.cut j
  obtain ⟨h1, h2, h3, G, f, g⟩ := j
  rw [cO_app, cV_app, ← List.append_assoc, ← List.append_assoc] at g
  obtain ⟨gs, r, nd, hk⟩ := seg_o g jt.lens hl
  obtain ⟨q0, q1, q2, q3⟩ := g.fresh hp
  have g2 := (g.cut jt.lens).newH (u := .lst vs) hp
  obtain ⟨_, w1, _, _⟩ := (g.cut jt.lens).fresh hp
  have np : ∀ b ∈ gs, b ≠ p := fun b hb z => by
    obtain ⟨k, _, h⟩ := hk b hb
    exact q1 k (z ▸ h)
  apply J.of h1 h2 (sl_snoc h3)
  · rw [cO_snoc, cV_snoc, ← List.append_assoc, ← List.append_assoc]
    refine g2.push jt.lens (fun x e => ?_) (List.nodup_cons.mpr ⟨fun z => np p z rfl, nd⟩) (fun b hb => ?_) (fun i b hb => ?_) fun b hb => ?_
    · cases e
      exact .lst upd_same q0 (r.move (Same.refl _) fun b hb => ⟨(r.live b hb).1, by rw [upd_ne (np b hb)]⟩)
    · rcases List.mem_cons.mp hb with z | z
      · rw [z]; exact .inr q2
      · obtain ⟨k, _, h⟩ := hk b z; exact g.own k b h
    · rcases List.mem_cons.mp hb with z | z
      · rw [z]; exact w1 i
      · obtain ⟨k, hk1, h⟩ := hk b z
        show b ∉ (if i < (ρ ++ cO ts).length then f i else [])
        by_cases hi : i < (ρ ++ cO ts).length
        · rw [if_pos hi]; exact g.dj k i (by omega) b h
        · rw [if_neg hi]; simp
    · rcases List.mem_cons.mp hb with z | z
      · rw [z]; exact ⟨q0, lv_lst upd_same⟩
      · exact ⟨(r.live b z).1, lv_upd (np b z) (r.live b z).2⟩

def AllO (ts : Stk c) : Prop := ∀ t ∈ ts, ∃ o, t.1 = .o o
theorem AllO.sl {ρ : Rho c} {σ : List (Option V)} (h : AllO ts) : ∀ t ∈ ts, SlOk ρ σ t := fun t ht => by
  obtain ⟨o, e⟩ := h t ht
  unfold SlOk; rw [e]; trivial
theorem AllO.snoc (h : AllO ts) (o : c.O) (v : V) : AllO (ts ++ [(.o o, v)]) := fun t ht => by
  rcases List.mem_append.mp ht with ht | ht
  · exact h t ht
  · rw [List.mem_singleton.mp ht]; exact ⟨o, rfl⟩
def NoSl (S : List Nat) (ts : Stk c) : Prop := ∀ i ∈ S, ∀ t ∈ ts, t.1 ≠ .sl i
theorem AllO.no {S : List Nat} (h : AllO ts) : NoSl S ts := fun i _ t ht e => by
  obtain ⟨o, e2⟩ := h t ht
  rw [e2] at e; cases e
theorem SlOk.set {t : Tm c × V} {i : Nat} {o : Option c.O} {w : Option V} (h : SlOk ρ σ t) (hn : t.1 ≠ .sl i) : SlOk (ρ.set i o) (σ.set i w) t := by
  unfold SlOk at h ⊢
  split at h
  · trivial
  · rename_i k e
    have ne : i ≠ k := fun z => hn (by rw [e, z])
    rw [List.getElem?_set_ne ne, List.getElem?_set_ne ne]
    exact h
/-- name = value -/
theorem J.set {o : c.O} {i : Nat} (j : J c E ρ σ (ts ++ [(.o o, v)]) H) (hi : i < ρ.length) (hp : E.pin = none ∨ i ≠ 0) (hn : NoSl [i] ts) : J c E (ρ.set i (some o)) (σ.set i (some v)) ts H := by
  have jt := J.cut j
  obtain ⟨h1, h2, h3, G, f, g⟩ := j
  rw [cO_snoc, cV_snoc, ← List.append_assoc, ← List.append_assoc] at g
  have hl2 := jt.lens
  obtain ⟨w, e3, r⟩ := g.rep (ρ ++ cO ts).length o (get_last _ _)
  rw [hl2, get_last] at e3
  obtain rfl : v = w := Option.some.inj (Option.some.inj e3)
  have hpin : ∀ v0, E.pin = some v0 → (σ.set i (some v))[0]? = some (some v0) := fun v0 e => by
    rcases hp with z | z
    · rw [z] at e; cases e
    · rw [List.getElem?_set_ne z]; exact h2 v0 e
  apply J.of (by simp [h1]) hpin (fun t ht => (h3 t (List.mem_append_left _ ht)).set (hn i (List.mem_singleton.mpr rfl) t ht))
  · have q := (g.cut hl2).put hl2 (n := i) (o := some o) (v := some v) (g := f (ρ ++ cO ts).length) (by simp; omega) (fun x e => by cases e; exact ⟨v, rfl, r⟩) (g.nd _) (g.own _) (fun k hk b hb => ?_) (g.liv _)
    · rw [List.set_append_left _ _ hi, List.set_append_left _ _ (by omega)] at q
      exact q
    · show b ∉ (if k < (ρ ++ cO ts).length then f k else [])
      by_cases hi : k < (ρ ++ cO ts).length
      · rw [if_pos hi]; exact g.dj _ k (by omega) b hb
      · rw [if_neg hi]; simp
/-- a slot forgotten -/
theorem J.forget {i : Nat} {w : Option V} (j : J c E ρ σ ts H) (hp : E.pin = none ∨ i ≠ 0) (ha : AllO ts) : J c E (ρ.set i none) (σ.set i w) ts H := by
  by_cases hi : i < ρ.length
  · obtain ⟨h1, h2, h3, G, f, g⟩ := j
    have hl : (ρ ++ cO ts).length = (σ ++ cV ts).length := by simp [cO, cV, h1]
    refine ⟨by simp [h1], fun v0 e => ?_, ha.sl, G, fset f i [], ?_⟩
    · rcases hp with z | z
      · rw [z] at e; cases e
      · rw [List.getElem?_set_ne z]; exact h2 v0 e
    · have q := g.put hl (n := i) (o := none) (v := w) (g := []) (by simp; omega) (fun x e => by cases e) List.nodup_nil (by simp) (by simp) (by simp)
      rw [List.set_append_left _ _ hi, List.set_append_left _ _ (by omega)] at q
      exact q
  · rw [List.set_eq_of_length_le (by omega), List.set_eq_of_length_le (by have := j.len; omega)]; exact j
/-- an owned list in a slot, written anew -/
theorem J.wr {i : Nat} {os os' : List c.O} {us : Stk c} {v : V} (j : J c E ρ σ (ts ++ us) H) (hs : σ[i]? = some (some v)) (h : ρ[i]? = some (some (.lst os))) (ha : AllO ts) : ∃ a xs G g, v = .ref a ∧ H a = some (.lst xs) ∧ ORepL c G H xs os g ∧ xs.length = os.length ∧
    ∀ ys, (∀ G f, JG c E (ρ ++ cO (ts ++ us)) (σ ++ cV (ts ++ us)) H G f → ∀ g, ORepL c G H xs os g → a ∉ g → g.Nodup → (∀ b ∈ g, b ∈ f i) → a ∈ f i → ∃ g', ORepL c G H ys os' g' ∧ g'.Nodup ∧ a ∉ g' ∧ ∀ b ∈ g', b ∈ g ∨ ∃ k, (ρ ++ cO ts).length ≤ k ∧ b ∈ f k) →
      J c E (ρ.set i (some (.lst os'))) σ ts (upd H a (.lst ys)) := by
  have jt := J.cut j
  obtain ⟨h1, h2, h3, G, f, g⟩ := j
  have hi : i < ρ.length := (List.getElem?_eq_some_iff.mp h).1
  obtain ⟨w, e2, r⟩ := g.rep i (.lst os) (by rw [List.getElem?_append_left hi]; exact h)
  rw [List.getElem?_append_left (by omega), hs] at e2
  cases e2
  generalize hf : f i = fi at r
  cases r with
  | @lst a xs _ gg hx ga r =>
    have ndi := g.nd i
    rw [hf] at ndi
    have na : a ∉ gg := (List.nodup_cons.mp ndi).1
    refine ⟨a, xs, G, gg, rfl, hx, r, r.length, fun ys hy => ?_⟩
    obtain ⟨g', r', nd', na', hm⟩ := hy G f g gg r na (List.nodup_cons.mp ndi).2 (fun b hb => by rw [hf]; exact List.mem_cons_of_mem _ hb) (by rw [hf]; exact List.mem_cons_self ..)
    have hl2 := jt.lens
    have gc := g
    rw [cO_app, cV_app, ← List.append_assoc, ← List.append_assoc] at gc
    have gcut := gc.cut hl2
    have hli : i < (ρ ++ cO ts).length := by simp; omega
    have q := gcut.write (n := i) (a := a) (f0 := gg) (g := g') (xs := xs) (ys := ys) (os := os') hl2 hli (by rw [List.getElem?_append_left (by omega)]; exact hs) (by show (if i < (ρ ++ cO ts).length then f i else []) = _; rw [if_pos hli]; exact hf) hx r' (fun b hb => ?_) nd'
    · rw [List.set_append_left _ _ hi] at q
      exact ⟨by simp [h1], h2, ha.sl, G, _, q⟩
    · refine ⟨fun z => na' (z ▸ hb), ?_, fun k hk => ?_⟩
      · rcases hm b hb with z | ⟨k, _, z⟩
        · exact g.own i b (by rw [hf]; exact List.mem_cons_of_mem _ z)
        · exact g.own k b z
      · show b ∉ (if k < (ρ ++ cO ts).length then f k else [])
        by_cases hkl : k < (ρ ++ cO ts).length
        · rw [if_pos hkl]
          rcases hm b hb with z | ⟨k2, h4, z⟩
          · exact g.dj i k (fun e => hk e.symm) b (by rw [hf]; exact List.mem_cons_of_mem _ z)
          · exact g.dj k2 k (by omega) b z
        · rw [if_neg hkl]; simp
/-- .. a flat one, by frozen data -/
theorem J.wrF {i : Nat} {ds ds' : List c.D} {us : Stk c} {v : V} (j : J c E ρ σ (ts ++ us) H) (hs : σ[i]? = some (some v)) (h : ρ[i]? = some (some (.lst (ds.map .fr)))) (ha : AllO ts) : ∃ a xs, v = .ref a ∧ H a = some (.lst xs) ∧ xs.length = ds.length ∧
    ∀ ys, (∀ G f, JG c E (ρ ++ cO (ts ++ us)) (σ ++ cV (ts ++ us)) H G f → RepL c G xs ds → RepL c G ys ds') → J c E (ρ.set i (some (.lst (ds'.map .fr)))) σ ts (upd H a (.lst ys)) := by
  obtain ⟨a, xs, G, g, e1, e2, r, el, k⟩ := j.wr (os' := ds'.map .fr) hs h ha
  refine ⟨a, xs, e1, e2, by simpa using el, fun ys hy => k ys fun G f g0 g r na nd hb hc => ?_⟩
  obtain ⟨r1, eg⟩ := orepL_fr' r
  exact ⟨[], orepL_fr (hy G f g0 r1), List.nodup_nil, by simp, by simp⟩
/-- x.append(v) -/
theorem J.app {i : Nat} {os : List c.O} {o : c.O} {x : V} (j : J c E ρ σ (ts ++ [(.sl i, x), (.o o, v)]) H) (h : ρ[i]? = some (some (.lst os))) (ha : AllO ts) : ∃ a xs, x = .ref a ∧ H a = some (.lst xs) ∧ xs.length = os.length ∧
    J c E (ρ.set i (some (.lst (os ++ [o])))) σ ts (upd H a (.lst (xs ++ [v]))) := by
  have hs : σ[i]? = some (some x) := (j.sl (.sl i, x) (List.mem_append_right _ (by simp))).1
  obtain ⟨a, xs, G, g, e1, e2, r, el, k⟩ := j.wr (os' := os ++ [o]) hs h ha
  refine ⟨a, xs, e1, e2, el, k _ fun G f g0 g r na nd hb hc => ?_⟩
  have hln : (ρ ++ cO (ts ++ [(Tm.sl i, x), (Tm.o o, v)]))[(ρ ++ cO ts).length + 1]? = some (some o) := by
    rw [cO_app, ← List.append_assoc, List.getElem?_append_right (by omega), Nat.add_sub_cancel_left]
    rfl
  obtain ⟨w, e3, r3⟩ := g0.rep _ _ hln
  have hl2 : (ρ ++ cO ts).length = (σ ++ cV ts).length := by simp [cO, cV, j.len]
  rw [cV_app, ← List.append_assoc, hl2, List.getElem?_append_right (by omega), Nat.add_sub_cancel_left] at e3
  have : w = v := by simpa [cV] using e3.symm
  subst this
  have hne : i ≠ (ρ ++ cO ts).length + 1 := by
    have := (List.getElem?_eq_some_iff.mp h).1
    simp; omega

  refine ⟨_, r.snoc r3, List.nodup_append.mpr ⟨nd, g0.nd _, fun p hp q hq => ?_⟩, fun z => ?_, fun b hb' => ?_⟩
  · rintro rfl
    exact g0.dj i _ hne p (hb p hp) hq
  · rcases List.mem_append.mp z with z | z
    · exact na z
    · exact g0.dj i _ hne a hc z
  · rcases List.mem_append.mp hb' with z | z
    · exact .inl z
    · exact .inr ⟨_, by omega, z⟩
end
end Y

set_option Elab.async false
set_option linter.all false
set_option maxRecDepth 100000
set_option maxHeartbeats 4000000
namespace Y
open PySem PySem.Spec PyProof.Rows L2
/-! ## outcomes -/
inductive Out (c : Cf) (α : Type) where
  | ok (a : α) (ρ : Rho c) | exc (n : Nat) (fs : List c.D) | bad
def Out.bind {c : Cf} {α β : Type} (x : Out c α) (f : α → Rho c → Out c β) : Out c β := match x with
  | .ok a ρ => f a ρ
  | .exc n fs => .exc n fs
  | .bad => .bad
inductive SO (c : Cf) where
  | nx (ρ : Rho c) | bk (ρ : Rho c) | ct (ρ : Rho c) | rt (o : c.O) (ρ : Rho c) | exc (n : Nat) (fs : List c.D) | bad
inductive FO (c : Cf) where
  | ok (o : c.O) (io : Option c.O) | exc (n : Nat) (fs : List c.D) | bad
/-- what is known of a function of the text -/
structure FnI where
  nm : Str
  ad : Addr
  fd : FuncData
  ps : List Str
  dvs : List V
structure Ev (c : Cf) where
  call : Nat → Option c.O → List c.D → FO c
  io : Nat → Bool
  glo : Nat → c.D
  dic : Nat → List (Str × c.D)
  dcn : Nat → List (c.D × c.D)
  tag : Nat → Option Str
  inf : Nat → FnI
  dfl : Nat → List c.D
  mth : Str → Nat → Option Nat
  prp : Str → Nat → Option Nat
  eqm : Nat → Option Nat
  ncl : Nat

/-! ## operations on data -/
section ops
variable {c : Cf}
def allFr : List c.O → Option (List c.D)
  | [] => some []
  | .fr d :: r => (allFr r).map (d :: ·)
  | _ :: _ => none
/-- the items of a list -/
def lItems : c.O → Option (List c.D)
  | .fr (.lst ds) => some ds
  | .lst os => allFr os
  | _ => none
def conOf (x : c.O) : Option Int := match x with
  | .fr (.int n) => c.nm.con n
  | _ => none
def addO (x y : c.O) : Option c.O := match x, y with
  | .fr (.int a), .fr (.int b) => (c.nm.add a b).map fun n => .fr (.int n)
  | .fr (.tup a), .fr (.tup b) => if a.isEmpty || decide (1000000 < a.length + b.length) then none else some (.fr (.tup (a ++ b)))
  | .fr (.str a), .fr (.str b) => if 1000000 < a.length + b.length then none else some (.fr (.str (a ++ b)))
  | _, _ => match lItems x, lItems y with
    | some a, some b => if 1000000 < a.length + b.length then none else some (.lst ((a ++ b).map .fr))
    | _, _ => none
def int2 (g : c.nm.T → c.nm.T → Option c.nm.T) (x y : c.O) : Option c.O := match x, y with
  | .fr (.int a), .fr (.int b) => (g a b).map fun n => .fr (.int n)
  | _, _ => none
def subO (x y : c.O) : Option c.O := int2 c.nm.sub x y
/-- a list times a number -/
def repO (x y : c.O) : Option c.O := match lItems x, conOf y with
  | some ds, some k => if 0 ≤ k ∧ k ≤ 1000 ∧ ds.length ≤ 1000 then some (.lst (((List.replicate k.toNat ds).flatten).map .fr)) else none
  | _, _ => none
def mulO (x y : c.O) : Option c.O := match int2 c.nm.mul x y with
  | some r => some r
  | none => repO x y
def divO (x y : c.O) : Option c.O := int2 c.nm.div x y
def modO (x y : c.O) : Option c.O := int2 c.nm.mod x y
def powO (x y : c.O) : Option c.O := match x, y with
  | .fr (.int a), .fr (.int b) => match c.nm.con a, c.nm.con b with
    | some i, some j => if 0 ≤ j ∧ j ≤ 1000 ∧ -1000 ≤ i ∧ i ≤ 1000 then some (.fr (.int (c.nm.lit (i ^ j.toNat)))) else (if j = 2 then (c.nm.mul a a).map fun n => .fr (.int n) else none)
    | none, some j => if j = 2 then (c.nm.mul a a).map fun n => .fr (.int n) else none
    | _, _ => none
  | _, _ => none
def negO (x : c.O) : Option c.O := match x with
  | .fr (.int a) => some (.fr (.int (c.nm.neg a)))
  | _ => none
mutual
def eqD : c.D → c.D → Option Bool
  | .non, .non => some true
  | .bl a, .bl b => some (a == b)
  | .int a, .int b => (c.nm.cmp a b).map (· == .eq)
  | .str a, .str b => some (a == b)
  | .lst a, .lst b => eqDs a b
  | .tup a, .tup b => eqDs a b
  | .non, .bl _ => some false | .non, .int _ => some false | .non, .str _ => some false | .non, .lst _ => some false | .non, .tup _ => some false
  | .bl _, .non => some false | .bl _, .str _ => some false | .bl _, .lst _ => some false | .bl _, .tup _ => some false
  | .int _, .non => some false | .int _, .str _ => some false | .int _, .lst _ => some false | .int _, .tup _ => some false
  | .str _, .non => some false | .str _, .bl _ => some false | .str _, .int _ => some false | .str _, .lst _ => some false | .str _, .tup _ => some false
  | .lst _, .non => some false | .lst _, .bl _ => some false | .lst _, .int _ => some false | .lst _, .str _ => some false | .lst _, .tup _ => some false
  | .tup _, .non => some false | .tup _, .bl _ => some false | .tup _, .int _ => some false | .tup _, .str _ => some false | .tup _, .lst _ => some false
  | _, _ => none
def eqDs : List c.D → List c.D → Option Bool
  | [], [] => some true
  | [], _ :: _ => some false
  | _ :: _, [] => some false
  | a :: as, b :: bs => match eqD a b with
    | some true => eqDs as bs
    | some false => some false
    | none => none
end
mutual
def dep : c.D → Option Nat
  | .non => some 0 | .bl _ => some 0 | .int _ => some 0 | .str s => if PyData.canLay0 (.str s) then some 0 else none
  | .lst l => (deps l).map (· + 1)
  | .tup l => (deps l).map (· + 1)
  | _ => none
def deps : List c.D → Option Nat
  | [] => some 0
  | d :: ds => match dep d, deps ds with
    | some a, some b => some (max a b)
    | _, _ => none
end
mutual
def nkB : c.D → Option Nat
  | .non => some 0 | .int _ => some 0 | .str _ => some 0
  | .tup l => (nkBs l).map (· + 1)
  | _ => none
def nkBs : List c.D → Option Nat
  | [] => some 0
  | d :: ds => match nkB d, nkBs ds with
    | some a, some b => some (max a b)
    | _, _ => none
end
def shp (d : c.D) : Bool := match dep d with
  | some n => decide (n ≤ 30)
  | none => false
def eqO (x y : c.O) : Option c.O := if shp x.d && shp y.d then (eqD x.d y.d).map fun b => .fr (.bl b) else none
def neO (x y : c.O) : Option c.O := if shp x.d && shp y.d then (eqD x.d y.d).map fun b => .fr (.bl (!b)) else none
def anyEq (x : c.D) : List c.D → Option Bool
  | [] => some false
  | d :: ds => match eqD d x, anyEq x ds with
    | some a, some b => some (a || b)
    | _, _ => none
def flatD : c.D → Bool
  | .non => true | .bl _ => true | .int _ => true | .str _ => true | _ => false
/-- x in y -/
def inB (x y : c.D) : Option Bool := match y with
  | .lst ds => if shp x && shp (.lst ds) then anyEq x ds else none
  | .tup ds => if flatD x && ds.all flatD then anyEq x ds else none
  | _ => none
def inO (x y : c.O) : Option c.O := (inB x.d y.d).map fun b => .fr (.bl b)
def niO (x y : c.O) : Option c.O := (inB x.d y.d).map fun b => .fr (.bl (!b))
def cmpI (p : Ordering → Bool) (x y : c.O) : Option c.O := match x, y with
  | .fr (.int a), .fr (.int b) => (c.nm.cmp a b).map fun o => .fr (.bl (p o))
  | _, _ => none
def isNon (x : c.O) : Bool := match x with
  | .fr .non => true
  | _ => false
def isNO (x y : c.O) : Option c.O := if isNon y then some (.fr (.bl (isNon x))) else none
def nsNO (x y : c.O) : Option c.O := if isNon y then some (.fr (.bl (!isNon x))) else none
def idxO (x y : c.O) : Option c.O := match conOf y with
  | some i => match x with
    | .fr (.str s) => if s.length ≤ 1000000 then (atI s.cps.toList i).map fun n => .fr (.str ⟨#[n]⟩) else none
    | .fr (.tup ds) => (atI ds i).map .fr
    | .fr (.lst ds) => (atI ds i).map .fr
    | .lst os => match atI os i with
      | some (.fr d) => some (.fr d)
      | _ => none
    | _ => none
  | none => none
def cutD (ds : List c.D) (lo hi : Option Int) : List c.D := (ds.drop (HT.sIx ds.length 0 lo)).take (HT.sIx ds.length ds.length hi - HT.sIx ds.length 0 lo)
def slcO (x : c.O) (lo hi : Option Int) : Option c.O := match x with
  | .fr (.tup ds) => if HT.sIx ds.length 0 lo = 0 ∧ HT.sIx ds.length ds.length hi = ds.length then none else some (.fr (.tup (cutD ds lo hi)))
  | .fr (.scr ds) => some (.lst ((cutD ds lo hi).map .fr))
  | _ => (lItems x).map fun ds => .lst ((cutD ds lo hi).map .fr)
def truD : c.D → Option Bool
  | .non => some false
  | .bl b => some b
  | .int n => (c.nm.cmp n (c.nm.lit 0)).map fun o => !(o == .eq)
  | .str s => if s.length ≤ 1000000 then some (!(s.length == 0)) else none
  | .tup l => some (!l.isEmpty)
  | .lst l => some (!l.isEmpty)
  | _ => none
def boolO (x : c.O) : Option Bool := match x with
  | .fr (.bl b) => some b
  | _ => none
def atomO (x : c.O) : Bool := match x with
  | .fr d => flatD d
  | _ => false
/-- kinds for isinstance -/
def kindOf (k : Nat) (d : c.D) : Option Bool := match d with
  | .non => some false
  | .bl _ => some (k == 0 || k == 1)
  | .int _ => some (k == 1)
  | .str _ => some (k == 2)
  | .tup _ => some (k == 3)
  | .lst _ => some (k == 4)
  | _ => none
def boolsD : List c.D → Option (List Bool)
  | [] => some []
  | .bl b :: r => (boolsD r).map (b :: ·)
  | _ :: _ => none
/-! sorted -/
def ins {α : Type} (le : α → α → Bool) (a : α) : List α → List α
  | [] => [a]
  | b :: r => if le a b then a :: b :: r else b :: ins le a r
def insS {α : Type} (le : α → α → Bool) : List α → List α
  | [] => []
  | a :: l => ins le a (insS le l)
mutual
def alk : c.D → c.D → Bool
  | .int _, .int _ => true
  | .str _, .str _ => true
  | .bl _, .bl _ => true
  | .tup a, .tup b => alks a b
  | _, _ => false
def alks : List c.D → List c.D → Bool
  | [], _ => true
  | _ :: _, [] => true
  | a :: as, b :: bs => alk a b && alks as bs
end
mutual
def ltD : c.D → c.D → Option Bool
  | .int a, .int b => (c.nm.cmp a b).map (· == .lt)
  | .str a, .str b => some (decide (a.cps.toList < b.cps.toList))
  | .tup a, .tup b => ltDs a b
  | _, _ => none
def ltDs : List c.D → List c.D → Option Bool
  | [], [] => some false
  | [], _ :: _ => some true
  | _ :: _, [] => some false
  | a :: as, b :: bs => match eqD a b with
    | some true => ltDs as bs
    | some false => ltD a b
    | none => none
end
def tupN (d : c.D) : Bool := match d with
  | .tup (_ :: _) => true
  | _ => false
def intStr (d : c.D) : Bool := match d with
  | .int _ => true
  | .str _ => true
  | _ => false
def sortD (ds : List c.D) : Option (List c.D) :=
  if ds.all shp && (ds.all tupN || ds.all intStr) && ds.all (fun x => ds.all fun y => alk x y && (ltD x y).isSome) && decide (ds.length ≤ 1000) then some (insS (fun x y => !((ltD y x).getD false)) ds) else none
def sortO (x : c.O) : Option c.O := ((lItems x).bind sortD).map fun ds => .lst (ds.map .fr)
def isLst (o : c.O) : Bool := match o with
  | .lst _ => true
  | _ => false
/-! dicts -/
def eqK : c.D → c.D → Option Bool
  | .str a, .str b => some (a == b)
  | .int a, .int b => (c.nm.cmp a b).map (· == .eq)
  | .int _, .str _ => some false
  | .str _, .int _ => some false
  | _, _ => none
def isKey : c.D → Bool
  | .str _ => true
  | .int _ => true
  | _ => false
def dfind (k : c.D) : List c.D → List c.D → Option (Option c.D)
  | [], _ => some none
  | _ :: _, [] => none
  | k' :: ks, v :: vs => match eqK k' k with
    | some true => some (some v)
    | some false => dfind k ks vs
    | none => none
def eqKs (k : c.D) : List c.D → Option (List Bool)
  | [] => some []
  | k' :: ks => match eqK k' k, eqKs k ks with
    | some b, some bs => some (b :: bs)
    | _, _ => none
def repl (v : c.D) : List Bool → List c.D → List c.D
  | b :: bs, x :: xs => (if b then v else x) :: repl v bs xs
  | _, xs => xs
def dput (k v : c.D) (ks vs : List c.D) : Option (List c.D × List c.D) := match eqKs k ks with
  | some bs => if bs.any id then some (ks, repl v bs vs) else some (ks ++ [k], vs ++ [v])
  | none => none
def dgetO (x k : c.O) : Option c.O := match x.d with
  | .dct ks vs => if isKey k.d then (match dfind k.d ks vs with | some (some v) => some (.fr v) | _ => none) else none
  | _ => none
def dist : List Str → Bool
  | [] => true
  | z :: zs => !zs.contains z && dist zs
/-- built-in functions -/
def lenO (x : c.O) : Option c.O := match x with
  | .fr (.str s) => if s.length ≤ 1000000 then some (.fr (.int (c.nm.lit s.length))) else none
  | .fr (.tup l) => some (.fr (.int (c.nm.lit l.length)))
  | .fr (.lst l) => some (.fr (.int (c.nm.lit l.length)))
  | .lst l => some (.fr (.int (c.nm.lit l.length)))
  | _ => none
def intO (x : c.O) : Option c.O := match x with
  | .fr (.int n) => some (.fr (.int n))
  | _ => none
def allO (x : c.O) : Option c.O := (lItems x).bind fun ds => (boolsD ds).map fun bs => .fr (.bl (bs.all id))
def anyO (x : c.O) : Option c.O := (lItems x).bind fun ds => (boolsD ds).map fun bs => .fr (.bl (bs.any id))
def tupO (x : c.O) : Option c.O := match x with
  | .fr (.tup l) => some (.fr (.tup l))
  | _ => (lItems x).map fun ds => .fr (.tup ds)
def one1 (f : c.O → Option c.O) : List c.O → Option c.O
  | [x] => f x
  | _ => none
def intsD : List c.D → Option (List c.nm.T)
  | [] => some []
  | .int n :: r => (intsD r).map (n :: ·)
  | _ :: _ => none
def sumT : c.nm.T → List c.nm.T → Option c.nm.T
  | a, [] => some a
  | a, n :: r => (c.nm.add a n).bind fun b => sumT b r
def maxT : c.nm.T → List c.nm.T → Option c.nm.T
  | a, [] => some a
  | a, n :: r => match c.nm.cmp a n with
    | some .lt => maxT n r
    | some _ => maxT a r
    | none => none
def minT : c.nm.T → List c.nm.T → Option c.nm.T
  | a, [] => some a
  | a, n :: r => match c.nm.cmp a n with
    | some .gt => minT n r
    | some _ => minT a r
    | none => none
def ints1 (f : c.nm.T → List c.nm.T → Option c.nm.T) : List c.nm.T → Option c.nm.T
  | [] => none
  | a :: r => f a r
def foldO (f : List c.nm.T → Option c.nm.T) (x : c.O) : Option c.O := (lItems x).bind fun ds => (intsD ds).bind fun ns => (f ns).map fun n => .fr (.int n)
/-- the items of a list or of a tuple -/
def sItems (x : c.O) : Option (List c.D) := match x with
  | .fr (.tup ds) => some ds
  | _ => lItems x
def sumO (x : c.O) : Option c.O := (sItems x).bind fun ds => (intsD ds).bind fun ns => (sumT (c.nm.lit 0) ns).map fun n => .fr (.int n)
def maxO : c.O → Option c.O := foldO (ints1 maxT)
def minO : c.O → Option c.O := foldO (ints1 minT)
def two1 (f : c.nm.T → List c.nm.T → Option c.nm.T) : List c.O → Option c.O
  | [.fr (.int a), .fr (.int b)] => (f a [b]).map fun n => .fr (.int n)
  | _ => none
def bfn (k : Nat) : List c.O → Option c.O := match k with
  | 0 => one1 lenO | 1 => one1 intO | 2 => one1 allO | 3 => one1 anyO | 4 => one1 sortO | 5 => one1 tupO | 6 => one1 sumO | 7 => one1 maxO | 8 => one1 minO | 9 => two1 maxT | 10 => two1 minT | _ => fun _ => none
end ops

/-! ## the core language -/
inductive M where
  | nop | nil | cons (a r : M)
  | var (i : Nat) | glo (g : Nat) | int (i : Int) | str (s : Str) | bl (b : Bool) | non
  | bin (k : Nat) (a b : M) | neg (a : M) | nt (a : M) | and (a b : M) | or (a b : M) | one (a : M)
  | cmp (k : Nat) (a b : M) | ife (t a b : M)
  | tup (l : M) | lst (l : M) | idx (a i : M) | dgt (g : Nat) (k : M) | dgn (g : Nat) (k : M) | dsp (zs : List Str) (l : M) | dix (a k : M) | dst (i : Nat) (k e : M) | tri (b : M) | slc (a lo hi : M)
  | call (f : Nat) (l : M) (perm : List Nat) | bfc (k : Nat) (l : M) | isi (k : Nat) (a : M)
  | comp (own : List Nat) (tg it t el : M)
  | tn (i : Nat) | tt (l : M)
  | rng1 (a : M) | rng2 (a b : M)
  | asg (t e : M) | sti (i : Nat) (k e : M) | app (i : Nat) (e : M) | pop0 (i : Nat) (k : M) | clr (i : Nat) | clra (t l : Nat)
  | fz (a : M)
  | fld (a : M) (f : Str) | sfl (i : Nat) (f : Str) (e : M) | mk (k g : Nat) (l : M) (perm : List Nat) | mth (m : Str) (a l : M) (perm : List Nat) | prp (m : Str) (a : M) | sta (k : Nat) (m : Str) (g : Nat) (l : M) (perm : List Nat)
  | enu (a : M) | zp (a b : M)
  | comp2 (own own1 : List Nat) (tg it t tg1 a1 t1 el : M)
  | isc (k : Nat) (a : M) | par (i j : Nat) (l : M) | oeq (ne : Bool) (a b : M)
  | iff (t a b : M) | loop (t it b : M) | ret (e : M) | ret0 | ex (e : M) | brk | cnt | pas | rai (n : Nat) (l : M)

inductive ItS (c : Cf) where
  | rng (lo : Int) (n : Nat) | seq (ds : List c.D)
structure Sem (c : Cf) where
  o : Rho c → Out c (Tm c)
  t : Rho c → Out c Bool
  a : Rho c → Out c (List (Tm c))
  f : Rho c → Out c (List c.D)
  v : Rho c → Out c (List c.O)
  g : c.O → Rho c → Option (Rho c)
  gs : List c.D → Rho c → Option (Rho c)
  i : Rho c → Out c (List c.D)
  p : Rho c → Out c (Option Int)
  s : Rho c → SO c

section sem
variable {c : Cf}
def binS (f : c.O → c.O → Option c.O) (a b : Rho c → Out c (Tm c)) (ρ : Rho c) : Out c (Tm c) :=
  (a ρ).bind fun t1 ρ1 => (b ρ1).bind fun t2 ρ2 => match tO ρ2 t1, tO ρ2 t2 with
    | some x, some y => match f x y with
      | some r => .ok (.o r) ρ2
      | none => .bad
    | _, _ => .bad
def unS (f : c.O → Option c.O) (a : Rho c → Out c (Tm c)) (ρ : Rho c) : Out c (Tm c) :=
  (a ρ).bind fun t1 ρ1 => match tO ρ1 t1 with
    | some x => match f x with
      | some r => .ok (.o r) ρ1
      | none => .bad
    | none => .bad
/-- the truth of an expression's value -/
def truS (a : Rho c → Out c (Tm c)) (ρ : Rho c) : Out c Bool :=
  (a ρ).bind fun t1 ρ1 => match tO ρ1 t1 with
    | some x => match truD x.d with
      | some b => .ok b ρ1
      | none => .bad
    | none => .bad
def dgtO (t : List (Str × c.D)) (x : c.O) : Option c.O := match x with
  | .fr (.str z) => (t.lookup z).map .fr
  | _ => none
def dgnD (x : c.D) : List (c.D × c.D) → Option c.D
  | [] => none
  | p :: r => match eqD x p.1 with
    | some true => some p.2
    | some false => dgnD x r
    | none => none
def dgnO (t : List (c.D × c.D)) (x : c.O) : Option c.O := match x with
  | .fr (.tup l) => (match nkB (.tup l) with
    | some n => if n ≤ 8 then (dgnD (.tup l) t).map .fr else none
    | none => none)
  | _ => none
def binK (k : Nat) : c.O → c.O → Option c.O := match k with
  | 0 => addO | 1 => subO | 2 => mulO | 3 => divO | 4 => modO | 5 => powO | _ => fun _ _ => none
def cmpK (k : Nat) : c.O → c.O → Option c.O := match k with
  | 0 => cmpI (· == .lt) | 1 => cmpI (fun o => !(o == .gt)) | 2 => cmpI (· == .gt) | 3 => cmpI (fun o => !(o == .lt))
  | 4 => eqO | 5 => neO | 6 => inO | 7 => niO | 8 => isNO | 9 => nsNO | _ => fun _ _ => none
/-- frozen -/
def frS (a : Rho c → Out c (Tm c)) (ρ : Rho c) : Out c c.D :=
  (a ρ).bind fun t1 ρ1 => match tO ρ1 t1 with
    | some x => .ok x.d (fzR ρ1 t1 x.d)
    | none => .bad
/-- frozen, as a term -/
def fzS (a : Rho c → Out c (Tm c)) (ρ : Rho c) : Out c (Tm c) := (frS a ρ).bind fun d ρ1 => .ok (.o (.fr d)) ρ1
/-- a value: an owned thing of one's own, or a frozen one -/
def vlS (a : Rho c → Out c (Tm c)) (ρ : Rho c) : Out c c.O :=
  (a ρ).bind fun t1 ρ1 => match t1 with
    | .o x => .ok x ρ1
    | .sl i => match tO ρ1 t1 with
      | some x => .ok (.fr x.d) (fzR ρ1 t1 x.d)
      | none => .bad
/-- an argument: a slot, or a frozen thing -/
def agS (a : Rho c → Out c (Tm c)) (ρ : Rho c) : Out c (Tm c) :=
  (a ρ).bind fun t1 ρ1 => match t1 with
    | .o x => .ok (.o (.fr x.d)) ρ1
    | .sl i => .ok (.sl i) ρ1
def tOs (ρ : Rho c) : List (Tm c) → Option (List c.O)
  | [] => some []
  | t :: ts => match tO ρ t, tOs ρ ts with
    | some o, some ds => some (o :: ds)
    | _, _ => none
def datas (ρ : Rho c) : List (Tm c) → Option (List c.D)
  | [] => some []
  | t :: ts => match tO ρ t, datas ρ ts with
    | some o, some ds => some (o.d :: ds)
    | _, _ => none
def fzAll (ρ : Rho c) : List (Tm c) → Rho c
  | [] => ρ
  | t :: ts => match tO ρ t with
    | some o => fzAll (fzR ρ t o.d) ts
    | none => fzAll ρ ts
def permute (ds : List c.D) : List Nat → Option (List c.D)
  | [] => some []
  | k :: ks => match ds[k]?, permute ds ks with
    | some d, some r => some (d :: r)
    | _, _ => none
def callP (F : Option c.O → List c.D → FO c) (dfl : List c.D) (f : Rho c → Out c (List (Tm c))) (perm : List Nat) (ρ : Rho c) : Out c (Tm c) := (f ρ).bind fun tms ρ1 => match (datas ρ1 tms).bind (fun ds => permute (ds ++ dfl) perm) with
      | some ds => (match F none ds with | .ok r none => if atomO r then .ok (.o r) ρ1 else .ok (.o r) (fzAll ρ1 tms) | .exc n fs => .exc n fs | _ => .bad)
      | none => .bad
def okIo (ρ : Rho c) (i : Nat) (t : Tm c) : Bool := match t with
  | .o _ => true
  | .sl j => !decide (j = i) && match (ρ[j]?).join with
    | some (.fr _) => true
    | _ => false
def callI (F : Option c.O → List c.D → FO c) (f : Rho c → Out c (List (Tm c))) (n : Nat) (ρ : Rho c) : Out c (Tm c) := (f ρ).bind fun tms ρ1 => match tms with
      | .sl i :: rest => (match (ρ1[i]?).join, datas ρ1 rest with
        | some o, some ds => if decide (rest.length + 1 = n) && rest.all (okIo ρ1 i) then (match F (some o) ds with
          | .ok r (some o') => .ok (.o r) (ρ1.set i (some o'))
          | .exc n fs => .exc n fs
          | _ => .bad) else .bad
        | _, _ => .bad)
      | _ => .bad
def wipeR (ρ : Rho c) : List Nat → Rho c
  | [] => ρ
  | v :: vs => (wipeR ρ vs).set v none
def compS (own : List Nat) (g : c.O → Rho c → Option (Rho c)) (t : Rho c → Out c Bool) (el : Rho c → Out c (Tm c)) : List c.D → List c.D → Rho c → Out c (List c.D)
  | [], acc, ρ => .ok acc ρ
  | d :: ds, acc, ρ => match g (.fr d) ρ with
    | none => .bad
    | some ρ1 => match t ρ1 with
      | .ok true ρ2 => match frS el ρ2 with
        | .ok x ρ3 => if 1000000 < acc.length then .bad else compS own g t el ds (acc ++ [x]) (wipeR ρ3 own)
        | _ => .bad
      | .ok false ρ2 => compS own g t el ds acc (wipeR ρ2 own)
      | _ => .bad
def compS2 (own own1 : List Nat) (g : c.O → Rho c → Option (Rho c)) (t : Rho c → Out c Bool) (i1 : Rho c → Out c (List c.D)) (g1 : c.O → Rho c → Option (Rho c)) (t1 : Rho c → Out c Bool) (el : Rho c → Out c (Tm c)) : List c.D → List c.D → Rho c → Out c (List c.D)
  | [], acc, ρ => .ok acc ρ
  | d :: ds, acc, ρ => match g (.fr d) ρ with
    | none => .bad
    | some ρ1 => match t ρ1 with
      | .ok true ρ2 => match i1 ρ2 with
        | .ok es ρ3 => match compS own1 g1 t1 el es acc (wipeR ρ3 own1) with
          | .ok acc2 ρ4 => compS2 own own1 g t i1 g1 t1 el ds acc2 (wipeR ρ4 own)
          | _ => .bad
        | _ => .bad
      | .ok false ρ2 => compS2 own own1 g t i1 g1 t1 el ds acc (wipeR ρ2 own)
      | _ => .bad
def loopS (g : c.O → Rho c → Option (Rho c)) (b : Rho c → SO c) : List c.D → Rho c → SO c
  | [], ρ => .nx ρ
  | d :: ds, ρ => match g (.fr d) ρ with
    | none => .bad
    | some ρ1 => match b ρ1 with
      | .nx ρ2 => loopS g b ds ρ2
      | .ct ρ2 => loopS g b ds ρ2
      | .bk ρ2 => .nx ρ2
      | .rt o ρ2 => .rt o ρ2
      | .exc n fs => .exc n fs
      | .bad => .bad
def ofOut {α : Type} (x : Out c α) (f : α → Rho c → SO c) : SO c := match x with
  | .ok a ρ => f a ρ
  | .exc n fs => .exc n fs
  | .bad => .bad
def constS (d : c.D) (ρ : Rho c) : Out c (Tm c) := .ok (.o (.fr d)) ρ
def badS : Sem c := ⟨fun _ => .bad, fun _ => .bad, fun _ => .bad, fun _ => .bad, fun _ => .bad, fun _ _ => none, fun _ _ => none, fun _ => .bad, fun _ => .bad, fun _ => .bad⟩
def tstS (a : Rho c → Out c (Tm c)) (ρ : Rho c) : Out c Bool :=
  (a ρ).bind fun t1 ρ1 => match (tO ρ1 t1).bind boolO with
    | some b => .ok b ρ1
    | none => .bad
def prtS (o : Rho c → Out c (Tm c)) (ρ : Rho c) : Out c (Option Int) := (o ρ).bind fun t2 ρ2 => match (tO ρ2 t2).bind conOf with
  | some i => .ok (some i) ρ2
  | none => .bad
def seqD : c.D → Option (List c.D)
  | .lst ds => some ds
  | .tup ds => some ds
  | _ => none
def iteS (o : Rho c → Out c (Tm c)) (ρ : Rho c) : Out c (List c.D) := (frS o ρ).bind fun d ρ1 => match seqD d with
  | some ds => .ok ds ρ1
  | none => .bad
def exprS (o : Rho c → Out c (Tm c)) : Sem c := { badS with o := o, t := truS o, i := iteS o, p := prtS o }
def rngD (lo : Int) : Nat → List c.D
  | 0 => []
  | n + 1 => rngD lo n ++ [.int (c.nm.lit (lo + n))]

def frO (ρ : Rho c) : Rho c := ρ.map fun o => match o with
  | some (.fr d) => some (.fr d)
  | _ => none
def triS (tg : Nat → Option Str) (fb : Rho c → Out c (Tm c)) (ρ : Rho c) : Out c (Tm c) := match fb (frO ρ) with
  | .ok _ _ => .ok (.o (.lst [])) ρ
  | .exc n fs => match fs, tg n with
    | [d], some z => .ok (.o (.lst [.fr (.tup [.str z, d])])) ρ
    | _, _ => .bad
  | .bad => .bad
def pos (f : Str) : List Str → Option Nat
  | [] => none
  | g :: r => if g = f then some 0 else (pos f r).map (· + 1)
def fldO (f : Str) (x : c.O) : Option c.O := match x.d with
  | .obj k ds => (match pos f (c.fld k) with
    | some i => (ds[i]?).map OT.fr
    | none => none)
  | _ => none
def sflS (i : Nat) (f : Str) (d : c.D) (ρ1 : Rho c) : SO c := match (ρ1[i]?).join with
  | some (.obj k ds) => (match pos f (c.fld k) with
    | some n => if n < ds.length ∧ ds.length < 1000 then .nx (ρ1.set i (some (.obj k (ds.set n d)))) else if n = ds.length ∧ n < 900 then .nx (ρ1.set i (some (.obj k (ds ++ [d])))) else .bad
    | none => .bad)
  | _ => .bad
/-- what a call of the class means -/
def mkS (k : Nat) (F : Option c.O → List c.D → FO c) (dfl : List c.D) (f : Rho c → Out c (List (Tm c))) (perm : List Nat) (ρ : Rho c) : Out c (Tm c) := (f ρ).bind fun tms ρ1 => match (datas ρ1 tms).bind (fun ds => permute (ds ++ dfl) perm) with
  | some ds => (match F (some (.obj k [])) ds with
    | .ok (.fr .non) (some o') => .ok (.o o') (fzAll ρ1 tms)
    | .exc n fs => .exc n fs
    | _ => .bad)
  | none => .bad
/-- the class of a thing -/
def kOf (ρ : Rho c) (t : Tm c) : Option Nat := match (tO ρ t).map OT.d with
  | some (.obj k _) => some k
  | _ => none
def cpC (F : Option c.O → List c.D → FO c) (dfl : List c.D) (pm : List Nat) (tms : List (Tm c)) (ρ : Rho c) : Out c (Tm c) := match (datas ρ tms).bind (fun ds => permute (ds ++ dfl) pm) with
  | some ds => (match F none ds with | .ok r none => if atomO r then .ok (.o r) ρ else .ok (.o r) (fzAll ρ tms) | .exc n fs => .exc n fs | _ => .bad)
  | none => .bad
def mthS (mt : Nat → Option ((Option c.O → List c.D → FO c) × List c.D)) (m : Str) (fo : Rho c → Out c (Tm c)) (f : Rho c → Out c (List (Tm c))) (perm : List Nat) (ρ : Rho c) : Out c (Tm c) := (agS fo ρ).bind fun t0 ρ1 => match kOf ρ1 t0 with
  | some k => if (pos m (c.fld k)).isNone then (match mt k with
    | some F => (f ρ1).bind fun tms ρ2 => cpC F.1 F.2 (0 :: perm.map Nat.succ) (t0 :: tms) ρ2
    | none => .bad) else .bad
  | none => .bad
def prpS (mt : Nat → Option (Option c.O → List c.D → FO c)) (fo : Rho c → Out c (Tm c)) (ρ : Rho c) : Out c (Tm c) := (agS fo ρ).bind fun t0 ρ1 => match kOf ρ1 t0 with
  | some k => (match mt k with
    | some F => (match cpC F [] [0] [t0] ρ1 with
      | .exc _ _ => .bad
      | r => r)
    | none => .bad)
  | none => .bad
/-- is it an instance of the own class? -/
def iscO (n k : Nat) (d : c.D) : Option Bool := match d with
  | .obj j _ => if j < n then some (j == k) else none
  | .non => some false
  | .bl _ => some false
  | .int _ => some false
  | .str _ => some false
  | .tup _ => some false
  | .lst _ => some false
  | _ => none
/-- == by the class's own __eq__ -/
def oeqS (n : Nat) (mt : Nat → Option (Option c.O → List c.D → FO c)) (ne : Bool) (fa fb : Rho c → Out c (Tm c)) (ρ : Rho c) : Out c (Tm c) := (agS fa ρ).bind fun t0 ρ1 => (agS fb ρ1).bind fun t1 ρ2 => match kOf ρ2 t0 with
  | some k => (match mt k, (tO ρ2 t1).bind fun x => iscO n 0 x.d with
    | some F, some _ => (match cpC F [] [0, 1] [t0, t1] ρ2 with
      | .ok (.o (.fr (.bl b))) ρ3 => .ok (.o (.fr (.bl (if ne then !b else b)))) ρ3
      | _ => .bad)
    | _, _ => .bad)
  | none => .bad
def enuD : Nat → List c.D → List c.D
  | _, [] => []
  | n, d :: ds => .tup [.int (c.nm.lit n), d] :: enuD (n + 1) ds
def zipD : List c.D → List c.D → List c.D
  | a :: as, b :: bs => .tup [a, b] :: zipD as bs
  | _, _ => []
def lstD : c.D → Option (List c.D)
  | .lst ds => some ds
  | _ => none
/-- two lists or two tuples -/
def twoD (a b : c.D) : Option (List c.D × List c.D) := match a, b with
  | .lst x, .lst y => some (x, y)
  | .tup x, .tup y => some (x, y)
  | _, _ => none
def rg1S (o : Rho c → Out c (Tm c)) (ρ : Rho c) : Out c (List c.D) := (o ρ).bind fun t1 ρ1 => match (tO ρ1 t1).bind conOf with
  | some j => if -1000000000 ≤ j ∧ j ≤ 1000000000 then .ok (rngD 0 j.toNat) ρ1 else .bad
  | none => .bad
def sem (V : Ev c) (pin : Bool) : M → Sem c
  | .nop => { badS with p := fun ρ => .ok none ρ, t := fun ρ => .ok true ρ }
  | .nil => { badS with a := fun ρ => .ok [] ρ, f := fun ρ => .ok [] ρ, v := fun ρ => .ok [] ρ, gs := fun ds ρ => match ds with | [] => some ρ | _ => none, s := fun ρ => .nx ρ }
  | .cons a r => { badS with
      a := fun ρ => (agS (sem V pin a).o ρ).bind fun x ρ1 => ((sem V pin r).a ρ1).bind fun xs ρ2 => .ok (x :: xs) ρ2
      f := fun ρ => (frS (sem V pin a).o ρ).bind fun x ρ1 => ((sem V pin r).f ρ1).bind fun xs ρ2 => .ok (x :: xs) ρ2
      v := fun ρ => (vlS (sem V pin a).o ρ).bind fun x ρ1 => ((sem V pin r).v ρ1).bind fun xs ρ2 => .ok (x :: xs) ρ2
      gs := fun ds ρ => match ds with
        | d :: ds => ((sem V pin a).g (.fr d) ρ).bind fun ρ1 => (sem V pin r).gs ds ρ1
        | [] => none
      s := fun ρ => match (sem V pin a).s ρ with
        | .nx ρ1 => (sem V pin r).s ρ1
        | x => x }
  | .var i => exprS fun ρ => match (ρ[i]?).join with
      | some _ => .ok (.sl i) ρ
      | none => .bad
  | .glo g => exprS (constS (V.glo g))
  | .int i => exprS (constS (.int (c.nm.lit i)))
  | .str s => exprS (constS (.str s))
  | .bl b => exprS (constS (.bl b))
  | .non => exprS (constS .non)
  | .bin k a b => exprS (binS (binK k) (sem V pin a).o (sem V pin b).o)
  | .neg a => exprS (unS negO (sem V pin a).o)
  | .nt a => { badS with
      o := fun ρ => (unS (fun x => (boolO x).map fun b => .fr (.bl (!b))) (sem V pin a).o ρ)
      t := fun ρ => ((sem V pin a).t ρ).bind fun b ρ1 => .ok (!b) ρ1 }
  | .and a b => { badS with
      o := fun ρ => ((sem V pin a).o ρ).bind fun t1 ρ1 => match (tO ρ1 t1).bind boolO with
        | some true => (sem V pin b).o ρ1
        | some false => .ok (.o (.fr (.bl false))) ρ1
        | none => .bad
      t := fun ρ => ((sem V pin a).t ρ).bind fun b1 ρ1 => if b1 then (sem V pin b).t ρ1 else .ok false ρ1 }
  | .or a b => { badS with
      o := fun ρ => ((sem V pin a).o ρ).bind fun t1 ρ1 => match (tO ρ1 t1).bind boolO with
        | some false => (sem V pin b).o ρ1
        | some true => .ok (.o (.fr (.bl true))) ρ1
        | none => .bad
      t := fun ρ => ((sem V pin a).t ρ).bind fun b1 ρ1 => if b1 then .ok true ρ1 else (sem V pin b).t ρ1 }
  | .one a => { badS with o := (sem V pin a).o, t := (sem V pin a).t }
  | .cmp k a b => { exprS (binS (cmpK k) (sem V pin a).o (sem V pin b).o) with t := tstS (binS (cmpK k) (sem V pin a).o (sem V pin b).o) }
  | .ife t a b => { exprS (fun ρ => ((sem V pin t).t ρ).bind fun b1 ρ1 => if b1 then (sem V pin a).o ρ1 else (sem V pin b).o ρ1) with t := fun _ => .bad }
  | .tup l => exprS fun ρ => ((sem V pin l).f ρ).bind fun ds ρ1 => if 1000000 < ds.length then .bad else .ok (.o (.fr (.tup ds))) ρ1
  | .lst l => exprS fun ρ => ((sem V pin l).v ρ).bind fun os ρ1 => if 1000000 < os.length then .bad else .ok (.o (.lst os)) ρ1
  | .idx a i => exprS (binS idxO (sem V pin a).o (sem V pin i).o)
  | .dsp zs l => exprS fun ρ => ((sem V pin l).f ρ).bind fun ds ρ1 => if zs.length = ds.length ∧ dist zs = true then .ok (.o (.dct (zs.map .str) ds)) ρ1 else .bad
  | .dix a k => exprS (binS dgetO (sem V pin a).o (sem V pin k).o)
  | .dst i k e => { badS with s := fun ρ => ofOut (frS (sem V pin e).o ρ) fun d ρ1 => match (ρ1[i]?).join with
      | some (.dct _ _) => ofOut ((sem V pin k).o ρ1) fun t2 ρ2 => match (ρ2[i]?).join, tO ρ2 t2 with
        | some (.dct ks vs), some kx => if isKey kx.d && decide (ks.length < 1000) then (match dput kx.d d ks vs with
          | some q => .nx (ρ2.set i (some (.dct q.1 q.2)))
          | none => .bad) else .bad
        | _, _ => .bad
      | _ => .bad }
  | .tri b => exprS (triS V.tag (sem V false b).o)
  | .fz a => exprS (fzS (sem V pin a).o)
  | .dgt g k => exprS (unS (dgtO (V.dic g)) (sem V pin k).o)
  | .dgn g k => exprS (unS (dgnO (V.dcn g)) (sem V pin k).o)
  | .slc a lo hi => exprS fun ρ => ((sem V pin a).o ρ).bind fun t1 ρ1 => ((sem V pin lo).p ρ1).bind fun i ρ2 => ((sem V pin hi).p ρ2).bind fun j ρ3 =>
      match (tO ρ3 t1).bind fun x => slcO x i j with
        | some r => .ok (.o r) ρ3
        | none => .bad
  | .call f l perm => exprS (if V.io f then callI (V.call f) (sem V pin l).a perm.length else callP (V.call f) (V.dfl f) (sem V pin l).a perm)
  | .bfc k l => exprS fun ρ => ((sem V pin l).a ρ).bind fun tms ρ1 => match (tOs ρ1 tms).bind (bfn k) with
      | some r => .ok (.o r) ρ1
      | none => .bad
  | .isi k a => exprS (unS (fun x => (kindOf k x.d).map fun b => .fr (.bl b)) (sem V pin a).o)
  | .comp own tg it t el => exprS fun ρ => ((sem V pin it).i ρ).bind fun ds ρ1 =>
      if own.any fun k => ((ρ1[k]?).join).isSome || k == 0 then .bad else match compS own (sem V pin tg).g (sem V pin t).t (sem V pin el).o ds [] (wipeR ρ1 own) with
        | .ok acc ρ2 => .ok (.o (.lst (acc.map .fr))) ρ2
        | _ => .bad
  | .comp2 own own1 tg it t tg1 a1 t1 el => exprS fun ρ => ((sem V pin it).i ρ).bind fun ds ρ1 =>
      if own.any fun k => ((ρ1[k]?).join).isSome || k == 0 then .bad else match compS2 own own1 (sem V pin tg).g (sem V pin t).t (rg1S (sem V pin a1).o) (sem V pin tg1).g (sem V pin t1).t (sem V pin el).o ds [] (wipeR ρ1 own) with
        | .ok acc ρ2 => .ok (.o (.lst (acc.map .fr))) ρ2
        | _ => .bad
  | .tn i => { badS with g := fun o ρ => if (pin && i == 0) || decide (ρ.length ≤ i) then none else some (ρ.set i (some o)) }
  | .tt l => { badS with g := fun o ρ => match o with
      | .fr (.tup ds) => (sem V pin l).gs ds ρ
      | _ => none }
  | .rng1 a => { badS with i := rg1S (sem V pin a).o }
  | .rng2 a b => { badS with i := fun ρ => ((sem V pin a).o ρ).bind fun t1 ρ1 => ((sem V pin b).o ρ1).bind fun t2 ρ2 => match (tO ρ2 t1).bind conOf, (tO ρ2 t2).bind conOf with
      | some i, some j => if -1000000000 ≤ i ∧ i ≤ 1000000000 ∧ -1000000000 ≤ j ∧ j ≤ 1000000000 then .ok (rngD i (j - i).toNat) ρ2 else .bad
      | _, _ => .bad }
  | .asg t e => { badS with s := fun ρ => ofOut (vlS (sem V pin e).o ρ) fun o ρ1 => match (sem V pin t).g o ρ1 with
      | some ρ2 => .nx ρ2
      | none => .bad }
  | .sti i k e => { badS with s := fun ρ => ofOut (frS (sem V pin e).o ρ) fun d ρ1 => match (ρ1[i]?).join with
      | some (.lst _) => ofOut ((sem V pin k).o ρ1) fun t2 ρ2 => match (ρ2[i]?).join, (tO ρ2 t2).bind conOf with
        | some (.lst os), some j => match allFr os, ixN os.length j with
          | some ds, some n => .nx (ρ2.set i (some (.lst ((ds.set n d).map .fr))))
          | _, _ => .bad
        | _, _ => .bad
      | _ => .bad }
  | .app i e => { badS with s := fun ρ => match (ρ[i]?).join with
      | some (.lst _) => ofOut (vlS (sem V pin e).o ρ) fun o ρ1 => match (ρ1[i]?).join with
        | some (.lst os) => if 1000000 < os.length then .bad else .nx (ρ1.set i (some (.lst (os ++ [o]))))
        | _ => .bad
      | _ => .bad }
  | .pop0 i k => { badS with s := fun ρ => match (ρ[i]?).join with
      | some (.lst _) => ofOut ((sem V pin k).o ρ) fun t2 ρ1 => match (ρ1[i]?).join, (tO ρ1 t2).bind conOf with
        | some (.lst os), some j => match allFr os with
          | some ds => if j = 0 then match ds with | [] => .bad | _ :: r => .nx (ρ1.set i (some (.lst (r.map .fr)))) else .bad
          | none => .bad
        | _, _ => .bad
      | _ => .bad }
  | .clr i => { badS with s := fun ρ => match (ρ[i]?).join with
      | some (.lst os) => .nx (ρ.set i (some (.lst [])))
      | _ => .bad }
  | .clra t l => { badS with s := fun ρ => match (ρ[l]?).join with
      | some (.lst os) => if os.all isLst && decide (t ≠ l) && decide (t < ρ.length) && !(pin && t == 0) then .nx ((ρ.set t none).set l (some (.lst (os.map fun _ => .lst [])))) else .bad
      | _ => .bad }
  | .fld a f => exprS (unS (fldO f) (sem V pin a).o)
  | .sfl i f e => { badS with s := fun ρ => ofOut (frS (sem V pin e).o ρ) fun d ρ1 => sflS i f d ρ1 }
  | .mk k g l perm => exprS (mkS k (V.call g) (V.dfl g) (sem V pin l).a perm)
  | .mth m a l perm => exprS (mthS (fun k => (V.mth m k).map fun g => (V.call g, V.dfl g)) m (sem V pin a).o (sem V pin l).a perm)
  | .prp m a => exprS (prpS (fun k => (V.prp m k).map V.call) (sem V pin a).o)
  | .sta k m g l perm => exprS (callP (V.call g) (V.dfl g) (sem V pin l).a perm)
  | .enu a => { badS with i := fun ρ => (frS (sem V pin a).o ρ).bind fun d ρ1 => match seqD d with
      | some ds => .ok (enuD 0 ds) ρ1
      | none => .bad }
  | .zp a b => { badS with i := fun ρ => (frS (sem V pin a).o ρ).bind fun d ρ1 => (frS (sem V pin b).o ρ1).bind fun e ρ2 => match twoD d e with
      | some p => .ok (zipD p.1 p.2) ρ2
      | none => .bad }
  | .isc k a => exprS (unS (fun x => (iscO V.ncl k x.d).map fun b => .fr (.bl b)) (sem V pin a).o)
  | .par i j l => { badS with s := fun ρ => ofOut ((sem V pin l).v ρ) fun os ρ1 => match os with
      | [x, y] => if i ≠ j ∧ i < ρ1.length ∧ j < ρ1.length ∧ (pin && (i == 0 || j == 0)) = false then .nx ((ρ1.set j (some y)).set i (some x)) else .bad
      | _ => .bad }
  | .oeq ne a b => let o := oeqS V.ncl (fun k => (V.eqm k).map V.call) ne (sem V pin a).o (sem V pin b).o; { exprS o with t := tstS o }
  | .iff t a b => { badS with s := fun ρ => ofOut ((sem V pin t).t ρ) fun b1 ρ1 => if b1 then (sem V pin a).s ρ1 else (sem V pin b).s ρ1 }
  | .loop t it b => { badS with s := fun ρ => ofOut ((sem V pin it).i ρ) fun ds ρ1 => loopS (sem V pin t).g (sem V pin b).s ds ρ1 }
  | .ret e => { badS with s := fun ρ => ofOut ((sem V pin e).o ρ) fun t1 ρ1 => match t1 with
      | .o x => .rt x ρ1
      | .sl i => match (ρ1[i]?).join with
        | some x => if pin && i == 0 then .rt (.fr x.d) (ρ1.set i (some (.fr x.d))) else .rt x (ρ1.set i none)
        | none => .bad }
  | .ret0 => { badS with s := fun ρ => .rt (.fr .non) ρ }
  | .ex e => { badS with s := fun ρ => ofOut ((sem V pin e).o ρ) fun _ ρ1 => .nx ρ1 }
  | .brk => { badS with s := fun ρ => .bk ρ }
  | .cnt => { badS with s := fun ρ => .ct ρ }
  | .pas => { badS with s := fun ρ => .nx ρ }
  | .rai n l => { badS with s := fun ρ => ofOut ((sem V pin l).f ρ) fun fs _ => if fs.length = (c.exf n).length then .exc n fs else .bad }
end sem
end Y

set_option Elab.async false
set_option linter.all false
set_option maxRecDepth 100000
set_option maxHeartbeats 4000000
namespace Y
open PySem PySem.Spec PyProof.Rows L2
section
variable {c : Cf} {E : Ent} {ρ ρ' : Rho c} {σ : List (Option V)} {ts us : Stk c} {H : Hp} {v : V} {tm : Tm c}
theorem JG.tO {G : Hp} {f : Nat → List Addr} (g : JG c E (ρ ++ cO ts) (σ ++ cV ts) H G f) (h1 : ρ.length = σ.length) (h3 : ∀ t ∈ ts, SlOk ρ σ t) (hm : (tm, v) ∈ ts) {o : c.O} (h : Y.tO ρ tm = some o) : ∃ f, ORep c G H v o f := by
  cases tm with
  | o x =>
    cases h
    obtain ⟨k, hk, e⟩ := List.mem_iff_getElem.mp hm
    have e1 : (ρ ++ cO ts)[ρ.length + k]? = some (some o) := by
      rw [List.getElem?_append_right (by omega), Nat.add_sub_cancel_left]
      simp [cO, hk, e, Tm.cell]
    obtain ⟨w, e2, r⟩ := g.rep _ _ e1
    rw [h1, List.getElem?_append_right (by omega), Nat.add_sub_cancel_left] at e2
    have : w = v := by simpa [cV, hk, e] using e2.symm
    subst this
    exact ⟨_, r⟩
  | sl i =>
    have e := join_some h
    have hs : σ[i]? = some (some v) := (h3 _ hm).1
    have hi : i < ρ.length := (List.getElem?_eq_some_iff.mp e).1
    obtain ⟨w, e2, r⟩ := g.rep i o (by rw [List.getElem?_append_left hi]; exact e)
    rw [List.getElem?_append_left (by omega), hs] at e2
    cases e2
    exact ⟨_, r⟩
/-- something frozen that is seen from what lies on the way -/
theorem mkPart {G : Hp} {f : Nat → List Addr} {d : c.D} (h1 : ρ.length = σ.length) (h2 : ∀ v0, E.pin = some v0 → σ[0]? = some (some v0)) (h3 : ∀ t ∈ ts ++ us, SlOk ρ σ t) (g : JG c E (ρ ++ cO (ts ++ us)) (σ ++ cV (ts ++ us)) H G f) (r : Rep c G v d) : J c E ρ σ (ts ++ [(.o (.fr d), v)]) H := by
  have hl := (J.cut (J.of h1 h2 h3 g)).lens
  rw [cO_app, cV_app, ← List.append_assoc, ← List.append_assoc] at g
  have gc := g.cut hl
  apply J.of h1 h2 (sl_snoc h3)
  rw [cO_snoc, cV_snoc, ← List.append_assoc, ← List.append_assoc]
  exact gc.push (g := []) hl (fun x e => by cases e; exact .fr r) List.nodup_nil (by simp) (by simp) (by simp)
theorem mkTup {G : Hp} {f : Nat → List Addr} {ds : List c.D} {vs : List V} {p : Addr} (h1 : ρ.length = σ.length) (h2 : ∀ v0, E.pin = some v0 → σ[0]? = some (some v0)) (h3 : ∀ t ∈ ts ++ us, SlOk ρ σ t) (g : JG c E (ρ ++ cO (ts ++ us)) (σ ++ cV (ts ++ us)) H G f) (hp : H p = none) (r : RepL c G vs ds) :
    J c E ρ σ (ts ++ [(.o (.fr (.tup ds)), .ref p)]) (upd H p (.tup vs)) := by
  have hl := (J.cut (J.of h1 h2 h3 g)).lens
  rw [cO_app, cV_app, ← List.append_assoc, ← List.append_assoc] at g
  have g2 := (g.cut hl).newG (u := .tup vs) hp (fun ps z => by cases z)
  apply J.of h1 h2 (sl_snoc h3)
  rw [cO_snoc, cV_snoc, ← List.append_assoc, ← List.append_assoc]
  refine g2.push (g := []) hl (fun x e => ?_) List.nodup_nil (by simp) (by simp) (by simp)
  cases e
  exact .fr (.tup (SqT.of upd_same) (r.mono fun b o e => by rw [upd_ne (ne_of_none e (g.fresh hp).1)]; exact e))
theorem mkLst {G : Hp} {f : Nat → List Addr} {ds : List c.D} {vs : List V} {p : Addr} (h1 : ρ.length = σ.length) (h2 : ∀ v0, E.pin = some v0 → σ[0]? = some (some v0)) (h3 : ∀ t ∈ ts ++ us, SlOk ρ σ t) (g : JG c E (ρ ++ cO (ts ++ us)) (σ ++ cV (ts ++ us)) H G f) (hp : H p = none) (r : RepL c G vs ds) :
    J c E ρ σ (ts ++ [(.o (.lst (ds.map .fr)), .ref p)]) (upd H p (.lst vs)) := by
  have hl := (J.cut (J.of h1 h2 h3 g)).lens
  rw [cO_app, cV_app, ← List.append_assoc, ← List.append_assoc] at g
  obtain ⟨q0, q1, q2, q3⟩ := g.fresh hp
  have g2 := (g.cut hl).newH (u := .lst vs) hp
  obtain ⟨_, w1, _, _⟩ := (g.cut hl).fresh hp
  apply J.of h1 h2 (sl_snoc h3)
  rw [cO_snoc, cV_snoc, ← List.append_assoc, ← List.append_assoc]
  refine g2.push (g := [p]) hl (fun x e => ?_) (List.nodup_cons.mpr ⟨by simp, List.nodup_nil⟩) (fun b hb => ?_) (fun i b hb => ?_) fun b hb => ?_
  · cases e
    exact .lst upd_same q0 (orepL_fr r)
  · rw [List.mem_singleton.mp hb]; exact .inr q2
  · rw [List.mem_singleton.mp hb]; exact w1 i
  · rw [List.mem_singleton.mp hb]; exact ⟨q0, lv_lst upd_same⟩
theorem J.at {d : c.D} (j : J c E ρ σ (ts ++ us) H) (h : ∀ G : Hp, Rep c G v d) : J c E ρ σ (ts ++ [(.o (.fr d), v)]) H := by
  obtain ⟨h1, h2, h3, G, f, g⟩ := j
  exact mkPart h1 h2 h3 g (h G)

/-! ### what a value is, by its data -/
theorem rep_int {G : Hp} {v : V} {n : c.nm.T} (h : Rep c G v (.int n)) : v = .int (c.nm.val n) := by cases h; rfl
theorem rep_bl {G : Hp} {v : V} {n : Bool} (h : Rep c G v (.bl n)) : v = .bl n := by cases h; rfl
theorem rep_str {G : Hp} {v : V} {n : Str} (h : Rep c G v (.str n)) : v = .str n := by cases h; rfl
theorem rep_non {G : Hp} {v : V} (h : Rep c G v .non) : v = .non := by cases h; rfl
theorem rep_tup {G : Hp} {v : V} {ds : List c.D} (h : Rep c G v (.tup ds)) : ∃ a xs, v = .ref a ∧ SqT c.K G a xs ∧ RepL c G xs ds := by
  cases h with
  | tup s r => exact ⟨_, _, rfl, s, r⟩
theorem rep_lst {G : Hp} {v : V} {ds : List c.D} (h : Rep c G v (.lst ds)) : ∃ a xs, v = .ref a ∧ G a = some (.lst xs) ∧ RepL c G xs ds := by
  cases h with
  | lst s r => exact ⟨_, _, rfl, s, r⟩
theorem allFr_eq : ∀ {os : List c.O} {ds : List c.D}, allFr os = some ds → os = ds.map .fr
  | [], ds, h => by cases h; rfl
  | .fr d :: r, ds, h => by
    obtain ⟨es, e1, e2⟩ := Option.map_eq_some_iff.mp h
    subst e2
    rw [List.map_cons, ← allFr_eq e1]
  | .lst _ :: _, _, h => by cases h
  | .dct _ _ :: _, _, h => by cases h
  | .obj _ _ :: _, _, h => by cases h
theorem seqT_mono {K : PySem.W.Frag} {G H : Hp} {a : Addr} {xs : List V} (s : Same G H) (h : SqT K G a xs) : SqT K H a xs := by
  rcases h with (h | ⟨o, h⟩) | h
  · exact .inl (.inl (s _ _ h))
  · exact .inl (.inr ⟨o, s _ _ h⟩)
  · exact .inr h
/-- the items of a list, frozen; the list as it stands -/
theorem lItems_rep {G : Hp} {x : c.O} {ds : List c.D} {f : List Addr} (s : Same G H) (r : ORep c G H v x f) (h : lItems x = some ds) : ∃ a xs, v = .ref a ∧ H a = some (.lst xs) ∧ RepL c G xs ds := by
  cases r with
  | fr r =>
    rename_i d
    cases d with
    | lst l =>
      cases h
      obtain ⟨a, xs, e, q, r⟩ := rep_lst r
      exact ⟨a, xs, e, s _ _ q, r⟩
    | _ => cases h
  | lst h1 h2 r =>
    have e := allFr_eq (show allFr _ = some ds from h)
    subst e
    exact ⟨_, _, rfl, h1, (orepL_fr' r).1⟩
  | dct _ _ _ _ => cases h
  | obj _ _ _ _ => cases h
theorem ofr {G : Hp} {d : c.D} (h : ∃ f, ORep c G H v (.fr d) f) : Rep c G v d := by
  obtain ⟨f, h⟩ := h
  exact h.unfr
end

/-! ## what is to be shown of a piece of the program -/
def JX (c : Cf) (E : Ent) (n : Nat) (fs : List c.D) (d : Addr) (H : Hp) : Prop := ∃ G f vs, JG c E [] [] H G f ∧ H d = some (.xd ((c.exf n).zip vs)) ∧ RepL c G vs fs
def ExcP (c : Cf) (E : Ent) (EW : XK) (n : Nat) (fs : List c.D) : Prop := ∀ d H', JX c E n fs d H' → EW (.ref (c.exa n)) (some d) H'
def Wt {α : Type} (c : Cf) (E : Ent) (EW : XK) (k : α → Rho c → Prop) : Out c α → Prop
  | .ok a ρ => k a ρ
  | .exc n fs => ExcP c E EW n fs
  | .bad => False
theorem Wt.bind {α β : Type} {c : Cf} {E : Ent} {EW : XK} {k : β → Rho c → Prop} {x : Out c α} {f : α → Rho c → Out c β} (h : Wt c E EW k (x.bind f)) : Wt c E EW (fun a ρ => Wt c E EW k (f a ρ)) x := by
  cases x <;> exact h
theorem Wt.mono {α : Type} {c : Cf} {E : Ent} {EW : XK} {k k' : α → Rho c → Prop} {x : Out c α} (h : Wt c E EW k x) (hk : ∀ a ρ, k a ρ → k' a ρ) : Wt c E EW k' x := by
  cases x with
  | ok a ρ => exact hk a ρ h
  | exc n fs => exact h
  | bad => exact h

structure SoE (c : Cf) (X : Cx) (EW : XK) (f : Rho c → Out c (Tm c)) (e : Expr) : Prop where
  ex : ∃ t : TE, PE X e t ∧ ∀ (E : Ent) (ρ : Rho c) (σ : L2.St) (ts : Stk c) (H : Hp) (Q : VK), J c E ρ σ ts H → Wt c E EW (fun tm ρ' => ∀ v H', J c E ρ' σ (ts ++ [(tm, v)]) H' → Q v H') (f ρ) → t σ H Q
structure SoT (c : Cf) (X : Cx) (EW : XK) (f : Rho c → Out c Bool) (e : Expr) : Prop where
  ex : ∃ t : TT, PT X e t ∧ ∀ (E : Ent) (ρ : Rho c) (σ : L2.St) (ts : Stk c) (H : Hp) (Q : Bool → Hp → Prop), J c E ρ σ ts H → Wt c E EW (fun b ρ' => ∀ H', J c E ρ' σ ts H' → Q b H') (f ρ) → t σ H Q
structure SoW (c : Cf) (X : Cx) (EW : XK) (f : Rho c → Out c Bool) (e : Expr) : Prop where
  ex : ∃ t : TT, PW X e t ∧ ∀ (E : Ent) (ρ : Rho c) (σ : L2.St) (ts : Stk c) (H : Hp) (Q : Bool → Hp → Prop), J c E ρ σ ts H → Wt c E EW (fun b ρ' => ∀ H', J c E ρ' σ ts H' → Q b H') (f ρ) → t σ H Q
section
variable {c : Cf} {X : Cx} {EW : XK} {f : Rho c → Out c (Tm c)} {e : Expr}
theorem SoW.t {f : Rho c → Out c Bool} (h : SoW c X EW f e) : SoT c X EW f e := by
  obtain ⟨t, p, k⟩ := h.ex
  exact ⟨t, p.pt, k⟩
/-- an operand by a binary rule of values -/
theorem so_bin {g : c.O → c.O → Option c.O} {r : R2} {fa fb : Rho c → Out c (Tm c)} {a b e : Expr} (ha : SoE c X EW fa a) (hb : SoE c X EW fb b) (pe : ∀ {ta tb : TE}, PE X a ta → PE X b tb → PE X e (tOp r ta tb))
    (hr : ∀ (E : Ent) (ρ : Rho c) (σ : L2.St) (ts : Stk c) (H : Hp) (Q : VK) (t1 t2 : Tm c) (v1 v2 : V) (x y z : c.O), J c E ρ σ (ts ++ [(t1, v1), (t2, v2)]) H → tO ρ t1 = some x → tO ρ t2 = some y → g x y = some z →
      (∀ v H', J c E ρ σ (ts ++ [(.o z, v)]) H' → Q v H') → r v1 v2 H Q) : SoE c X EW (binS g fa fb) e := by
  obtain ⟨ta, pa, ka⟩ := ha.ex
  obtain ⟨tb, pb, kb⟩ := hb.ex
  refine ⟨_, pe pa pb, fun E ρ σ ts H Q j hw => ?_⟩
  refine ka E ρ σ ts H _ j ((Wt.bind hw).mono fun t1 ρ1 h1 v1 H1 j1 => ?_)
  refine kb E ρ1 σ _ H1 _ j1 ((Wt.bind h1).mono fun t2 ρ2 h2 v2 H2 j2 => ?_)
  rw [List.append_assoc] at j2
  cases e1 : tO ρ2 t1 with
  | none => simp only [e1] at h2; exact h2.elim
  | some x =>
    cases e2 : tO ρ2 t2 with
    | none => simp only [e1, e2] at h2; exact h2.elim
    | some y =>
      cases e3 : g x y with
      | none => simp only [e1, e2, e3] at h2; exact h2.elim
      | some z =>
        simp only [e1, e2, e3] at h2
        exact hr E ρ2 σ ts H2 Q t1 t2 v1 v2 x y z j2 e1 e2 e3 h2
theorem so_un {g : c.O → Option c.O} {r : V → Hp → VK → Prop} {fa : Rho c → Out c (Tm c)} {a e : Expr} (ha : SoE c X EW fa a) (pe : ∀ {ta : TE}, PE X a ta → PE X e (tUn r ta))
    (hr : ∀ (E : Ent) (ρ : Rho c) (σ : L2.St) (ts : Stk c) (H : Hp) (Q : VK) (t1 : Tm c) (v1 : V) (x z : c.O), J c E ρ σ (ts ++ [(t1, v1)]) H → tO ρ t1 = some x → g x = some z →
      (∀ v H', J c E ρ σ (ts ++ [(.o z, v)]) H' → Q v H') → r v1 H Q) : SoE c X EW (unS g fa) e := by
  obtain ⟨ta, pa, ka⟩ := ha.ex
  refine ⟨_, pe pa, fun E ρ σ ts H Q j hw => ?_⟩
  refine ka E ρ σ ts H _ j ((Wt.bind hw).mono fun t1 ρ1 h1 v1 H1 j1 => ?_)
  cases e1 : tO ρ1 t1 with
  | none => simp only [e1] at h1; exact h1.elim
  | some x =>
    cases e3 : g x with
    | none => simp only [e1, e3] at h1; exact h1.elim
    | some z =>
      simp only [e1, e3] at h1
      exact hr E ρ1 σ ts H1 Q t1 v1 x z j1 e1 e3 h1
end

/-! ### arithmetic -/
section
variable {c : Cf} {X : Cx} {E : Ent} {ρ : Rho c} {σ : L2.St} {ts : Stk c} {H : Hp} {Q : VK} {t1 t2 : Tm c} {v1 v2 : V} {x y z : c.O}
theorem J.int1 {n : c.nm.T} {us : Stk c} (j : J c E ρ σ (ts ++ us) H) (hm : (t1, v1) ∈ ts ++ us) (e : Y.tO ρ t1 = some (.fr (.int n))) : v1 = .int (c.nm.val n) := by
  obtain ⟨G, f, s, r⟩ := j.tO hm e
  exact rep_int r.unfr
theorem J.isStr {s : Str} {us : Stk c} (j : J c E ρ σ (ts ++ us) H) (hm : (t1, v1) ∈ ts ++ us) (e : Y.tO ρ t1 = some (.fr (.str s))) : v1 = .str s := by
  obtain ⟨G, f, s, r⟩ := j.tO hm e
  exact rep_str r.unfr
theorem m1 {ts : Stk c} {t1 t2 : Tm c} {v1 v2 : V} : (t1, v1) ∈ ts ++ [(t1, v1), (t2, v2)] := by simp
theorem m2 {ts : Stk c} {t1 t2 : Tm c} {v1 v2 : V} : (t2, v2) ∈ ts ++ [(t1, v1), (t2, v2)] := by simp
theorem m0 {ts : Stk c} {t1 : Tm c} {v1 : V} : (t1, v1) ∈ ts ++ [(t1, v1)] := by simp


def rAddS : R2 := fun x y H Q => ∃ i j, x = .str i ∧ y = .str j ∧ i.length + j.length ≤ sizeLine ∧ Q (.str (i ++ j)) H
def rAddAll (K : PySem.W.Frag) : R2 := fun x y H Q => (rI0 (fun i j => .int (i + j)) x y H Q) ∨ (rCatT K x y H Q) ∨ (rAddS x y H Q) ∨ rCat x y H Q
theorem op_addAll : OpR X (binaryOp .Add) (rAddAll X.K) := op_add.or (op_catT.or (op_add_str.or op_cat))
theorem line6 : 1000000 ≤ sizeLine := by rw [sizeLine_eq]; decide
theorem get_at {α : Type} {l : List α} {i : Nat} : l[i]? = l[i]? := rfl


theorem ra_add (hK : X.K = c.K) (j : J c E ρ σ (ts ++ [(t1, v1), (t2, v2)]) H) (e1 : tO ρ t1 = some x) (e2 : tO ρ t2 = some y) (e3 : addO x y = some z) (k : ∀ v H', J c E ρ σ (ts ++ [(.o z, v)]) H' → Q v H') : rAddAll X.K v1 v2 H Q := by
  unfold addO at e3
  split at e3
  · obtain ⟨n, h1, h2⟩ := Option.map_eq_some_iff.mp e3
    subst h2
    have a1 := j.int1 m1 e1
    have a2 := j.int1 m2 e2
    refine .inl ⟨_, _, a1, a2, ?_⟩
    have e := c.nm.add_ok h1
    show Q (.int (c.nm.val _ + c.nm.val _)) H
    rw [← e]
    exact k _ _ (j.at fun G => .int n)
  · split at e3
    · cases e3
    · rename_i a b hc
      cases e3
      simp only [Bool.or_eq_true, decide_eq_true_eq, not_or, List.isEmpty_iff] at hc
      obtain ⟨h1, h2, h3, G, f, g⟩ := j
      obtain ⟨f0, s0⟩ := g.tO h1 h3 m1 e1
      obtain ⟨f1, s1⟩ := g.tO h1 h3 m2 e2
      obtain ⟨p, xs, ev, q, r0⟩ := rep_tup s0.unfr
      obtain ⟨p', ys, ev', q', r1⟩ := rep_tup s1.unfr
      subst ev ev'
      have lx := r0.length
      have ly := r1.length
      have hx : xs ≠ [] := fun e => by
        rw [e] at lx
        exact hc.1 (List.length_eq_zero_iff.mp lx.symm)
      have l6 := line6
      refine .inr (.inl ⟨p, p', xs, ys, rfl, rfl, by rw [hK]; exact seqT_mono g.sub q, by rw [hK]; exact seqT_mono g.sub q', hx, by omega, fun e => ?_, fun e p0 hp0 => ?_⟩)
      · subst e
        cases r1
        rw [List.append_nil] at k
        exact k _ _ (mkPart h1 h2 h3 g (.tup q r0))
      · exact k _ _ (mkTup h1 h2 h3 g hp0 (r0.append r1))
  · split at e3
    · cases e3
    · rename_i hc
      cases e3
      have l6 := line6
      exact .inr (.inr (.inl ⟨_, _, j.isStr m1 e1, j.isStr m2 e2, by omega, k _ _ (j.at fun G => .str _)⟩))
  · split at e3
    · rename_i a b ha hb
      split at e3
      · cases e3
      · cases e3
        obtain ⟨h1, h2, h3, G, f, g⟩ := j
        obtain ⟨f0, r0⟩ := g.tO h1 h3 m1 e1
        obtain ⟨f1, r1⟩ := g.tO h1 h3 m2 e2
        obtain ⟨p, xs, ev, q, r0⟩ := lItems_rep g.sub r0 ha
        obtain ⟨p', ys, ev', q', r1⟩ := lItems_rep g.sub r1 hb
        have lx := r0.length
        have ly := r1.length
        have l6 := line6
        exact .inr (.inr (.inr ⟨p, p', xs, ys, ev, ev', q, q', by omega, fun p0 hp0 => k _ _ (mkLst h1 h2 h3 g hp0 (r0.append r1))⟩))
    · cases e3
theorem ra_int {g : c.nm.T → c.nm.T → Option c.nm.T} {C : Int → Int → Prop} {o : Int → Int → Int} (hg : ∀ {a b n}, g a b = some n → C (c.nm.val a) (c.nm.val b) ∧ c.nm.val n = o (c.nm.val a) (c.nm.val b)) (j : J c E ρ σ (ts ++ [(t1, v1), (t2, v2)]) H) (e1 : tO ρ t1 = some x) (e2 : tO ρ t2 = some y)
    (e3 : int2 g x y = some z) (k : ∀ v H', J c E ρ σ (ts ++ [(.o z, v)]) H' → Q v H') : rI C (fun i j => .int (o i j)) v1 v2 H Q := by
  unfold int2 at e3
  split at e3
  · obtain ⟨n, h1, h2⟩ := Option.map_eq_some_iff.mp e3
    subst h2
    obtain ⟨hc, hn⟩ := hg h1
    refine ⟨_, _, j.int1 m1 e1, j.int1 m2 e2, hc, ?_⟩
    show Q (.int (o _ _)) H
    rw [← hn]
    exact k _ _ (j.at fun G => .int n)
  · cases e3
theorem so_add {fa fb : Rho c → Out c (Tm c)} {a b : Expr} {EW : XK} {pos : Pos} (hK : X.K = c.K) (ha : SoE c X EW fa a) (hb : SoE c X EW fb b) : SoE c X EW (binS addO fa fb) (.BinOp a .Add b pos) :=
  so_bin ha hb (fun pa pb => pe_op op_addAll pa pb) fun E ρ σ ts H Q t1 t2 v1 v2 x y z j e1 e2 e3 k => ra_add hK j e1 e2 e3 k
theorem so_sub {fa fb : Rho c → Out c (Tm c)} {a b : Expr} {EW : XK} {pos : Pos} (ha : SoE c X EW fa a) (hb : SoE c X EW fb b) : SoE c X EW (binS subO fa fb) (.BinOp a .Sub b pos) :=
  so_bin (r := rI (fun _ _ => True) fun i j => .int (i - j)) ha hb (fun pa pb => pe_op (opI fun _ _ _ _ _ _ _ _ q => sub_int q) pa pb) fun E ρ σ ts H Q t1 t2 v1 v2 x y z j e1 e2 e3 k => ra_int (g := c.nm.sub) (o := fun i j => i - j) (fun h => ⟨trivial, c.nm.sub_ok h⟩) j e1 e2 e3 k
theorem con_of {x : c.O} {i : Int} (h : conOf x = some i) : ∃ n, x = .fr (.int n) ∧ c.nm.val n = i := by
  unfold conOf at h
  split at h
  · exact ⟨_, rfl, c.nm.con_ok h⟩
  · cases h
theorem repL_rep {G : Hp} {xs : List V} {ds : List c.D} (r : RepL c G xs ds) : ∀ k : Nat, RepL c G ((List.replicate k xs).flatten) ((List.replicate k ds).flatten)
  | 0 => .nil
  | k + 1 => by
    rw [List.replicate_succ, List.replicate_succ, List.flatten_cons, List.flatten_cons]
    exact r.append (repL_rep r k)
theorem so_mul {fa fb : Rho c → Out c (Tm c)} {a b : Expr} {EW : XK} {pos : Pos} (ha : SoE c X EW fa a) (hb : SoE c X EW fb b) : SoE c X EW (binS mulO fa fb) (.BinOp a .Mult b pos) :=
  so_bin ha hb (fun pa pb => pe_op (op_mulW.or op_rep) pa pb) fun E ρ σ ts H Q t1 t2 v1 v2 x y z j e1 e2 e3 k => by
    unfold mulO at e3
    split at e3
    · rename_i r e4
      cases e3
      exact .inl (ra_int (g := c.nm.mul) (o := fun i j => i * j) c.nm.mul_ok j e1 e2 e4 k)
    · unfold repO at e3
      split at e3
      · rename_i ds n hds hn
        split at e3
        · rename_i hc
          cases e3
          obtain ⟨m, hm, hv⟩ := con_of hn
          subst hm
          have a2 := j.int1 m2 e2
          obtain ⟨h1, h2, h3, G, f, g⟩ := j
          obtain ⟨f0, s0⟩ := g.tO h1 h3 m1 e1
          obtain ⟨p, xs, ev, hx, rl⟩ := lItems_rep g.sub s0 hds
          have hlen := rl.length
          have l6 : 1000000 < sizeLine := by rw [sizeLine_eq]; decide
          refine .inr ⟨p, n, xs, ev, by rw [a2, hv], hx, by omega, by omega, ?_, fun p0 hp0 => k _ _ (mkLst h1 h2 h3 g hp0 (repL_rep rl n.toNat))⟩
          have : xs.length * n.toNat ≤ 1000 * 1000 := Nat.mul_le_mul (by omega) (by omega)
          omega
        · cases e3
      · cases e3
theorem so_div {fa fb : Rho c → Out c (Tm c)} {a b : Expr} {EW : XK} {pos : Pos} (ha : SoE c X EW fa a) (hb : SoE c X EW fb b) : SoE c X EW (binS divO fa fb) (.BinOp a .FloorDiv b pos) :=
  so_bin (r := rI CDivW fun i j => .int (i / j)) ha hb (fun pa pb => pe_op op_fdivW pa pb) fun E ρ σ ts H Q t1 t2 v1 v2 x y z j e1 e2 e3 k => ra_int (g := c.nm.div) (o := fun i j => i / j) c.nm.div_ok j e1 e2 e3 k
theorem so_mod {fa fb : Rho c → Out c (Tm c)} {a b : Expr} {EW : XK} {pos : Pos} (ha : SoE c X EW fa a) (hb : SoE c X EW fb b) : SoE c X EW (binS modO fa fb) (.BinOp a .Mod b pos) :=
  so_bin (r := rI (fun _ j => 0 < j) fun i j => .int (i % j)) ha hb (fun pa pb => pe_op op_mod pa pb) fun E ρ σ ts H Q t1 t2 v1 v2 x y z j e1 e2 e3 k => ra_int (g := c.nm.mod) (C := fun _ j => 0 < j) (o := fun i j => i % j) c.nm.mod_ok j e1 e2 e3 k
def CPow2 (i j : Int) : Prop := CPow i j ∨ (j = 2 ∧ CMulW i i)
theorem CPow2.bits {i j : Int} (h : j = 2 ∧ CMulW i i) : (Builtin.Int.intBits i : Int) * j ≤ 2 ^ 27 := by
  obtain ⟨h1, h2⟩ := h
  subst h1
  have h3 : i.natAbs.log2 + i.natAbs.log2 < 1000000 := h2
  have b : Builtin.Int.intBits i ≤ i.natAbs.log2 + 1 := by
    unfold Builtin.Int.intBits
    split <;> omega
  have e : (2 : Int) ^ 27 = 134217728 := by decide
  rw [e]
  omega
theorem op_pow2 : OpR X (binaryOp .Pow) (rI CPow2 fun i j => .int (i ^ j.toNat)) := opI fun i j _ _ _ _ _ hc q => by
  rcases hc with h | h
  · exact pow_int_small h.1 h.2.1 h.2.2 q
  · exact pow_int (by omega) (CPow2.bits h) q
theorem so_pow {fa fb : Rho c → Out c (Tm c)} {a b : Expr} {EW : XK} {pos : Pos} (ha : SoE c X EW fa a) (hb : SoE c X EW fb b) : SoE c X EW (binS powO fa fb) (.BinOp a .Pow b pos) :=
  so_bin (r := rI CPow2 fun i j => .int (i ^ j.toNat)) ha hb (fun pa pb => pe_op op_pow2 pa pb) fun E ρ σ ts H Q t1 t2 v1 v2 x y z j e1 e2 e3 k => by
    have sq : ∀ {n m : c.nm.T} {k0 : Int}, x = .fr (.int n) → y = .fr (.int m) → c.nm.con m = some k0 → k0 = 2 → (c.nm.mul n n).map (fun n => OT.fr (D.int n)) = some z → rI CPow2 (fun i j => .int (i ^ j.toNat)) v1 v2 H Q := by
      intro n m k0 hx hy hk h2 hm
      subst hx hy
      obtain ⟨r, h3, h4⟩ := Option.map_eq_some_iff.mp hm
      subst h4
      obtain ⟨hc, hn⟩ := c.nm.mul_ok h3
      have a1 := j.int1 m1 e1
      have a2 := j.int1 m2 e2
      rw [c.nm.con_ok hk, h2] at a2
      refine ⟨_, 2, a1, a2, .inr ⟨rfl, hc⟩, ?_⟩
      have e : c.nm.val n ^ (2 : Int).toNat = c.nm.val r := by
        rw [hn]
        show c.nm.val n ^ 2 = _
        rw [Int.pow_succ, Int.pow_succ, Int.pow_zero, Int.one_mul]
      show Q (.int (c.nm.val n ^ (2 : Int).toNat)) H
      rw [e]
      exact k _ _ (j.at fun G => .int r)
    unfold powO at e3
    split at e3
    · rename_i n m
      split at e3
      · rename_i i k0 hi hk
        split at e3
        · rename_i hc
          cases e3
          have a1 := j.int1 m1 e1
          have a2 := j.int1 m2 e2
          rw [c.nm.con_ok hi] at a1
          rw [c.nm.con_ok hk] at a2
          refine ⟨i, k0, a1, a2, .inl ⟨hc.1, by omega, by omega⟩, k _ _ (j.at fun G => ?_)⟩
          have e := c.nm.lit_ok (i ^ k0.toNat)
          rw [← e]
          have := Rep.int (c := c) (G := G) (c.nm.lit (i ^ k0.toNat))
          rw [e] at this ⊢
          exact this
        · split at e3
          · rename_i h2
            exact sq rfl rfl hk h2 e3
          · cases e3
      · rename_i k0 hi hk
        split at e3
        · rename_i h2
          exact sq rfl rfl hk h2 e3
        · cases e3
      · cases e3
    · cases e3
theorem so_neg {fa : Rho c → Out c (Tm c)} {a : Expr} {EW : XK} {pos : Pos} (ha : SoE c X EW fa a) : SoE c X EW (unS negO fa) (.UnaryOp .USub a pos) :=
  so_un ha (fun pa => pe_un un_neg pa) fun E ρ σ ts H Q t1 v1 x z j e1 e3 k => by
    unfold negO at e3
    split at e3
    · rename_i n
      cases e3
      refine ⟨_, j.int1 m0 e1, ?_⟩
      show Q (.int (- c.nm.val n)) H
      rw [← c.nm.neg_ok]
      exact k _ _ (j.at fun G => .int _)
    · cases e3
theorem lit_rep {G : Hp} (i : Int) : Rep c G (.int i) (.int (c.nm.lit i)) := by
  have := Rep.int (c := c) (G := G) (c.nm.lit i)
  rw [c.nm.lit_ok] at this
  exact this
/-! ### comparisons -/
theorem cmp_lt {a b : Int} {o : Ordering} (h : compare a b = o) : (o == .lt) = decide (a < b) := by
  subst h
  rw [Int.compare_eq_ite_lt]
  split
  · simp [*]
  · split <;> simp [*]
theorem cmp_gt {a b : Int} {o : Ordering} (h : compare a b = o) : (o == .gt) = decide (b < a) := by
  subst h
  rw [Int.compare_eq_ite_lt]
  split
  · rename_i h; simp; omega
  · split <;> simp [*]
theorem cmp_eq {a b : Int} {o : Ordering} (h : compare a b = o) : (o == .eq) = (a == b) := by
  subst h
  rw [Int.compare_eq_ite_lt, Bool.eq_iff_iff]
  split
  · rename_i h; simp; omega
  · split
    · rename_i h1 h; simp; omega
    · rename_i h1 h; simp; omega
theorem ra_cmp {p : Ordering → Bool} {o : Int → Int → Bool} (hp : ∀ {a b : Int} {q : Ordering}, compare a b = q → p q = o a b) (j : J c E ρ σ (ts ++ [(t1, v1), (t2, v2)]) H) (e1 : tO ρ t1 = some x) (e2 : tO ρ t2 = some y) (e3 : cmpI p x y = some z)
    (k : ∀ v H', J c E ρ σ (ts ++ [(.o z, v)]) H' → Q v H') : rI0 (fun i j => .bl (o i j)) v1 v2 H Q := by
  unfold cmpI at e3
  split at e3
  · obtain ⟨n, h1, h2⟩ := Option.map_eq_some_iff.mp e3
    subst h2
    refine ⟨_, _, j.int1 m1 e1, j.int1 m2 e2, ?_⟩
    show Q (.bl (o _ _)) H
    rw [← hp (c.nm.cmp_ok h1)]
    exact k _ _ (j.at fun G => .bl _)
  · cases e3
mutual
def den : c.D → Option PyData
  | .non => some .none | .bl b => some (.bool b) | .int n => some (.int (c.nm.val n)) | .str s => some (.str s)
  | .lst l => (dens l).map .list
  | .tup l => (dens l).map .tuple
  | _ => none
def dens : List c.D → Option (List PyData)
  | [] => some []
  | d :: ds => match den d, dens ds with
    | some a, some b => some (a :: b)
    | _, _ => none
end
mutual
theorem dep_ok : ∀ {d : c.D} {n : Nat}, dep d = some n → ∃ p, den d = some p ∧ p.canLay0 = true ∧ p.depth ≤ n
  | .non, _, h => ⟨_, rfl, rfl, by simp [PyData.depth]⟩
  | .bl _, _, h => ⟨_, rfl, rfl, by simp [PyData.depth]⟩
  | .int _, _, h => ⟨_, rfl, rfl, by simp [PyData.depth]⟩
  | .str s, _, h => by
    simp only [dep] at h
    split at h
    · rename_i hc; exact ⟨_, rfl, hc, by simp [PyData.depth]⟩
    · cases h
  | .lst l, n, h => by
    simp only [dep] at h
    obtain ⟨m, e, e2⟩ := Option.map_eq_some_iff.mp h
    obtain ⟨ps, h1, h2, h3⟩ := deps_ok e
    exact ⟨.list ps, by simp only [den]; rw [h1]; rfl, by simp only [PyData.canLay0]; exact h2, by simp only [PyData.depth]; omega⟩
  | .tup l, n, h => by
    simp only [dep] at h
    obtain ⟨m, e, e2⟩ := Option.map_eq_some_iff.mp h
    obtain ⟨ps, h1, h2, h3⟩ := deps_ok e
    exact ⟨.tuple ps, by simp only [den]; rw [h1]; rfl, by simp only [PyData.canLay0]; exact h2, by simp only [PyData.depth]; omega⟩
  | .obj _ _, _, h => by simp [dep] at h
  | .dct _ _, _, h => by simp [dep] at h
  | .scr _, _, h => by simp [dep] at h
theorem deps_ok : ∀ {d : List c.D} {n : Nat}, deps d = some n → ∃ p, dens d = some p ∧ PyData.canLayAll0 p = true ∧ PyData.depthAll p ≤ n
  | [], _, h => ⟨[], rfl, rfl, by simp [PyData.depthAll]⟩
  | d :: ds, n, h => by
    simp only [deps] at h
    split at h
    · rename_i a b h1 h2
      cases h
      obtain ⟨p, p1, p2, p3⟩ := dep_ok h1
      obtain ⟨q, q1, q2, q3⟩ := deps_ok h2
      exact ⟨p :: q, by simp only [dens]; rw [p1, q1], by simp only [PyData.canLayAll0]; rw [p2, q2]; rfl, by simp only [PyData.depthAll]; omega⟩
    · cases h
end
theorem shp_ok {d : c.D} (h : shp d = true) : ∃ p, den d = some p ∧ SeqAt.shaped p = true ∧ p.depth ≤ 30 := by
  unfold shp at h
  split at h
  · rename_i n e
    obtain ⟨p, h1, h2, h3⟩ := dep_ok e
    have hn : n ≤ 30 := of_decide_eq_true h
    exact ⟨p, h1, by unfold SeqAt.shaped; rw [h2]; simp; omega, by omega⟩
  · cases h
mutual
theorem rep_dp {G : Hp} : ∀ {v : V} {d : c.D} {p : PyData}, Rep c G v d → den d = some p → Dp c.K G v p
  | _, _, _, .non, h => by cases h; exact .non
  | _, _, _, .bl b, h => by cases h; exact .bl b
  | _, _, _, .int n, h => by cases h; exact .int _
  | _, _, _, .str s, h => by cases h; exact .str s
  | _, _, _, .tup s r, h => by
    simp only [den] at h
    obtain ⟨q, e, e2⟩ := Option.map_eq_some_iff.mp h
    subst e2
    exact .tup s (rep_dps r e)
  | _, _, _, .lst s r, h => by
    simp only [den] at h
    obtain ⟨q, e, e2⟩ := Option.map_eq_some_iff.mp h
    subst e2
    exact .lst (SqL.of s) (rep_dps r e)
  | _, _, _, .scr s r, h => by simp [den] at h
theorem rep_dps {G : Hp} : ∀ {v : List V} {d : List c.D} {p : List PyData}, RepL c G v d → dens d = some p → DpAll c.K G v p
  | _, _, _, .nil, h => by cases h; exact .nil
  | _, _, _, .cons a b, h => by
    simp only [dens] at h
    split at h
    · rename_i h1 h2; cases h; exact .cons (rep_dp a h1) (rep_dps b h2)
    · cases h
end
end
end Y

set_option Elab.async false
set_option linter.all false
set_option maxRecDepth 100000
set_option maxHeartbeats 4000000
namespace Y
open PySem PySem.Spec PyProof.Rows L2
section
variable {c : Cf}
mutual
theorem eqD_ok : ∀ {a b : c.D} {r : Bool} {p q : PyData}, eqD a b = some r → den a = some p → den b = some q → PyData.eqv p q = r
  | .lst a, .lst b, r, p, q, h, hp, hq => by
    simp only [den] at hp hq
    obtain ⟨ps, e1, e2⟩ := Option.map_eq_some_iff.mp hp
    obtain ⟨qs, e3, e4⟩ := Option.map_eq_some_iff.mp hq
    subst e2 e4
    simp only [PyData.eqv]
    exact eqDs_ok (by simpa only [eqD] using h) e1 e3
  | .tup a, .tup b, r, p, q, h, hp, hq => by
    simp only [den] at hp hq
    obtain ⟨ps, e1, e2⟩ := Option.map_eq_some_iff.mp hp
    obtain ⟨qs, e3, e4⟩ := Option.map_eq_some_iff.mp hq
    subst e2 e4
    simp only [PyData.eqv]
    exact eqDs_ok (by simpa only [eqD] using h) e1 e3
  | .int a, .int b, r, p, q, h, hp, hq => by
    cases hp; cases hq
    simp only [eqD] at h
    obtain ⟨o, e1, e2⟩ := Option.map_eq_some_iff.mp h
    subst e2
    simp only [PyData.eqv]
    rw [cmp_eq (c.nm.cmp_ok e1)]
  | .non, .non, r, p, q, h, hp, hq => by cases hp; cases hq; cases h; rfl
  | .bl a, .bl b, r, p, q, h, hp, hq => by cases hp; cases hq; cases h; rfl
  | .str a, .str b, r, p, q, h, hp, hq => by cases hp; cases hq; cases h; rfl
  | .non, .bl _, r, p, q, h, hp, hq => by cases hp; cases hq; cases h; rfl
  | .non, .int _, r, p, q, h, hp, hq => by cases hp; cases hq; cases h; rfl
  | .non, .str _, r, p, q, h, hp, hq => by cases hp; cases hq; cases h; rfl
  | .bl _, .non, r, p, q, h, hp, hq => by cases hp; cases hq; cases h; rfl
  | .bl _, .str _, r, p, q, h, hp, hq => by cases hp; cases hq; cases h; rfl
  | .int _, .non, r, p, q, h, hp, hq => by cases hp; cases hq; cases h; rfl
  | .int _, .str _, r, p, q, h, hp, hq => by cases hp; cases hq; cases h; rfl
  | .str _, .non, r, p, q, h, hp, hq => by cases hp; cases hq; cases h; rfl
  | .str _, .bl _, r, p, q, h, hp, hq => by cases hp; cases hq; cases h; rfl
  | .str _, .int _, r, p, q, h, hp, hq => by cases hp; cases hq; cases h; rfl
  | .non, .lst _, r, p, q, h, hp, hq => by
    cases hp; simp only [den] at hq; obtain ⟨qs, e3, e4⟩ := Option.map_eq_some_iff.mp hq; subst e4; cases h; simp only [PyData.eqv]
  | .non, .tup _, r, p, q, h, hp, hq => by
    cases hp; simp only [den] at hq; obtain ⟨qs, e3, e4⟩ := Option.map_eq_some_iff.mp hq; subst e4; cases h; simp only [PyData.eqv]
  | .bl _, .lst _, r, p, q, h, hp, hq => by
    cases hp; simp only [den] at hq; obtain ⟨qs, e3, e4⟩ := Option.map_eq_some_iff.mp hq; subst e4; cases h; simp only [PyData.eqv]
  | .bl _, .tup _, r, p, q, h, hp, hq => by
    cases hp; simp only [den] at hq; obtain ⟨qs, e3, e4⟩ := Option.map_eq_some_iff.mp hq; subst e4; cases h; simp only [PyData.eqv]
  | .int _, .lst _, r, p, q, h, hp, hq => by
    cases hp; simp only [den] at hq; obtain ⟨qs, e3, e4⟩ := Option.map_eq_some_iff.mp hq; subst e4; cases h; simp only [PyData.eqv]
  | .int _, .tup _, r, p, q, h, hp, hq => by
    cases hp; simp only [den] at hq; obtain ⟨qs, e3, e4⟩ := Option.map_eq_some_iff.mp hq; subst e4; cases h; simp only [PyData.eqv]
  | .str _, .lst _, r, p, q, h, hp, hq => by
    cases hp; simp only [den] at hq; obtain ⟨qs, e3, e4⟩ := Option.map_eq_some_iff.mp hq; subst e4; cases h; simp only [PyData.eqv]
  | .str _, .tup _, r, p, q, h, hp, hq => by
    cases hp; simp only [den] at hq; obtain ⟨qs, e3, e4⟩ := Option.map_eq_some_iff.mp hq; subst e4; cases h; simp only [PyData.eqv]
  | .lst _, .non, r, p, q, h, hp, hq => by
    cases hq; simp only [den] at hp; obtain ⟨qs, e3, e4⟩ := Option.map_eq_some_iff.mp hp; subst e4; cases h; simp only [PyData.eqv]
  | .lst _, .bl _, r, p, q, h, hp, hq => by
    cases hq; simp only [den] at hp; obtain ⟨qs, e3, e4⟩ := Option.map_eq_some_iff.mp hp; subst e4; cases h; simp only [PyData.eqv]
  | .lst _, .int _, r, p, q, h, hp, hq => by
    cases hq; simp only [den] at hp; obtain ⟨qs, e3, e4⟩ := Option.map_eq_some_iff.mp hp; subst e4; cases h; simp only [PyData.eqv]
  | .lst _, .str _, r, p, q, h, hp, hq => by
    cases hq; simp only [den] at hp; obtain ⟨qs, e3, e4⟩ := Option.map_eq_some_iff.mp hp; subst e4; cases h; simp only [PyData.eqv]
  | .lst _, .tup _, r, p, q, h, hp, hq => by
    simp only [den] at hp hq; obtain ⟨qs, e3, e4⟩ := Option.map_eq_some_iff.mp hp; obtain ⟨qs', e3', e4'⟩ := Option.map_eq_some_iff.mp hq; subst e4 e4'; cases h; simp only [PyData.eqv]
  | .tup _, .lst _, r, p, q, h, hp, hq => by
    simp only [den] at hp hq; obtain ⟨qs, e3, e4⟩ := Option.map_eq_some_iff.mp hp; obtain ⟨qs', e3', e4'⟩ := Option.map_eq_some_iff.mp hq; subst e4 e4'; cases h; simp only [PyData.eqv]
  | .tup _, .non, r, p, q, h, hp, hq => by
    cases hq; simp only [den] at hp; obtain ⟨qs, e3, e4⟩ := Option.map_eq_some_iff.mp hp; subst e4; cases h; simp only [PyData.eqv]
  | .tup _, .bl _, r, p, q, h, hp, hq => by
    cases hq; simp only [den] at hp; obtain ⟨qs, e3, e4⟩ := Option.map_eq_some_iff.mp hp; subst e4; cases h; simp only [PyData.eqv]
  | .tup _, .int _, r, p, q, h, hp, hq => by
    cases hq; simp only [den] at hp; obtain ⟨qs, e3, e4⟩ := Option.map_eq_some_iff.mp hp; subst e4; cases h; simp only [PyData.eqv]
  | .tup _, .str _, r, p, q, h, hp, hq => by
    cases hq; simp only [den] at hp; obtain ⟨qs, e3, e4⟩ := Option.map_eq_some_iff.mp hp; subst e4; cases h; simp only [PyData.eqv]
  | .bl _, .int _, r, p, q, h, hp, hq => by cases h
  | .int _, .bl _, r, p, q, h, hp, hq => by cases h
  | .obj _ _, _, r, p, q, h, hp, hq => by cases hp
  | .dct _ _, _, r, p, q, h, hp, hq => by cases hp
  | .scr _, _, r, p, q, h, hp, hq => by cases hp
  | _, .obj _ _, r, p, q, h, hp, hq => by cases hq
  | _, .dct _ _, r, p, q, h, hp, hq => by cases hq
  | _, .scr _, r, p, q, h, hp, hq => by cases hq
theorem eqDs_ok : ∀ {a b : List c.D} {r : Bool} {p q : List PyData}, eqDs a b = some r → dens a = some p → dens b = some q → PyData.eqvAll p q = r
  | [], [], r, p, q, h, hp, hq => by cases hp; cases hq; cases h; simp [PyData.eqvAll]
  | [], y :: ys, r, p, q, h, hp, hq => by
    cases hp
    simp only [dens] at hq
    split at hq
    · cases hq; cases h; simp only [PyData.eqvAll]
    · cases hq
  | x :: xs, [], r, p, q, h, hp, hq => by
    cases hq
    simp only [dens] at hp
    split at hp
    · cases hp; cases h; simp only [PyData.eqvAll]
    · cases hp
  | x :: xs, y :: ys, r, p, q, h, hp, hq => by
    simp only [dens] at hp hq
    split at hp
    · rename_i a1 b1 e1 e2
      split at hq
      · rename_i a2 b2 e3 e4
        cases hp; cases hq
        simp only [eqDs] at h
        simp only [PyData.eqvAll]
        split at h
        · rename_i e5
          rw [eqD_ok e5 e1 e3, eqDs_ok h e2 e4]; rfl
        · rename_i e5
          cases h
          rw [eqD_ok e5 e1 e3]; rfl
        · cases h
      · cases hq
    · cases hp
end
theorem anyEq_ok {x : c.D} {q : PyData} (hq : den x = some q) : ∀ {ds : List c.D} {r : Bool} {ps : List PyData}, anyEq x ds = some r → dens ds = some ps → ps.any (fun z => PyData.eqv z q) = r
  | [], r, ps, h, hp => by cases hp; cases h; rfl
  | d :: ds, r, ps, h, hp => by
    simp only [dens] at hp
    split at hp
    · rename_i a1 b1 e1 e2
      cases hp
      simp only [anyEq] at h
      split at h
      · rename_i a b h1 h2
        cases h
        rw [List.any_cons, eqD_ok h1 e1 hq, anyEq_ok hq h2 e2]
      · cases h
    · cases hp
theorem den_lst {ds : List c.D} {p : PyData} (h : den (.lst ds) = some p) : ∃ ps, p = .list ps ∧ dens ds = some ps := by
  simp only [den] at h
  obtain ⟨ps, e, e2⟩ := Option.map_eq_some_iff.mp h
  exact ⟨ps, e2.symm, e⟩
end
section
variable {c : Cf} {X : Cx} {EW : XK} {E : Ent} {ρ : Rho c} {σ : L2.St} {ts : Stk c} {H : Hp} {Q : VK} {t1 t2 : Tm c} {v1 v2 : V} {x y z : c.O}
theorem tD_of (h : tO ρ t1 = some x) : Y.tD ρ t1 = some x.d := by unfold Y.tD; rw [h]; rfl
theorem ra_eq {neg : Bool} (hK : X.K = c.K) (j : J c E ρ σ (ts ++ [(t1, v1), (t2, v2)]) H) (e1 : tO ρ t1 = some x) (e2 : tO ρ t2 = some y) (e3 : (if shp x.d && shp y.d then (eqD x.d y.d).map fun b => (.fr (.bl (b ^^ neg)) : c.O) else none) = some z)
    (k : ∀ v H', J c E ρ σ (ts ++ [(.o z, v)]) H' → Q v H') : ∃ d e, Dp X.K H v1 d ∧ Dp X.K H v2 e ∧ SeqAt.shaped d = true ∧ SeqAt.shaped e = true ∧ Q (.bl (PyData.eqv d e ^^ neg)) H := by
  split at e3
  · rename_i hs
    obtain ⟨s1, s2⟩ := Bool.and_eq_true_iff.mp hs
    obtain ⟨p, p1, p2, _⟩ := shp_ok s1
    obtain ⟨q, q1, q2, _⟩ := shp_ok s2
    obtain ⟨b, b1, b2⟩ := Option.map_eq_some_iff.mp e3
    subst b2
    refine ⟨p, q, by rw [hK]; exact rep_dp (j.tD m1 (tD_of e1)) p1, by rw [hK]; exact rep_dp (j.tD m2 (tD_of e2)) q1, p2, q2, ?_⟩
    rw [eqD_ok b1 p1 q1]
    exact k _ _ (j.at fun G => .bl _)
  · cases e3
theorem so_eq {fa fb : Rho c → Out c (Tm c)} {a b : Expr} {pos : Pos} (hu : X.A.units + 64 < cLine) (hK : X.K = c.K) (ha : SoE c X EW fa a) (hb : SoE c X EW fb b) : SoE c X EW (binS eqO fa fb) (.Compare a [.Eq] [b] pos) :=
  so_bin ha hb (fun pa pb => pe_cmpR (op_eqD hu) pa pb (nomark _)) fun E ρ σ ts H Q t1 t2 v1 v2 x y z j e1 e2 e3 k => by
    have := ra_eq (neg := false) hK j e1 e2 (by simpa only [eqO, Bool.xor_false] using e3) k
    simpa only [rEqD, Bool.xor_false] using this
theorem so_ne {fa fb : Rho c → Out c (Tm c)} {a b : Expr} {pos : Pos} (hu : X.A.units + 64 < cLine) (hK : X.K = c.K) (ha : SoE c X EW fa a) (hb : SoE c X EW fb b) : SoE c X EW (binS neO fa fb) (.Compare a [.NotEq] [b] pos) :=
  so_bin ha hb (fun pa pb => pe_cmpR (op_neD hu) pa pb (nomark _)) fun E ρ σ ts H Q t1 t2 v1 v2 x y z j e1 e2 e3 k => by
    have := ra_eq (neg := true) hK j e1 e2 (by simpa only [neO, Bool.xor_true] using e3) k
    simpa only [rNeD, Bool.xor_true] using this
/-! in: a list of data; a tuple of flat things -/
theorem flat_v {G : Hp} {v : V} {d : c.D} (r : Rep c G v d) (h : flatD d = true) : flatV v = true := by
  cases r <;> first | rfl | cases h
theorem flat_vs {G : Hp} : ∀ {vs : List V} {ds : List c.D}, RepL c G vs ds → ds.all flatD = true → vs.all flatV = true
  | _, _, .nil, _ => rfl
  | _, _, .cons a b, h => by
    rw [List.all_cons, Bool.and_eq_true] at h ⊢
    exact ⟨flat_v a h.1, flat_vs b h.2⟩
theorem eqV_of {G : Hp} {v w : V} {d e : c.D} {r : Bool} (rv : Rep c G v d) (rw' : Rep c G w e) (fd : flatD d = true) (fe : flatD e = true) (h : eqD d e = some r) : eqV v w = r := by
  cases rv <;> cases rw' <;> first
    | (cases fd; done)
    | (cases fe; done)
    | (cases h; rfl)
    | (exfalso; simp [eqD] at h; done)
    | (simp only [eqD] at h; obtain ⟨o, e1, e2⟩ := Option.map_eq_some_iff.mp h; subst e2; simp only [eqV]; rw [cmp_eq (c.nm.cmp_ok e1)])
    | (simp only [eqD] at h; cases h; simp [eqV])
theorem inV_of {G : Hp} {v : V} {d : c.D} (rv : Rep c G v d) (fd : flatD d = true) : ∀ {vs : List V} {ds : List c.D} {r : Bool}, RepL c G vs ds → ds.all flatD = true → anyEq d ds = some r → inV v vs = r
  | _, _, r, .nil, _, h => by cases h; rfl
  | _, _, r, .cons a b, hf, h => by
    rw [List.all_cons, Bool.and_eq_true] at hf
    simp only [anyEq] at h
    split at h
    · rename_i h1 h2
      cases h
      have q := inV_of rv fd b hf.2 h2
      unfold inV at q ⊢
      rw [List.any_cons, q, eqV_of a rv hf.1 fd h1]
    · cases h
theorem ra_in {neg : Bool} (hK : X.K = c.K) (j : J c E ρ σ (ts ++ [(t1, v1), (t2, v2)]) H) (e1 : tO ρ t1 = some x) (e2 : tO ρ t2 = some y) (e3 : ((inB x.d y.d).map fun b => (.fr (.bl (b ^^ neg)) : c.O)) = some z)
    (k : ∀ v H', J c E ρ σ (ts ++ [(.o z, v)]) H' → Q v H') :
    (∃ d ds, Dp X.K H v1 d ∧ Dp X.K H v2 (.list ds) ∧ SeqAt.shaped d = true ∧ SeqAt.shaped (.list ds) = true ∧ Q (.bl ((ds.any fun z => PyData.eqv z d) ^^ neg)) H) ∨
    (∃ p xs, v2 = .ref p ∧ (SqL X.K H p xs ∨ SqT X.K H p xs) ∧ flatV v1 = true ∧ xs.all flatV = true ∧ Q (.bl (inV v1 xs ^^ neg)) H) := by
  obtain ⟨b, b1, b2⟩ := Option.map_eq_some_iff.mp e3
  subst b2
  have r1 := j.tD m1 (tD_of e1)
  have r2 := j.tD m2 (tD_of e2)
  generalize x.d = dx at b1 r1
  generalize y.d = dy at b1 r2
  unfold inB at b1
  split at b1
  · split at b1
    · rename_i hs
      obtain ⟨s1, s2⟩ := Bool.and_eq_true_iff.mp hs
      obtain ⟨p, p1, p2, _⟩ := shp_ok s1
      obtain ⟨q, q1, q2, _⟩ := shp_ok s2
      obtain ⟨qs, rfl, q3⟩ := den_lst q1
      refine .inl ⟨p, qs, by rw [hK]; exact rep_dp r1 p1, by rw [hK]; exact rep_dp r2 q1, p2, q2, ?_⟩
      rw [anyEq_ok p1 b1 q3]
      exact k _ _ (j.at fun G => .bl _)
    · cases b1
  · split at b1
    · rename_i hs
      obtain ⟨s1, s2⟩ := Bool.and_eq_true_iff.mp hs
      obtain ⟨p, xs, ev, q, rl⟩ := rep_tup r2
      refine .inr ⟨p, xs, ev, .inr (by rw [hK]; exact q), flat_v r1 s1, flat_vs rl s2, ?_⟩
      rw [inV_of r1 s1 rl s2 b1]
      exact k _ _ (j.at fun G => .bl _)
    · cases b1
  · cases b1
theorem so_in {fa fb : Rho c → Out c (Tm c)} {a b : Expr} {pos : Pos} (hu : X.A.units + 65 < cLine) (hm : behindInMarks .In b = false) (hK : X.K = c.K) (ha : SoE c X EW fa a) (hb : SoE c X EW fb b) : SoE c X EW (binS inO fa fb) (.Compare a [.In] [b] pos) :=
  so_bin ha hb (fun pa pb => pe_cmpR ((op_inD hu).or op_in_seq) pa pb hm) fun E ρ σ ts H Q t1 t2 v1 v2 x y z j e1 e2 e3 k => by
    have := ra_in (neg := false) hK j e1 e2 (by simpa only [inO, Bool.xor_false] using e3) k
    simpa only [rInD, rIn, Bool.xor_false, Bool.false_eq_true, if_false] using this
theorem so_ni {fa fb : Rho c → Out c (Tm c)} {a b : Expr} {pos : Pos} (hu : X.A.units + 65 < cLine) (hm : behindInMarks .NotIn b = false) (hK : X.K = c.K) (ha : SoE c X EW fa a) (hb : SoE c X EW fb b) : SoE c X EW (binS niO fa fb) (.Compare a [.NotIn] [b] pos) :=
  so_bin ha hb (fun pa pb => pe_cmpR ((op_notInD hu).or op_notIn_seq) pa pb hm) fun E ρ σ ts H Q t1 t2 v1 v2 x y z j e1 e2 e3 k => by
    have := ra_in (neg := true) hK j e1 e2 (by simpa only [niO, Bool.xor_true] using e3) k
    simpa only [rNotInD, rIn, Bool.xor_true, if_true] using this
theorem so_lt {fa fb : Rho c → Out c (Tm c)} {a b : Expr} {pos : Pos} (ha : SoE c X EW fa a) (hb : SoE c X EW fb b) : SoE c X EW (binS (cmpI (· == .lt)) fa fb) (.Compare a [.Lt] [b] pos) :=
  so_bin ha hb (fun pa pb => pe_cmpR op_lt pa pb (nomark _)) fun E ρ σ ts H Q t1 t2 v1 v2 x y z j e1 e2 e3 k => ra_cmp (o := fun i j => decide (i < j)) cmp_lt j e1 e2 e3 k
theorem so_gt {fa fb : Rho c → Out c (Tm c)} {a b : Expr} {pos : Pos} (ha : SoE c X EW fa a) (hb : SoE c X EW fb b) : SoE c X EW (binS (cmpI (· == .gt)) fa fb) (.Compare a [.Gt] [b] pos) :=
  so_bin ha hb (fun pa pb => pe_cmpR op_gt pa pb (nomark _)) fun E ρ σ ts H Q t1 t2 v1 v2 x y z j e1 e2 e3 k => ra_cmp (o := fun i j => decide (j < i)) cmp_gt j e1 e2 e3 k
theorem so_le {fa fb : Rho c → Out c (Tm c)} {a b : Expr} {pos : Pos} (ha : SoE c X EW fa a) (hb : SoE c X EW fb b) : SoE c X EW (binS (cmpI (fun o => !(o == .gt))) fa fb) (.Compare a [.LtE] [b] pos) :=
  so_bin ha hb (fun pa pb => pe_cmpR op_le pa pb (nomark _)) fun E ρ σ ts H Q t1 t2 v1 v2 x y z j e1 e2 e3 k => ra_cmp (o := fun i j => decide (i ≤ j)) (fun {a b o} h => by rw [cmp_gt h, Bool.eq_iff_iff]; simp) j e1 e2 e3 k
theorem so_ge {fa fb : Rho c → Out c (Tm c)} {a b : Expr} {pos : Pos} (ha : SoE c X EW fa a) (hb : SoE c X EW fb b) : SoE c X EW (binS (cmpI (fun o => !(o == .lt))) fa fb) (.Compare a [.GtE] [b] pos) :=
  so_bin ha hb (fun pa pb => pe_cmpR op_ge pa pb (nomark _)) fun E ρ σ ts H Q t1 t2 v1 v2 x y z j e1 e2 e3 k => ra_cmp (o := fun i j => decide (j ≤ i)) (fun {a b o} h => by rw [cmp_lt h, Bool.eq_iff_iff]; simp) j e1 e2 e3 k
theorem ra_isN (j : J c E ρ σ (ts ++ [(t1, v1), (t2, v2)]) H) (e1 : tO ρ t1 = some x) : decide (v1 = .non) = isNon x := by
  obtain ⟨G, f, s, r⟩ := j.tO m1 e1
  cases r with
  | fr r => cases r <;> rfl
  | lst _ _ _ => rfl
  | dct _ _ _ _ => rfl
  | obj _ _ _ _ => rfl
theorem isNon_of (h : isNon x = true) : x = .fr .non := by
  unfold isNon at h
  split at h
  · rfl
  · cases h
theorem so_isN {fa fb : Rho c → Out c (Tm c)} {a b : Expr} {pos : Pos} (ha : SoE c X EW fa a) (hb : SoE c X EW fb b) : SoE c X EW (binS isNO fa fb) (.Compare a [.Is] [b] pos) :=
  so_bin ha hb (fun pa pb => pe_cmpR op_isN pa pb (nomark _)) fun E ρ σ ts H Q t1 t2 v1 v2 x y z j e1 e2 e3 k => by
    unfold isNO at e3
    split at e3
    · rename_i hy
      have e4 := isNon_of hy
      subst e4
      cases e3
      obtain ⟨G, f, s, r⟩ := j.tO m2 e2
      refine ⟨rep_non r.unfr, ?_⟩
      rw [ra_isN j e1]
      exact k _ _ (j.at fun G => .bl _)
    · cases e3
theorem so_nsN {fa fb : Rho c → Out c (Tm c)} {a b : Expr} {pos : Pos} (ha : SoE c X EW fa a) (hb : SoE c X EW fb b) : SoE c X EW (binS nsNO fa fb) (.Compare a [.IsNot] [b] pos) :=
  so_bin ha hb (fun pa pb => pe_cmpR op_notN pa pb (nomark _)) fun E ρ σ ts H Q t1 t2 v1 v2 x y z j e1 e2 e3 k => by
    unfold nsNO at e3
    split at e3
    · rename_i hy
      have e4 := isNon_of hy
      subst e4
      cases e3
      obtain ⟨G, f, s, r⟩ := j.tO m2 e2
      refine ⟨rep_non r.unfr, ?_⟩
      rw [ra_isN j e1]
      exact k _ _ (j.at fun G => .bl _)
    · cases e3
/-! ### constants, names -/
theorem so_const {d : c.D} {v : V} {e : Expr} (he : PE X e (tC v)) (h : ∀ G : Hp, Rep c G v d) : SoE c X EW (constS d) e :=
  ⟨_, he, fun E ρ σ ts H Q j hw => hw v H (j.atom h)⟩
theorem so_var {i : Nat} {n : Str} {pos : Pos} (hN : X.N[i]? = some n) (hv : Vis X.env.scope n) (hd : (n == ("__debug__" : Str)) = false) (hcd : (n == ("__classdict__" : Str)) = false) :
    SoE c X EW (fun ρ => match (ρ[i]?).join with | some _ => .ok (.sl i) ρ | none => .bad) (.Name n pos) :=
  ⟨_, pe_var hN hv hd hcd, fun E ρ σ ts H Q j hw => by
    cases e : (ρ[i]?).join with
    | none => simp only [e] at hw; exact hw.elim
    | some o =>
      simp only [e] at hw
      have e' := join_some e
      obtain ⟨h1, h2, h3, G, f, g⟩ := id j
      have hi : i < ρ.length := (List.getElem?_eq_some_iff.mp e').1
      obtain ⟨w, e2, r⟩ := g.rep i o (by rw [List.getElem?_append_left hi]; exact e')
      rw [List.getElem?_append_left (by omega)] at e2
      exact ⟨w, e2, hw w H (j.slot e2 ⟨o, e'⟩)⟩⟩
/-! ### tests -/
theorem so_tru {fa : Rho c → Out c (Tm c)} {a : Expr} (hK : X.K = c.K) (ha : SoE c X EW fa a) (he : ∀ whole, isTrue a X.env whole = (do let v ← whole; standAt a.pos; holding [v] (truthy v))) : SoT c X EW (truS fa) a := by
  obtain ⟨t, p, k⟩ := ha.ex
  refine ⟨_, pt_truth p he, fun E ρ σ ts H Q j hw => ?_⟩
  refine k E ρ σ ts H _ j ((Wt.bind hw).mono fun t1 ρ1 h1 v1 H1 j1 => ?_)
  cases e1 : tO ρ1 t1 with
  | none => simp only [e1] at h1; exact h1.elim
  | some x =>
    cases e2 : truD x.d with
    | none => simp only [e1, e2] at h1; exact h1.elim
    | some b =>
      simp only [e1, e2] at h1
      have r := j1.tD m0 (tD_of e1)
      refine ⟨b, ?_, h1 H1 j1.cut⟩
      generalize x.d = d at e2 r
      cases r with
      | non => cases e2; rfl
      | bl b => cases e2; rfl
      | int n =>
        simp only [truD] at e2
        obtain ⟨o, h2, h3⟩ := Option.map_eq_some_iff.mp e2
        subst h3
        show _ = (c.nm.val n != 0)
        have q := cmp_eq (c.nm.cmp_ok h2)
        rw [c.nm.lit_ok] at q
        rw [q]; rfl
      | str s =>
        simp only [truD] at e2
        split at e2
        · cases e2
          refine ⟨Nat.le_trans (by assumption) line6, ?_⟩
          cases s.length <;> simp [bne] <;> omega
        · cases e2
      | tup s r =>
        cases e2
        have l := r.length
        refine .inr (.inl ⟨_, by rw [hK]; exact s, ?_⟩)
        cases r <;> rfl
      | lst s r =>
        cases e2
        refine .inl ⟨_, SqL.of s, ?_⟩
        cases r <;> rfl
      | scr s r => cases e2
      | dct s r1 r2 => cases e2
      | obj s e r => cases e2

/-- a comparison as a test: its value is a bool -/
theorem so_cmpT {g : c.O → c.O → Option c.O} {r : R2} {fa fb : Rho c → Out c (Tm c)} {a b e : Expr} (ha : SoE c X EW fa a) (hb : SoE c X EW fb b) (pe : ∀ {ta tb : TE}, PE X a ta → PE X b tb → PT X e (tTest (tOp r ta tb)))
    (hr : ∀ (E : Ent) (ρ : Rho c) (σ : L2.St) (ts : Stk c) (H : Hp) (Q : VK) (t1 t2 : Tm c) (v1 v2 : V) (x y z : c.O), J c E ρ σ (ts ++ [(t1, v1), (t2, v2)]) H → tO ρ t1 = some x → tO ρ t2 = some y → g x y = some z →
      (∀ v H', J c E ρ σ (ts ++ [(.o z, v)]) H' → Q v H') → r v1 v2 H Q) : SoT c X EW (tstS (binS g fa fb)) e := by
  obtain ⟨ta, pa, ka⟩ := ha.ex
  obtain ⟨tb, pb, kb⟩ := hb.ex
  refine ⟨_, pe pa pb, fun E ρ σ ts H Q j hw => ?_⟩
  refine ka E ρ σ ts H _ j ((Wt.bind (Wt.bind hw)).mono fun t1 ρ1 h1 v1 H1 j1 => ?_)
  refine kb E ρ1 σ _ H1 _ j1 ((Wt.bind h1).mono fun t2 ρ2 h2 v2 H2 j2 => ?_)
  rw [List.append_assoc] at j2
  cases e1 : tO ρ2 t1 with
  | none => simp only [e1] at h2; exact h2.elim
  | some x =>
    cases e2 : tO ρ2 t2 with
    | none => simp only [e1, e2] at h2; exact h2.elim
    | some y =>
      cases e3 : g x y with
      | none => simp only [e1, e2, e3] at h2; exact h2.elim
      | some z =>
        simp only [e1, e2, e3] at h2
        refine hr E ρ2 σ ts H2 _ t1 t2 v1 v2 x y z j2 e1 e2 e3 fun v H' j' => ?_
        have h2' : Wt c E EW (fun b ρ' => ∀ H', J c E ρ' σ ts H' → Q b H') (match boolO z with | some b => .ok b ρ2 | none => .bad) := h2
        unfold boolO at h2'
        split at h2'
        · rename_i b hb
          split at hb
          · cases hb
            obtain ⟨G, f, s, r⟩ := j'.tO (tm := .o (.fr (.bl b))) m0 rfl
            exact ⟨b, rep_bl r.unfr, h2' H' j'.cut⟩
          · cases hb
        · exact h2'.elim
theorem so_ntT {fa : Rho c → Out c Bool} {a : Expr} {pos : Pos} (ha : SoT c X EW fa a) : SoT c X EW (fun ρ => (fa ρ).bind fun b ρ1 => .ok (!b) ρ1) (.UnaryOp .Not a pos) := by
  obtain ⟨t, p, k⟩ := ha.ex
  exact ⟨_, pt_not p, fun E ρ σ ts H Q j hw => k E ρ σ ts H _ j ((Wt.bind hw).mono fun b ρ1 h1 => h1)⟩
theorem so_nt {fa : Rho c → Out c (Tm c)} {a : Expr} {pos : Pos} (ha : SoE c X EW fa a) : SoE c X EW (unS (fun x => (boolO x).map fun b => .fr (.bl (!b))) fa) (.UnaryOp .Not a pos) :=
  so_un (r := fun x H Q => ∃ k, x = .bl k ∧ Q (.bl (!k)) H) ha (fun pa => pe_not pa) fun E ρ σ ts H Q t1 v1 x z j e1 e3 k => by
    unfold boolO at e3
    split at e3
    · cases e3
      obtain ⟨G, f, s, r⟩ := j.tO m0 e1
      exact ⟨_, rep_bl r.unfr, k _ _ (j.at fun G => .bl _)⟩
    · cases e3
theorem so_andW {fa fb : Rho c → Out c Bool} {a b : Expr} {rest : List Expr} {pos : Pos} (ha : SoT c X EW fa a) (hb : SoW c X EW fb (.BoolOp .And (b :: rest) pos)) : SoW c X EW (fun ρ => (fa ρ).bind fun b1 ρ1 => if b1 then fb ρ1 else .ok false ρ1) (.BoolOp .And (a :: b :: rest) pos) := by
  obtain ⟨ta, pa, ka⟩ := ha.ex
  obtain ⟨tb, pb, kb⟩ := hb.ex
  refine ⟨_, pw_and pa pb, fun E ρ σ ts H Q j hw => ka E ρ σ ts H _ j ((Wt.bind hw).mono fun b1 ρ1 h1 H1 j1 => ?_)⟩
  cases b1 with
  | true => exact kb E ρ1 σ ts H1 _ j1 h1
  | false => exact h1 H1 j1
theorem so_orW {fa fb : Rho c → Out c Bool} {a b : Expr} {rest : List Expr} {pos : Pos} (ha : SoT c X EW fa a) (hb : SoW c X EW fb (.BoolOp .Or (b :: rest) pos)) : SoW c X EW (fun ρ => (fa ρ).bind fun b1 ρ1 => if b1 then .ok true ρ1 else fb ρ1) (.BoolOp .Or (a :: b :: rest) pos) := by
  obtain ⟨ta, pa, ka⟩ := ha.ex
  obtain ⟨tb, pb, kb⟩ := hb.ex
  refine ⟨_, pw_or pa pb, fun E ρ σ ts H Q j hw => ka E ρ σ ts H _ j ((Wt.bind hw).mono fun b1 ρ1 h1 H1 j1 => ?_)⟩
  cases b1 with
  | true => exact h1 H1 j1
  | false => exact kb E ρ1 σ ts H1 _ j1 h1
theorem so_oneW {op : BoolOp} {fa : Rho c → Out c Bool} {a : Expr} {pos : Pos} (ha : SoT c X EW fa a) : SoW c X EW fa (.BoolOp op [a] pos) := by
  obtain ⟨ta, pa, ka⟩ := ha.ex
  cases op with
  | And => exact ⟨_, pw_and1 pa, ka⟩
  | Or => exact ⟨_, pw_or1 pa, ka⟩
theorem so_one {op : BoolOp} {fa : Rho c → Out c (Tm c)} {a : Expr} {pos : Pos} (ha : SoE c X EW fa a) : SoE c X EW fa (.BoolOp op [a] pos) := by
  obtain ⟨ta, pa, ka⟩ := ha.ex
  exact ⟨_, pe_one pa, ka⟩
theorem so_and {fa fb : Rho c → Out c (Tm c)} {a b : Expr} {rest : List Expr} {pos : Pos} (ha : SoE c X EW fa a) (hb : SoE c X EW fb (.BoolOp .And (b :: rest) pos)) :
    SoE c X EW (fun ρ => (fa ρ).bind fun t1 ρ1 => match (tO ρ1 t1).bind boolO with | some true => fb ρ1 | some false => .ok (.o (.fr (.bl false))) ρ1 | none => .bad) (.BoolOp .And (a :: b :: rest) pos) := by
  obtain ⟨ta, pa, ka⟩ := ha.ex
  obtain ⟨tb, pb, kb⟩ := hb.ex
  refine ⟨_, pe_and pa pb, fun E ρ σ ts H Q j hw => ka E ρ σ ts H _ j ((Wt.bind hw).mono fun t1 ρ1 h1 v1 H1 j1 => ?_)⟩
  cases e1 : tO ρ1 t1 with
  | none => simp only [e1, Option.bind_none] at h1; exact h1.elim
  | some x =>
    simp only [e1, Option.bind_some] at h1
    cases e2 : boolO x with
    | none => simp only [e2] at h1; exact h1.elim
    | some k =>
      simp only [e2] at h1
      have hx : x = .fr (.bl k) := by
        unfold boolO at e2
        split at e2 <;> cases e2
        rfl
      subst hx
      obtain ⟨G, f, s, r⟩ := j1.tO m0 e1
      refine ⟨k, rep_bl r.unfr, ?_⟩
      cases k with
      | true => exact kb E ρ1 σ ts H1 _ j1.cut h1
      | false => exact h1 _ _ (j1.at fun G => .bl _)
theorem so_or {fa fb : Rho c → Out c (Tm c)} {a b : Expr} {rest : List Expr} {pos : Pos} (ha : SoE c X EW fa a) (hb : SoE c X EW fb (.BoolOp .Or (b :: rest) pos)) :
    SoE c X EW (fun ρ => (fa ρ).bind fun t1 ρ1 => match (tO ρ1 t1).bind boolO with | some false => fb ρ1 | some true => .ok (.o (.fr (.bl true))) ρ1 | none => .bad) (.BoolOp .Or (a :: b :: rest) pos) := by
  obtain ⟨ta, pa, ka⟩ := ha.ex
  obtain ⟨tb, pb, kb⟩ := hb.ex
  refine ⟨_, pe_or pa pb, fun E ρ σ ts H Q j hw => ka E ρ σ ts H _ j ((Wt.bind hw).mono fun t1 ρ1 h1 v1 H1 j1 => ?_)⟩
  cases e1 : tO ρ1 t1 with
  | none => simp only [e1, Option.bind_none] at h1; exact h1.elim
  | some x =>
    simp only [e1, Option.bind_some] at h1
    cases e2 : boolO x with
    | none => simp only [e2] at h1; exact h1.elim
    | some k =>
      simp only [e2] at h1
      have hx : x = .fr (.bl k) := by
        unfold boolO at e2
        split at e2 <;> cases e2
        rfl
      subst hx
      obtain ⟨G, f, s, r⟩ := j1.tO m0 e1
      refine ⟨k, rep_bl r.unfr, ?_⟩
      cases k with
      | false => exact kb E ρ1 σ ts H1 _ j1.cut h1
      | true => exact h1 _ _ (j1.at fun G => .bl _)
theorem so_ife {ft : Rho c → Out c Bool} {fa fb : Rho c → Out c (Tm c)} {t a b : Expr} {pos : Pos} (ht : SoT c X EW ft t) (ha : SoE c X EW fa a) (hb : SoE c X EW fb b) :
    SoE c X EW (fun ρ => (ft ρ).bind fun b1 ρ1 => if b1 then fa ρ1 else fb ρ1) (.IfExp t a b pos) := by
  obtain ⟨tt, pt, kt⟩ := ht.ex
  obtain ⟨ta, pa, ka⟩ := ha.ex
  obtain ⟨tb, pb, kb⟩ := hb.ex
  refine ⟨_, pe_ifExp pt pa pb, fun E ρ σ ts H Q j hw => kt E ρ σ ts H _ j ((Wt.bind hw).mono fun b1 ρ1 h1 H1 j1 => ?_)⟩
  cases b1 with
  | true => exact ka E ρ1 σ ts H1 _ j1 h1
  | false => exact kb E ρ1 σ ts H1 _ j1 h1
/-! ### rows of expressions -/
structure SoF (c : Cf) (X : Cx) (EW : XK) (f : Rho c → Out c (List c.D)) (es : List Expr) : Prop where
  ex : ∃ t : TA, PA X es t ∧ ∀ (E : Ent) (ρ : Rho c) (σ : L2.St) (ts : Stk c) (H : Hp) (Q : List V → Hp → Prop), J c E ρ σ ts H → Wt c E EW (fun ds ρ' => ∀ vs H', ds.length = vs.length → J c E ρ' σ (ts ++ fS ds vs) H' → Q vs H') (f ρ) → t σ H Q
structure SoV (c : Cf) (X : Cx) (EW : XK) (f : Rho c → Out c (List c.O)) (es : List Expr) : Prop where
  ex : ∃ t : TA, PA X es t ∧ ∀ (E : Ent) (ρ : Rho c) (σ : L2.St) (ts : Stk c) (H : Hp) (Q : List V → Hp → Prop), J c E ρ σ ts H → Wt c E EW (fun ds ρ' => ∀ vs H', ds.length = vs.length → J c E ρ' σ (ts ++ oS ds vs) H' → Q vs H') (f ρ) → t σ H Q
/-- arguments, positional ones and then those by name -/
structure SoA (c : Cf) (X : Cx) (EW : XK) (f : Rho c → Out c (List (Tm c))) (es : List Expr) (kws : List Keyword) : Prop where
  ex : ∃ (t tk : TA), PA X es t ∧ PK X kws tk ∧ ∀ (E : Ent) (ρ : Rho c) (σ : L2.St) (ts : Stk c) (H : Hp) (Q : List V → Hp → Prop), J c E ρ σ ts H →
    Wt c E EW (fun tms ρ' => ∀ vs H', tms.length = vs.length → J c E ρ' σ (ts ++ tms.zip vs) H' → (∀ t ∈ tms, ∀ x, t = .o x → ∃ d, x = .fr d) → Q vs H') (f ρ) → t σ H fun vs H1 => vs.length = es.length ∧ tk σ H1 fun zs H2 => zs.length = kws.length ∧ Q (vs ++ zs) H2
theorem fr_so {fa : Rho c → Out c (Tm c)} {a : Expr} (ha : SoE c X EW fa a) : ∃ t : TE, PE X a t ∧ ∀ (E : Ent) (ρ : Rho c) (σ : L2.St) (ts : Stk c) (H : Hp) (Q : VK), J c E ρ σ ts H → Wt c E EW (fun d ρ' => ∀ v H', J c E ρ' σ (ts ++ [(.o (.fr d), v)]) H' → Q v H') (frS fa ρ) → t σ H Q := by
  obtain ⟨t, p, k⟩ := ha.ex
  refine ⟨t, p, fun E ρ σ ts H Q j hw => k E ρ σ ts H _ j ((Wt.bind hw).mono fun t1 ρ1 h1 v1 H1 j1 => ?_)⟩
  cases e1 : tO ρ1 t1 with
  | none => simp only [e1] at h1; exact h1.elim
  | some x => simp only [e1] at h1; exact h1 _ _ (j1.fz e1)
theorem vl_so {fa : Rho c → Out c (Tm c)} {a : Expr} (ha : SoE c X EW fa a) : ∃ t : TE, PE X a t ∧ ∀ (E : Ent) (ρ : Rho c) (σ : L2.St) (ts : Stk c) (H : Hp) (Q : VK), J c E ρ σ ts H → Wt c E EW (fun d ρ' => ∀ v H', J c E ρ' σ (ts ++ [(.o d, v)]) H' → Q v H') (vlS fa ρ) → t σ H Q := by
  obtain ⟨t, p, k⟩ := ha.ex
  refine ⟨t, p, fun E ρ σ ts H Q j hw => k E ρ σ ts H _ j ((Wt.bind hw).mono fun t1 ρ1 h1 v1 H1 j1 => ?_)⟩
  cases t1 with
  | o x => exact h1 _ _ j1
  | sl i =>
    cases e1 : tO ρ1 (.sl i) with
    | none => simp only [e1] at h1; exact h1.elim
    | some x => simp only [e1] at h1; exact h1 _ _ (j1.fz e1)
theorem ag_so {fa : Rho c → Out c (Tm c)} {a : Expr} (ha : SoE c X EW fa a) : ∃ t : TE, PE X a t ∧ ∀ (E : Ent) (ρ : Rho c) (σ : L2.St) (ts : Stk c) (H : Hp) (Q : VK), J c E ρ σ ts H →
    Wt c E EW (fun tm ρ' => ∀ v H', J c E ρ' σ (ts ++ [(tm, v)]) H' → (∀ x, tm = .o x → ∃ d, x = .fr d) → Q v H') (agS fa ρ) → t σ H Q := by
  obtain ⟨t, p, k⟩ := ha.ex
  refine ⟨t, p, fun E ρ σ ts H Q j hw => k E ρ σ ts H _ j ((Wt.bind hw).mono fun t1 ρ1 h1 v1 H1 j1 => ?_)⟩
  cases t1 with
  | o x => exact h1 _ _ (j1.fz (tm := .o x) rfl) fun y e => by cases e; exact ⟨_, rfl⟩
  | sl i => exact h1 _ _ j1 fun y e => by cases e
theorem so_nilF : SoF c X EW (fun ρ => .ok [] ρ) [] := ⟨_, pa_nil, fun E ρ σ ts H Q j hw => hw [] H rfl (by simpa [fS] using j)⟩
theorem so_nilV : SoV c X EW (fun ρ => .ok [] ρ) [] := ⟨_, pa_nil, fun E ρ σ ts H Q j hw => hw [] H rfl (by simpa [oS] using j)⟩
structure SoB (c : Cf) (X : Cx) (EW : XK) (f : Rho c → Out c (List (Tm c))) (es : List Expr) : Prop where
  ex : ∃ (t : TA), PA X es t ∧ ∀ (E : Ent) (ρ : Rho c) (σ : L2.St) (ts : Stk c) (H : Hp) (Q : List V → Hp → Prop), J c E ρ σ ts H →
    Wt c E EW (fun tms ρ' => ∀ vs H', tms.length = vs.length → J c E ρ' σ (ts ++ tms.zip vs) H' → (∀ t ∈ tms, ∀ x, t = .o x → ∃ d, x = .fr d) → Q vs H') (f ρ) → t σ H Q
theorem so_nilB : SoB c X EW (fun ρ => .ok [] ρ) [] := ⟨_, pa_nil, fun E ρ σ ts H Q j hw => hw [] H rfl (by simpa using j) (by simp)⟩
theorem so_consB {fa : Rho c → Out c (Tm c)} {fr : Rho c → Out c (List (Tm c))} {a : Expr} {es : List Expr} (ha : SoE c X EW fa a) (hr : SoB c X EW fr es) (hs : starEach (a :: es) X.env = (false, eval a X.env) :: starEach es X.env) :
    SoB c X EW (fun ρ => (agS fa ρ).bind fun x ρ1 => (fr ρ1).bind fun xs ρ2 => .ok (x :: xs) ρ2) (a :: es) := by
  obtain ⟨t, p, k⟩ := ag_so ha
  obtain ⟨t2, p2, k2⟩ := hr.ex
  refine ⟨_, pa_cons p p2 hs, fun E ρ σ ts H Q j hw => k E ρ σ ts H _ j ((Wt.bind hw).mono fun d ρ1 h1 v1 H1 j1 hf => ?_)⟩
  refine k2 E ρ1 σ _ H1 (fun vs H => Q (v1 :: vs) H) j1 ((Wt.bind h1).mono fun ds ρ2 h2 vs H2 hl j2 hg => ?_)
  refine h2 (v1 :: vs) H2 (by simp [hl]) ?_ fun t ht => ?_
  · rw [List.append_assoc] at j2
    exact j2
  · rcases List.mem_cons.mp ht with e | e
    · rw [e]; exact hf
    · exact hg t e
theorem so_consF {fa : Rho c → Out c (Tm c)} {fr : Rho c → Out c (List c.D)} {a : Expr} {es : List Expr} (ha : SoE c X EW fa a) (hr : SoF c X EW fr es) (hs : starEach (a :: es) X.env = (false, eval a X.env) :: starEach es X.env) :
    SoF c X EW (fun ρ => (frS fa ρ).bind fun x ρ1 => (fr ρ1).bind fun xs ρ2 => .ok (x :: xs) ρ2) (a :: es) := by
  obtain ⟨t, p, k⟩ := fr_so ha
  obtain ⟨t2, p2, k2⟩ := hr.ex
  refine ⟨_, pa_cons p p2 hs, fun E ρ σ ts H Q j hw => k E ρ σ ts H _ j ((Wt.bind hw).mono fun d ρ1 h1 v1 H1 j1 => ?_)⟩
  refine k2 E ρ1 σ _ H1 _ j1 ((Wt.bind h1).mono fun ds ρ2 h2 vs H2 hl j2 => ?_)
  refine h2 (v1 :: vs) H2 (by simp [hl]) ?_
  rw [List.append_assoc] at j2
  exact j2
theorem so_consV {fa : Rho c → Out c (Tm c)} {fr : Rho c → Out c (List c.O)} {a : Expr} {es : List Expr} (ha : SoE c X EW fa a) (hr : SoV c X EW fr es) (hs : starEach (a :: es) X.env = (false, eval a X.env) :: starEach es X.env) :
    SoV c X EW (fun ρ => (vlS fa ρ).bind fun x ρ1 => (fr ρ1).bind fun xs ρ2 => .ok (x :: xs) ρ2) (a :: es) := by
  obtain ⟨t, p, k⟩ := vl_so ha
  obtain ⟨t2, p2, k2⟩ := hr.ex
  refine ⟨_, pa_cons p p2 hs, fun E ρ σ ts H Q j hw => k E ρ σ ts H _ j ((Wt.bind hw).mono fun d ρ1 h1 v1 H1 j1 => ?_)⟩
  refine k2 E ρ1 σ _ H1 _ j1 ((Wt.bind h1).mono fun ds ρ2 h2 vs H2 hl j2 => ?_)
  refine h2 (v1 :: vs) H2 (by simp [hl]) ?_
  rw [List.append_assoc] at j2
  exact j2
theorem so_consA {fa : Rho c → Out c (Tm c)} {fr : Rho c → Out c (List (Tm c))} {a : Expr} {es : List Expr} {kws : List Keyword} (ha : SoE c X EW fa a) (hr : SoA c X EW fr es kws) (hs : starEach (a :: es) X.env = (false, eval a X.env) :: starEach es X.env) :
    SoA c X EW (fun ρ => (agS fa ρ).bind fun x ρ1 => (fr ρ1).bind fun xs ρ2 => .ok (x :: xs) ρ2) (a :: es) kws := by
  obtain ⟨t, p, k⟩ := ag_so ha
  obtain ⟨t2, t3, p2, p3, k2⟩ := hr.ex
  refine ⟨_, _, pa_cons p p2 hs, p3, fun E ρ σ ts H Q j hw => k E ρ σ ts H _ j ((Wt.bind hw).mono fun d ρ1 h1 v1 H1 j1 hf => ?_)⟩
  show t2 σ H1 fun xs H2 => (v1 :: xs).length = (a :: es).length ∧ t3 σ H2 fun zs H3 => zs.length = kws.length ∧ Q (v1 :: xs ++ zs) H3
  simp only [List.length_cons, Nat.add_right_cancel_iff]
  refine k2 E ρ1 σ _ H1 (fun vs H => Q (v1 :: vs) H) j1 ((Wt.bind h1).mono fun ds ρ2 h2 vs H2 hl j2 hg => ?_)
  refine h2 (v1 :: vs) H2 (by simp [hl]) ?_ fun t ht => ?_
  · rw [List.append_assoc] at j2
    exact j2
  · rcases List.mem_cons.mp ht with e | e
    · rw [e]; exact hf
    · exact hg t e
structure SoK (c : Cf) (X : Cx) (EW : XK) (f : Rho c → Out c (List (Tm c))) (kws : List Keyword) : Prop where
  ex : ∃ (tk : TA), PK X kws tk ∧ ∀ (E : Ent) (ρ : Rho c) (σ : L2.St) (ts : Stk c) (H : Hp) (Q : List V → Hp → Prop), J c E ρ σ ts H →
    Wt c E EW (fun tms ρ' => ∀ vs H', tms.length = vs.length → J c E ρ' σ (ts ++ tms.zip vs) H' → (∀ t ∈ tms, ∀ x, t = .o x → ∃ d, x = .fr d) → Q vs H') (f ρ) → tk σ H fun zs H2 => zs.length = kws.length ∧ Q zs H2
theorem so_nilK : SoK c X EW (fun ρ => .ok [] ρ) [] := ⟨_, pk_nil, fun E ρ σ ts H Q j hw => ⟨rfl, hw [] H rfl (by simpa using j) (by simp)⟩⟩
theorem so_consK {fa : Rho c → Out c (Tm c)} {fr : Rho c → Out c (List (Tm c))} {a : Expr} {nm : Option Str} {kp : Pos} {kws : List Keyword} (ha : SoE c X EW fa a) (hr : SoK c X EW fr kws) :
    SoK c X EW (fun ρ => (agS fa ρ).bind fun x ρ1 => (fr ρ1).bind fun xs ρ2 => .ok (x :: xs) ρ2) (⟨nm, a, kp⟩ :: kws) := by
  obtain ⟨t, p, k⟩ := ag_so ha
  obtain ⟨t3, p3, k2⟩ := hr.ex
  refine ⟨_, pk_cons p p3, fun E ρ σ ts H Q j hw => k E ρ σ ts H _ j ((Wt.bind hw).mono fun d ρ1 h1 v1 H1 j1 hf => ?_)⟩
  show t3 σ H1 fun xs H2 => (v1 :: xs).length = ((⟨nm, a, kp⟩ : Keyword) :: kws).length ∧ Q (v1 :: xs) H2
  simp only [List.length_cons, Nat.add_right_cancel_iff]
  refine k2 E ρ1 σ _ H1 (fun vs H => Q (v1 :: vs) H) j1 ((Wt.bind h1).mono fun ds ρ2 h2 vs H2 hl j2 hg => ?_)
  refine h2 (v1 :: vs) H2 (by simp [hl]) ?_ fun t ht => ?_
  · rw [List.append_assoc] at j2
    exact j2
  · rcases List.mem_cons.mp ht with e | e
    · rw [e]; exact hf
    · exact hg t e
theorem so_ofK {f : Rho c → Out c (List (Tm c))} {kws : List Keyword} (h : SoK c X EW f kws) : SoA c X EW f [] kws := by
  obtain ⟨tk, p, k⟩ := h.ex
  exact ⟨tNil, tk, pa_nil, p, fun E ρ σ ts H Q j hw => ⟨rfl, k E ρ σ ts H (fun zs H2 => Q ([] ++ zs) H2) j hw⟩⟩
theorem so_tup {f : Rho c → Out c (List c.D)} {es : List Expr} {x1} {pos : Pos} (h : SoF c X EW f es) : SoE c X EW (fun ρ => (f ρ).bind fun ds ρ1 => if 1000000 < ds.length then .bad else .ok (.o (.fr (.tup ds))) ρ1) (.Tuple es x1 pos) := by
  obtain ⟨t, p, k⟩ := h.ex
  refine ⟨_, pe_tup p, fun E ρ σ ts H Q j hw => k E ρ σ ts H _ j ((Wt.bind hw).mono fun ds ρ1 h1 vs H1 hl j1 => ?_)⟩
  split at h1
  · exact h1.elim
  · have := line6
    exact ⟨by omega, fun p hp => h1 _ _ (j1.tup hl hp)⟩
theorem so_lst {f : Rho c → Out c (List c.O)} {es : List Expr} {pos : Pos} (h : SoV c X EW f es) : SoE c X EW (fun ρ => (f ρ).bind fun ds ρ1 => if 1000000 < ds.length then .bad else .ok (.o (.lst ds)) ρ1) (.List es pos) := by
  obtain ⟨t, p, k⟩ := h.ex
  refine ⟨_, pe_lst p, fun E ρ σ ts H Q j hw => k E ρ σ ts H _ j ((Wt.bind hw).mono fun ds ρ1 h1 vs H1 hl j1 => ?_)⟩
  split at h1
  · exact h1.elim
  · have := line6
    exact ⟨by omega, fun p hp => h1 _ _ (j1.lstV hl hp)⟩
/-! ### items -/
theorem ixN_len {n m : Nat} {i : Int} (h : n = m) : ixN n i = ixN m i := by rw [h]
theorem atI_rep {G : Hp} {vs : List V} {ds : List c.D} {i : Int} {d : c.D} (r : RepL c G vs ds) (h : atI ds i = some d) : ∃ v, atI vs i = some v ∧ Rep c G v d := by
  unfold atI at h ⊢
  rw [r.length]
  cases e : ixN ds.length i with
  | none => rw [e] at h; cases h
  | some j =>
    rw [e] at h
    simpa using r.get (by simpa using h)
theorem atI_orep {G : Hp} : ∀ {os : List c.O} {vs : List V} {f : List Addr} {j : Nat} {d : c.D}, ORepL c G H vs os f → os[j]? = some (.fr d) → ∃ v, vs[j]? = some v ∧ Rep c G v d
  | _, _, _, _, _, .nil, e => by simp at e
  | _, _, _, 0, _, .cons a _, e => by
    simp at e; subst e
    exact ⟨_, rfl, a.unfr⟩
  | _, _, _, j + 1, _, .cons _ b, e => by simpa using atI_orep b (by simpa using e)
theorem so_idx {fa fb : Rho c → Out c (Tm c)} {a b : Expr} {pos : Pos} (hp : PlainIx b) (hK : X.K = c.K) (ha : SoE c X EW fa a) (hb : SoE c X EW fb b) : SoE c X EW (binS idxO fa fb) (.Subscript a b pos) :=
  so_bin ha hb (fun pa pb => pe_ix ix_seq pa pb hp) fun E ρ σ ts H Q t1 t2 v1 v2 x y z j e1 e2 e3 k => by
    unfold idxO at e3
    split at e3
    · rename_i i hi
      obtain ⟨n, rfl, hn⟩ := con_of hi
      have a2 := j.int1 m2 e2
      rw [hn] at a2
      obtain ⟨h1, h2, h3, G, f, g⟩ := j
      obtain ⟨fx, rx⟩ := g.tO h1 h3 m1 e1
      split at e3
      · split at e3
        · rename_i s hs
          obtain ⟨q, q1, q2⟩ := Option.map_eq_some_iff.mp e3
          subst q2
          exact .inr (.inr ⟨s, i, q, rep_str rx.unfr, a2, Nat.le_trans hs line6, q1, k _ _ (mkPart h1 h2 h3 g (.str _))⟩)
        · cases e3
      · obtain ⟨d, q1, q2⟩ := Option.map_eq_some_iff.mp e3
        subst q2
        obtain ⟨p, xs, ev, q, r0⟩ := rep_tup rx.unfr
        obtain ⟨v, hv, rv⟩ := atI_rep r0 q1
        exact .inr (.inl ⟨p, xs, i, v, ev, a2, by rw [hK]; exact seqT_mono g.sub q, hv, k _ _ (mkPart h1 h2 h3 g rv)⟩)
      · obtain ⟨d, q1, q2⟩ := Option.map_eq_some_iff.mp e3
        subst q2
        obtain ⟨p, xs, ev, q, r0⟩ := rep_lst rx.unfr
        obtain ⟨v, hv, rv⟩ := atI_rep r0 q1
        exact .inl ⟨p, xs, i, v, ev, a2, SqL.of (g.sub _ _ q), hv, k _ _ (mkPart h1 h2 h3 g rv)⟩
      · rename_i os
        split at e3
        · rename_i d hd
          cases e3
          cases rx with
          | @lst p xs _ ff hx _ r =>
            unfold atI at hd
            cases e : ixN os.length i with
            | none => rw [e] at hd; cases hd
            | some jj =>
              rw [e] at hd
              obtain ⟨v, hv, rv⟩ := atI_orep r (by simpa using hd)
              exact .inl ⟨p, xs, i, v, rfl, a2, SqL.of hx, by unfold atI; rw [r.length, e]; simpa using hv, k _ _ (mkPart h1 h2 h3 g rv)⟩
        · cases e3
      · cases e3
    · cases e3
/-! slices -/
structure SoP (c : Cf) (X : Cx) (EW : XK) (f : Rho c → Out c (Option Int)) (e : Option Expr) : Prop where
  ex : ∃ t : TO, PO X e t ∧ ∀ (E : Ent) (ρ : Rho c) (σ : L2.St) (ts : Stk c) (H : Hp) (Q : Option Int → Hp → Prop), J c E ρ σ ts H → Wt c E EW (fun i ρ' => ∀ H', J c E ρ' σ ts H' → Q i H') (f ρ) → t σ H Q
theorem so_noP : SoP c X EW (fun ρ => .ok none ρ) none := ⟨_, po_none, fun E ρ σ ts H Q j hw => hw H j⟩
theorem so_prt {fa : Rho c → Out c (Tm c)} {a : Expr} (ha : SoE c X EW fa a) : SoP c X EW (prtS fa) (some a) := by
  obtain ⟨t, p, k⟩ := ha.ex
  refine ⟨_, po_some p, fun E ρ σ ts H Q j hw => k E ρ σ ts H _ j ((Wt.bind hw).mono fun t1 ρ1 h1 v1 H1 j1 => ?_)⟩
  cases e1 : tO ρ1 t1 with
  | none => simp only [e1, Option.bind_none] at h1; exact h1.elim
  | some x =>
    simp only [e1, Option.bind_some] at h1
    cases e2 : conOf x with
    | none => simp only [e2] at h1; exact h1.elim
    | some i =>
      simp only [e2] at h1
      obtain ⟨n, rfl, hn⟩ := con_of e2
      have a2 := j1.int1 m0 e1
      rw [hn] at a2
      exact ⟨i, a2, h1 _ j1.cut⟩
theorem cut_rep {G : Hp} {vs : List V} {ds : List c.D} {lo hi : Option Int} (r : RepL c G vs ds) : RepL c G (cutV vs lo hi) (cutD ds lo hi) := by
  unfold cutV cutD
  rw [r.length]
  exact (r.drop _).take _
theorem so_slc {fa : Rho c → Out c (Tm c)} {fl fh : Rho c → Out c (Option Int)} {a : Expr} {lo hi : Option Expr} {p2 pos : Pos} (hK : X.K = c.K) (ha : SoE c X EW fa a) (hl : SoP c X EW fl lo) (hh : SoP c X EW fh hi) :
    SoE c X EW (fun ρ => (fa ρ).bind fun t1 ρ1 => (fl ρ1).bind fun i ρ2 => (fh ρ2).bind fun j ρ3 => match (tO ρ3 t1).bind fun x => slcO x i j with | some r => .ok (.o r) ρ3 | none => .bad) (.Subscript a (.Slice lo hi none p2) pos) := by
  obtain ⟨ta, pa, ka⟩ := ha.ex
  obtain ⟨tl, pl, kl⟩ := hl.ex
  obtain ⟨th, ph, kh⟩ := hh.ex
  refine ⟨_, pe_slice (sl_list.or sl_tup) pa pl ph, fun E ρ σ ts H Q j hw => ka E ρ σ ts H _ j ((Wt.bind hw).mono fun t1 ρ1 h1 v1 H1 j1 => ?_)⟩
  refine kl E ρ1 σ _ H1 _ j1 ((Wt.bind h1).mono fun i ρ2 h2 H2 j2 => ?_)
  refine kh E ρ2 σ _ H2 _ j2 ((Wt.bind h2).mono fun i2 ρ3 h3 H3 j3 => ?_)
  cases e1 : tO ρ3 t1 with
  | none => simp only [e1, Option.bind_none] at h3; exact h3.elim
  | some x =>
    simp only [e1, Option.bind_some] at h3
    cases e2 : slcO x i i2 with
    | none => simp only [e2] at h3; exact h3.elim
    | some r =>
      simp only [e2] at h3
      obtain ⟨q1, q2, q3, G, f, g⟩ := j3
      obtain ⟨fx, rx⟩ := g.tO q1 q3 m0 e1
      unfold slcO at e2
      split at e2
      · split at e2
        · cases e2
        · rename_i hnw
          cases e2
          obtain ⟨p, xs, ev, q, r0⟩ := rep_tup rx.unfr
          refine .inr ⟨p, xs, ev, by rw [hK]; exact seqT_mono g.sub q, by rw [r0.length]; exact hnw, fun p hp => h3 _ _ (mkTup q1 q2 q3 g hp (cut_rep r0))⟩
      · cases e2
        rename_i ds
        cases rx with
        | fr rx =>
          cases rx with
          | scr s r0 =>
            exact .inl ⟨_, _, rfl, by rw [hK]; exact g.sub.seq s, fun p hp => h3 _ _ (mkLst q1 q2 q3 g hp (cut_rep r0))⟩
      · obtain ⟨ds, e3, e4⟩ := Option.map_eq_some_iff.mp e2
        subst e4
        obtain ⟨p, xs, ev, q, r0⟩ := lItems_rep g.sub rx e3
        exact .inl ⟨p, xs, ev, SqL.of q, fun p hp => h3 _ _ (mkLst q1 q2 q3 g hp (cut_rep r0))⟩

/-! ### built-in functions -/
theorem len1 {α β : Type} {x : α} {vs : List β} (h : [x].length = vs.length) : ∃ v, vs = [v] := by
  match vs, h with
  | [v], _ => exact ⟨v, rfl⟩
theorem tOs_one {ρ : Rho c} {tms : List (Tm c)} {x : c.O} (h : tOs ρ tms = some [x]) : ∃ t, tms = [t] ∧ tO ρ t = some x := by
  match tms, h with
  | [], h => cases h
  | [t], h =>
    simp only [tOs] at h
    split at h
    · rename_i o ds e1 e2
      cases e2; cases h
      exact ⟨t, rfl, e1⟩
    · cases h
  | t :: u :: r, h =>
    simp only [tOs] at h
    split at h
    · rename_i o ds e1 e2
      cases h
      split at e2
      · cases e2
      · cases e2
    · cases h

def plE (e : Expr) : Bool := match e with
  | .Starred _ _ => false
  | _ => true
theorem star_pl {e : Expr} {es : List Expr} {env : Env} (h : plE e = true) : starEach (e :: es) env = (false, eval e env) :: starEach es env := by
  cases e <;> first | rfl | cases h
theorem any_pl {pos : Pos} {env : Env} : ∀ {es : List Expr}, es.all plE = true → (backTo pos (starEach es env)).any (·.1) = false
  | [], _ => rfl
  | e :: es, h => by
    rw [List.all_cons, Bool.and_eq_true] at h
    rw [star_pl h.1]
    have := any_pl (pos := pos) (env := env) h.2
    simpa [backTo] using this
theorem so_bf {g : c.O → Option c.O} {f : Rho c → Out c (List (Tm c))} {es : List Expr} {e : Expr} {r : List V → Hp → VK → Prop} (h : SoB c X EW f es) (pe : ∀ {t : TA}, PA X es t → PE X e (tCB r t))
    (hr : ∀ (E : Ent) (ρ : Rho c) (σ : L2.St) (ts : Stk c) (H : Hp) (Q : VK) (t1 : Tm c) (v1 : V) (x z : c.O), J c E ρ σ (ts ++ [(t1, v1)]) H → tO ρ t1 = some x → g x = some z → (∀ v H', J c E ρ σ (ts ++ [(.o z, v)]) H' → Q v H') → r [v1] H Q) :
    SoE c X EW (fun ρ => (f ρ).bind fun tms ρ1 => match (tOs ρ1 tms).bind (one1 g) with | some r => .ok (.o r) ρ1 | none => .bad) e := by
  obtain ⟨t, p, kk⟩ := h.ex
  refine ⟨_, pe p, fun E ρ σ ts H Q j hw => kk E ρ σ ts H _ j ((Wt.bind hw).mono fun tms ρ1 h1 vs H1 hl j1 _ => ?_)⟩
  cases e1 : tOs ρ1 tms with
  | none => simp only [e1, Option.bind_none] at h1; exact h1.elim
  | some os =>
    simp only [e1, Option.bind_some] at h1
    cases e2 : one1 g os with
    | none => simp only [e2] at h1; exact h1.elim
    | some z =>
      simp only [e2] at h1
      unfold one1 at e2
      split at e2
      · rename_i x
        obtain ⟨t, rfl, e3⟩ := tOs_one e1
        obtain ⟨v, rfl⟩ := len1 hl
        exact hr E ρ1 σ ts H1 Q t v x z j1 e3 e2 h1
      · cases e2
theorem so_len {f : Rho c → Out c (List (Tm c))} {e : Expr} {es : List Expr} {p pos : Pos} (hs : (e :: es).all plE = true) (hK : X.K = c.K) (hg : Gl X "len") (hm : X.mg "len" = none) (h : SoB c X EW f (e :: es)) :
    SoE c X EW (fun ρ => (f ρ).bind fun tms ρ1 => match (tOs ρ1 tms).bind (one1 lenO) with | some r => .ok (.o r) ρ1 | none => .bad) (.Call (.Name "len" p) (e :: es) [] pos) := by
  rw [List.all_cons, Bool.and_eq_true] at hs
  refine so_bf h (fun pa => pe_callB call_len hg hm PySem.boot_len pa (he := star_pl hs.1) (hpl := any_pl hs.2)) fun E ρ σ ts H Q t v x z j e3 e2 k => ?_
  obtain ⟨h1, h2, h3, G, ff, g⟩ := j
  obtain ⟨fx, rx⟩ := g.tO h1 h3 m0 e3
  have fin : ∀ n : Nat, (∀ v H', J c E ρ σ (ts ++ [(.o (.fr (.int (c.nm.lit n))), v)]) H' → Q v H') → Q (.int n) H := fun n k => k _ _ (mkPart h1 h2 h3 g (lit_rep _))
  unfold lenO at e2
  split at e2
  · split at e2
    · rename_i s hs
      cases e2
      refine ⟨v, s.length, rfl, ?_, fin _ k⟩
      rw [rep_str rx.unfr]
      exact ⟨Nat.le_trans hs line6, rfl⟩
    · cases e2
  · cases e2
    obtain ⟨p, xs, ev, q, r0⟩ := rep_tup rx.unfr
    refine ⟨v, _, rfl, ?_, fin _ k⟩
    rw [ev]
    exact .inr ⟨xs, by rw [hK]; exact seqT_mono g.sub q, r0.length.symm⟩
  · cases e2
    obtain ⟨p, xs, ev, q, r0⟩ := rep_lst rx.unfr
    refine ⟨v, _, rfl, ?_, fin _ k⟩
    rw [ev]
    exact .inl ⟨xs, SqL.of (g.sub _ _ q), r0.length.symm⟩
  · cases e2
    cases rx with
    | lst hx _ r0 => exact ⟨_, _, rfl, .inl ⟨_, SqL.of hx, r0.length.symm⟩, fin _ k⟩
  · cases e2
theorem so_int {f : Rho c → Out c (List (Tm c))} {e : Expr} {es : List Expr} {p pos : Pos} (hs : (e :: es).all plE = true) (hg : Gl X "int") (hm : X.mg "int" = none) (h : SoB c X EW f (e :: es)) :
    SoE c X EW (fun ρ => (f ρ).bind fun tms ρ1 => match (tOs ρ1 tms).bind (one1 intO) with | some r => .ok (.o r) ρ1 | none => .bad) (.Call (.Name "int" p) (e :: es) [] pos) := by
  rw [List.all_cons, Bool.and_eq_true] at hs
  refine so_bf h (fun pa => pe_callTy call_int1 hg hm PyProof.Rows.Boot.«int» pa (he := star_pl hs.1) (hpl := any_pl hs.2)) fun E ρ σ ts H Q t v x z j e3 e2 k => ?_
  unfold intO at e2
  split at e2
  · cases e2
    have a1 := j.int1 m0 e3
    subst a1
    exact .inl ⟨_, rfl, k _ _ (j.at fun G => .int _)⟩
  · cases e2
theorem bools_rep {G : Hp} : ∀ {vs : List V} {ds : List c.D} {bs : List Bool}, RepL c G vs ds → boolsD ds = some bs → vs = bs.map V.bl
  | _, _, _, .nil, h => by cases h; rfl
  | _, _, _, .cons a b, h => by
    unfold boolsD at h
    split at h
    · rename_i e; cases e
    · rename_i b' r e
      cases e
      obtain ⟨bs, h1, h2⟩ := Option.map_eq_some_iff.mp h
      subst h2
      rw [List.map_cons, rep_bl a, ← bools_rep b h1]
    · cases h
theorem so_all {f : Rho c → Out c (List (Tm c))} {e : Expr} {es : List Expr} {p pos : Pos} (hs : (e :: es).all plE = true) (hc : X.calm = true) (hg : Gl X "all") (hm : X.mg "all" = none) (h : SoB c X EW f (e :: es)) :
    SoE c X EW (fun ρ => (f ρ).bind fun tms ρ1 => match (tOs ρ1 tms).bind (one1 allO) with | some r => .ok (.o r) ρ1 | none => .bad) (.Call (.Name "all" p) (e :: es) [] pos) := by
  rw [List.all_cons, Bool.and_eq_true] at hs
  refine so_bf h (fun pa => pe_callB (cr_all hc) hg hm PyProof.Rows.Boot.«all» pa (he := star_pl hs.1) (hpl := any_pl hs.2)) fun E ρ σ ts H Q t v x z j e3 e2 k => ?_
  obtain ⟨ds, q1, q2⟩ := Option.bind_eq_some_iff.mp e2
  obtain ⟨bs, q3, q4⟩ := Option.map_eq_some_iff.mp q2
  subst q4
  obtain ⟨h1, h2, h3, G, ff, g⟩ := j
  obtain ⟨fx, rx⟩ := g.tO h1 h3 m0 e3
  obtain ⟨pp, xs, ev, q, r0⟩ := lItems_rep g.sub rx q1
  exact ⟨pp, bs, by rw [ev], by rw [← bools_rep r0 q3]; exact SqL.of q, k _ _ (mkPart h1 h2 h3 g (.bl _))⟩
theorem so_any {f : Rho c → Out c (List (Tm c))} {e : Expr} {es : List Expr} {p pos : Pos} (hs : (e :: es).all plE = true) (hc : X.calm = true) (hg : Gl X "any") (hm : X.mg "any" = none) (h : SoB c X EW f (e :: es)) :
    SoE c X EW (fun ρ => (f ρ).bind fun tms ρ1 => match (tOs ρ1 tms).bind (one1 anyO) with | some r => .ok (.o r) ρ1 | none => .bad) (.Call (.Name "any" p) (e :: es) [] pos) := by
  rw [List.all_cons, Bool.and_eq_true] at hs
  refine so_bf h (fun pa => pe_callB (cr_any hc) hg hm PyProof.Rows.Boot.«any» pa (he := star_pl hs.1) (hpl := any_pl hs.2)) fun E ρ σ ts H Q t v x z j e3 e2 k => ?_
  obtain ⟨ds, q1, q2⟩ := Option.bind_eq_some_iff.mp e2
  obtain ⟨bs, q3, q4⟩ := Option.map_eq_some_iff.mp q2
  subst q4
  obtain ⟨h1, h2, h3, G, ff, g⟩ := j
  obtain ⟨fx, rx⟩ := g.tO h1 h3 m0 e3
  obtain ⟨pp, xs, ev, q, r0⟩ := lItems_rep g.sub rx q1
  exact ⟨pp, bs, by rw [ev], by rw [← bools_rep r0 q3]; exact SqL.of q, k _ _ (mkPart h1 h2 h3 g (.bl _))⟩
/-! isinstance(x, T), T written -/
def kName (k : Nat) : String := match k with
  | 0 => "bool" | 1 => "int" | 2 => "str" | 3 => "tuple" | 4 => "list" | _ => "dict"
theorem kind_ok {K : PySem.W.Frag} {H : Hp} {d : c.D} {k : Nat} {b : Bool} {v : V} (hK : K = c.K) (r : Rep c H v d) (h : kindOf k d = some b) (hk : k < 5) : ∃ t, TyX K H v t ∧ PySem.W.kitOne K t (.type (kName k)) = some b := by
  subst hK
  have hk' : k = 0 ∨ k = 1 ∨ k = 2 ∨ k = 3 ∨ k = 4 := by omega
  cases r with
  | non => cases h; rcases hk' with rfl | rfl | rfl | rfl | rfl <;> exact ⟨_, .base .non, kit_ty (by decide +kernel)⟩
  | bl b => cases h; rcases hk' with rfl | rfl | rfl | rfl | rfl <;> exact ⟨_, .base (.bl _), kit_ty (by decide +kernel)⟩
  | int n => cases h; rcases hk' with rfl | rfl | rfl | rfl | rfl <;> exact ⟨_, .base (.int _), kit_ty (by decide +kernel)⟩
  | str n => cases h; rcases hk' with rfl | rfl | rfl | rfl | rfl <;> exact ⟨_, .base (.str _), kit_ty (by decide +kernel)⟩
  | lst s r => cases h; rcases hk' with rfl | rfl | rfl | rfl | rfl <;> exact ⟨_, .base (.lst s), kit_ty (by decide +kernel)⟩
  | scr s r => cases h
  | dct s r1 r2 => cases h
  | obj s e r => cases h
  | @tup a xs ds s r =>
    have ty : TyX c.K H (.ref a) (.type "tuple") := by
      rcases s with (s | ⟨o, s⟩) | ⟨o, its, n, hk, hc, _⟩
      · exact .base (.tup s)
      · exact .fTuple s
      · exact .kTuple hk hc
    cases h
    rcases hk' with rfl | rfl | rfl | rfl | rfl <;> exact ⟨_, ty, kit_ty (by decide +kernel)⟩
end
end Y

set_option Elab.async false
set_option linter.all false
set_option maxRecDepth 100000
set_option maxHeartbeats 4000000
namespace Y
open PySem PySem.Spec PyProof.Rows L2 PySem.SeqAt
/-! ## sorted: a list of tuples that are alike -/
section ins
variable {α β : Type}
theorem ins_mem {le : α → α → Bool} {a x : α} : ∀ {l : List α}, x ∈ ins le a l → x = a ∨ x ∈ l
  | [], h => .inl (List.mem_singleton.mp h)
  | b :: r, h => by
    unfold ins at h
    split at h
    · rcases List.mem_cons.mp h with z | z
      · exact .inl z
      · exact .inr z
    · rcases List.mem_cons.mp h with z | z
      · exact .inr (by rw [z]; exact List.mem_cons_self ..)
      · exact (ins_mem z).imp id (List.mem_cons_of_mem _)
theorem insS_mem {le : α → α → Bool} {x : α} : ∀ {l : List α}, x ∈ insS le l → x ∈ l
  | a :: l, h => by
    rcases ins_mem h with z | z
    · rw [z]; exact List.mem_cons_self ..
    · exact List.mem_cons_of_mem _ (insS_mem z)
theorem ins_map {r : α → α → Bool} {s : β → β → Bool} (f : α → β) {a : α} : ∀ {l : List α}, (∀ b ∈ l, r a b = s (f a) (f b)) → (ins r a l).map f = ins s (f a) (l.map f)
  | [], _ => rfl
  | b :: l, h => by
    rw [List.map_cons]
    unfold ins
    rw [h b (List.mem_cons_self ..)]
    split
    · rfl
    · rw [List.map_cons, ins_map f fun c hc => h c (List.mem_cons_of_mem _ hc)]
theorem insS_map {r : α → α → Bool} {s : β → β → Bool} (f : α → β) : ∀ {l : List α}, (∀ a ∈ l, ∀ b ∈ l, r a b = s (f a) (f b)) → (insS r l).map f = insS s (l.map f)
  | [], _ => rfl
  | a :: l, h => by
    rw [List.map_cons]
    unfold insS
    rw [ins_map f fun b hb => h a (List.mem_cons_self ..) b (List.mem_cons_of_mem _ (insS_mem hb)), insS_map f fun x hx y hy => h x (List.mem_cons_of_mem _ hx) y (List.mem_cons_of_mem _ hy)]
theorem ins_split {le : α → α → Bool} {a : α} : ∀ {l1 l2 : List α}, (∀ b ∈ l1, (!le a b) = true) → (∀ b ∈ l2, le a b = true) → ins le a (l1 ++ l2) = l1 ++ a :: l2
  | [], [], _, _ => rfl
  | [], b :: r, _, h => by
    show ins le a (b :: r) = _
    unfold ins
    rw [if_pos (h b (List.mem_cons_self ..))]; rfl
  | c :: l1, l2, h1, h2 => by
    show ins le a (c :: (l1 ++ l2)) = _
    unfold ins
    have := h1 c (List.mem_cons_self ..)
    rw [if_neg (by simpa using this), ins_split (fun b hb => h1 b (List.mem_cons_of_mem _ hb)) h2]; rfl
theorem insS_merge {le : α → α → Bool} (h : PySem.W.TotalLe le) : ∀ l : List α, l.mergeSort le = insS le l
  | [] => by simp [insS]
  | a :: l => by
    obtain ⟨l1, l2, h1, h2, h3⟩ := List.mergeSort_cons (le := le) (fun a b c => h.trans a b c) (fun a b => by simpa using h.total a b) a l
    have hs := PySem.W.sort_pairwise h (a :: l)
    unfold insS
    rw [← insS_merge h l, h2, h1]
    rw [h1] at hs
    have h4 := (List.pairwise_append.mp hs).2.1
    exact (ins_split h3 fun b hb => (List.pairwise_cons.mp h4).1 b hb).symm
end ins
section
variable {c : Cf}
mutual
theorem alk_ok : ∀ {d e : c.D} {p q : PyData}, alk d e = true → den d = some p → den e = some q → PySem.W.alike p q = true
  | .int _, e, p, q, h, h1, h2 => by
    cases e <;> first | (simp [alk] at h; done) | skip
    cases h1; cases h2; rfl
  | .str _, e, p, q, h, h1, h2 => by
    cases e <;> first | (simp [alk] at h; done) | skip
    cases h1; cases h2; rfl
  | .bl _, e, p, q, h, h1, h2 => by
    cases e <;> first | (simp [alk] at h; done) | skip
    cases h1; cases h2; rfl
  | .tup a, e, p, q, h, h1, h2 => by
    cases e <;> first | (simp [alk] at h; done) | skip
    rename_i b
    simp only [alk] at h
    simp only [den] at h1 h2
    obtain ⟨ps, e1, e2⟩ := Option.map_eq_some_iff.mp h1
    obtain ⟨qs, e3, e4⟩ := Option.map_eq_some_iff.mp h2
    subst e2; subst e4
    have := alks_ok h e1 e3
    simpa [PySem.W.alike] using this
  | .non, e, _, _, h, _, _ => by cases e <;> simp [alk] at h
  | .lst _, e, _, _, h, _, _ => by cases e <;> simp [alk] at h
  | .obj _ _, e, _, _, h, _, _ => by cases e <;> simp [alk] at h
  | .dct _ _, e, _, _, h, _, _ => by cases e <;> simp [alk] at h
  | .scr _, e, _, _, h, _, _ => by cases e <;> simp [alk] at h
theorem alks_ok : ∀ {d e : List c.D} {p q : List PyData}, alks d e = true → dens d = some p → dens e = some q → PySem.W.alikeAll p q = true
  | [], _, _, _, _, h1, _ => by cases h1; simp [PySem.W.alikeAll]
  | a :: as, [], _, _, _, h1, h2 => by
    cases h2
    simp only [dens] at h1
    split at h1
    · cases h1; simp [PySem.W.alikeAll]
    · cases h1
  | a :: as, b :: bs, _, _, h, h1, h2 => by
    simp only [alks, Bool.and_eq_true] at h
    simp only [dens] at h1 h2
    split at h1
    · rename_i x1 x2
      split at h2
      · rename_i y1 y2
        cases h1; cases h2
        simp only [PySem.W.alikeAll, Bool.and_eq_true]
        exact ⟨alk_ok h.1 x1 y1, alks_ok h.2 x2 y2⟩
      · cases h2
    · cases h1
end
theorem lx0 : PyProof.Rows.lexLt itemOrd [Sum.inl 0] [Sum.inl 0] = false := lex_irrefl _
mutual
theorem ltD_ok : ∀ {d e : c.D} {p q : PyData} {r : Bool}, ltD d e = some r → alk d e = true → den d = some p → den e = some q → PySem.W.dataLt p q = r
  | .int a, e, p, q, r, hr, h, h1, h2 => by
    cases e <;> first | (simp [alk] at h; done) | skip
    cases h1; cases h2
    rename_i b
    simp only [ltD] at hr
    obtain ⟨o, e1, e2⟩ := Option.map_eq_some_iff.mp hr
    rw [PySem.W.dataLt_int, ← e2, cmp_lt (c.nm.cmp_ok e1)]
  | .str a, e, p, q, r, hr, h, h1, h2 => by
    cases e <;> first | (simp [alk] at h; done) | skip
    cases h1; cases h2
    simp only [ltD] at hr
    cases hr
    rw [PySem.W.dataLt_str]
  | .tup a, e, p, q, r, hr, h, h1, h2 => by
    cases e <;> first | (simp [alk] at h; done) | skip
    rename_i b
    simp only [alk] at h
    simp only [ltD] at hr
    simp only [den] at h1 h2
    obtain ⟨ps, e1, e2⟩ := Option.map_eq_some_iff.mp h1
    obtain ⟨qs, e3, e4⟩ := Option.map_eq_some_iff.mp h2
    subst e2; subst e4
    rw [PySem.W.dataLt_tuple]
    exact ltDs_ok hr h e1 e3
  | .bl _, e, _, _, _, hr, h, _, _ => by cases e <;> first | (simp [alk] at h; done) | simp [ltD] at hr
  | .non, e, _, _, _, hr, h, _, _ => by cases e <;> simp [alk] at h
  | .lst _, e, _, _, _, hr, h, _, _ => by cases e <;> simp [alk] at h
  | .obj _ _, e, _, _, _, hr, h, _, _ => by cases e <;> simp [alk] at h
  | .dct _ _, e, _, _, _, hr, h, _, _ => by cases e <;> simp [alk] at h
  | .scr _, e, _, _, _, hr, h, _, _ => by cases e <;> simp [alk] at h
theorem ltDs_ok : ∀ {d e : List c.D} {p q : List PyData} {r : Bool}, ltDs d e = some r → alks d e = true → dens d = some p → dens e = some q → PyProof.Rows.lexLt itemOrd (PySem.W.keyToksAll p) (PySem.W.keyToksAll q) = r
  | [], [], _, _, _, hr, _, h1, h2 => by
    cases h1; cases h2; cases hr
    simp only [PySem.W.keyToksAll]
    exact lx0
  | [], b :: bs, _, _, _, hr, _, h1, h2 => by
    cases h1; cases hr
    simp only [dens] at h2
    split at h2
    · cases h2
      simp only [PySem.W.keyToksAll]
      rw [lex_diff (by simp)]; rfl
    · cases h2
  | a :: as, [], _, _, _, hr, _, h1, h2 => by
    cases h2; cases hr
    simp only [dens] at h1
    split at h1
    · cases h1
      simp only [PySem.W.keyToksAll]
      rw [lex_diff (by simp)]; rfl
    · cases h1
  | a :: as, b :: bs, _, _, r, hr, h, h1, h2 => by
    simp only [alks, Bool.and_eq_true] at h
    simp only [dens] at h1 h2
    split at h1
    · rename_i x1 x2
      split at h2
      · rename_i y1 y2
        cases h1; cases h2
        simp only [ltDs] at hr
        split at hr
        · rename_i e
          rw [PySem.W.dataLt_all_yes (alk_ok h.1 x1 y1) (eqD_ok e x1 y1)]
          exact ltDs_ok hr h.2 x2 y2
        · rename_i e
          rw [PySem.W.dataLt_all_no (alk_ok h.1 x1 y1) (eqD_ok e x1 y1)]
          exact ltD_ok hr h.1 x1 y1
        · cases hr
      · cases h2
    · cases h1
end
end
section
variable {X : Cx}
/-- sorted(xs), xs a list of data that are alike -/
def rSortD (K : PySem.W.Frag) : List V → Hp → VK → Prop := fun vs H Q => ∃ (a : Addr) (xs : List V) (ps : List PyData), vs = [.ref a] ∧ SqL K H a xs ∧ DpAll K H xs ps ∧ PySem.W.AllAlike ps ∧ PySem.W.Sortable ps ∧ ps.length ≤ 1000 ∧ (∀ p ∈ ps, p.depth ≤ 30) ∧
  ∀ p, H p = none → Q (.ref p) (upd H p (.lst (((xs.zip ps).mergeSort (PySem.W.dataLe false fun b => b.2)).map (·.1))))
theorem zip_is {I : List V} {J : List Value} (r : Vals I J) : ∀ {ps : List PyData}, I.length = ps.length → PySem.W.EachIs (fun (u : Value) (b : V × PyData) => RelV b.1 u) J (I.zip ps) := by
  induction r with
  | nil => intro ps _; exact .nil
  | cons h t ih =>
    intro ps hl
    cases ps with
    | nil => simp at hl
    | cons p ps => exact .cons h (ih (by simpa using hl))
theorem vals_of {bs : List (V × PyData)} {us : List Value} (h : PySem.W.EachIs (fun (u : Value) (b : V × PyData) => RelV b.1 u) us bs) : Vals (bs.map (·.1)) us := by
  induction h with
  | nil => exact .nil
  | cons h t ih => exact .cons h ih
theorem reads_is {pins : List (Addr × Obj)} {σ : L2.St} {H : Hp} {s : Shared} (I : Inv X pins σ H s) : ∀ {xs : List V} {us : List Value} {ps : List PyData}, Vals xs us → DpAll X.K H xs ps → PySem.W.EachIs (fun (v : Value) (b : V × PyData) => ∃ as, Reads s.heap v b.2 as) us (xs.zip ps)
  | _, _, _, .nil, .nil => .nil
  | _, _, _, .cons r t, .cons d e => .cons (Dp.reads I _ _ _ d r) (reads_is I t e)
theorem dpAll_len {K : PySem.W.Frag} {H : Hp} : ∀ {xs : List V} {ps : List PyData}, DpAll K H xs ps → xs.length = ps.length
  | _, _, .nil => rfl
  | _, _, .cons _ t => by rw [List.length_cons, List.length_cons, dpAll_len t]
theorem zip_snd {xs : List V} : ∀ {ps : List PyData}, xs.length = ps.length → (xs.zip ps).map (·.2) = ps := fun h => by rw [List.map_snd_zip]; omega
theorem cr_sortD (hu : X.A.units + 40 < cLine) : CallR X (.builtin "sorted") (rSortD X.K) := by
  intro pins s σ H vs us Q I r h
  obtain ⟨a, xs, ps, rfl, hs, hd, hal, hk, hL, hdep, q⟩ := h
  obtain ⟨its, rv, hl, hz⟩ := I.list hs
  obtain ⟨u, rfl, ru⟩ := vals1 r
  obtain rfl : u = Value.ref a := ru
  have len := dpAll_len hd
  have e2 := zip_snd len
  refine PySem.W.sorted_data (enc := fun b : V × PyData => b.2) hl.isList (zip_is rv len) (reads_is I rv hd) (by rw [e2]; exact hal) (by rw [e2]; exact hk) (by rw [List.length_zip, len, Nat.min_self, sizeLine_eq]; omega) (fun b hb => ?_) fun out ho eo => ?_
  · have := hdep b.2 (List.of_mem_zip hb).2
    omega
  · obtain ⟨n, hn⟩ := sortedAll_at s.heap its out.toArray
    refine ⟨.ref (s.heap.objs.size + 1), upd H (s.heap.objs.size + 1) (.lst _), I.laid (t' := s.toks) (fun b o e => sortedAll_old e) (Nat.le_succ _) ⟨?_, out, n, vals_of eo, hn⟩, rfl, q _ (I.hok.fresh (Nat.le_succ _))⟩
    rw [List.length_map, (List.mergeSort_perm _ _).length_eq, List.length_zip, len, Nat.min_self, sizeLine_eq]; omega
end

section
variable {c : Cf} {X : Cx} {EW : XK}
theorem dens_of {ds : List c.D} (h : ds.all shp = true) : ∃ ps, dens ds = some ps ∧ ps.length = ds.length ∧ ∀ p ∈ ps, p.depth ≤ 30 := by
  induction ds with
  | nil => exact ⟨[], rfl, rfl, by simp⟩
  | cons d ds ih =>
    rw [List.all_cons, Bool.and_eq_true] at h
    obtain ⟨ps, h1, h2, h3⟩ := ih h.2
    obtain ⟨p, q1, q2, q3⟩ := shp_ok h.1
    refine ⟨p :: ps, by simp only [dens, q1, h1], by simp [h2], fun x hx => ?_⟩
    rcases List.mem_cons.mp hx with z | z
    · rw [z]; exact q3
    · exact h3 x z
theorem dens_mem {ds : List c.D} : ∀ {ps : List PyData}, dens ds = some ps → ∀ p ∈ ps, ∃ d ∈ ds, den d = some p := by
  induction ds with
  | nil => intro ps h; cases h; simp
  | cons d ds ih =>
    intro ps h
    simp only [dens] at h
    split at h
    · rename_i h1 h2
      cases h
      intro p hp
      rcases List.mem_cons.mp hp with z | z
      · rw [z]; exact ⟨d, List.mem_cons_self .., h1⟩
      · obtain ⟨e, he, q⟩ := ih h2 p z
        exact ⟨e, List.mem_cons_of_mem _ he, q⟩
    · cases h
theorem repL_fst {G : Hp} : ∀ {bs : List (V × c.D)}, (∀ b ∈ bs, Rep c G b.1 b.2) → RepL c G (bs.map (·.1)) (bs.map (·.2))
  | [], _ => .nil
  | b :: bs, h => .cons (h b (List.mem_cons_self ..)) (repL_fst fun x hx => h x (List.mem_cons_of_mem _ hx))
theorem repL_zip {G : Hp} : ∀ {vs : List V} {ds : List c.D}, RepL c G vs ds → ∀ b ∈ vs.zip ds, Rep c G b.1 b.2
  | _, _, .nil, b, h => by simp at h
  | _, _, .cons a r, b, h => by
    rw [List.zip_cons_cons] at h
    rcases List.mem_cons.mp h with z | z
    · rw [z]; exact a
    · exact repL_zip r b z
theorem zip3 {vs : List V} {ds : List c.D} : ∀ {ps : List PyData}, dens ds = some ps → vs.length = ds.length → (vs.zip ds).map (fun b => (b.1, (den b.2).getD .none)) = vs.zip ps := by
  induction ds generalizing vs with
  | nil => intro ps h hl; cases h; have : vs = [] := List.length_eq_zero_iff.mp hl; subst this; rfl
  | cons d ds ih =>
    intro ps h hl
    cases vs with
    | nil => simp at hl
    | cons v vs =>
      simp only [dens] at h
      split at h
      · rename_i h1 h2
        cases h
        rw [List.zip_cons_cons, List.map_cons, ih h2 (by simpa using hl), List.zip_cons_cons, h1]; rfl
      · cases h
theorem so_sorted {f : Rho c → Out c (List (Tm c))} {e : Expr} {es : List Expr} {p pos : Pos} (hs : (e :: es).all plE = true) (hu : X.A.units + 40 < cLine) (hK : X.K = c.K) (hg : Gl X "sorted") (hm : X.mg "sorted" = none) (h : SoB c X EW f (e :: es)) :
    SoE c X EW (fun ρ => (f ρ).bind fun tms ρ1 => match (tOs ρ1 tms).bind (one1 sortO) with | some r => .ok (.o r) ρ1 | none => .bad) (.Call (.Name "sorted" p) (e :: es) [] pos) := by
  rw [List.all_cons, Bool.and_eq_true] at hs
  refine so_bf h (fun pa => pe_callB (cr_sortD hu) hg hm boot_sorted pa (he := star_pl hs.1) (hpl := any_pl hs.2)) fun E ρ σ ts H Q t v x z j e3 e2 k => ?_
  obtain ⟨h1, h2, h3, G, ff, g⟩ := j
  obtain ⟨fx, rx⟩ := g.tO h1 h3 m0 e3
  unfold sortO at e2
  obtain ⟨ds', e4, e5⟩ := Option.map_eq_some_iff.mp e2
  subst e5
  obtain ⟨ds, e6, e7⟩ := Option.bind_eq_some_iff.mp e4
  obtain ⟨a, xs, ev, hx, r⟩ := lItems_rep g.sub rx e6
  unfold sortD at e7
  split at e7
  · rename_i hc
    cases e7
    simp only [Bool.and_eq_true, decide_eq_true_eq] at hc
    obtain ⟨⟨⟨c1, c2⟩, c3⟩, c4⟩ := hc
    obtain ⟨ps, d1, d2, d3⟩ := dens_of c1
    have hal : ∀ x ∈ ds, ∀ y ∈ ds, alk x y = true ∧ (ltD x y).isSome = true := fun x hx y hy => by
      have := List.all_eq_true.mp (List.all_eq_true.mp c3 x hx) y hy
      exact Bool.and_eq_true_iff.mp this
    refine ⟨a, xs, ps, by rw [ev], by rw [hK]; exact SqL.of hx, by rw [hK]; exact rep_dps (r.mono g.sub) d1, fun p hp q hq => ?_, ?_, by rw [d2]; exact c4, d3, fun q hq => ?_⟩
    · obtain ⟨x, hx, ex⟩ := dens_mem d1 p hp
      obtain ⟨y, hy, ey⟩ := dens_mem d1 q hq
      exact alk_ok (hal x hx y hy).1 ex ey
    · rcases Bool.or_eq_true_iff.mp c2 with c2 | c2
      · refine .inl fun p hp => ?_
        obtain ⟨x, hx, ex⟩ := dens_mem d1 p hp
        have q := List.all_eq_true.mp c2 x hx
        unfold tupN at q
        split at q
        · simp only [den, dens] at ex
          split at ex
          · cases ex; exact ⟨_, _, rfl⟩
          · cases ex
        · cases q
      · refine .inr fun p hp => ?_
        obtain ⟨x, hx, ex⟩ := dens_mem d1 p hp
        have q := List.all_eq_true.mp c2 x hx
        unfold intStr at q
        split at q
        · cases ex; exact ⟨by simp, by simp⟩
        · cases ex; exact ⟨by simp, by simp⟩
        · cases q
    · have e9 : ((xs.zip ps).mergeSort (PySem.W.dataLe false fun b => b.2)).map (·.1) = (insS (fun (b b' : V × c.D) => !((ltD b'.2 b.2).getD false)) (xs.zip ds)).map (·.1) := by
        rw [insS_merge (le := PySem.W.dataLe false fun b : V × PyData => b.2) (PySem.W.sortLe_total _ _ _) (xs.zip ps), ← zip3 d1 r.length]
        have := insS_map (r := fun (b b' : V × c.D) => !((ltD b'.2 b.2).getD false)) (s := PySem.W.dataLe false fun b => b.2) (fun b : V × c.D => (b.1, (den b.2).getD .none)) (l := xs.zip ds) fun b hb b' hb' => by
          have m1 := (List.of_mem_zip hb).2
          have m2 := (List.of_mem_zip hb').2
          have q := hal b'.2 m2 b.2 m1
          obtain ⟨w, hw⟩ := Option.isSome_iff_exists.mp q.2
          obtain ⟨p1, z1, _⟩ := shp_ok (List.all_eq_true.mp c1 _ m1)
          obtain ⟨p2, z2, _⟩ := shp_ok (List.all_eq_true.mp c1 _ m2)
          rw [hw]
          show (!w) = !(PySem.W.dataLt ((den b'.2).getD .none) ((den b.2).getD .none))
          rw [z1, z2]
          show (!w) = !(PySem.W.dataLt p2 p1)
          rw [ltD_ok hw q.1 z2 z1]
        rw [← this, List.map_map]
        rfl
      have e10 : insS (fun x y => !((ltD y x).getD false)) ds = (insS (fun (b b' : V × c.D) => !((ltD b'.2 b.2).getD false)) (xs.zip ds)).map (·.2) := by
        rw [insS_map (s := fun x y => !((ltD y x).getD false)) (fun b : V × c.D => b.2) fun _ _ _ _ => rfl, List.map_snd_zip (by rw [r.length]; exact Nat.le_refl _)]
      rw [e9]
      refine k _ _ ?_
      rw [e10]
      exact mkLst h1 h2 h3 g hq (repL_fst fun b hb => repL_zip r b (insS_mem hb))
  · cases e7
end
end Y

set_option Elab.async false
set_option linter.all false
set_option maxRecDepth 100000
set_option maxHeartbeats 4000000
namespace Y
open PySem PySem.Spec PyProof.Rows L2
section
variable {c : Cf} {X : Cx} {EW : XK} {E : Ent} {ρ ρ' : Rho c} {σ : L2.St} {ts us : Stk c} {H : Hp} {Q : VK} {t1 t2 : Tm c} {v v1 v2 : V} {x y z : c.O}
theorem so_isi {k : Nat} {fa : Rho c → Out c (Tm c)} {a : Expr} {p p2 pos : Pos} {n : Str} (hk : k < 5) (hn : n = kName k) (hpl : plE a = true) (hK : X.K = c.K) (hg : Gl X "isinstance") (hm : X.mg "isinstance" = none) (hg2 : Gl X n) (hm2 : X.mg n = none) (ha : SoE c X EW fa a) :
    SoE c X EW (unS (fun x => (kindOf k x.d).map fun b => .fr (.bl b)) fa) (.Call (.Name "isinstance" p) [a, .Name n p2] [] pos) := by
  obtain ⟨t, pe, kk⟩ := ha.ex
  have pt : PE X (.Name n p2) (tC (.ty (kName k))) := by
    subst hn
    have hk' : k = 0 ∨ k = 1 ∨ k = 2 ∨ k = 3 ∨ k = 4 := by omega
    rcases hk' with rfl | rfl | rfl | rfl | rfl <;> exact pe_bltn hg2 hm2 (by decide +kernel) rfl (by decide +kernel) (by decide +kernel)
  refine ⟨_, pe_callB call_isi hg hm (by decide +kernel) (pa_cons pe (pa_cons pt pa_nil) (star_pl hpl)) (he := star_pl hpl), fun E ρ σ ts H Q j hw => kk E ρ σ ts H _ j ((Wt.bind hw).mono fun t1 ρ1 h1 v1 H1 j1 => ?_)⟩
  cases e1 : tO ρ1 t1 with
  | none => simp only [e1] at h1; exact h1.elim
  | some x =>
    cases e2 : kindOf k x.d with
    | none => simp only [e1, e2] at h1; exact h1.elim
    | some b =>
      simp only [e1, e2] at h1
      obtain ⟨tt, h2, h3⟩ := kind_ok hK (j1.tD m0 (tD_of e1)) e2 hk
      exact ⟨v1, .ty (kName k), tt, .type (kName k), b, rfl, .ty _, h2, h3, h1 _ _ (j1.at fun G => .bl _)⟩

theorem so_dgt {t : List (Str × c.D)} {fk : Rho c → Out c (Tm c)} {k : Expr} {n : Str} {a0 : Addr} {p pos : Pos} (hp : PlainIx k) (hK : X.K = c.K) (hW : X.w = c.w) (hg : Gl X n) (hdb : (n == ("__debug__" : Str)) = false) (hm : X.mg n = some (.ref a0)) (ht : ∀ z d, t.lookup z = some d → ∃ v, KDct c.K c.w a0 z v ∧ ∀ G : Hp, Rep c G v d) (hk : SoE c X EW fk k) :
    SoE c X EW (unS (dgtO t) fk) (.Subscript (.Name n p) k pos) := by
  obtain ⟨tk, pk, kk⟩ := hk.ex
  refine ⟨_, pe_ix ix_kdict (pe_glob hg hm (v := .ref a0) rfl hdb) pk hp, fun E ρ σ ts H Q j hw => ?_⟩
  refine kk E ρ σ ts H _ j ((Wt.bind hw).mono fun t1 ρ1 h1 v1 H1 j1 => ?_)
  cases e1 : tO ρ1 t1 with
  | none => simp only [e1] at h1; exact h1.elim
  | some x =>
    cases e2 : dgtO t x with
    | none => simp only [e1, e2] at h1; exact h1.elim
    | some r =>
      simp only [e1, e2] at h1
      unfold dgtO at e2
      split at e2
      · rename_i z
        obtain ⟨d, q1, q2⟩ := Option.map_eq_some_iff.mp e2
        subst q2
        obtain ⟨v, kd, rv⟩ := ht z d q1
        obtain ⟨h1', h2', h3', G, ff, g⟩ := id j1
        obtain ⟨fx, rx⟩ := g.tO h1' h3' m0 e1
        exact ⟨a0, z, v, rfl, rep_str rx.unfr, by rw [hK, hW]; exact kd, h1 _ _ (j1.at fun G => rv G)⟩
      · cases e2

/-! ### targets -/
def tslots : M → List Nat
  | .tn i => [i]
  | .tt l => tslots l
  | .cons a r => tslots a ++ tslots r
  | _ => []
theorem wipe_set {σ : L2.St} {i : Nat} {x : Option V} : ∀ {own : List Nat}, i ∈ own → wipe (σ.set i x) own = wipe σ own
  | v :: vs, h => by
    unfold wipe
    by_cases hi : i ∈ vs
    · rw [wipe_set hi]
    · have e : i = v := by
        rcases List.mem_cons.mp h with z | z
        · exact z
        · exact absurd z hi
      subst e
      have comm : ∀ ws : List Nat, i ∉ ws → wipe (σ.set i x) ws = (wipe σ ws).set i x := fun ws => by
        induction ws with
        | nil => intro _; rfl
        | cons w ws ih =>
          intro hn
          have h1 : i ≠ w := fun e => hn (by rw [e]; exact List.mem_cons_self ..)
          have h2 : i ∉ ws := fun e => hn (List.mem_cons_of_mem _ e)
          unfold wipe
          rw [ih h2, List.set_comm _ _ h1]
      rw [comm vs hi, List.set_set]
structure SoG (c : Cf) (X : Cx) (pin : Bool) (S : List Nat) (g : c.O → Rho c → Option (Rho c)) (e : Expr) : Prop where
  ex : ∃ t : TG, PG X e t ∧ ∀ (E : Ent) (ρ ρ' : Rho c) (σ : L2.St) (ts : Stk c) (H : Hp) (Q : L2.St → Hp → Prop) (o : c.O) (v : V), (E.pin = none ∨ pin = true ∨ 0 ∉ S) → NoSl S ts → J c E ρ σ (ts ++ [(.o o, v)]) H → g o ρ = some ρ' →
    (∀ σ', J c E ρ' σ' ts H → (∀ own, (∀ i ∈ S, i ∈ own) → wipe σ' own = wipe σ own) → Q σ' H) → t v σ H Q
structure SoGs (c : Cf) (X : Cx) (pin : Bool) (S : List Nat) (g : List c.D → Rho c → Option (Rho c)) (es : List Expr) : Prop where
  len : ∀ ds ρ ρ', g ds ρ = some ρ' → ds.length = es.length
  pl : ∀ env, (assignEach es env).length = es.length ∧ (assignEach es env).findIdx? (·.1) = none
  ex : ∃ t : TGs, PGs X es t ∧ ∀ (E : Ent) (ρ ρ' : Rho c) (σ : L2.St) (ts : Stk c) (H : Hp) (Q : L2.St → Hp → Prop) (ds : List c.D) (vs : List V), (E.pin = none ∨ pin = true ∨ 0 ∉ S) → NoSl S ts → ds.length = vs.length → J c E ρ σ (ts ++ fS ds.reverse vs.reverse) H → g ds ρ = some ρ' →
    (∀ σ', J c E ρ' σ' ts H → (∀ own, (∀ i ∈ S, i ∈ own) → wipe σ' own = wipe σ own) → Q σ' H) → t vs σ H Q
theorem so_tn {pin : Bool} {i : Nat} {n : Str} {pos : Pos} (hN : X.N.Nodup) (hi : X.N[i]? = some n) (hx : Loc X.env.scope n) (hf : X.fn n = true ∨ X.env.scope.names.lookup n = some .local) :
    SoG c X pin [i] (fun o ρ => if (pin && i == 0) || decide (ρ.length ≤ i) then none else some (ρ.set i (some o))) (.Name n pos) := by
  refine ⟨_, pg_name hN hi hx hf, fun E ρ ρ' σ ts H Q o v hp ha j hg k => ?_⟩
  split at hg
  · cases hg
  · rename_i hc
    cases hg
    simp only [Bool.or_eq_true, Bool.and_eq_true, beq_iff_eq, decide_eq_true_eq, not_or, not_and] at hc
    refine k _ (j.set (by omega) ?_ ha) fun own ho => wipe_set (ho i (List.mem_singleton.mpr rfl))
    rcases hp with h | h | h
    · exact .inl h
    · exact .inr fun e => hc.1 h e
    · exact .inr fun e => h (by rw [e]; exact List.mem_singleton.mpr rfl)

def plT (e : Expr) : Bool := match e with
  | .Name _ _ => true
  | .Tuple _ _ _ => true
  | _ => false
theorem asg_pl {e : Expr} {es : List Expr} {env : Env} (h : plT e = true) : assignEach (e :: es) env = (false, assign e env) :: assignEach es env := by
  cases e <;> first | rfl | cases h
theorem so_gnil {pin : Bool} : SoGs c X pin [] (fun ds ρ => match ds with | [] => some ρ | _ => none) [] := by
  refine ⟨fun ds ρ ρ' h => ?_, fun env => ⟨rfl, rfl⟩, _, pgs_nil, fun E ρ ρ' σ ts H Q ds vs hp ha hl j hg k => ?_⟩
  · cases ds with
    | nil => rfl
    | cons _ _ => cases h
  cases ds with
  | nil =>
    cases hg
    have : vs = [] := List.length_eq_zero_iff.mp hl.symm
    subst this
    exact ⟨rfl, k σ (by simpa [fS] using j) fun _ _ => rfl⟩
  | cons _ _ => cases hg
theorem fS_no {S : List Nat} {ds : List c.D} {vs : List V} (h : NoSl S ts) : NoSl S (ts ++ fS ds vs) := fun i hi t ht => by
  rcases List.mem_append.mp ht with ht | ht
  · exact h i hi t ht
  · obtain ⟨p, _, e⟩ := List.mem_map.mp ht
    rw [← e]; intro z; cases z
theorem so_gcons {pin : Bool} {S S' : List Nat} {g : c.O → Rho c → Option (Rho c)} {gs : List c.D → Rho c → Option (Rho c)} {e : Expr} {es : List Expr} (hpl : plT e = true) (h : SoG c X pin S g e) (hs : SoGs c X pin S' gs es) :
    SoGs c X pin (S ++ S') (fun ds ρ => match ds with | d :: ds => (g (.fr d) ρ).bind fun ρ1 => gs ds ρ1 | [] => none) (e :: es) := by
  obtain ⟨t, p, k⟩ := h.ex
  obtain ⟨t2, p2, k2⟩ := hs.ex
  refine ⟨fun ds ρ ρ' hg => ?_, fun env => ?_, _, pgs_cons p p2 (by rw [asg_pl hpl]; rfl), fun E ρ ρ' σ ts H Q ds vs hp ha hl j hg kk => ?_⟩
  · cases ds with
    | nil => cases hg
    | cons d ds =>
      obtain ⟨ρ1, e1, e2⟩ := Option.bind_eq_some_iff.mp hg
      rw [List.length_cons, List.length_cons, hs.len ds ρ1 ρ' e2]
  · obtain ⟨q1, q2⟩ := hs.pl env
    rw [asg_pl hpl]
    exact ⟨by simp [q1], by rw [List.findIdx?_cons]; simp [q2]⟩
  cases ds with
  | nil => cases hg
  | cons d ds =>
    cases vs with
    | nil => simp at hl
    | cons v vs =>
      obtain ⟨ρ1, e1, e2⟩ := Option.bind_eq_some_iff.mp hg
      have hl' : ds.length = vs.length := by simpa using hl
      rw [List.reverse_cons, List.reverse_cons, fS_snoc (by simp [hl']), ← List.append_assoc] at j
      refine ⟨v, vs, rfl, k E ρ ρ1 σ _ H _ (.fr d) v (hp.imp id fun h => h.imp id fun h e => h (List.mem_append_left _ e)) (fS_no fun i hi => ha i (List.mem_append_left _ hi)) j e1 fun σ1 j1 hw => ?_⟩
      exact k2 E ρ1 ρ' σ1 ts H Q ds vs (hp.imp id fun h => h.imp id fun h e => h (List.mem_append_right _ e)) (fun i hi => ha i (List.mem_append_right _ hi)) hl' j1 e2 fun σ' j' hw' => kk σ' j' fun own ho => (hw' own fun i hi => ho i (List.mem_append_right _ hi)).trans (hw own fun i hi => ho i (List.mem_append_left _ hi))
theorem pushF {G : Hp} : ∀ {ds : List c.D} {vs : List V} {ρ : List (Option c.O)} {σ : List (Option V)} {f : Nat → List Addr}, JG c E ρ σ H G f → ρ.length = σ.length → RepL c G vs ds → ∃ f', JG c E (ρ ++ cO (fS ds vs)) (σ ++ cV (fS ds vs)) H G f'
  | _, _, ρ, σ, f, g, hl, .nil => ⟨f, by simpa [fS, cO, cV] using g⟩
  | _, _, ρ, σ, f, g, hl, .cons (v := v) (vs := vs) (d := d) (ds := ds) a b => by
    have g1 := g.push (o := some (.fr d)) (v := v) (g := []) hl (fun x e => by cases e; exact .fr a) List.nodup_nil (by simp) (by simp) (by simp)
    obtain ⟨f', g2⟩ := pushF g1 (by simp [hl]) b
    have e1 : cO (fS (d :: ds) (v :: vs)) = some (.fr d) :: cO (fS ds vs) := rfl
    have e2 : cV (fS (d :: ds) (v :: vs)) = some v :: cV (c := c) (fS ds vs) := rfl
    refine ⟨f', ?_⟩
    rw [e1, e2]
    rw [List.append_assoc, List.append_assoc] at g2
    exact g2
theorem mkSeg {G : Hp} {f : Nat → List Addr} {ds : List c.D} {vs : List V} (h1 : ρ.length = σ.length) (h2 : ∀ v0, E.pin = some v0 → σ[0]? = some (some v0)) (h3 : ∀ t ∈ ts ++ us, SlOk ρ σ t) (g : JG c E (ρ ++ cO (ts ++ us)) (σ ++ cV (ts ++ us)) H G f) (r : RepL c G vs ds) : J c E ρ σ (ts ++ fS ds vs) H := by
  have hl := (J.cut (J.of h1 h2 h3 g)).lens
  rw [cO_app, cV_app, ← List.append_assoc, ← List.append_assoc] at g
  obtain ⟨f', g2⟩ := pushF (g.cut hl) hl r
  rw [List.append_assoc, List.append_assoc, ← cO_app, ← cV_app] at g2
  refine J.of h1 h2 (fun t ht => ?_) g2
  rcases List.mem_append.mp ht with ht | ht
  · exact h3 t (List.mem_append_left _ ht)
  · obtain ⟨p, _, e⟩ := List.mem_map.mp ht
    rw [← e]; trivial
theorem repL_rev {G : Hp} : ∀ {vs : List V} {ds : List c.D}, RepL c G vs ds → RepL c G vs.reverse ds.reverse
  | _, _, .nil => .nil
  | _, _, .cons a b => by
    rw [List.reverse_cons, List.reverse_cons]
    exact (repL_rev b).append (.cons a .nil)
theorem so_tt {pin : Bool} {S : List Nat} {gs : List c.D → Rho c → Option (Rho c)} {es : List Expr} {k : Nat} {pos : Pos} (hc : X.calm = true) (hK : X.K = c.K) (h : SoGs c X pin S gs es) : SoG c X pin S (fun o ρ => match o with | .fr (.tup ds) => gs ds ρ | _ => none) (.Tuple es k pos) := by
  obtain ⟨t, p, kk⟩ := h.ex
  refine ⟨_, pg_tup (n := es.length) hc p (h.pl _).1 (h.pl _).2, fun E ρ ρ' σ ts H Q o v hp ha j hg k => ?_⟩
  split at hg
  · rename_i ds
    obtain ⟨h1, h2, h3, G, f, g⟩ := j
    obtain ⟨fx, rx⟩ := g.tO h1 h3 (tm := .o (.fr (.tup ds))) m0 rfl
    obtain ⟨a, xs, ev, q, r⟩ := rep_tup rx.unfr
    refine ⟨a, xs, ev, by rw [hK]; exact seqT_mono g.sub q, by rw [r.length]; exact h.len _ _ _ hg, ?_⟩
    exact kk E ρ ρ' σ ts H Q ds xs hp ha r.length.symm (mkSeg h1 h2 h3 g (repL_rev r)) hg k
  · cases hg

/-! ### what is walked -/
def ItOk (c : Cf) (I : It) (us : Stk c) (ds : List c.D) : Prop := ∀ (E : Ent) (ρ : Rho c) (σ : L2.St) (ts ws : Stk c) (H : Hp), J c E ρ σ (ts ++ us ++ ws) H →
  (∀ i, i < ds.length → I.go i H ∧ ∀ x H', I.yld i H x H' → ∃ d, ds[i]? = some d ∧ J c E ρ σ (ts ++ us ++ ws ++ [(.o (.fr d), x)]) H') ∧ ∀ i, ds.length ≤ i → I.stop i H
structure SoI (c : Cf) (X : Cx) (EW : XK) (f : Rho c → Out c (List c.D)) (tg e : Expr) : Prop where
  ex : ∃ wi : TI, PI X tg e wi ∧ ∀ (E : Ent) (ρ : Rho c) (σ : L2.St) (ts : Stk c) (H : Hp) (R : It → Hp → Prop), J c E ρ σ ts H →
    Wt c E EW (fun ds ρ' => ∀ I H' us, J c E ρ' σ (ts ++ us) H' → AllO us → ItOk c I us ds → R I H') (f ρ) → wi σ H R
/-- a list or a tuple, walked -/
def iSeq (K : PySem.W.Frag) (tl : TE) : TI := fun σ H R => tl σ H fun x H1 => ∃ a, x = .ref a ∧ (((∃ xs, SqL K H1 a xs) ∧ R (Itl K a) H1) ∨ ((∃ xs, SqT K H1 a xs) ∧ R (Itt K a) H1))
theorem pi_seq {tg l : Expr} {tl : TE} (hl : PE X l tl) : PI X tg l (iSeq X.K tl) := by
  refine ⟨fun pins s σ H R I h => ?_⟩
  refine thn (hl.run pins s σ H _ I h) fun v s1 ⟨x, H1, I1, r1, q1⟩ => ?_
  obtain ⟨a, e, q1⟩ := q1
  subst e
  cases r1
  rcases q1 with ⟨⟨xs, hq⟩, q⟩ | ⟨⟨xs, hq⟩, q⟩
  · obtain ⟨its, rv, p, hz⟩ := I1.list hq
    refine wpAny_pyIter_list p.isList ?_
    refine ⟨s1.heap.objs.size, [s1.heap.objs.size], _, _, H1, rfl, I1.kept (t' := s1.toks) fun b o e => Heap.get?_push_of_some _ e, turn_list a _, ⟨_, Heap.get?_push_size _ rfl, rfl, rfl⟩, fun b hb => ?_, q⟩
    have e : b = s1.heap.objs.size := by simpa using hb
    subst e
    exact I1.fpOk (Nat.le_refl _) (I1.hok.fresh (Nat.le_refl _))
  · obtain ⟨its, rv, p, hz⟩ := I1.tuple hq
    refine wpAny_pyIter_tuple (show s1.heap.IsTuple a its.toArray from p) ?_
    refine ⟨s1.heap.objs.size, [s1.heap.objs.size], _, _, H1, rfl, I1.kept (t' := s1.toks) fun b o e => Heap.get?_push_of_some _ e, turn_tuple a _, ⟨_, Heap.get?_push_size _ rfl, rfl, rfl⟩, fun b hb => ?_, q⟩
    have e : b = s1.heap.objs.size := by simpa using hb
    subst e
    exact I1.fpOk (Nat.le_refl _) (I1.hok.fresh (Nat.le_refl _))
theorem mem_mid {t : Tm c × V} {ws : Stk c} : t ∈ ts ++ [t] ++ ws := by simp
theorem itOk_seq {d : c.D} {ds : List c.D} {a : Addr} (hd : seqD d = some ds) : ItOk c (match d with | .lst _ => Itl c.K a | _ => Itt c.K a) [(.o (.fr d), .ref a)] ds := by
  intro E ρ σ ts ws H j
  obtain ⟨h1, h2, h3, G, f, g⟩ := j
  obtain ⟨fx, rx⟩ := g.tO h1 h3 (tm := .o (.fr d)) mem_mid rfl
  have rx := rx.unfr
  unfold seqD at hd
  split at hd
  · cases hd
    obtain ⟨a', xs, ev, q, r⟩ := rep_lst rx
    cases ev
    have qH : SqL c.K H a xs := SqL.of (g.sub _ _ q)
    refine ⟨fun i hi => ?_, fun i hi => ⟨xs, qH, by rw [r.length]; exact hi⟩⟩
    obtain ⟨v, hv, rv⟩ := r.get (i := i) (List.getElem?_eq_getElem hi)
    refine ⟨⟨xs, v, qH, hv⟩, fun x H' y => ?_⟩
    obtain ⟨e1, e2⟩ := y
    have e3 := e2 xs qH
    rw [hv] at e3; cases e3
    subst e1
    exact ⟨_, List.getElem?_eq_getElem hi, mkPart (us := []) h1 h2 (by simpa using h3) (by simpa using g) rv⟩
  · cases hd
    obtain ⟨a', xs, ev, q, r⟩ := rep_tup rx
    cases ev
    have qH : SqT c.K H a xs := seqT_mono g.sub q
    refine ⟨fun i hi => ?_, fun i hi => ⟨xs, qH, by rw [r.length]; exact hi⟩⟩
    obtain ⟨v, hv, rv⟩ := r.get (i := i) (List.getElem?_eq_getElem hi)
    refine ⟨⟨xs, v, qH, hv⟩, fun x H' y => ?_⟩
    obtain ⟨e1, e2⟩ := y
    have e3 := e2 xs qH
    rw [hv] at e3; cases e3
    subst e1
    exact ⟨_, List.getElem?_eq_getElem hi, mkPart (us := []) h1 h2 (by simpa using h3) (by simpa using g) rv⟩
  · cases hd
theorem so_ite {fa : Rho c → Out c (Tm c)} {tg a : Expr} (hK : X.K = c.K) (ha : SoE c X EW fa a) : SoI c X EW (iteS fa) tg a := by
  constructor
  obtain ⟨t, p, k⟩ := fr_so ha
  refine ⟨_, pi_seq p, fun E ρ σ ts H R j hw => k E ρ σ ts H _ j ((Wt.bind hw).mono fun d ρ1 h1 v1 H1 j1 => ?_)⟩
  cases e : seqD d with
  | none => simp only [e] at h1; exact h1.elim
  | some ds =>
    simp only [e] at h1
    obtain ⟨q1, q2, q3, G, f, g⟩ := id j1
    obtain ⟨fx, rx⟩ := g.tO q1 q3 (tm := .o (.fr d)) m0 rfl
    have rx := rx.unfr
    have us1 : AllO [((Tm.o (OT.fr d) : Tm c), v1)] := fun t ht => ⟨.fr d, by rw [List.mem_singleton.mp ht]⟩
    have e0 := e
    unfold seqD at e
    split at e
    · obtain ⟨a', xs, ev, q, r⟩ := rep_lst rx
      subst ev
      refine ⟨a', rfl, .inl ⟨⟨xs, SqL.of (g.sub _ _ q)⟩, ?_⟩⟩
      rw [hK]
      exact h1 _ H1 _ j1 us1 (itOk_seq e0)
    · obtain ⟨a', xs, ev, q, r⟩ := rep_tup rx
      subst ev
      refine ⟨a', rfl, .inr ⟨⟨xs, by rw [hK]; exact seqT_mono g.sub q⟩, ?_⟩⟩
      rw [hK]
      exact h1 _ H1 _ j1 us1 (itOk_seq e0)
    · cases e
theorem rngD_len {lo : Int} : ∀ n : Nat, (rngD (c := c) lo n).length = n
  | 0 => rfl
  | n + 1 => by simp [rngD, rngD_len n]
theorem rngD_get {lo : Int} : ∀ {n i : Nat}, i < n → (rngD (c := c) lo n)[i]? = some (.int (c.nm.lit (lo + i)))
  | n + 1, i, h => by
    unfold rngD
    by_cases e : i < n
    · rw [List.getElem?_append_left (by rw [rngD_len]; exact e)]; exact rngD_get e
    · have : i = n := by omega
      subst this
      rw [List.getElem?_append_right (by rw [rngD_len]; exact Nat.le_refl _), rngD_len]; simp
theorem itOk_rng {lo : Int} {n : Nat} : ItOk c (Itr lo n) [] (rngD lo n) := by
  intro E ρ σ ts ws H j
  refine ⟨fun i hi => ?_, fun i hi => by rw [rngD_len] at hi; exact hi⟩
  rw [rngD_len] at hi
  refine ⟨hi, fun x H' y => ?_⟩
  obtain ⟨e1, e2⟩ := y
  subst e1
  exact ⟨_, rngD_get hi, by rw [e2]; exact j.atom fun G => lit_rep _⟩
theorem so_rng1 {fa : Rho c → Out c (Tm c)} {tg a : Expr} {p pos : Pos} (hpl : plE a = true) (hg : Gl X "range") (hm : X.mg "range" = none) (ha : SoE c X EW fa a) :
    SoI c X EW (fun ρ => (fa ρ).bind fun t1 ρ1 => match (tO ρ1 t1).bind conOf with | some j => if -1000000000 ≤ j ∧ j ≤ 1000000000 then .ok (rngD 0 j.toNat) ρ1 else .bad | none => .bad) tg (.Call (.Name "range" p) [a] [] pos) := by
  constructor
  obtain ⟨t, pe, k⟩ := ha.ex
  refine ⟨_, pi_range1 hg hm (pa_cons pe pa_nil (star_pl hpl)) (star_pl hpl), fun E ρ σ ts H R j hw => k E ρ σ ts H _ j ((Wt.bind hw).mono fun t1 ρ1 h1 v1 H1 j1 => ?_)⟩
  cases e1 : tO ρ1 t1 with
  | none => simp only [e1, Option.bind_none] at h1; exact h1.elim
  | some x =>
    simp only [e1, Option.bind_some] at h1
    cases e2 : conOf x with
    | none => simp only [e2] at h1; exact h1.elim
    | some i =>
      simp only [e2] at h1
      split at h1
      · rename_i hb
        obtain ⟨n, rfl, hn⟩ := con_of e2
        have a2 := j1.int1 m0 e1
        rw [hn] at a2
        exact ⟨i, by rw [a2], by omega, by omega, h1 _ _ [] (by simpa using j1.cut) (fun t ht => by cases ht) itOk_rng⟩
      · exact h1.elim
theorem so_rng2 {fa fb : Rho c → Out c (Tm c)} {tg a b : Expr} {p pos : Pos} (hpl : plE a = true) (hpl2 : plE b = true) (hg : Gl X "range") (hm : X.mg "range" = none) (ha : SoE c X EW fa a) (hb : SoE c X EW fb b) :
    SoI c X EW (fun ρ => (fa ρ).bind fun t1 ρ1 => (fb ρ1).bind fun t2 ρ2 => match (tO ρ2 t1).bind conOf, (tO ρ2 t2).bind conOf with
      | some i, some j => if -1000000000 ≤ i ∧ i ≤ 1000000000 ∧ -1000000000 ≤ j ∧ j ≤ 1000000000 then .ok (rngD i (j - i).toNat) ρ2 else .bad
      | _, _ => .bad) tg (.Call (.Name "range" p) [a, b] [] pos) := by
  constructor
  obtain ⟨t, pe, k⟩ := ha.ex
  obtain ⟨t2, pe2, k2⟩ := hb.ex
  refine ⟨_, pi_range2 hg hm (pa_cons pe (pa_cons pe2 pa_nil (star_pl hpl2)) (star_pl hpl)) (by rw [star_pl hpl, star_pl hpl2]; rfl) (by rw [star_pl hpl2]; rfl), fun E ρ σ ts H R j hw => k E ρ σ ts H _ j ((Wt.bind hw).mono fun t1 ρ1 h1 v1 H1 j1 => ?_)⟩
  refine k2 E ρ1 σ _ H1 _ j1 ((Wt.bind h1).mono fun t2 ρ2 h2 v2 H2 j2 => ?_)
  rw [List.append_assoc] at j2
  have h2' : Wt c E EW (fun ds ρ' => ∀ I H' us, J c E ρ' σ (ts ++ us) H' → AllO us → ItOk c I us ds → R I H') (match (tO ρ2 t1).bind conOf, (tO ρ2 t2).bind conOf with
      | some i, some j => if -1000000000 ≤ i ∧ i ≤ 1000000000 ∧ -1000000000 ≤ j ∧ j ≤ 1000000000 then .ok (rngD i (j - i).toNat) ρ2 else .bad
      | _, _ => .bad) := h2
  split at h2'
  · rename_i i i2 q1 q2
    obtain ⟨x, e1, e2⟩ := Option.bind_eq_some_iff.mp q1
    obtain ⟨y, e3, e4⟩ := Option.bind_eq_some_iff.mp q2
    split at h2'
    · rename_i hb
      obtain ⟨n, rfl, hn⟩ := con_of e2
      obtain ⟨n2, rfl, hn2⟩ := con_of e4
      have a1 := j2.int1 m1 e1
      have a2 := j2.int1 m2 e3
      rw [hn] at a1
      rw [hn2] at a2
      exact ⟨i, i2, by rw [a1, a2], ⟨by omega, by omega, by omega, by omega⟩, h2' _ _ [] (by simpa using j2.cut) (fun t ht => by cases ht) itOk_rng⟩
    · exact h2'.elim
  · exact h2'.elim

/-! ### comprehensions -/
theorem wipeR_len (ρ : Rho c) : ∀ own : List Nat, (wipeR ρ own).length = ρ.length
  | [] => rfl
  | v :: vs => by unfold wipeR; rw [List.length_set, wipeR_len ρ vs]
theorem wipeR_none (ρ : Rho c) : ∀ {own : List Nat} {i : Nat}, i ∈ own → ∀ o, (wipeR ρ own)[i]? ≠ some (some o)
  | v :: vs, i, h, o => by
    unfold wipeR
    by_cases e : v = i
    · subst e
      by_cases hv : v < (wipeR ρ vs).length
      · rw [List.getElem?_set_self hv]; simp
      · rw [List.getElem?_eq_none (by simpa using hv)]; simp
    · rw [List.getElem?_set_ne e]
      rcases List.mem_cons.mp h with z | z
      · exact absurd z.symm e
      · exact wipeR_none ρ z o
theorem wipeR_out {ρ : Rho c} : ∀ {own : List Nat} {i : Nat}, i ∉ own → (wipeR ρ own)[i]? = ρ[i]?
  | [], _, _ => rfl
  | v :: vs, i, h => by
    unfold wipeR
    rw [List.getElem?_set_ne (fun e => h (by rw [e]; exact List.mem_cons_self ..)), wipeR_out fun e => h (List.mem_cons_of_mem _ e)]
theorem wipe_outS {σ : L2.St} : ∀ {own : List Nat} {i : Nat}, i ∉ own → (wipe σ own)[i]? = σ[i]?
  | [], _, _ => rfl
  | v :: vs, i, h => by
    unfold wipe
    rw [List.getElem?_set_ne (fun e => h (by rw [e]; exact List.mem_cons_self ..)), wipe_outS fun e => h (List.mem_cons_of_mem _ e)]
theorem wipe_in {σ : L2.St} : ∀ {own : List Nat} {i : Nat}, i ∈ own → (wipe σ own)[i]? = if i < σ.length then some none else none
  | v :: vs, i, h => by
    unfold wipe
    by_cases e : v = i
    · subst e
      by_cases hv : v < (wipe σ vs).length
      · rw [List.getElem?_set_self hv, if_pos (by rw [wipe_length] at hv; exact hv)]
      · rw [List.getElem?_eq_none (by simpa using hv), if_neg (by rw [wipe_length] at hv; exact hv)]
    · rw [List.getElem?_set_ne e]
      rcases List.mem_cons.mp h with z | z
      · exact absurd z.symm e
      · exact wipe_in z
theorem wipe_idem {σ : L2.St} {own : List Nat} : wipe (wipe σ own) own = wipe σ own := by
  apply List.ext_getElem?
  intro i
  by_cases h : i ∈ own
  · rw [wipe_in h, wipe_in h, wipe_length]
  · rw [wipe_outS h]
/-- slots that hold nothing may hold anything -/
theorem J.reslot {σ σ' : L2.St} (j : J c E ρ σ ts H) (hl : σ'.length = σ.length) (h : ∀ (i : Nat) (o : c.O), ρ[i]? = some (some o) → σ'[i]? = σ[i]?) (hp : ∀ v0, E.pin = some v0 → σ'[0]? = some (some v0)) : J c E ρ σ' ts H := by
  obtain ⟨h1, h2, h3, G, f, g⟩ := j
  refine ⟨by rw [h1, hl], hp, fun t ht => ?_, G, f, ?_⟩
  · have := h3 t ht
    unfold SlOk at this ⊢
    split
    · trivial
    · rename_i i e
      rw [e] at this
      obtain ⟨q1, o, q2⟩ := this
      exact ⟨by rw [h i o q2]; exact q1, o, q2⟩
  · refine ⟨g.sub, g.sub0, g.old, g.tab, g.own, g.liv, g.unf, fun i o e => ?_, g.nd, g.dj, g.out, g.a0, g.ntb⟩
    obtain ⟨w, e2, r⟩ := g.rep i o e
    refine ⟨w, ?_, r⟩
    by_cases hi : i < ρ.length
    · rw [List.getElem?_append_left (by omega)]
      rw [List.getElem?_append_left (by omega)] at e2
      rw [List.getElem?_append_left hi] at e
      rw [h i o e]; exact e2
    · rw [List.getElem?_append_right (by omega)]
      rw [List.getElem?_append_right (by omega)] at e2
      rw [hl]; exact e2
/-- the state with some slots emptied -/
theorem J.wipe1 {σ : L2.St} {own : List Nat} (j : J c E ρ σ ts H) (hn : ∀ i ∈ own, ∀ t ∈ ts, t.1 ≠ .sl i) (hp : E.pin = none ∨ 0 ∉ own) : J c E (wipeR ρ own) (wipe σ own) ts H := by
  induction own with
  | nil => exact j
  | cons k own ih =>
    have j1 := ih (fun i hi => hn i (List.mem_cons_of_mem _ hi)) (hp.imp id fun h e => h (List.mem_cons_of_mem _ e))
    unfold wipeR wipe
    by_cases hi : k < (wipeR ρ own).length
    · have hl2 := j1.lens
      obtain ⟨h1, h2, h3, G, f, g⟩ := j1
      have q := g.put hl2 (n := k) (o := none) (v := none) (g := []) (by simp; omega) (fun x e => by cases e) List.nodup_nil (by simp) (by simp) (by simp)
      rw [List.set_append_left _ _ hi, List.set_append_left _ _ (by omega)] at q
      refine J.of (by simp [h1]) (fun v0 e => ?_) (fun t ht => ?_) q
      · rcases hp with z | z
        · rw [z] at e; cases e
        · rw [List.getElem?_set_ne (fun e => z (by rw [e]; exact List.mem_cons_self ..))]; exact h2 v0 e
      · have q3 := h3 t ht
        unfold SlOk at q3 ⊢
        split
        · trivial
        · rename_i i e
          rw [e] at q3
          have ne : k ≠ i := fun z => hn k (List.mem_cons_self ..) t ht (by rw [e, z])
          rw [List.getElem?_set_ne ne, List.getElem?_set_ne ne]
          exact q3
    · rw [List.set_eq_of_length_le (by omega), List.set_eq_of_length_le (by have := j1.len; omega)]; exact j1
theorem J.lstNil {p : Addr} (j : J c E ρ σ ts H) (hp : H p = none) : J c E ρ σ (ts ++ [(.o (.lst []), .ref p)]) (upd H p (.lst [])) := by
  obtain ⟨h1, h2, h3, G, f, g⟩ := j
  have := mkLst (ts := ts) (us := []) (ds := []) (vs := []) (p := p) h1 h2 (by simpa using h3) (by simpa using g) hp .nil
  simpa using this
/-- an owned flat list on the way, one more item -/
theorem J.appTop {acc : List c.D} {a : Addr} {d : c.D} (j : J c E ρ σ (ts ++ [(.o (.lst (acc.map .fr)), .ref a), (.o (.fr d), v)]) H) : ∃ xs, H a = some (.lst xs) ∧ xs.length = acc.length ∧ J c E ρ σ (ts ++ [(.o (.lst ((acc ++ [d]).map .fr)), .ref a)]) (upd H a (.lst (xs ++ [v]))) := by
  obtain ⟨h1, h2, h3, G, f, g⟩ := j
  obtain ⟨fd, rd⟩ := g.tO h1 h3 (tm := .o (.fr d)) (v := v) (by simp) rfl
  have hc := cO_app (c := c) (ts := ts) (us := [(.o (.lst (acc.map .fr)), .ref a), (.o (.fr d), v)])
  have e1 : (ρ ++ cO (ts ++ [(.o (.lst (acc.map .fr)), .ref a), (.o (.fr d), v)])) = (ρ ++ cO (ts ++ [(.o (.lst (acc.map .fr)), .ref a)])) ++ [some (.fr d)] := by simp [cO, Tm.cell]
  have e2 : (σ ++ cV (ts ++ [(Tm.o (OT.lst (acc.map .fr)), V.ref a), (Tm.o (OT.fr d), v)])) = (σ ++ cV (ts ++ [((Tm.o (OT.lst (acc.map .fr)) : Tm c), V.ref a)])) ++ [some v] := by simp [cV]
  have hl : (ρ ++ cO (ts ++ [((Tm.o (OT.lst (acc.map .fr)) : Tm c), V.ref a)])).length = (σ ++ cV (ts ++ [((Tm.o (OT.lst (acc.map .fr)) : Tm c), V.ref a)])).length := by simp [cO, cV, h1]
  rw [e1, e2] at g
  have g2 := g.cut hl
  rw [cO_snoc, cV_snoc, ← List.append_assoc, ← List.append_assoc] at g2
  have hl0 : (ρ ++ cO ts).length = (σ ++ cV ts).length := by simp [cO, cV, h1]
  have hn : (ρ ++ cO ts).length < (ρ ++ cO ts ++ [some (OT.lst (acc.map .fr))]).length := by simp
  obtain ⟨w, q1, q2⟩ := g2.rep (ρ ++ cO ts).length (.lst (acc.map .fr)) (get_last _ _)
  rw [hl0, get_last] at q1
  obtain rfl : V.ref a = w := Option.some.inj (Option.some.inj q1)
  generalize hf : (if (ρ ++ cO ts).length < _ then f (ρ ++ cO ts).length else []) = fi at q2
  cases q2 with
  | @lst _ xs _ gg hx ga r =>
    obtain ⟨r1, eg⟩ := orepL_fr' r
    subst eg
    refine ⟨xs, hx, by simpa using r1.length, ?_⟩
    have q := g2.write (n := (ρ ++ cO ts).length) (a := a) (f0 := []) (g := []) (xs := xs) (ys := xs ++ [v]) (os := (acc ++ [d]).map .fr) (by simp [cO, cV, h1]) hn (by rw [hl0]; exact get_last _ _) hf hx (orepL_fr (r1.append (.cons rd.unfr .nil))) (by simp) List.nodup_nil
    rw [set_app_last] at q
    refine J.ofEx h1 h2 (sl_snoc h3) ?_
    rw [cO_snoc, cV_snoc, ← List.append_assoc, ← List.append_assoc]
    exact ⟨_, _, q⟩
/-- what lies below the top goes -/
theorem J.mid {o : c.O} (j : J c E ρ σ (ts ++ us ++ [(.o o, v)]) H) : J c E ρ σ (ts ++ [(.o o, v)]) H := by
  obtain ⟨h1, h2, h3, G, f, g⟩ := j
  have hl0 : (ρ ++ cO ts).length = (σ ++ cV ts).length := by simp [cO, cV, h1]
  have hl1 : (ρ ++ cO (ts ++ us)).length = (σ ++ cV (ts ++ us)).length := by simp [cO, cV, h1]
  rw [cO_snoc, cV_snoc, ← List.append_assoc, ← List.append_assoc] at g
  obtain ⟨w, e3, r⟩ := g.rep (ρ ++ cO (ts ++ us)).length o (get_last _ _)
  rw [hl1, get_last] at e3
  obtain rfl : v = w := Option.some.inj (Option.some.inj e3)
  have nd := g.nd (ρ ++ cO (ts ++ us)).length
  have own := g.own (ρ ++ cO (ts ++ us)).length
  have liv := g.liv (ρ ++ cO (ts ++ us)).length
  have dj := g.dj (ρ ++ cO (ts ++ us)).length
  have len : (ρ ++ cO ts).length ≤ (ρ ++ cO (ts ++ us)).length := by simp [cO]
  generalize (ρ ++ cO (ts ++ us)).length = n at r nd own liv dj len
  have e1 : ρ ++ cO (ts ++ us) ++ [(Tm.o o : Tm c).cell] = (ρ ++ cO ts) ++ (cO us ++ [(Tm.o o : Tm c).cell]) := by simp [cO]
  have e2 : σ ++ cV (ts ++ us) ++ [some v] = (σ ++ cV ts) ++ (cV us ++ [some v]) := by simp [cV]
  have g' : JG c E ((ρ ++ cO ts) ++ (cO us ++ [(Tm.o o : Tm c).cell])) ((σ ++ cV ts) ++ (cV us ++ [some v])) H G f := by rw [← e1, ← e2]; exact g
  have gc := g'.cut hl0
  refine J.ofEx h1 h2 (fun t ht => ?_) ?_
  · rcases List.mem_append.mp ht with ht | ht
    · exact h3 t (List.mem_append_left _ (List.mem_append_left _ ht))
    · rw [List.mem_singleton.mp ht]; trivial
  · rw [cO_snoc, cV_snoc, ← List.append_assoc, ← List.append_assoc]
    refine ⟨_, _, gc.push hl0 (fun x e => by cases e; exact r) nd own (fun i b hb => ?_) liv⟩
    show b ∉ (if i < (ρ ++ cO ts).length then f i else [])
    by_cases hi : i < (ρ ++ cO ts).length
    · rw [if_pos hi]; exact dj i (by omega) b hb
    · rw [if_neg hi]; simp
end
section
variable {c : Cf} {X : Cx}
def notSet (e : Expr) : Bool := match e with
  | .Set _ _ _ => false
  | _ => true
theorem fold_pl {e : Expr} {env : Env} (h : notSet e = true) : ∀ x, foldedSetIterable e env x = pure x := by
  cases e <;> first | (intro _; rfl) | cases h
structure SoC (c : Cf) (X : Cx) (EW : XK) (f : Rho c → Out c (Tm c)) (elt tg iter : Expr) (ifs : List Expr) (scope : Scope) (own : List (Str × Nat)) : Prop where
  ex : ∃ (wi : TI) (g : TG) (tt : TT) (te : TE), PI X tg iter wi ∧ (∀ (s : Shared) (H : Hp) (C : Addr) (cl : List (Str × Addr)) (fp : List Addr), PG (X.blk s H scope (compEnvC scope cl C X.env) fp) tg g) ∧ (∀ (s : Shared) (H : Hp) (C : Addr) (cl : List (Str × Addr)) (fp : List Addr), PTs (X.blk s H scope (compEnvC scope cl C X.env) fp) ifs tt) ∧
    (∀ (s : Shared) (H : Hp) (C : Addr) (cl : List (Str × Addr)) (fp : List Addr), PE (X.blk s H scope (compEnvC scope cl C X.env) fp) elt te) ∧ ∀ (E : Ent) (ρ : Rho c) (σ : L2.St) (ts : Stk c) (H : Hp) (Q : VK), J c E ρ σ ts H → Wt c E EW (fun tm ρ' => ∀ v H', J c E ρ' σ (ts ++ [(tm, v)]) H' → Q v H') (f ρ) → tLc wi g tt te (own.map (·.2)) σ H Q
theorem so_ofC {EW : XK} {f : Rho c → Out c (Tm c)} {elt tg iter : Expr} {ifs : List Expr} {scope : Scope} {own : List (Str × Nat)} {pos : Pos} (hc : X.calm = true) (hN : X.N.Nodup) (hset : notSet iter = true) (ok : BlkOk X.N X.env.scope scope own) (h : SoC c X EW f elt tg iter ifs scope own) : SoE c X EW f (.ListComp elt [⟨tg, iter, ifs, 0⟩] scope pos) := by
  obtain ⟨wi, g, tt, te, pi, pg, pt, pe, k⟩ := h.ex
  exact ⟨_, pe_lc hc hN pi ok pg pt pe (fold_pl hset), k⟩
/-- what a comprehension leaves -/
theorem so_comp {EW : XK} {pin : Bool} {fi : Rho c → Out c (List c.D)} {gg : c.O → Rho c → Option (Rho c)} {ft : Rho c → Out c Bool} {fe : Rho c → Out c (Tm c)} {S : List Nat} {elt tg iter : Expr} {ifs : List Expr} {scope : Scope} {own : List (Str × Nat)}
    (hi : SoI c X EW fi tg iter)
    (hg : ∃ g : TG, (∀ (s : Shared) (H : Hp) (C : Addr) (cl : List (Str × Addr)) (fp : List Addr), PG (X.blk s H scope (compEnvC scope cl C X.env) fp) tg g) ∧ ∀ (E : Ent) (ρ ρ' : Rho c) (σ : L2.St) (ts : Stk c) (H : Hp) (Q : L2.St → Hp → Prop) (o : c.O) (v : V), (E.pin = none ∨ pin = true ∨ 0 ∉ S) → NoSl S ts → J c E ρ σ (ts ++ [(.o o, v)]) H → gg o ρ = some ρ' →
      (∀ σ', J c E ρ' σ' ts H → (∀ own, (∀ i ∈ S, i ∈ own) → wipe σ' own = wipe σ own) → Q σ' H) → g v σ H Q)
    (hS : ∀ i ∈ S, i ∈ own.map (·.2))
    (ht : ∃ t : TT, (∀ (s : Shared) (H : Hp) (C : Addr) (cl : List (Str × Addr)) (fp : List Addr), PTs (X.blk s H scope (compEnvC scope cl C X.env) fp) ifs t) ∧ ∀ (E : Ent) (ρ : Rho c) (σ : L2.St) (ts : Stk c) (H : Hp) (Q : Bool → Hp → Prop), J c E ρ σ ts H → Wt c E (fun _ _ _ => False) (fun b ρ' => ∀ H', J c E ρ' σ ts H' → Q b H') (ft ρ) → t σ H Q)
    (he : ∃ t : TE, (∀ (s : Shared) (H : Hp) (C : Addr) (cl : List (Str × Addr)) (fp : List Addr), PE (X.blk s H scope (compEnvC scope cl C X.env) fp) elt t) ∧ ∀ (E : Ent) (ρ : Rho c) (σ : L2.St) (ts : Stk c) (H : Hp) (Q : VK), J c E ρ σ ts H → Wt c E (fun _ _ _ => False) (fun d ρ' => ∀ v H', J c E ρ' σ (ts ++ [(.o (.fr d), v)]) H' → Q v H') (frS fe ρ) → t σ H Q)
    :
    SoC c X EW (fun ρ => (fi ρ).bind fun ds ρ1 => if (own.map (·.2)).any fun k => ((ρ1[k]?).join).isSome || k == 0 then .bad else match compS (own.map (·.2)) gg ft fe ds [] (wipeR ρ1 (own.map (·.2))) with | .ok acc ρ2 => .ok (.o (.lst (acc.map .fr))) ρ2 | _ => .bad) elt tg iter ifs scope own := by
  obtain ⟨wi, pi, ki⟩ := hi.ex
  obtain ⟨tg', pg, kg⟩ := hg
  obtain ⟨tt, pt, kt⟩ := ht
  obtain ⟨te, pe, ke⟩ := he
  refine ⟨wi, tg', tt, te, pi, pg, pt, pe, fun E ρ σ ts H Q j hw => ki E ρ σ ts H _ j ((Wt.bind hw).mono fun ds ρ1 h1 I H1 us j1 hus hit D hD => ?_)⟩
  generalize hown : own.map (·.2) = ow at h1 hS ⊢
  split at h1
  · exact h1.elim
  · rename_i hno
    have hno' : ∀ k ∈ ow, (ρ1[k]?).join = none ∧ ¬ (k = 0) := fun k hk => by
      have := fun z => hno (List.any_eq_true.mpr ⟨k, hk, z⟩)
      simp only [Bool.or_eq_true, beq_iff_eq] at this
      refine ⟨?_, fun z => this (.inr z)⟩
      cases e : (ρ1[k]?).join with
      | none => rfl
      | some o => exact (this (.inl (by rw [e]; rfl))).elim
    have hpz : E.pin = none ∨ 0 ∉ ow := .inr fun z => (hno' 0 z).2 rfl
    have hns : ∀ i ∈ ow, ∀ t ∈ ts ++ us, t.1 ≠ .sl i := fun i hi t ht z => by
      have q := j1.sl t ht
      unfold SlOk at q
      rw [z] at q
      obtain ⟨_, o, q2⟩ := q
      have := (hno' i hi).1
      rw [q2] at this
      cases this
    -- the result
    cases hcs : compS ow gg ft fe ds [] (wipeR ρ1 ow) with
    | exc n fs => rw [hcs] at h1; exact h1.elim
    | bad => rw [hcs] at h1; exact h1.elim
    | ok accF ρF =>
      rw [hcs] at h1
      have jw := (j1.wipe1 hns hpz)
      refine ⟨fun i m H => m = ds.length - i ∧ i ≤ ds.length ∧ ∃ acc ρ', J c E ρ' (wipe σ ow) (ts ++ us ++ [(.o (.lst (acc.map .fr)), .ref D)]) H ∧ (∀ k ∈ ow, ∀ o, ρ'[k]? ≠ some (some o)) ∧ compS ow gg ft fe (ds.drop i) acc ρ' = .ok accF ρF,
        ⟨ds.length, by simp, Nat.zero_le _, [], wipeR ρ1 ow, jw.lstNil hD, fun k hk o => wipeR_none ρ1 hk o, hcs⟩, ?_⟩
      rintro i m H' ⟨rfl, hle, acc, ρ', jj, hnn, hcomp⟩
      obtain ⟨hgo, hst⟩ := hit E ρ' (wipe σ ow) ts [(.o (.lst (acc.map .fr)), .ref D)] H' jj
      by_cases hlt : i < ds.length
      · refine .inr ⟨(hgo i hlt).1, fun H2 => ∃ acc ρ2, J c E ρ2 (wipe σ ow) (ts ++ us ++ [(.o (.lst (acc.map .fr)), .ref D)]) H2 ∧ (∀ k ∈ ow, ∀ o, ρ2[k]? ≠ some (some o)) ∧ compS ow gg ft fe (ds.drop (i + 1)) acc ρ2 = .ok accF ρF,
          fun H2 ⟨acc, ρ2, a1, a2, a3⟩ => ⟨ds.length - (i + 1), by omega, rfl, hlt, acc, ρ2, a1, a2, a3⟩, fun x H2 hy => ?_⟩
        obtain ⟨d, hd, jd⟩ := (hgo i hlt).2 x H2 hy
        have edrop : ds.drop i = d :: ds.drop (i + 1) := by
          rw [List.drop_eq_getElem_cons hlt]
          congr 1
          rw [List.getElem?_eq_getElem hlt] at hd
          exact Option.some.inj hd
        rw [edrop] at hcomp
        unfold compS at hcomp
        cases hg1 : gg (.fr d) ρ' with
        | none => rw [hg1] at hcomp; cases hcomp
        | some ρa =>
          rw [hg1] at hcomp
          simp only at hcomp
          have hnoS : NoSl S (ts ++ us ++ [(Tm.o (OT.lst (acc.map .fr)), V.ref D)]) := fun k hk t ht => by
            rcases List.mem_append.mp ht with ht | ht
            · exact hns k (hS k hk) t ht
            · rw [List.mem_singleton.mp ht]; intro z; cases z
          refine kg E ρ' ρa (wipe σ ow) _ _ _ (.fr d) x (.inr (.inr fun z => (hno' 0 (hS 0 z)).2 rfl)) hnoS jd hg1 fun σ' jg hww => ?_
          have hwip : wipe σ' ow = wipe σ ow := by
            rw [hww ow hS, wipe_idem]
          refine ⟨hwip, ?_⟩
          have hnsD : ∀ i ∈ ow, ∀ t ∈ ts ++ us ++ [(Tm.o (OT.lst (acc.map .fr)), V.ref D)], t.1 ≠ .sl i := fun k hk t ht => by
            rcases List.mem_append.mp ht with ht | ht
            · exact hns k hk t ht
            · rw [List.mem_singleton.mp ht]; intro z; cases z
          cases hft : ft ρa with
          | bad => rw [hft] at hcomp; cases hcomp
          | exc n fs => rw [hft] at hcomp; cases hcomp
          | ok b ρ2 =>
            rw [hft] at hcomp
            refine kt E ρa σ' _ _ _ jg ?_
            rw [hft]
            show ∀ H3, J c E ρ2 σ' _ H3 → _
            intro H3 j3
            cases b with
            | false =>
              rw [if_neg (by simp)]
              refine ⟨acc, wipeR ρ2 ow, ?_, fun k hk o => wipeR_none ρ2 hk o, hcomp⟩
              have := j3.wipe1 hnsD hpz
              rw [hwip] at this
              exact this
            | true =>
              rw [if_pos rfl]
              simp only at hcomp
              cases hfe : frS fe ρ2 with
              | bad => rw [hfe] at hcomp; cases hcomp
              | exc n fs => rw [hfe] at hcomp; cases hcomp
              | ok d2 ρ3 =>
                rw [hfe] at hcomp
                simp only at hcomp
                split at hcomp
                · cases hcomp
                · rename_i hlen
                  refine ke E ρ2 σ' _ _ _ j3 ?_
                  rw [hfe]
                  show ∀ v H4, J c E ρ3 σ' _ H4 → _
                  intro y H4 j4
                  rw [List.append_assoc] at j4
                  obtain ⟨xs, hx, hxl, j5⟩ := J.appTop j4
                  have l6 : 1000000 < sizeLine := by rw [sizeLine_eq]; decide
                  refine ⟨xs, hx, by rw [hxl]; omega, acc ++ [d2], wipeR ρ3 ow, ?_, fun k hk o => wipeR_none ρ3 hk o, hcomp⟩
                  have := j5.wipe1 (own := ow) (fun k hk t ht => by
                    rcases List.mem_append.mp ht with ht | ht
                    · exact hns k hk t ht
                    · rw [List.mem_singleton.mp ht]; intro z; cases z) hpz
                  rw [hwip] at this
                  exact this
      · have e : i = ds.length := by omega
        subst e
        refine .inl ⟨hst _ (Nat.le_refl _), ?_⟩
        rw [List.drop_length] at hcomp
        cases hcomp
        refine h1 _ _ ((J.mid jj).reslot (wipe_length σ ow).symm (fun k o hk => ?_) j1.pin)
        by_cases hko : k ∈ ow
        · exact absurd hk (hnn k hko o)
        · exact (wipe_outS hko).symm
end
end Y

set_option Elab.async false
set_option linter.all false
set_option maxRecDepth 100000
set_option maxHeartbeats 4000000
namespace Y
open PySem PySem.Spec PyProof.Rows L2
/-! ## statements -/
def WS (c : Cf) (E : Ent) (EW : XK) (ts : Stk c) (D : Ends) : SO c → Prop
  | .nx ρ => ∀ σ H, J c E ρ σ ts H → D.nx σ H
  | .bk ρ => ∀ σ H, J c E ρ σ ts H → D.bk σ H
  | .ct ρ => ∀ σ H, J c E ρ σ ts H → D.ct σ H
  | .rt o ρ => ∀ v σ H, J c E ρ σ (ts ++ [(.o o, v)]) H → D.rt v H
  | .exc n fs => ExcP c E EW n fs
  | .bad => False
structure SoS (c : Cf) (X : Cx) (EW : XK) (pin : Bool) (f : Rho c → SO c) (st : Stmt) : Prop where
  ex : ∃ t : TS, PS X st t ∧ ∀ (E : Ent) (ρ : Rho c) (σ : L2.St) (ts : Stk c) (H : Hp) (D : Ends), (E.pin = none ∨ pin = true) → AllO ts → J c E ρ σ ts H → WS c E EW ts D (f ρ) → t D σ H
structure SoSs (c : Cf) (X : Cx) (EW : XK) (pin : Bool) (f : Rho c → SO c) (st : List Stmt) : Prop where
  ex : ∃ t : TS, PSs X st t ∧ ∀ (E : Ent) (ρ : Rho c) (σ : L2.St) (ts : Stk c) (H : Hp) (D : Ends), (E.pin = none ∨ pin = true) → AllO ts → J c E ρ σ ts H → WS c E EW ts D (f ρ) → t D σ H
section
variable {c : Cf} {X : Cx} {EW : XK} {pin : Bool}
theorem WS.out {α : Type} {E : Ent} {ts : Stk c} {D : Ends} {x : Out c α} {f : α → Rho c → SO c} (h : WS c E EW ts D (ofOut x f)) : Wt c E EW (fun a ρ => WS c E EW ts D (f a ρ)) x := by
  cases x <;> exact h
theorem ss_nil : SoSs c X EW pin (fun ρ => .nx ρ) [] := ⟨_, pss_nil, fun E ρ σ ts H D hp ha j hw => hw σ H j⟩
theorem ss_cons {fa fb : Rho c → SO c} {a : Stmt} {b : List Stmt} (ha : SoS c X EW pin fa a) (hb : SoSs c X EW pin fb b) : SoSs c X EW pin (fun ρ => match fa ρ with | .nx ρ1 => fb ρ1 | x => x) (a :: b) := by
  obtain ⟨ta, pa, ka⟩ := ha.ex
  obtain ⟨tb, pb, kb⟩ := hb.ex
  refine ⟨_, pss_cons pa pb, fun E ρ σ ts H D hp hal j hw => ka E ρ σ ts H _ hp hal j ?_⟩
  cases e : fa ρ with
  | nx ρ1 => rw [e] at hw; exact fun σ1 H1 j1 => kb E ρ1 σ1 ts H1 D hp hal j1 hw
  | bk ρ1 => rw [e] at hw; exact hw
  | ct ρ1 => rw [e] at hw; exact hw
  | rt o ρ1 => rw [e] at hw; exact hw
  | exc n fs => rw [e] at hw; exact hw
  | bad => rw [e] at hw; exact hw
theorem ss_iff {ft : Rho c → Out c Bool} {fa fb : Rho c → SO c} {t : Expr} {a b : List Stmt} {pos : Pos} (ht : SoT c X EW ft t) (ha : SoSs c X EW pin fa a) (hb : SoSs c X EW pin fb b) :
    SoS c X EW pin (fun ρ => ofOut (ft ρ) fun b1 ρ1 => if b1 then fa ρ1 else fb ρ1) (.If t a b pos) := by
  obtain ⟨tt, pt, kt⟩ := ht.ex
  obtain ⟨ta, pa, ka⟩ := ha.ex
  obtain ⟨tb, pb, kb⟩ := hb.ex
  refine ⟨_, ps_if pt pa pb, fun E ρ σ ts H D hp hal j hw => kt E ρ σ ts H _ j ((WS.out hw).mono fun b1 ρ1 h1 H1 j1 => ?_)⟩
  cases b1 with
  | true => exact ka E ρ1 σ ts H1 D hp hal j1 h1
  | false => exact kb E ρ1 σ ts H1 D hp hal j1 h1
theorem ss_brk {pos : Pos} : SoS c X EW pin (fun ρ => .bk ρ) (.Break pos) := ⟨_, ps_break, fun E ρ σ ts H D hp ha j hw => hw σ H j⟩
theorem ss_cnt {pos : Pos} : SoS c X EW pin (fun ρ => .ct ρ) (.Continue pos) := ⟨_, ps_continue, fun E ρ σ ts H D hp ha j hw => hw σ H j⟩
theorem ss_pas {pos : Pos} : SoS c X EW pin (fun ρ => .nx ρ) (.Pass pos) := ⟨_, ps_pass, fun E ρ σ ts H D hp ha j hw => hw σ H j⟩
theorem ss_ret0 {pos : Pos} : SoS c X EW pin (fun ρ => .rt (.fr .non) ρ) (.Return none pos) := ⟨_, ps_retN, fun E ρ σ ts H D hp ha j hw => hw .non σ H (j.atom fun G => .non)⟩
/-- a slot's thing taken out -/
theorem J.mv {E : Ent} {ρ : Rho c} {σ : L2.St} {ts : Stk c} {H : Hp} {v : V} {i : Nat} {o : c.O} (j : J c E ρ σ (ts ++ [(.sl i, v)]) H) (e : ρ[i]? = some (some o)) (ha : AllO ts) : J c E (ρ.set i none) σ (ts ++ [(.o o, v)]) H := by
  have hl0 : (ρ ++ cO ts).length = (σ ++ cV ts).length := by simp [cO, cV, j.len]
  obtain ⟨h1, h2, h3, G, f, g⟩ := j
  have hv := (h3 (.sl i, v) (by simp)).1
  have hi : i < ρ.length := (List.getElem?_eq_some_iff.mp e).1
  rw [cO_snoc, cV_snoc, ← List.append_assoc, ← List.append_assoc] at g
  have gc := g.cut hl0
  obtain ⟨w, e3, r⟩ := gc.rep i o (by rw [List.getElem?_append_left hi]; exact e)
  rw [List.getElem?_append_left (by omega), hv] at e3
  obtain rfl : v = w := Option.some.inj (Option.some.inj e3)
  have hlt : i < (ρ ++ cO ts).length := by simp; omega
  have g2 := gc.put hl0 (n := i) (o := none) (v := some v) (g := []) hlt (fun x e => by cases e) List.nodup_nil (by simp) (by simp) (by simp)
  have es : (σ ++ cV ts).set i (some v) = σ ++ cV ts := by
    apply List.ext_getElem?
    intro k
    by_cases hk : i = k
    · subst hk
      rw [List.getElem?_set_self (by rw [← hl0]; exact hlt), List.getElem?_append_left (by omega), hv]
    · rw [List.getElem?_set_ne hk]
  rw [es, List.set_append_left _ _ hi] at g2
  refine J.ofEx (by simp [h1]) h2 (fun t ht => ?_) ?_
  · rcases List.mem_append.mp ht with ht | ht
    · exact ha.sl t ht
    · rw [List.mem_singleton.mp ht]; trivial
  · rw [cO_snoc, cV_snoc, ← List.append_assoc, ← List.append_assoc]
    refine ⟨_, _, g2.push (by rw [List.length_append, List.length_set, ← List.length_append]; exact hl0) (fun x e => by cases e; exact r) (gc.nd i) (gc.own i) (fun k b hb => ?_) (gc.liv i)⟩
    by_cases hk : k = i
    · subst hk; rw [fset_same]; simp
    · rw [fset_ne hk]; exact gc.dj i k (fun z => hk z.symm) b hb
theorem ss_ret {fe : Rho c → Out c (Tm c)} {e : Expr} {pos : Pos} (he : SoE c X EW fe e) :
    SoS c X EW pin (fun ρ => ofOut (fe ρ) fun t1 ρ1 => match t1 with
      | .o x => .rt x ρ1
      | .sl i => match (ρ1[i]?).join with
        | some x => if pin && i == 0 then .rt (.fr x.d) (ρ1.set i (some (.fr x.d))) else .rt x (ρ1.set i none)
        | none => .bad) (.Return (some e) pos) := by
  obtain ⟨t, p, k⟩ := he.ex
  refine ⟨_, ps_ret p, fun E ρ σ ts H D hp hal j hw => k E ρ σ ts H _ j ((WS.out hw).mono fun t1 ρ1 h1 v1 H1 j1 => ?_)⟩
  cases t1 with
  | o x => exact h1 v1 σ H1 j1
  | sl i =>
    cases e1 : (ρ1[i]?).join with
    | none => simp only [e1] at h1; exact h1.elim
    | some x =>
      simp only [e1] at h1
      split at h1
      · exact h1 v1 σ H1 (j1.fz (tm := .sl i) e1)
      · exact h1 v1 σ H1 (j1.mv (join_some e1) hal)
theorem ss_ex {fe : Rho c → Out c (Tm c)} {e : Expr} {pos : Pos} (he : SoE c X EW fe e) (hs : swapsWith e none pos.line X.env = pure false) : SoS c X EW pin (fun ρ => ofOut (fe ρ) fun _ ρ1 => .nx ρ1) (.Expr e pos) := by
  obtain ⟨t, p, k⟩ := he.ex
  exact ⟨_, ps_expr p hs, fun E ρ σ ts H D hp hal j hw => k E ρ σ ts H _ j ((WS.out hw).mono fun t1 ρ1 h1 v1 H1 j1 => h1 σ H1 j1.cut)⟩
theorem ss_asg {S : List Nat} {fe : Rho c → Out c (Tm c)} {g : c.O → Rho c → Option (Rho c)} {tg e : Expr} {pos : Pos} (he : SoE c X EW fe e) (hT : plT tg = true) (hg : SoG c X pin S g tg) (hs : swapsWithSole [tg] e pos.line X.env = pure false) (hw : swappedStores [tg] e X.env = pure none) :
    SoS c X EW pin (fun ρ => ofOut (vlS fe ρ) fun o ρ1 => match g o ρ1 with | some ρ2 => .nx ρ2 | none => .bad) (.Assign [tg] e pos) := by
  obtain ⟨t, p, k⟩ := vl_so he
  obtain ⟨t2, p2, k2⟩ := hg.ex
  refine ⟨_, ps_asg p p2 hs hw (by rw [asg_pl hT]; rfl), fun E ρ σ ts H D hp hal j hww => k E ρ σ ts H _ j ((WS.out hww).mono fun o ρ1 h1 v1 H1 j1 => ?_)⟩
  cases e1 : g o ρ1 with
  | none => simp only [e1] at h1; exact h1.elim
  | some ρ2 =>
    simp only [e1] at h1
    exact k2 E ρ1 ρ2 σ ts H1 _ o v1 (hp.imp id .inl) hal.no j1 e1 fun σ' j' _ => h1 σ' H1 j'
/-- name = [..] on one line -/
theorem ss_asgC {f : Rho c → Out c (Tm c)} {i : Nat} {y : Str} {py pos spos : Pos} {elt tg iter : Expr} {ifs : List Expr} {scope : Scope} {own : List (Str × Nat)} (hc : X.calm = true) (hN : X.N.Nodup) (hset : notSet iter = true) (ok : BlkOk X.N X.env.scope scope own) (h : SoC c X EW f elt tg iter ifs scope own)
    (hy : X.N[i]? = some y) (hyl : X.env.scope.names.lookup y = some .local) (hsw : swapsWith (.ListComp elt [⟨tg, iter, ifs, 0⟩] scope pos) (some (.Name y py)) spos.line X.env = pure true) :
    SoS c X EW pin (fun ρ => ofOut (vlS f ρ) fun o ρ1 => match (if (pin && i == 0) || decide (ρ1.length ≤ i) then none else some (ρ1.set i (some o))) with | some ρ2 => .nx ρ2 | none => .bad) (.Assign [.Name y py] (.ListComp elt [⟨tg, iter, ifs, 0⟩] scope pos) spos) := by
  obtain ⟨wi, g, tt, te, pi, pg, pt, pe, k0⟩ := h.ex
  have k : ∀ (E : Ent) (ρ : Rho c) (σ : L2.St) (ts : Stk c) (H : Hp) (Q : VK), J c E ρ σ ts H → Wt c E EW (fun d ρ' => ∀ v H', J c E ρ' σ (ts ++ [(.o d, v)]) H' → Q v H') (vlS f ρ) → tLc wi g tt te (own.map (·.2)) σ H Q := fun E ρ σ ts H Q j hw => k0 E ρ σ ts H Q j ((Wt.bind hw).mono fun t1 ρ1 h1 v1 H1 j1 => by
    cases t1 with
    | o x => exact h1 _ _ j1
    | sl i =>
      cases e1 : tO ρ1 (.sl i) with
      | none => simp only [e1] at h1; exact h1.elim
      | some x => simp only [e1] at h1; exact h1 _ _ (j1.fz e1))
  refine ⟨_, ps_setLc hc hN hy hyl hsw pi ok pg pt pe (fold_pl hset), fun E ρ σ ts H D hpp hal j hww => k E ρ σ ts H _ j ((WS.out hww).mono fun o ρ1 h1 v1 H1 j1 => ?_)⟩
  split at h1
  · rename_i ρ2 e1
    split at e1
    · cases e1
    · rename_i hc
      cases e1
      simp only [Bool.or_eq_true, Bool.and_eq_true, beq_iff_eq, decide_eq_true_eq, not_or, not_and] at hc
      refine h1 _ H1 (j1.set (by omega) ?_ hal.no)
      rcases hpp with h | h
      · exact .inl h
      · exact .inr fun e => hc.1 h e
  · exact h1.elim
/-! ### for -/
theorem ss_loop {S : List Nat} {fi : Rho c → Out c (List c.D)} {g : c.O → Rho c → Option (Rho c)} {fb : Rho c → SO c} {tg iter : Expr} {body : List Stmt} {pos : Pos} (hpo : PassesOwn (model X.prog X.w) X.A X.env X.xe) (hc : X.calm = true) (hset : notSet iter = true)
    (hi : SoI c X EW fi tg iter) (hg : SoG c X pin S g tg) (hb : SoSs c X EW pin fb body) : SoS c X EW pin (fun ρ => ofOut (fi ρ) fun ds ρ1 => loopS g fb ds ρ1) (.For tg iter body [] pos) := by
  obtain ⟨wi, pi, ki⟩ := hi.ex
  obtain ⟨t2, p2, k2⟩ := hg.ex
  obtain ⟨tb, pb, kb⟩ := hb.ex
  refine ⟨_, ps_for hpo hc pi p2 pb (fold_pl hset), fun E ρ σ ts H D hp hal j hw => ki E ρ σ ts H _ j ((WS.out hw).mono fun ds ρ1 h1 I H1 us j1 hus hit => ?_)⟩
  have hal2 : AllO (ts ++ us) := fun t ht => by
    rcases List.mem_append.mp ht with ht | ht
    · exact hal t ht
    · exact hus t ht
  refine ⟨fun i m σ' H' => m = ds.length - i ∧ i ≤ ds.length ∧ ∃ ρ', J c E ρ' σ' (ts ++ us) H' ∧ WS c E EW ts D (loopS g fb (ds.drop i) ρ'), ⟨ds.length, by simp, Nat.zero_le _, ρ1, j1, h1⟩, ?_⟩
  rintro i m σ' H' ⟨rfl, hle, ρ', jj, hws⟩
  obtain ⟨hgo, hst⟩ := hit E ρ' σ' ts [] H' (by simpa using jj)
  by_cases hlt : i < ds.length
  · refine .inr ⟨(hgo i hlt).1, fun σ2 H2 => ∃ ρ2, J c E ρ2 σ2 (ts ++ us) H2 ∧ WS c E EW ts D (loopS g fb (ds.drop (i + 1)) ρ2), fun σ2 H2 ⟨ρ2, a1, a2⟩ => ⟨ds.length - (i + 1), by omega, rfl, hlt, ρ2, a1, a2⟩, fun x H2 hy => ?_⟩
    obtain ⟨d, hd, jd⟩ := (hgo i hlt).2 x H2 hy
    rw [List.append_nil] at jd
    have edrop : ds.drop i = d :: ds.drop (i + 1) := by
      rw [List.drop_eq_getElem_cons hlt]
      congr 1
      rw [List.getElem?_eq_getElem hlt] at hd
      exact Option.some.inj hd
    rw [edrop] at hws
    unfold loopS at hws
    cases hg1 : g (.fr d) ρ' with
    | none => rw [hg1] at hws; exact hws.elim
    | some ρa =>
      rw [hg1] at hws
      simp only at hws
      refine k2 E ρ' ρa σ' _ _ _ (.fr d) x (hp.imp id .inl) hal2.no jd hg1 fun σ2 jg _ => ?_
      refine kb E ρa σ2 _ _ _ hp hal2 jg ?_
      cases hfb : fb ρa with
      | nx ρ2 => rw [hfb] at hws; exact fun σ3 H3 j3 => ⟨ρ2, j3, hws⟩
      | ct ρ2 => rw [hfb] at hws; exact fun σ3 H3 j3 => ⟨ρ2, j3, hws⟩
      | bk ρ2 => rw [hfb] at hws; exact fun σ3 H3 j3 => hws σ3 H3 j3.cut
      | rt o ρ2 => rw [hfb] at hws; exact fun v σ3 H3 j3 => hws v σ3 H3 (J.mid j3)
      | exc n fs => rw [hfb] at hws; exact hws
      | bad => rw [hfb] at hws; exact hws.elim
  · have e : i = ds.length := by omega
    subst e
    refine .inl ⟨hst _ (Nat.le_refl _), ?_⟩
    rw [List.drop_length] at hws
    exact hws σ' H' jj.cut
/-! ### lists changed in place -/
theorem ofr_list {E : Ent} {ρ : Rho c} {σ : L2.St} {ts : Stk c} {H : Hp} {i : Nat} {os : List c.O} (j : J c E ρ σ ts H) (e : (ρ[i]?).join = some (.lst os)) : ∃ v, σ[i]? = some (some v) := by
  have e' := join_some e
  obtain ⟨h1, h2, h3, G, f, g⟩ := j
  have hi : i < ρ.length := (List.getElem?_eq_some_iff.mp e').1
  obtain ⟨w, e2, r⟩ := g.rep i _ (by rw [List.getElem?_append_left hi]; exact e')
  rw [List.getElem?_append_left (by omega)] at e2
  exact ⟨w, e2⟩
theorem repL_set {G : Hp} {v : V} {d : c.D} : ∀ {vs : List V} {ds : List c.D} {m : Nat}, RepL c G vs ds → Rep c G v d → RepL c G (vs.set m v) (ds.set m d)
  | _, _, _, .nil, _ => .nil
  | _, _, 0, .cons _ b, r => .cons r b
  | _, _, m + 1, .cons a b, r => .cons a (repL_set b r)
theorem tyV_lst {K : PySem.W.Frag} {H : Hp} {a : Addr} {xs : List V} (h : H a = some (.lst xs)) : tyV K "list" (.ref a) H := Or.inl ⟨rfl, _, SqL.of h⟩
theorem slot_lst {E : Ent} {ρ : Rho c} {σ : L2.St} {ts : Stk c} {H : Hp} {i : Nat} {os : List c.O} (j : J c E ρ σ ts H) (e : (ρ[i]?).join = some (.lst os)) : ∃ a xs, σ[i]? = some (some (.ref a)) ∧ H a = some (.lst xs) := by
  have e' := join_some e
  obtain ⟨h1, h2, h3, G, f, g⟩ := j
  have hi : i < ρ.length := (List.getElem?_eq_some_iff.mp e').1
  obtain ⟨w, e2, r⟩ := g.rep i _ (by rw [List.getElem?_append_left hi]; exact e')
  rw [List.getElem?_append_left (by omega)] at e2
  generalize f i = fi at r
  cases r with
  | lst h _ _ => exact ⟨_, _, e2, h⟩
theorem few_pl {e : Expr} {env : Env} {pos : Pos} (h : plE e = true) : ((backTo pos (starEach [e] env)).all (fun x => !x.1) && (backToKw pos (keywordEach [] env)).all (fun x => x.1.isSome)
      && decide (([e] : List Expr).length + ([] : List Keyword).length + (if ([] : List Keyword).isEmpty then 0 else 1) < 30)) = true := by
  rw [star_pl h]; rfl
/-- x.append(e) -/
theorem ss_app {fe : Rho c → Out c (Tm c)} {i : Nat} {n : Str} {e : Expr} {p1 p2 p3 pos : Pos} (hpl : plE e = true) (hl : (p2.endLine == p3.line) = true) (hv : PE X (.Name n p1) (tVar i)) (he : SoE c X EW fe e) :
    SoS c X EW pin (fun ρ => match (ρ[i]?).join with | some (.lst _) => ofOut (vlS fe ρ) fun o ρ1 => (match (ρ1[i]?).join with | some (.lst os) => if 1000000 < os.length then .bad else .nx (ρ1.set i (some (.lst (os ++ [o])))) | _ => .bad) | _ => .bad) (.Expr (.Call (.Attribute (.Name n p1) "append" p2) [e] [] p3) pos) := by
  obtain ⟨t, p, k⟩ := vl_so he
  refine ⟨_, ps_expr (pe_bm PySem.F.plainAttrs_list PySem.F.slot_list_append PySem.F.type_list_append mt_append hv (pa_cons p pa_nil (star_pl hpl)) (hbase := rfl) (hfew := few_pl hpl) (hline := hl) (hs := star_pl hpl) (hplain := rfl)) rfl, fun E ρ σ ts H D hp hal j hw => ?_⟩
  cases e0 : (ρ[i]?).join with
  | none => simp only [e0] at hw; exact hw.elim
  | some o0 =>
    cases o0 with
    | lst os0 =>
      simp only [e0] at hw
      obtain ⟨a, xs, hs, hx⟩ := slot_lst j e0
      refine ⟨.ref a, hs, tyV_lst hx, ?_⟩
      refine k E ρ σ _ H _ (j.slot hs ⟨_, join_some e0⟩) ((WS.out hw).mono fun o ρ1 h1 v1 H1 j1 => ?_)
      cases e1 : (ρ1[i]?).join with
      | none => simp only [e1] at h1; exact h1.elim
      | some o1 =>
        cases o1 with
        | lst os =>
          simp only [e1] at h1
          split at h1
          · exact h1.elim
          · rw [List.append_assoc] at j1
            obtain ⟨a', xs', ea, hx', hl, j2⟩ := j1.app (join_some e1) hal
            have l6 : 1000000 < sizeLine := by rw [sizeLine_eq]; decide
            exact ⟨a', xs', v1, ea, rfl, hx', by omega, h1 σ _ j2⟩
        | _ => simp only [e1] at h1; exact h1.elim
    | _ => simp only [e0] at hw; exact hw.elim
/-- x.pop(0), dropped -/
theorem ss_pop {fe : Rho c → Out c (Tm c)} {i : Nat} {n : Str} {e : Expr} {p1 p2 p3 pos : Pos} (hpl : plE e = true) (hl : (p2.endLine == p3.line) = true) (hv : PE X (.Name n p1) (tVar i)) (he : SoE c X EW fe e) :
    SoS c X EW pin (fun ρ => match (ρ[i]?).join with
      | some (.lst _) => ofOut (fe ρ) fun t2 ρ1 => (match (ρ1[i]?).join, (tO ρ1 t2).bind conOf with
        | some (.lst os), some j => (match allFr os with
          | some ds => if j = 0 then (match ds with | [] => .bad | _ :: r => .nx (ρ1.set i (some (.lst (r.map .fr))))) else .bad
          | none => .bad)
        | _, _ => .bad)
      | _ => .bad) (.Expr (.Call (.Attribute (.Name n p1) "pop" p2) [e] [] p3) pos) := by
  obtain ⟨t, p, k⟩ := he.ex
  refine ⟨_, ps_expr (pe_bm PySem.F.plainAttrs_list PySem.F.slot_list_pop PySem.F.type_list_pop mt_popAt hv (pa_cons p pa_nil (star_pl hpl)) (hbase := rfl) (hfew := few_pl hpl) (hline := hl) (hs := star_pl hpl) (hplain := rfl)) rfl, fun E ρ σ ts H D hp hal j hw => ?_⟩
  cases e0 : (ρ[i]?).join with
  | none => simp only [e0] at hw; exact hw.elim
  | some o0 =>
    cases o0 with
    | lst os0 =>
      simp only [e0] at hw
      obtain ⟨a, xs, hs, hx⟩ := slot_lst j e0
      refine ⟨.ref a, hs, tyV_lst hx, ?_⟩
      refine k E ρ σ _ H _ j ((WS.out hw).mono fun t1 ρ1 h1 v1 H1 j1 => ?_)
      cases e1 : (ρ1[i]?).join with
      | none => simp only [e1] at h1; exact h1.elim
      | some o1 =>
        cases o1 with
        | lst os =>
          simp only [e1] at h1
          cases e2 : (tO ρ1 t1).bind conOf with
          | none => simp only [e2] at h1; exact h1.elim
          | some q =>
            simp only [e2] at h1
            cases e3 : allFr os with
            | none => simp only [e3] at h1; exact h1.elim
            | some ds =>
              simp only [e3] at h1
              split at h1
              · rename_i hq
                subst hq
                cases ds with
                | nil => exact h1.elim
                | cons d r =>
                  obtain ⟨x, e4, e5⟩ := Option.bind_eq_some_iff.mp e2
                  obtain ⟨nn, rfl, hn⟩ := con_of e5
                  have a2 := j1.int1 m0 e4
                  rw [hn] at a2
                  have eos := allFr_eq e3
                  subst eos
                  obtain ⟨a', xs', ea, hx', hl, kk⟩ := j1.wrF (ds' := r) hs (join_some e1) hal
                  cases ea
                  cases xs' with
                  | nil => simp at hl
                  | cons y ys =>
                    refine ⟨a, y :: ys, 0, 0, y, rfl, by rw [a2], hx', by decide, by decide, by simp [seqIndex?], rfl, h1 σ _ (kk ys fun G f g rr => ?_)⟩
                    cases rr with
                    | cons _ b => exact b
              · exact h1.elim
        | _ => simp only [e1] at h1; exact h1.elim
    | _ => simp only [e0] at hw; exact hw.elim
theorem ss_clr {i : Nat} {n : Str} {p1 p2 p3 pos : Pos} (hl : (p2.endLine == p3.line) = true) (hv : PE X (.Name n p1) (tVar i)) :
    SoS c X EW pin (fun ρ => match (ρ[i]?).join with | some (.lst os) => .nx (ρ.set i (some (.lst []))) | _ => .bad) (.Expr (.Call (.Attribute (.Name n p1) "clear" p2) [] [] p3) pos) := by
  refine ⟨_, ps_expr (pe_bm0 PySem.F.plainAttrs_list PySem.F.slot_list_clear PySem.F.type_list_clear mt_clear hv (hbase := rfl) (hline := hl)) rfl, fun E ρ σ ts H D hp hal j hw => ?_⟩
  cases e0 : (ρ[i]?).join with
  | none => simp only [e0] at hw; exact hw.elim
  | some o0 =>
    cases o0 with
    | lst os0 =>
      simp only [e0] at hw
      obtain ⟨a, xs, hs, hx⟩ := slot_lst j e0
      refine ⟨.ref a, hs, tyV_lst hx, ?_⟩
      have j0 : J c E ρ σ (ts ++ []) H := by simpa using j
      obtain ⟨a', xs', G, g, ea, hx', r, hl, kk⟩ := j0.wr (os' := []) hs (join_some e0) hal
      cases ea
      exact ⟨a, xs', rfl, rfl, hx', hw σ _ (kk [] fun G f g0 g r na nd hb hc => ⟨[], .nil, List.nodup_nil, by simp, by simp⟩)⟩
    | _ => simp only [e0] at hw; exact hw.elim
/-- x[k] = e -/
theorem ss_sti {fe fk : Rho c → Out c (Tm c)} {i : Nat} {n : Str} {e ek : Expr} {p1 p2 pos : Pos} (hv : PE X (.Name n p1) (tVar i)) (he : SoE c X EW fe e) (hk : SoE c X EW fk ek) (hs : swapsWithSole [.Subscript (.Name n p1) ek p2] e pos.line X.env = pure false) (hw : swappedStores [.Subscript (.Name n p1) ek p2] e X.env = pure none)
    (hsub : ∀ v, assign (.Subscript (.Name n p1) ek p2) X.env v = (do
      let ov ← holding [v] (eval (.Name n p1) X.env)
      let iv ← holding [v, ov] (eval ek X.env)
      standAt p2
      holding [v, ov, iv] (setItem ov iv v)
      release [v, ov, iv] [])) :
    SoS c X EW pin (fun ρ => ofOut (frS fe ρ) fun d ρ1 => (match (ρ1[i]?).join with
      | some (.lst _) => ofOut (fk ρ1) fun t2 ρ2 => (match (ρ2[i]?).join, (tO ρ2 t2).bind conOf with
        | some (.lst os), some j => (match allFr os, ixN os.length j with
          | some ds, some n => .nx (ρ2.set i (some (.lst ((ds.set n d).map .fr))))
          | _, _ => .bad)
        | _, _ => .bad)
      | _ => .bad)) (.Assign [.Subscript (.Name n p1) ek p2] e pos) := by
  obtain ⟨t, p, k⟩ := fr_so he
  obtain ⟨t2, p2, k2⟩ := hk.ex
  refine ⟨_, ps_asg p (pg_sub hv p2 set_list hsub) hs hw rfl, fun E ρ σ ts H D hp hal j hww => k E ρ σ ts H _ j ((WS.out hww).mono fun d ρ1 h1 v1 H1 j1 => ?_)⟩
  cases e0 : (ρ1[i]?).join with
  | none => simp only [e0] at h1; exact h1.elim
  | some o0 =>
    cases o0 with
    | lst os0 =>
      simp only [e0] at h1
      obtain ⟨a, xs, hsl, hx⟩ := slot_lst j1 e0
      refine ⟨.ref a, hsl, ?_⟩
      refine k2 E ρ1 σ _ H1 _ j1 ((WS.out h1).mono fun t1 ρ2 h2 v2 H2 j2 => ?_)
      cases e1 : (ρ2[i]?).join with
      | none => simp only [e1] at h2; exact h2.elim
      | some o1 =>
        cases o1 with
        | lst os =>
          simp only [e1] at h2
          cases e2 : (tO ρ2 t1).bind conOf with
          | none => simp only [e2] at h2; exact h2.elim
          | some q =>
            simp only [e2] at h2
            cases e3 : allFr os with
            | none => simp only [e3] at h2; exact h2.elim
            | some ds =>
              cases e6 : ixN os.length q with
              | none => simp only [e3, e6] at h2; exact h2.elim
              | some m =>
                simp only [e3, e6] at h2
                obtain ⟨x, e4, e5⟩ := Option.bind_eq_some_iff.mp e2
                obtain ⟨nn, rfl, hn⟩ := con_of e5
                have a2 := j2.int1 m0 e4
                rw [hn] at a2
                have eos := allFr_eq e3
                subst eos
                rw [List.append_assoc] at j2
                obtain ⟨a', xs', ea, hx', hl, kk⟩ := j2.wrF (ds' := ds.set m d) hsl (join_some e1) hal
                cases ea
                refine ⟨a, xs', q, m, rfl, a2, hx', by rw [hl]; simpa using e6, h2 σ _ (kk _ fun G f g rr => ?_)⟩
                obtain ⟨fd, rd⟩ := g.tO j2.len j2.sl (tm := .o (.fr d)) (v := v1) (by simp) rfl
                exact repL_set rr rd.unfr
        | _ => simp only [e1] at h2; exact h2.elim
    | _ => simp only [e0] at h1; exact h1.elim
end
end Y

set_option Elab.async false
set_option linter.all false
set_option maxRecDepth 100000
set_option maxHeartbeats 4000000
namespace Y
open PySem PySem.Spec PyProof.Rows L2
/-! ## dicts -/
section
variable {c : Cf} {X : Cx} {EW : XK} {E : Ent} {ρ ρ' : Rho c} {σ : L2.St} {ts us : Stk c} {H : Hp} {Q : VK} {t1 t2 : Tm c} {v v1 v2 : V} {x y z : c.O}
theorem key_rep {G : Hp} {v : V} {d : c.D} (h : isKey d = true) (r : Rep c G v d) : ∃ k, v = kV k := by
  cases r <;> first | exact ⟨.inr _, rfl⟩ | exact ⟨.inl _, rfl⟩ | cases h
theorem eqK_ok {G G' : Hp} {k k' : Key} {d d' : c.D} {b : Bool} (r' : Rep c G (kV k') d') (r : Rep c G' (kV k) d) (h : eqK d' d = some b) : decide (k' = k) = b := by
  cases k' with
  | inl i =>
    cases k with
    | inl j =>
      have r1 : Rep c G (.int i) d' := r'
      have r2 : Rep c G' (.int j) d := r
      cases r1
      cases r2
      simp only [eqK] at h
      obtain ⟨o, e1, e2⟩ := Option.map_eq_some_iff.mp h
      subst e2
      rw [cmp_eq (c.nm.cmp_ok e1), Bool.eq_iff_iff]
      simp
    | inr s =>
      have r1 : Rep c G (.int i) d' := r'
      have r2 : Rep c G' (.str s) d := r
      cases r1
      cases r2
      cases h
      simp
  | inr s' =>
    cases k with
    | inl j =>
      have r1 : Rep c G (.str s') d' := r'
      have r2 : Rep c G' (.int j) d := r
      cases r1
      cases r2
      cases h
      simp
    | inr s =>
      have r1 : Rep c G (.str s') d' := r'
      have r2 : Rep c G' (.str s) d := r
      cases r1
      cases r2
      simp only [eqK] at h
      cases h
      rw [Bool.eq_iff_iff]
      simp
theorem fr_key {G : Hp} {f : List Addr} (r : ORep c G H v x f) (h : isKey x.d = true) : Rep c G v x.d := by
  cases r with
  | fr r => exact r
  | lst _ _ _ => exact absurd h (by simp [OT.d, isKey])
  | dct _ _ _ _ => exact absurd h (by simp [OT.d, isKey])
  | obj _ _ _ _ => exact absurd h (by simp [OT.d, isKey])
theorem dfind_ok {G G' : Hp} {k : Key} {d : c.D} (rk : Rep c G' (kV k) d) : ∀ {kvs : List (Key × V)} {ks vs : List c.D} {e : c.D}, RepL c G (kvs.map fun p => kV p.1) ks → RepL c G (kvs.map fun p => p.2) vs → dfind d ks vs = some (some e) → ∃ v, valV kvs k = some v ∧ Rep c G v e
  | [], _, _, _, r1, r2, h => by cases r1; cases h
  | p :: kvs, _, _, _, r1, r2, h => by
    cases r1 with
    | cons a b =>
      cases r2 with
      | cons a2 b2 =>
        simp only [dfind] at h
        split at h
        · rename_i e1
          cases h
          have := eqK_ok a rk e1
          exact ⟨_, valV_pos (of_decide_eq_true this), a2⟩
        · rename_i e1
          have := eqK_ok a rk e1
          obtain ⟨v, q1, q2⟩ := dfind_ok rk b b2 h
          exact ⟨v, by rw [valV_neg (of_decide_eq_false this)]; exact q1, q2⟩
        · cases h
theorem eqKs_ok {G G' : Hp} {k : Key} {d : c.D} (rk : Rep c G' (kV k) d) : ∀ {kvs : List (Key × V)} {ks : List c.D} {bs : List Bool}, RepL c G (kvs.map fun p => kV p.1) ks → eqKs d ks = some bs → bs = kvs.map fun p => decide (p.1 = k)
  | [], _, _, r1, h => by cases r1; cases h; rfl
  | p :: kvs, _, _, r1, h => by
    cases r1 with
    | cons a b =>
      simp only [eqKs] at h
      split at h
      · rename_i e1 e2
        cases h
        rw [List.map_cons, ← eqKs_ok rk b e2, eqK_ok a rk e1]
      · cases h
theorem repl_ok {G : Hp} {k : Key} {v : V} {d : c.D} (rv : Rep c G v d) : ∀ {kvs : List (Key × V)} {vs : List c.D}, RepL c G (kvs.map fun p => p.2) vs → RepL c G ((kvs.map fun kv => if kv.1 = k then (kv.1, v) else kv).map fun p => p.2) (repl d (kvs.map fun p => decide (p.1 = k)) vs)
  | [], _, r => by cases r; exact .nil
  | p :: kvs, _, r => by
    cases r with
    | cons a b =>
      simp only [List.map_cons, repl]
      refine .cons ?_ (repl_ok rv b)
      by_cases h : p.1 = k
      · rw [if_pos h, if_pos (by simpa using h)]; exact rv
      · rw [if_neg h, if_neg (by simpa using h)]; exact a
theorem keys_same {k : Key} {v : V} : ∀ kvs : List (Key × V), (kvs.map fun kv => if kv.1 = k then (kv.1, v) else kv).map (fun p => kV p.1) = kvs.map fun p => kV p.1
  | [] => rfl
  | p :: kvs => by
    simp only [List.map_cons]
    rw [keys_same kvs]
    by_cases h : p.1 = k
    · rw [if_pos h]
    · rw [if_neg h]
theorem dput_ok {G : Hp} {k : Key} {v : V} {kd d : c.D} (rk : Rep c G (kV k) kd) (rv : Rep c G v d) {kvs : List (Key × V)} {ks vs : List c.D} {q : List c.D × List c.D} (r1 : RepL c G (kvs.map fun p => kV p.1) ks) (r2 : RepL c G (kvs.map fun p => p.2) vs) (h : dput kd d ks vs = some q) :
    RepL c G ((putK kvs k v).map fun p => kV p.1) q.1 ∧ RepL c G ((putK kvs k v).map fun p => p.2) q.2 := by
  unfold dput at h
  cases e : eqKs kd ks with
  | none => rw [e] at h; cases h
  | some bs =>
    rw [e] at h
    simp only at h
    have eb := eqKs_ok rk r1 e
    have ea : bs.any id = kvs.any fun kv => decide (kv.1 = k) := by rw [eb, List.any_map]; rfl
    rw [ea] at h
    unfold putK
    split at h
    · rename_i hc
      cases h
      rw [if_pos hc, keys_same, eb]
      exact ⟨r1, repl_ok rv r2⟩
    · rename_i hc
      cases h
      rw [if_neg hc, List.map_append, List.map_append]
      exact ⟨r1.append (.cons rk .nil), r2.append (.cons rv .nil)⟩
theorem dct_rep {G : Hp} {f : List Addr} {ks vs : List c.D} (s : Same G H) (r : ORep c G H v x f) (h : x.d = .dct ks vs) : ∃ a kvs, v = .ref a ∧ H a = some (.dK kvs) ∧ RepL c G (kvs.map fun p => kV p.1) ks ∧ RepL c G (kvs.map fun p => p.2) vs := by
  cases r with
  | fr r =>
    rename_i d
    have h : d = .dct ks vs := h
    subst h
    cases r with
    | dct q r1 r2 => exact ⟨_, _, rfl, s _ _ q, r1, r2⟩
  | lst _ _ _ => cases h
  | dct q _ r1 r2 => cases h; exact ⟨_, _, rfl, q, r1, r2⟩
  | obj _ _ _ _ => cases h
theorem noSl_of {i : Expr} (h : (match i with | .Slice _ _ _ _ => false | _ => true) = true) : L2.NoSl i := by
  cases i <;> first | (intro _ _; rfl) | cases h
/-- d[k] -/
theorem so_dix {fa fb : Rho c → Out c (Tm c)} {a b : Expr} {pos : Pos} (hu : X.A.units + 1 < cLine) (hs : L2.NoSl b) (ha : SoE c X EW fa a) (hb : SoE c X EW fb b) : SoE c X EW (binS dgetO fa fb) (.Subscript a b pos) := by
  obtain ⟨ta, pa, ka⟩ := ha.ex
  obtain ⟨tb, pb, kb⟩ := hb.ex
  refine ⟨_, pe_dget hu pa pb hs, fun E ρ σ ts H Q j hw => ?_⟩
  refine ka E ρ σ ts H _ j ((Wt.bind hw).mono fun t1 ρ1 h1 v1 H1 j1 => ?_)
  refine kb E ρ1 σ _ H1 _ j1 ((Wt.bind h1).mono fun t2 ρ2 h2 v2 H2 j2 => ?_)
  rw [List.append_assoc] at j2
  cases e1 : tO ρ2 t1 with
  | none => simp only [e1] at h2; exact h2.elim
  | some x =>
    cases e2 : tO ρ2 t2 with
    | none => simp only [e1, e2] at h2; exact h2.elim
    | some y =>
      cases e3 : dgetO x y with
      | none => simp only [e1, e2, e3] at h2; exact h2.elim
      | some z =>
        simp only [e1, e2, e3] at h2
        obtain ⟨q1, q2, q3, G, f, g⟩ := id j2
        obtain ⟨fx, rx⟩ := g.tO q1 q3 m1 e1
        obtain ⟨fy, ry⟩ := g.tO q1 q3 m2 e2
        unfold dgetO at e3
        split at e3
        · rename_i ks vs ex
          split at e3
          · rename_i hk
            split at e3
            · rename_i w ew
              cases e3
              obtain ⟨a, kvs, ea, hx, r1, r2⟩ := dct_rep g.sub rx ex
              have rk : Rep c H2 v2 y.d := ry.view g.sub
              obtain ⟨k, ek⟩ := key_rep hk rk
              subst ek
              obtain ⟨u, e4, ru⟩ := dfind_ok rk r1 r2 ew
              exact ⟨a, u, ea, by rw [← e4]; exact DGet.k hx, h2 _ _ (mkPart q1 q2 q3 g ru)⟩
            · cases e3
          · cases e3
        · cases e3
/-- an owned dict written anew -/
theorem J.wrK {i : Nat} {ks vs : List c.D} (j : J c E ρ σ (ts ++ us) H) (hs : σ[i]? = some (some v)) (h : ρ[i]? = some (some (.dct ks vs))) (ha : AllO ts) : ∃ a kvs, v = .ref a ∧ H a = some (.dK kvs) ∧ kvs.length = ks.length ∧
    ∀ kvs' ks' vs', (∀ G f, JG c E (ρ ++ cO (ts ++ us)) (σ ++ cV (ts ++ us)) H G f → RepL c G (kvs.map fun p => kV p.1) ks → RepL c G (kvs.map fun p => p.2) vs → RepL c G (kvs'.map fun p => kV p.1) ks' ∧ RepL c G (kvs'.map fun p => p.2) vs') → J c E (ρ.set i (some (.dct ks' vs'))) σ ts (upd H a (.dK kvs')) := by
  have jt := J.cut j
  obtain ⟨h1, h2, h3, G, f, g⟩ := j
  have hi : i < ρ.length := (List.getElem?_eq_some_iff.mp h).1
  obtain ⟨w, e2, r⟩ := g.rep i (.dct ks vs) (by rw [List.getElem?_append_left hi]; exact h)
  rw [List.getElem?_append_left (by omega), hs] at e2
  cases e2
  generalize hf : f i = fi at r
  cases r with
  | @dct a kvs _ _ hx ga r1 r2 =>
    refine ⟨a, kvs, rfl, hx, by have := r1.length; rw [List.length_map] at this; exact this, fun kvs' ks' vs' hy => ?_⟩
    obtain ⟨n1, n2⟩ := hy G f g r1 r2
    have hl2 := jt.lens
    have gc := g
    rw [cO_app, cV_app, ← List.append_assoc, ← List.append_assoc] at gc
    have gcut := gc.cut hl2
    have hli : i < (ρ ++ cO ts).length := by simp; omega
    have q := gcut.writeK (n := i) (a := a) (kvs := kvs) (kvs' := kvs') (ks := ks') (vs := vs') hl2 hli (by rw [List.getElem?_append_left (by omega)]; exact hs) (by show (if i < (ρ ++ cO ts).length then f i else []) = _; rw [if_pos hli]; exact hf) hx n1 n2
    rw [List.set_append_left _ _ hi] at q
    exact ⟨by simp [h1], h2, ha.sl, G, _, q⟩
theorem slot_dct {E : Ent} {ρ : Rho c} {σ : L2.St} {ts : Stk c} {H : Hp} {i : Nat} {ks vs : List c.D} (j : J c E ρ σ ts H) (e : (ρ[i]?).join = some (.dct ks vs)) : ∃ v, σ[i]? = some (some v) := by
  have e' := join_some e
  obtain ⟨h1, h2, h3, G, f, g⟩ := j
  have hi : i < ρ.length := (List.getElem?_eq_some_iff.mp e').1
  obtain ⟨w, e2, r⟩ := g.rep i _ (by rw [List.getElem?_append_left hi]; exact e')
  rw [List.getElem?_append_left (by omega)] at e2
  exact ⟨w, e2⟩
/-- d[k] = e -/
theorem ss_dst {pin : Bool} {fe fk : Rho c → Out c (Tm c)} {i : Nat} {n : Str} {e ek : Expr} {p1 p2 pos : Pos} (hu : X.A.units + 1 < cLine) (hv : PE X (.Name n p1) (tVar i)) (he : SoE c X EW fe e) (hk : SoE c X EW fk ek) (hs : swapsWith e (some (.Subscript (.Name n p1) ek p2)) pos.line X.env = pure false) :
    SoS c X EW pin (fun ρ => ofOut (frS fe ρ) fun d ρ1 => (match (ρ1[i]?).join with
      | some (.dct _ _) => ofOut (fk ρ1) fun t2 ρ2 => (match (ρ2[i]?).join, tO ρ2 t2 with
        | some (.dct ks vs), some kx => if isKey kx.d && decide (ks.length < 1000) then (match dput kx.d d ks vs with
          | some q => .nx (ρ2.set i (some (.dct q.1 q.2)))
          | none => .bad) else .bad
        | _, _ => .bad)
      | _ => .bad)) (.Assign [.Subscript (.Name n p1) ek p2] e pos) := by
  obtain ⟨t, p, k⟩ := fr_so he
  obtain ⟨t2, p2, k2⟩ := hk.ex
  refine ⟨_, ps_dput hu hv p2 p hs, fun E ρ σ ts H D hp hal j hww => k E ρ σ ts H _ j ((WS.out hww).mono fun d ρ1 h1 v1 H1 j1 => ?_)⟩
  cases e0 : (ρ1[i]?).join with
  | none => simp only [e0] at h1; exact h1.elim
  | some o0 =>
    cases o0 with
    | dct ks0 vs0 =>
      simp only [e0] at h1
      obtain ⟨w, hsl⟩ := slot_dct j1 e0
      refine ⟨w, hsl, ?_⟩
      refine k2 E ρ1 σ _ H1 _ j1 ((WS.out h1).mono fun t1 ρ2 h2 v2 H2 j2 => ?_)
      cases e1 : (ρ2[i]?).join with
      | none => simp only [e1] at h2; exact h2.elim
      | some o1 =>
        cases o1 with
        | dct ks vs =>
          cases e2 : tO ρ2 t1 with
          | none => simp only [e1, e2] at h2; exact h2.elim
          | some kx =>
            simp only [e1, e2] at h2
            split at h2
            · rename_i hc
              rw [Bool.and_eq_true, decide_eq_true_eq] at hc
              cases e3 : dput kx.d d ks vs with
              | none => simp only [e3] at h2; exact h2.elim
              | some q =>
                simp only [e3] at h2
                have rk := j2.tD (tm := t1) (v := v2) (by simp) (tD_of e2)
                obtain ⟨ky, ek⟩ := key_rep hc.1 rk
                subst ek
                rw [List.append_assoc] at j2
                obtain ⟨a, kvs, ea, hx, hl, kk⟩ := j2.wrK hsl (join_some e1) hal
                subst ea
                have l6 : 1000000 < sizeLine := by rw [sizeLine_eq]; decide
                refine ⟨a, _, rfl, DPut.k hx (by rw [hl]; omega), h2 σ _ (kk _ q.1 q.2 fun G f g r1 r2 => ?_)⟩
                obtain ⟨fd, rd⟩ := g.tO j2.len j2.sl (tm := .o (.fr d)) (v := v1) (by simp) rfl
                obtain ⟨fk, rkk⟩ := g.tO j2.len j2.sl (tm := t1) (v := kV ky) (by simp) e2
                have rkG : Rep c G (kV ky) kx.d := fr_key rkk hc.1
                exact dput_ok rkG rd.unfr r1 r2 e3
            · exact h2.elim
        | _ => simp only [e1] at h2; exact h2.elim
    | _ => simp only [e0] at h1; exact h1.elim

/-! a display with text keys -/
structure SoD (c : Cf) (X : Cx) (EW : XK) (f : Rho c → Out c (List c.D)) (zs : List Str) (ks : List (Option Expr)) (vs : List Expr) : Prop where
  len : zs.length = vs.length ∧ ks.length = vs.length ∧ ks.all (·.isSome) = true
  ex : ∃ trs : List (TE × TE), (∀ pos, PPs X pos ks vs trs) ∧ ∀ (E : Ent) (ρ : Rho c) (σ : L2.St) (ts : Stk c) (H : Hp) (Q : List (V × V) → Hp → Prop), J c E ρ σ ts H → Wt c E EW (fun ds ρ' => ∀ us H', ds.length = us.length → J c E ρ' σ (ts ++ fS ds us) H' → Q ((zs.zip us).map fun p => (V.str p.1, p.2)) H') (f ρ) → tPairs trs σ H Q
theorem so_nilD : SoD c X EW (fun ρ => .ok [] ρ) [] [] [] := ⟨⟨rfl, rfl, rfl⟩, [], fun _ => pps_nil, fun E ρ σ ts H Q j hw => hw [] H rfl (by simpa [fS] using j)⟩
theorem so_consD {fa : Rho c → Out c (Tm c)} {fr : Rho c → Out c (List c.D)} {a : Expr} {z : Str} {zs : List Str} {ks : List (Option Expr)} {es : List Expr} {jj : Nat} {p : Pos} (ha : SoE c X EW fa a) (hr : SoD c X EW fr zs ks es) :
    SoD c X EW (fun ρ => (frS fa ρ).bind fun x ρ1 => (fr ρ1).bind fun xs ρ2 => .ok (x :: xs) ρ2) (z :: zs) (some (.Constant (.str z) jj p) :: ks) (a :: es) := by
  obtain ⟨⟨l1, l2, l3⟩, trs, pp, kk⟩ := hr
  obtain ⟨ta, pa, ka⟩ := fr_so ha
  refine ⟨⟨by simp [l1], by simp [l2], by simp [l3]⟩, _, fun pos => pps_cons pe_str pa (pp pos), fun E ρ σ ts H Q j hw => ?_⟩
  refine ka E ρ σ ts H _ j ((Wt.bind hw).mono fun d ρ1 h1 v1 H1 j1 => ?_)
  refine kk E ρ1 σ _ H1 _ j1 ((Wt.bind h1).mono fun ds ρ2 h2 us H2 hl j2 => ?_)
  refine h2 (v1 :: us) H2 (by simp [hl]) ?_
  have : fS (d :: ds) (v1 :: us) = (.o (.fr d), v1) :: fS (c := c) ds us := rfl
  rw [this]
  simpa using j2
theorem putK_new {kvs : List (Key × V)} {k : Key} {v : V} (h : ∀ p ∈ kvs, p.1 ≠ k) : putK kvs k v = kvs ++ [(k, v)] := by
  unfold putK
  rw [if_neg]
  intro hc
  obtain ⟨p, hp, e⟩ := List.any_eq_true.mp hc
  exact h p hp (of_decide_eq_true e)
theorem mergeK_new : ∀ {zs : List Str} {us : List V} {kvs : List (Key × V)}, dist zs = true → (∀ p ∈ kvs, ∀ z ∈ zs, p.1 ≠ .inr z) → mergeK kvs ((zs.zip us).map fun p => ((.inr p.1 : Key), p.2)) = kvs ++ (zs.zip us).map fun p => ((.inr p.1 : Key), p.2)
  | [], us, kvs, _, _ => by simp [mergeK]
  | z :: zs, [], kvs, _, _ => by simp [mergeK]
  | z :: zs, u :: us, kvs, hd, hk => by
    simp only [dist, Bool.and_eq_true, Bool.not_eq_true', List.contains_eq_mem, decide_eq_false_iff_not] at hd
    have e : mergeK kvs (((z :: zs).zip (u :: us)).map fun p => ((.inr p.1 : Key), p.2)) = mergeK (putK kvs (.inr z) u) ((zs.zip us).map fun p => ((.inr p.1 : Key), p.2)) := rfl
    rw [e, putK_new fun p hp => hk p hp z (List.mem_cons_self ..), mergeK_new hd.2]
    · simp
    · intro p hp y hy
      rcases List.mem_append.mp hp with w | w
      · exact hk p w y (List.mem_cons_of_mem _ hy)
      · rw [List.mem_singleton.mp w]
        intro q
        cases q
        exact hd.1 hy
theorem J.dctNil {p : Addr} (j : J c E ρ σ ts H) (hp : H p = none) : J c E ρ σ (ts ++ [(.o (.dct [] []), .ref p)]) (upd H p (.dK [])) := by
  have hl := j.lens
  obtain ⟨h1, h2, h3, G, f, g⟩ := j
  obtain ⟨q0, q1, q2, q3⟩ := g.fresh hp
  have g2 := g.newH (u := .dK []) hp
  refine J.ofEx h1 h2 (sl_snoc (us := []) (by simpa using h3)) ?_
  rw [cO_snoc, cV_snoc, ← List.append_assoc, ← List.append_assoc]
  refine ⟨_, _, g2.push (g := [p]) hl (fun x e => ?_) (List.nodup_cons.mpr ⟨by simp, List.nodup_nil⟩) (fun b hb => ?_) (fun i b hb => ?_) fun b hb => ?_⟩
  · cases e
    exact .dct upd_same q0 .nil .nil
  · rw [List.mem_singleton.mp hb]; exact .inr q2
  · rw [List.mem_singleton.mp hb]; exact q1 i
  · rw [List.mem_singleton.mp hb]; exact ⟨q0, lv_dk upd_same⟩
theorem strs_rep {G : Hp} : ∀ (zs : List Str), RepL c G (zs.map V.str) (zs.map .str)
  | [] => .nil
  | z :: zs => .cons (.str z) (strs_rep zs)
theorem zip_str : ∀ (zs : List Str) (us : List V), zs.length ≤ us.length → (zs.zip us).map (fun p => V.str p.1) = zs.map V.str
  | [], _, _ => rfl
  | z :: zs, [], h => by simp at h
  | z :: zs, u :: us, h => by
    simp only [List.zip_cons_cons, List.map_cons]
    rw [zip_str zs us (by simpa using h)]
theorem J.dctFill {p : Addr} {ds : List c.D} {us : List V} {zs : List Str} (j : J c E ρ σ (ts ++ [(.o (.dct [] []), .ref p)] ++ fS ds us) H) (hl : ds.length = us.length) (hz : zs.length = ds.length) : H p = some (.dK []) ∧
    J c E ρ σ (ts ++ [(.o (.dct (zs.map .str) ds), .ref p)]) (upd H p (.dK ((zs.zip us).map fun p => ((.inr p.1 : Key), p.2)))) := by
  obtain ⟨h1, h2, h3, G, f0, g0⟩ := j
  have hl0 : (ρ ++ cO ts).length = (σ ++ cV ts).length := by simp [cO, cV, h1]
  have hl1 : (ρ ++ cO (ts ++ [((Tm.o (OT.dct [] []) : Tm c), V.ref p)])).length = (σ ++ cV (ts ++ [((Tm.o (OT.dct [] []) : Tm c), V.ref p)])).length := by simp [cO, cV, h1]
  rw [cO_app, cV_app, ← List.append_assoc, ← List.append_assoc] at g0
  have r := seg_fr g0 hl1 hl
  have g2 := g0.cut hl1
  rw [cO_snoc, cV_snoc, ← List.append_assoc, ← List.append_assoc] at g2
  have hn : (ρ ++ cO ts).length < (ρ ++ cO ts ++ [some (OT.dct [] [])]).length := by simp
  obtain ⟨w, q1, q2⟩ := g2.rep (ρ ++ cO ts).length (.dct [] []) (get_last _ _)
  rw [hl0, get_last] at q1
  obtain rfl : V.ref p = w := Option.some.inj (Option.some.inj q1)
  generalize hf : (if (ρ ++ cO ts).length < _ then f0 (ρ ++ cO ts).length else []) = fi at q2
  cases q2 with
  | @dct _ kvs _ _ hx ga r1 r2 =>
    have ek : kvs = [] := by have := r1.length; simpa using this
    subst ek
    have em1 : ((zs.zip us).map fun p => ((.inr p.1 : Key), p.2)).map (fun p => kV p.1) = zs.map V.str := by
      rw [List.map_map]
      exact zip_str zs us (by omega)
    have em2 : ((zs.zip us).map fun p => ((.inr p.1 : Key), p.2)).map (fun p => p.2) = us := by
      rw [List.map_map]
      exact List.map_snd_zip (by omega)
    have q := g2.writeK (n := (ρ ++ cO ts).length) (a := p) (kvs := []) (kvs' := (zs.zip us).map fun p => ((.inr p.1 : Key), p.2)) (ks := zs.map .str) (vs := ds) (by simp [cO, cV, h1]) hn (by rw [hl0]; exact get_last _ _) hf hx (by rw [em1]; exact strs_rep zs) (by rw [em2]; exact r)
    rw [set_app_last] at q
    refine ⟨hx, J.ofEx h1 h2 (sl_snoc (us := [((Tm.o (OT.dct [] []) : Tm c), V.ref p)]) fun t ht => h3 t (List.mem_append_left _ ht)) ?_⟩
    rw [cO_snoc, cV_snoc, ← List.append_assoc, ← List.append_assoc]
    exact ⟨_, _, q⟩
theorem so_dsp {f : Rho c → Out c (List c.D)} {zs : List Str} {ks : List (Option Expr)} {es : List Expr} {pos : Pos} (h0 : zs ≠ []) (h15 : zs.length ≤ 15) (h : SoD c X EW f zs ks es) :
    SoE c X EW (fun ρ => (f ρ).bind fun ds ρ1 => if zs.length = ds.length ∧ dist zs = true then .ok (.o (.dct (zs.map .str) ds)) ρ1 else .bad) (.Dict ks es pos) := by
  obtain ⟨⟨l1, l2, l3⟩, trs, pp, kk⟩ := h
  refine ⟨_, pe_disp (pp pos) l3 l2 (fun z => by rw [z] at l2; simp at l2; rw [← l2] at l1; exact h0 (List.length_eq_zero_iff.mp l1)) (by omega), fun E ρ σ ts H Q j hw p hp => ?_⟩
  refine kk E ρ σ _ _ _ (j.dctNil hp) ((Wt.bind hw).mono fun ds ρ1 h1 us H1 hl j1 => ?_)
  split at h1
  · rename_i hc
    obtain ⟨q1, q2⟩ := j1.dctFill hl hc.1
    refine ⟨q1, (zs.zip us).map fun p => ((.inr p.1 : Key), p.2), by rw [List.map_map]; rfl, by rw [List.length_map, List.length_zip]; omega, ?_⟩
    rw [mergeK_new hc.2 (by simp), List.nil_append]
    exact h1 _ _ q2
  · exact h1.elim
end
end Y

set_option Elab.async false
set_option linter.all false
set_option maxRecDepth 100000
set_option maxHeartbeats 4000000
namespace Y
open PySem PySem.Spec PyProof.Rows L2
/-! ## for x in xs: x.clear(), xs a list of lists of one's own -/
section
variable {c : Cf} {X : Cx} {EW : XK} {E : Ent} {ρ ρ' : Rho c} {σ : L2.St} {ts us : Stk c} {H G : Hp} {f : Nat → List Addr} {Q : VK} {pin : Bool}
/-- an owned list written inside cell n -/
theorem JG.rew {ρ : List (Option c.O)} {σ : List (Option V)} (j : JG c E ρ σ H G f) {n : Nat} {b0 : Addr} {u : HO} {o' : c.O} {v : V} {g : List Addr} (hn : n < ρ.length) (hv : σ[n]? = some (some v)) (hb0 : b0 ∈ f n) (hu : LvO u)
    (r : ORep c G (upd H b0 u) v o' g) (hg : ∀ b ∈ g, b ∈ f n) (gn : g.Nodup) : JG c E (ρ.set n (some o')) σ (upd H b0 u) G (fset f n g) := by
  obtain ⟨ga, w, hw, lw⟩ := j.liv n b0 hb0
  have oa := j.own n b0 hb0
  have na : ∀ i, i ≠ n → b0 ∉ f i := fun i h => j.dj n i (fun e => h e.symm) b0 hb0
  refine ⟨fun b o e => ?_, j.sub0, fun b o e nb => ?_, tabs_lv j.tab hw lw, fun i b hb => ?_, fun i b hb => ?_, j.unf, fun i x ex => ?_, fun i => ?_, fun i k hik b hb => ?_, fun i h => ?_, fun b hb z => ?_, j.ntb⟩
  · rw [upd_ne (ne_of_none e ga)]; exact j.sub b o e
  · have nba : b ≠ b0 := fun z => by
      subst z
      rcases oa with z | z
      · exact nb z
      · rw [z] at e; cases e
    rcases j.old b o e nb with z | ⟨ps, qs, z1, z2⟩
    · exact .inl (by rw [upd_ne nba]; exact z)
    · exact .inr ⟨ps, qs, z1, by rw [upd_ne nba]; exact z2⟩
  · by_cases h : i = n
    · subst h; rw [fset_same] at hb; exact j.own i b (hg b hb)
    · rw [fset_ne h] at hb; exact j.own i b hb
  · by_cases h : i = n
    · subst h; rw [fset_same] at hb; exact r.live b hb
    · rw [fset_ne h] at hb
      have nba : b ≠ b0 := fun z => na i h (z ▸ hb)
      exact ⟨(j.liv i b hb).1, lv_upd nba (j.liv i b hb).2⟩
  · by_cases h : i = n
    · subst h
      rw [List.getElem?_set_self hn] at ex
      cases ex
      refine ⟨_, hv, ?_⟩
      rw [fset_same]; exact r
    · rw [List.getElem?_set_ne (fun z => h z.symm)] at ex
      obtain ⟨w, e2, r2⟩ := j.rep i x ex
      refine ⟨w, e2, ?_⟩
      rw [fset_ne h]
      refine r2.move (Same.refl _) fun b hb => ?_
      have nba : b ≠ b0 := fun z => na i h (z ▸ hb)
      exact ⟨(j.liv i b hb).1, by rw [upd_ne nba]⟩
  · by_cases h : i = n
    · subst h; rw [fset_same]; exact gn
    · rw [fset_ne h]; exact j.nd i
  · by_cases h : i = n
    · subst h; rw [fset_same] at hb; rw [fset_ne (fun e => hik e.symm)]; exact j.dj i k hik b (hg b hb)
    · rw [fset_ne h] at hb
      by_cases h2 : k = n
      · subst h2; rw [fset_same]; exact fun z => j.dj i k hik b hb (hg b z)
      · rw [fset_ne h2]; exact j.dj i k hik b hb
  · rw [List.length_set] at h
    rw [fset_ne (by omega)]; exact j.out i h
  · by_cases e : b = b0
    · subst e; rw [upd_same] at z; cases z
    · rw [upd_ne e] at z; exact j.a0 b hb z
/-- one of the lists in a list, emptied -/
theorem orepL_clear : ∀ {xs : List V} {os : List c.O} {g : List Addr} {i : Nat} {q : List c.O}, ORepL c G H xs os g → g.Nodup → os[i]? = some (.lst q) →
    ∃ b ys, xs[i]? = some (.ref b) ∧ H b = some (.lst ys) ∧ b ∈ g ∧ ∃ g', ORepL c G (upd H b (.lst [])) xs (os.set i (.lst [])) g' ∧ (∀ y ∈ g', y ∈ g) ∧ g'.Nodup
  | _, _, _, i, _, .nil, _, h => by simp at h
  | _, _, _, 0, _, .cons (f := f1) (g := g1) a r, hn, h => by
    cases h
    cases a with
    | @lst b ys _ f2 hb gb rr =>
      have n1 := List.nodup_append.mp hn
      have nb : b ∉ g1 := fun z => (n1.2.2 b (List.mem_cons_self ..) b z) rfl
      refine ⟨b, ys, rfl, hb, List.mem_append_left _ (List.mem_cons_self ..), [b] ++ g1, .cons (.lst upd_same gb .nil) (r.move (Same.refl _) fun y hy => ⟨(r.live y hy).1, upd_ne (fun e => by subst e; exact nb hy)⟩), fun y hy => ?_, ?_⟩
      · rcases List.mem_append.mp hy with z | z
        · rw [List.mem_singleton.mp z]; exact List.mem_append_left _ (List.mem_cons_self ..)
        · exact List.mem_append_right _ z
      · exact List.nodup_cons.mpr ⟨nb, n1.2.1⟩
  | _, _, _, i + 1, _, .cons (f := f1) (g := g1) a r, hn, h => by
    have n1 := List.nodup_append.mp hn
    obtain ⟨b, ys, e1, e2, e3, g', r', s', n'⟩ := orepL_clear r n1.2.1 (by simpa using h)
    have nb : b ∉ f1 := fun z => (n1.2.2 b z b e3) rfl
    refine ⟨b, ys, e1, e2, List.mem_append_right _ e3, f1 ++ g', .cons (a.move (Same.refl _) fun y hy => ⟨(a.live y hy).1, upd_ne (fun e => by subst e; exact nb hy)⟩) r', fun y hy => ?_, ?_⟩
    · rcases List.mem_append.mp hy with z | z
      · exact List.mem_append_left _ z
      · exact List.mem_append_right _ (s' y z)
    · exact List.nodup_append.mpr ⟨n1.1, n', fun p hp q hq => n1.2.2 p hp q (s' q hq)⟩
def clears (i : Nat) (os : List c.O) : List c.O := List.replicate i (.lst []) ++ os.drop i
theorem clears_get {i : Nat} {os : List c.O} {o : c.O} (h : os[i]? = some o) : (clears i os)[i]? = some o := by
  unfold clears
  have hi := (List.getElem?_eq_some_iff.mp h).1
  rw [List.getElem?_append_right (by simp), List.length_replicate, Nat.sub_self, List.getElem?_drop]
  simpa using h
theorem clears_set {i : Nat} {os : List c.O} (h : i < os.length) : (clears i os).set i (.lst []) = clears (i + 1) os := by
  unfold clears
  rw [List.set_append_right _ _ (by simp), List.length_replicate, Nat.sub_self, List.drop_eq_getElem_cons h, List.set_cons_zero, List.replicate_succ']
  simp
theorem clears_all {os : List c.O} : clears os.length os = os.map fun _ => .lst [] := by
  unfold clears
  rw [List.drop_length, List.append_nil]
  induction os with
  | nil => rfl
  | cons a l ih => rw [List.length_cons, List.replicate_succ, List.map_cons, ih]
theorem clears_len {i : Nat} {os : List c.O} (h : i ≤ os.length) : (clears i os).length = os.length := by
  unfold clears
  rw [List.length_append, List.length_replicate, List.length_drop]; omega
theorem J.clr1 {i l : Nat} {os : List c.O} {q : List c.O} {a : Addr} (j : J c E ρ σ ts H) (hs : σ[l]? = some (some (.ref a))) (h : ρ[l]? = some (some (.lst os))) (ha : AllO ts) (hi : os[i]? = some (.lst q)) : ∃ xs b ys, H a = some (.lst xs) ∧ xs.length = os.length ∧ xs[i]? = some (.ref b) ∧ H b = some (.lst ys) ∧
    J c E (ρ.set l (some (.lst (os.set i (.lst []))))) σ ts (upd H b (.lst [])) ∧ (upd H b (.lst [])) a = some (.lst xs) := by
  obtain ⟨h1, h2, h3, G, f, g⟩ := j
  have hl : l < ρ.length := (List.getElem?_eq_some_iff.mp h).1
  obtain ⟨w, e2, r⟩ := g.rep l _ (by rw [List.getElem?_append_left hl]; exact h)
  rw [List.getElem?_append_left (by omega), hs] at e2
  cases e2
  have nd := g.nd l
  generalize hf : f l = fl at r nd
  cases r with
  | @lst _ xs _ gg hx ga rr =>
    obtain ⟨nag, ndg⟩ := List.nodup_cons.mp nd
    obtain ⟨b, ys, q1, q2, q3, g', r', s', n'⟩ := orepL_clear rr ndg hi
    have nab : a ≠ b := fun e => nag (e ▸ q3)
    have ha' : (upd H b (.lst [])) a = some (.lst xs) := by rw [upd_ne nab]; exact hx
    refine ⟨xs, b, ys, hx, rr.length, q1, q2, ?_, ha'⟩
    have q := g.rew (n := l) (b0 := b) (u := .lst []) (o' := .lst (os.set i (.lst []))) (v := .ref a) (g := a :: g') (by simp; omega) (by rw [List.getElem?_append_left (by omega)]; exact hs) (by rw [hf]; exact List.mem_cons_of_mem _ q3) (.inl ⟨_, rfl⟩) (.lst ha' ga r') (fun y hy => by
      rw [hf]
      rcases List.mem_cons.mp hy with z | z
      · rw [z]; exact List.mem_cons_self ..
      · exact List.mem_cons_of_mem _ (s' y z)) (List.nodup_cons.mpr ⟨fun z => nag (s' a z), n'⟩)
    rw [List.set_append_left _ _ hl] at q
    exact ⟨by simp [h1], h2, ha.sl, G, _, q⟩
theorem ss_clra {t l : Nat} {n m : Str} {p1 p2 p3 p4 p5 p6 pos : Pos} (hpo : PassesOwn (model X.prog X.w) X.A X.env X.xe) (hc : X.calm = true) (hN : X.N.Nodup) (hi : X.N[t]? = some n) (hx : Loc X.env.scope n) (hf : X.fn n = true ∨ X.env.scope.names.lookup n = some .local)
    (hline : (p3.endLine == p4.line) = true) (hv : PE X (.Name n p2) (tVar t)) (hl : PE X (.Name m p6) (tVar l)) :
    SoS c X EW pin (fun ρ => match (ρ[l]?).join with
      | some (.lst os) => if os.all isLst && decide (t ≠ l) && decide (t < ρ.length) && !(pin && t == 0) then .nx ((ρ.set t none).set l (some (.lst (os.map fun _ => .lst [])))) else .bad
      | _ => .bad) (.For (.Name n p1) (.Name m p6) [.Expr (.Call (.Attribute (.Name n p2) "clear" p3) [] [] p4) p5] [] pos) := by
  refine ⟨_, ps_for hpo hc (pi_seq hl) (pg_name hN hi hx hf) (pss_one (ps_expr (pe_bm0 PySem.F.plainAttrs_list PySem.F.slot_list_clear PySem.F.type_list_clear mt_clear hv (hbase := rfl) (hline := hline)) rfl)) (fold_pl rfl), fun E ρ σ ts H D hp hal j hw => ?_⟩
  cases e0 : (ρ[l]?).join with
  | none => simp only [e0] at hw; exact hw.elim
  | some o0 =>
    cases o0 with
    | lst os =>
      simp only [e0] at hw
      split at hw
      · rename_i hcc
        simp only [Bool.and_eq_true, decide_eq_true_eq, Bool.not_eq_true', Bool.and_eq_false_iff] at hcc
        obtain ⟨⟨⟨c1, c2⟩, c3⟩, c4⟩ := hcc
        have c4' : E.pin = none ∨ t ≠ 0 := by
          rcases hp with h | h
          · exact .inl h
          · right
            rcases c4 with z | z
            · rw [h] at z; cases z
            · simpa using z
        obtain ⟨a, xs, hs, hxa⟩ := slot_lst j e0
        refine ⟨.ref a, hs, a, rfl, .inl ⟨⟨xs, SqL.of hxa⟩, ?_⟩⟩
        have hl0 : ρ[l]? = some (some (.lst os)) := join_some e0
        have hll := (List.getElem?_eq_some_iff.mp hl0).1
        have hlen : xs.length = os.length := by
          obtain ⟨h1, h2, h3, G, f, g⟩ := j
          obtain ⟨w, e2, r⟩ := g.rep l _ (by rw [List.getElem?_append_left hll]; exact hl0)
          rw [List.getElem?_append_left (by omega), hs] at e2
          cases e2
          generalize f l = fl at r
          cases r with
          | lst hx _ rr => rw [hxa] at hx; cases hx; exact rr.length
        have j0 : J c E (ρ.set t none) σ ts H := by
          have q := J.forget (i := t) (w := (σ[t]?).join) j c4' hal
          have e : σ.set t ((σ[t]?).join) = σ := by
            apply List.ext_getElem?
            intro k
            by_cases hk : t = k
            · subst hk
              have ht : t < σ.length := by rw [← j.len]; exact c3
              rw [List.getElem?_set_self ht, List.getElem?_eq_getElem ht]; rfl
            · rw [List.getElem?_set_ne hk]
          rw [e] at q; exact q
        refine ⟨fun i m σ' H' => m = os.length - i ∧ i ≤ os.length ∧ J c E ((ρ.set t none).set l (some (.lst (clears i os)))) σ' ts H' ∧ σ'[l]? = some (some (.ref a)) ∧ H' a = some (.lst xs),
          ⟨os.length, by simp, Nat.zero_le _, ?_, hs, hxa⟩, ?_⟩
        · have : (ρ.set t none).set l (some (.lst (clears 0 os))) = ρ.set t none := by
            apply List.ext_getElem?
            intro k
            by_cases hk : l = k
            · subst hk
              rw [List.getElem?_set_self (by simpa using hll), List.getElem?_set_ne c2, hl0]
              simp [clears]
            · rw [List.getElem?_set_ne hk]
          rw [this]; exact j0
        · rintro i m σ' H' ⟨rfl, hle, jj, hs', hxa'⟩
          by_cases hlt : i < os.length
          · refine .inr ⟨⟨xs, xs[i]'(by omega), SqL.of hxa', List.getElem?_eq_getElem _⟩, fun σ2 H2 => J c E ((ρ.set t none).set l (some (.lst (clears (i + 1) os)))) σ2 ts H2 ∧ σ2[l]? = some (some (.ref a)) ∧ H2 a = some (.lst xs),
              fun σ2 H2 ⟨a1, a2, a3⟩ => ⟨os.length - (i + 1), by omega, rfl, hlt, a1, a2, a3⟩, fun x H2 hy => ?_⟩
            obtain ⟨rfl, hy⟩ := hy
            have hxi := hy xs (SqL.of hxa')
            obtain ⟨q, hq⟩ : ∃ q, os[i]? = some (.lst q) := by
              have h1 := List.all_eq_true.mp c1 (os[i]'hlt) (List.getElem_mem _)
              unfold isLst at h1
              split at h1
              · rename_i q e; exact ⟨q, by rw [List.getElem?_eq_getElem hlt, e]⟩
              · cases h1
            have hlr : ((ρ.set t none).set l (some (.lst (clears i os))))[l]? = some (some (.lst (clears i os))) := List.getElem?_set_self (by simpa using hll)
            have jt : J c E ((ρ.set t none).set l (some (.lst (clears i os)))) (σ'.set t (some x)) ts H2 := by
              refine jj.reslot (by simp) (fun k o hk => ?_) fun v0 hv0 => ?_
              · rw [List.getElem?_set_ne]
                rintro rfl
                rw [List.getElem?_set_ne (fun z => c2 z.symm), List.getElem?_set_self c3] at hk
                cases hk
              · rw [List.getElem?_set_ne]
                · exact jj.pin v0 hv0
                · rcases c4' with z | z
                  · rw [z] at hv0; cases hv0
                  · exact z
            have hs2 : (σ'.set t (some x))[l]? = some (some (.ref a)) := by rw [List.getElem?_set_ne c2]; exact hs'
            obtain ⟨xs2, b, ys, w1, w2, w3, w4, w5, w6⟩ := J.clr1 (i := i) jt hs2 hlr hal (clears_get hq)
            rw [hxa'] at w1
            cases w1
            rw [hxi] at w3
            cases w3
            have htl : t < σ'.length := by rw [← jj.len]; simpa using c3
            refine ⟨.ref b, List.getElem?_set_self htl, tyV_lst w4, b, ys, rfl, rfl, w4, ?_, hs2, w6⟩
            rw [clears_set hlt, List.set_set] at w5
            exact w5
          · have e : i = os.length := by omega
            subst e
            refine .inl ⟨⟨xs, SqL.of hxa', by omega⟩, hw σ' H' ?_⟩
            rw [clears_all] at jj
            exact jj
      · exact hw.elim
    | _ => simp only [e0] at hw; exact hw.elim
end
end Y

set_option Elab.async false
set_option linter.all false
set_option maxRecDepth 100000
set_option maxHeartbeats 4000000
namespace Y
open PySem PySem.Spec PyProof.Rows L2
/-! ## functions -/
def ioC {c : Cf} (io : Option c.O) : List (Option c.O) := match io with
  | some o => [some o]
  | none => []
def ioV (p : Option V) : List (Option V) := match p with
  | some v => [some v]
  | none => []
def FQ (c : Cf) (E : Ent) (Q : VK) (EW : XK) : FO c → Prop
  | .ok o io => io.isSome = E.pin.isSome ∧ ∀ v H' G' f, JG c E (some o :: ioC io) (some v :: ioV E.pin) H' G' f → Q v H'
  | .exc n fs => ExcP c E EW n fs
  | .bad => False
/-- what a function promises whose meaning is F -/
def spF (c : Cf) (io : Bool) (F : Option c.O → List c.D → FO c) : Sp := fun vs H Q EW => ∃ G : Hp, Same G H ∧ LamX.Tabs c.T H ∧ (∀ b ps, G b ≠ some (.tbl ps)) ∧
  ((io = false ∧ ∃ ds, RepL c G vs ds ∧ FQ c ⟨H, G, [], none⟩ Q EW (F none ds)) ∨
   (io = true ∧ ∃ v0 o0 fp vs' ds, vs = v0 :: vs' ∧ ORep c G H v0 o0 fp ∧ fp.Nodup ∧ RepL c G vs' ds ∧ FQ c ⟨H, G, fp, some v0⟩ Q EW (F (some o0) ds)))

section
variable {c : Cf} {E : Ent} {ρ : List (Option c.O)} {σ : List (Option V)} {H G : Hp} {f : Nat → List Addr}
theorem old_lv {E : Ent} {H' : Hp} {b : Addr} {u : HO} (h : ∀ b o, E.H0 b = some o → b ∉ E.A0 → H' b = some o ∨ ∃ ps qs, o = .tbl ps ∧ H' b = some (.tbl qs)) (e : E.H0 b = some u) (n : b ∉ E.A0) (l : LvO u) : H' b = some u := by
  rcases h b _ e n with z | ⟨ps, qs, z, _⟩
  · exact z
  · exact absurd z (l.ntbl ps)
theorem old_any {E : Ent} {H' : Hp} {b : Addr} {o : HO} (h : ∀ b o, E.H0 b = some o → b ∉ E.A0 → H' b = some o ∨ ∃ ps qs, o = .tbl ps ∧ H' b = some (.tbl qs)) (e : E.H0 b = some o) (n : b ∉ E.A0) : H' b ≠ none := by
  rcases h b o e n with z | ⟨ps, qs, _, z⟩ <;> (rw [z]; simp)
theorem old_trans {E : Ent} {H H' : Hp} {A : List Addr} (h : ∀ b o, E.H0 b = some o → b ∉ E.A0 → H b = some o ∨ ∃ ps qs, o = .tbl ps ∧ H b = some (.tbl qs))
    (h' : ∀ b o, H b = some o → b ∉ A → H' b = some o ∨ ∃ ps qs, o = .tbl ps ∧ H' b = some (.tbl qs)) (hA : ∀ b o, E.H0 b = some o → b ∉ E.A0 → b ∉ A) :
    ∀ b o, E.H0 b = some o → b ∉ E.A0 → H' b = some o ∨ ∃ ps qs, o = .tbl ps ∧ H' b = some (.tbl qs) := fun b o e n => by
  rcases h b o e n with z | ⟨ps, qs, z1, z2⟩
  · exact h' b o z (hA b o e n)
  · rcases h' b _ z2 (hA b o e n) with z | ⟨ps', qs', _, z⟩
    · exact .inr ⟨ps, qs, z1, z⟩
    · exact .inr ⟨ps, qs', z1, z⟩
/-- behind a call that changed nothing of ours: the caller's state, with the result on top -/
theorem JG.after {Gc H' G' : Hp} {f' : Nat → List Addr} {o : c.O} {v : V} (g : JG c E ρ σ H G f) (hl : ρ.length = σ.length) (hG : Same G Gc) (k : JG c ⟨H, G, [], none⟩ [some o] [some v] H' G' f') : JG c E (ρ ++ [some o]) (σ ++ [some v]) H' G' (fset f ρ.length (f' 0)) := by
  have hold := old_trans g.old k.old fun b o e n => by simp
  obtain ⟨w, e1, r⟩ := k.rep 0 o rfl
  obtain rfl : v = w := Option.some.inj (Option.some.inj e1)
  have live : ∀ i, ∀ b ∈ f i, G' b = none ∧ ∃ xs, H b = some xs ∧ H' b = some xs ∧ LvO xs := fun i b hb => by
    obtain ⟨q1, xs, q2, q0⟩ := g.liv i b hb
    exact ⟨k.unf b q1 (by show H b ≠ none; rw [q2]; simp) (by simp), xs, q2, old_lv k.old q2 (by simp) q0, q0⟩
  have base : JG c E ρ σ H' G' f := by
    refine ⟨k.sub, g.sub0.trans k.sub0, hold, k.tab, g.own, fun i b hb => ?_, fun b h1 h2 h3 => ?_, fun i x e => ?_, g.nd, g.dj, g.out, fun b hb z => ?_, k.ntb⟩
    · obtain ⟨q1, xs, _, q2, q0⟩ := live i b hb
      exact ⟨q1, xs, q2, q0⟩
    · have q := g.unf b h1 h2 h3
      cases e : E.H0 b with
      | none => exact absurd e h2
      | some o => exact k.unf b q (old_any g.old e h3) (by simp)
    · obtain ⟨w, e2, r⟩ := g.rep i x e
      exact ⟨w, e2, r.move k.sub0 fun b hb => by
        obtain ⟨q1, xs, q2, q3, _⟩ := live i b hb
        exact ⟨q1, by rw [q2, q3]⟩⟩
    · cases e : H b with
      | none => exact g.a0 b hb e
      | some o => exact old_any k.old e (by simp) z
  refine base.push hl (fun x e => by cases e; exact r) (k.nd 0) (fun b hb => ?_) (fun i b hb z => ?_) (k.liv 0)
  · rcases k.own 0 b hb with z | z
    · simp at z
    · exact .inr (g.fresh z).2.2.1
  · obtain ⟨_, xs, q, _⟩ := live i b z
    rcases k.own 0 b hb with w | w
    · simp at w
    · rw [show H b = none from w] at q; cases q
/-- .. the result an atom, what was lent comes back -/
theorem JG.after0 {Gc H' G' : Hp} {f' : Nat → List Addr} {ρ' : List (Option c.O)} {σ' : List (Option V)} (g : JG c E ρ σ H G f) (k : JG c ⟨H, Gc, [], none⟩ ρ' σ' H' G' f') : JG c E ρ σ H' G f := by
  have hold := old_trans g.old k.old fun b o e n => by simp
  have live : ∀ i, ∀ b ∈ f i, ∃ xs, H b = some xs ∧ H' b = some xs ∧ LvO xs := fun i b hb => by
    obtain ⟨q1, xs, q2, q0⟩ := g.liv i b hb
    exact ⟨xs, q2, old_lv k.old q2 (by simp) q0, q0⟩
  refine ⟨fun b o e => ?_, g.sub0, hold, k.tab, g.own, fun i b hb => ?_, g.unf, fun i x e => ?_, g.nd, g.dj, g.out, fun b hb z => ?_, g.ntb⟩
  · rcases k.old b o (g.sub _ _ e) (by simp) with z | ⟨ps, qs, z, _⟩
    · exact z
    · subst z; exact absurd e (g.ntb b ps)
  · obtain ⟨xs, _, q2, q0⟩ := live i b hb
    exact ⟨(g.liv i b hb).1, xs, q2, q0⟩
  · obtain ⟨w, e2, r⟩ := g.rep i x e
    exact ⟨w, e2, r.move (Same.refl _) fun b hb => by
      obtain ⟨xs, q2, q3, _⟩ := live i b hb
      exact ⟨(g.liv i b hb).1, by rw [q2, q3]⟩⟩
  · cases e : H b with
    | none => exact g.a0 b hb e
    | some o => exact old_any k.old e (by simp) z
/-- behind a call that changed the list in cell n -/
theorem JG.afterIo {H' G' : Hp} {f' : Nat → List Addr} {o o' : c.O} {v v0 : V} {n : Nat} (g : JG c E ρ σ H G f) (hl : ρ.length = σ.length) (hn : n < ρ.length) (hv : σ[n]? = some (some v0)) (k : JG c ⟨H, G, f n, some v0⟩ [some o, some o'] [some v, some v0] H' G' f') :
    JG c E (ρ.set n (some o') ++ [some o]) (σ ++ [some v]) H' G' (fset (fset f n (f' 1)) ρ.length (f' 0)) := by
  have hold := old_trans g.old k.old fun b o e nb hb => by
    rcases g.own n b hb with z | z
    · exact nb z
    · rw [z] at e; cases e
  obtain ⟨w, e1, r⟩ := k.rep 0 o rfl
  obtain rfl : v = w := Option.some.inj (Option.some.inj e1)
  obtain ⟨w', e1', r'⟩ := k.rep 1 o' rfl
  obtain rfl : v0 = w' := Option.some.inj (Option.some.inj e1')
  have live : ∀ i, i ≠ n → ∀ b ∈ f i, G' b = none ∧ ∃ xs, H b = some xs ∧ H' b = some xs ∧ LvO xs := fun i hi b hb => by
    obtain ⟨q1, xs, q2, q0⟩ := g.liv i b hb
    have nb := g.dj i n hi b hb
    exact ⟨k.unf b q1 (by show H b ≠ none; rw [q2]; simp) nb, xs, q2, old_lv k.old q2 nb q0, q0⟩
  have kown : ∀ q, ∀ b ∈ f' q, b ∈ E.A0 ∨ E.H0 b = none := fun q b hb => by
    rcases k.own q b hb with z | z
    · exact g.own n b z
    · exact .inr (g.fresh z).2.2.1
  have kdj : ∀ q i, i ≠ n → ∀ b ∈ f' q, b ∉ f i := fun q i hi b hb z => by
    rcases k.own q b hb with w | w
    · exact g.dj i n hi b z w
    · obtain ⟨_, xs, q2, _⟩ := live i hi b z
      rw [show H b = none from w] at q2; cases q2
  have es : σ.set n (some v0) = σ := by
    apply List.ext_getElem?
    intro i
    by_cases hi : n = i
    · subst hi; rw [List.getElem?_set_self (by omega), hv]
    · rw [List.getElem?_set_ne hi]
  have base : JG c E (ρ.set n (some o')) σ H' G' (fset f n (f' 1)) := by
    refine ⟨k.sub, g.sub0.trans k.sub0, hold, k.tab, fun i b hb => ?_, fun i b hb => ?_, fun b h1 h2 h3 => ?_, fun i x e => ?_, fun i => ?_, fun i q hiq b hb => ?_, fun i hi => ?_, fun b hb z => ?_, k.ntb⟩
    · by_cases h : i = n
      · subst h; rw [fset_same] at hb; exact kown 1 b hb
      · rw [fset_ne h] at hb; exact g.own i b hb
    · by_cases h : i = n
      · subst h; rw [fset_same] at hb; exact k.liv 1 b hb
      · rw [fset_ne h] at hb
        obtain ⟨q1, xs, _, q2, q0⟩ := live i h b hb
        exact ⟨q1, xs, q2, q0⟩
    · have q := g.unf b h1 h2 h3
      cases e : E.H0 b with
      | none => exact absurd e h2
      | some o =>
        refine k.unf b q (old_any g.old e h3) fun hb => ?_
        rcases g.own n b hb with z | z
        · exact h3 z
        · exact h2 z
    · by_cases h : i = n
      · subst h
        rw [List.getElem?_set_self hn] at e
        cases e
        refine ⟨_, hv, ?_⟩
        rw [fset_same]; exact r'
      · rw [List.getElem?_set_ne (fun z => h z.symm)] at e
        obtain ⟨w, e2, r⟩ := g.rep i x e
        refine ⟨w, e2, ?_⟩
        rw [fset_ne h]
        exact r.move k.sub0 fun b hb => by
          obtain ⟨q1, xs, q2, q3, _⟩ := live i h b hb
          exact ⟨q1, by rw [q2, q3]⟩
    · by_cases h : i = n
      · subst h; rw [fset_same]; exact k.nd 1
      · rw [fset_ne h]; exact g.nd i
    · by_cases h : i = n
      · subst h; rw [fset_same] at hb; rw [fset_ne (fun e => hiq e.symm)]; exact kdj 1 q (fun e => hiq e.symm) b hb
      · rw [fset_ne h] at hb
        by_cases h2 : q = n
        · subst h2; rw [fset_same]; exact fun z => kdj 1 i h b z hb
        · rw [fset_ne h2]; exact g.dj i q hiq b hb
    · rw [List.length_set] at hi
      rw [fset_ne (by omega)]; exact g.out i hi
    · by_cases hbn : b ∈ f n
      · exact k.a0 b hbn z
      · cases e : H b with
        | none => exact g.a0 b hb e
        | some o => exact old_any k.old e hbn z
  have q := base.push (o := some o) (v := v) (g := f' 0) (by simp [hl]) (fun x e => by cases e; exact r) (k.nd 0) (kown 0) (fun i b hb z => ?_) (k.liv 0)
  · rw [List.length_set] at q; exact q
  · by_cases h : i = n
    · subst h; rw [fset_same] at z; exact k.dj 0 1 (by decide) b hb z
    · rw [fset_ne h] at z; exact kdj 0 i h b hb z
/-- an exception behind a call -/
theorem JX.after {n : Nat} {fs : List c.D} {d : Addr} {H' : Hp} {A : List Addr} {p : Option V} (g : JG c E ρ σ H G f) (hA : A = [] ∨ ∃ m, A = f m) (k : JX c ⟨H, G, A, p⟩ n fs d H') : JX c E n fs d H' := by
  obtain ⟨G', f', vs, k, e, r⟩ := k
  have nA : ∀ b, E.H0 b ≠ none → b ∉ E.A0 → b ∉ A := fun b h1 h2 hb => by
    rcases hA with z | ⟨m, z⟩
    · subst z; simp at hb
    · subst z
      rcases g.own m b hb with w | w
      · exact h2 w
      · exact h1 w
  have hold := old_trans g.old k.old fun b o e nb => nA b (by rw [e]; simp) nb
  refine ⟨G', fun _ => [], vs, ⟨k.sub, g.sub0.trans k.sub0, hold, k.tab, by simp, by simp, fun b h1 h2 h3 => ?_, by simp, by simp, by simp, by simp, fun b hb z => ?_, k.ntb⟩, e, r⟩
  · have q := g.unf b h1 h2 h3
    cases e : E.H0 b with
    | none => exact absurd e h2
    | some o => exact k.unf b q (old_any g.old e h3) (nA b h2 h3)
  · by_cases hbn : b ∈ A
    · exact k.a0 b hbn z
    · cases e : H b with
      | none => exact g.a0 b hb e
      | some o => exact old_any k.old e hbn z
end
/-! ### calls -/
section
variable {c : Cf} {X : Cx} {EW : XK} {E : Ent} {ρ : Rho c} {σ : L2.St} {ts : Stk c} {H : Hp}
theorem zip_fr {tms : List (Tm c)} {vs : List V} (hl : tms.length = vs.length) {t : Tm c} {v : V} (h : (t, v) ∈ tms.zip vs) : t ∈ tms := (List.of_mem_zip h).1
/-- the operands' slots frozen; the data as they are then -/
theorem fzAll_ok : ∀ {tms : List (Tm c)} {ρ : Rho c}, J c E ρ σ ts H → (∀ t ∈ tms, ∀ i, t = .sl i → ∃ v, σ[i]? = some (some v)) → J c E (fzAll ρ tms) σ ts H
  | [], _, j, _ => j
  | t :: tms, ρ, j, h => by
    unfold fzAll
    cases e : tO ρ t with
    | none => exact fzAll_ok j fun u hu => h u (List.mem_cons_of_mem _ hu)
    | some o =>
      refine fzAll_ok ?_ fun u hu => h u (List.mem_cons_of_mem _ hu)
      cases t with
      | o x => exact j
      | sl i =>
        obtain ⟨v, hv⟩ := h (.sl i) (List.mem_cons_self ..) i rfl
        exact ((j.slot hv ⟨_, join_some e⟩).fz e).cut
theorem tO_fz {t u : Tm c} {ρ : Rho c} {o p : c.O} (h : tO ρ t = some o) (h2 : tO ρ u = some p) : ∃ p', tO (fzR ρ t o.d) u = some p' ∧ p'.d = p.d ∧ (u = t → (∃ i, t = .sl i) → p' = .fr o.d) := by
  cases t with
  | o x => exact ⟨p, h2, rfl, fun _ ⟨i, e⟩ => by cases e⟩
  | sl i =>
    cases u with
    | o x => exact ⟨p, h2, rfl, fun e => by cases e⟩
    | sl k =>
      have hi := (List.getElem?_eq_some_iff.mp (join_some h)).1
      by_cases e : i = k
      · subst e
        have : o = p := by rw [h] at h2; exact Option.some.inj h2
        subst this
        exact ⟨.fr o.d, by show ((ρ.set i _)[i]?).join = _; rw [List.getElem?_set_self hi]; rfl, rfl, fun _ _ => rfl⟩
      · exact ⟨p, by show ((ρ.set i _)[k]?).join = _; rw [List.getElem?_set_ne e]; exact h2, rfl, fun z => by cases z; exact absurd rfl e⟩
theorem datas_fz {t : Tm c} {ρ : Rho c} {o : c.O} (h : tO ρ t = some o) : ∀ {tms : List (Tm c)} {ds : List c.D}, datas ρ tms = some ds → datas (fzR ρ t o.d) tms = some ds
  | [], ds, e => e
  | u :: tms, ds, e => by
    simp only [datas] at e ⊢
    split at e
    · rename_i p es e1 e2
      cases e
      obtain ⟨p', q1, q2, _⟩ := tO_fz h e1
      rw [q1, datas_fz h e2]
      simp only [q2]
    · cases e
theorem datas_fzAll : ∀ {tms us : List (Tm c)} {ρ : Rho c} {ds : List c.D}, datas ρ us = some ds → datas (fzAll ρ tms) us = some ds
  | [], _, _, _, e => e
  | t :: tms, us, ρ, ds, e => by
    unfold fzAll
    cases h : tO ρ t with
    | none => exact datas_fzAll e
    | some o => exact datas_fzAll (datas_fz h e)
/-- all operands are frozen things now -/
def AllFz (ρ : Rho c) (tms : List (Tm c)) : Prop := ∀ t ∈ tms, ∀ o, tO ρ t = some o → ∃ d, o = .fr d
theorem allFz_step {t : Tm c} {ρ : Rho c} {o : c.O} (h : tO ρ t = some o) {us : List (Tm c)} (ha : AllFz ρ us) : AllFz (fzR ρ t o.d) us := fun u hu p hp => by
  cases t with
  | o x => exact ha u hu p hp
  | sl i =>
    cases u with
    | o x => exact ha _ hu p hp
    | sl k =>
      have hi := (List.getElem?_eq_some_iff.mp (join_some h)).1
      by_cases e : i = k
      · subst e
        have : tO (fzR ρ (.sl i) o.d) (.sl i) = some (.fr o.d) := by show ((ρ.set i _)[i]?).join = _; rw [List.getElem?_set_self hi]; rfl
        rw [this] at hp; cases hp; exact ⟨_, rfl⟩
      · refine ha _ hu p ?_
        have : tO (fzR ρ (.sl i) o.d) (.sl k) = tO ρ (.sl k) := by show ((ρ.set i _)[k]?).join = _; rw [List.getElem?_set_ne e]; rfl
        rw [← this]; exact hp
theorem allFz_all : ∀ {tms us : List (Tm c)} {ρ : Rho c}, AllFz ρ us → AllFz (fzAll ρ tms) us
  | [], _, _, h => h
  | t :: tms, us, ρ, h => by
    unfold fzAll
    cases e : tO ρ t with
    | none => exact allFz_all h
    | some o => exact allFz_all (allFz_step e h)
theorem fzAll_fz : ∀ {tms : List (Tm c)} {ρ : Rho c}, (∀ t ∈ tms, ∀ x, t = .o x → ∃ d, x = .fr d) → AllFz (fzAll ρ tms) tms
  | [], _, _ => fun t ht => by cases ht
  | t :: tms, ρ, h => by
    have ih : ∀ ρ', AllFz (fzAll ρ' tms) tms := fun ρ' => fzAll_fz fun u hu => h u (List.mem_cons_of_mem _ hu)
    have one : ∀ ρ' : Rho c, (∀ o, tO ρ' t = some o → ∃ d, o = .fr d) → AllFz (fzAll ρ' tms) [t] := fun ρ' hh => allFz_all fun u hu o ho => by
      rw [List.mem_singleton.mp hu] at ho; exact hh o ho
    intro u hu o ho
    unfold fzAll at ho
    cases e : tO ρ t with
    | none =>
      rw [e] at ho
      rcases List.mem_cons.mp hu with z | z
      · subst z
        exact one ρ (fun o' h' => by rw [e] at h'; cases h') u (List.mem_singleton.mpr rfl) o ho
      · exact ih ρ u z o ho
    | some p =>
      rw [e] at ho
      rcases List.mem_cons.mp hu with z | z
      · subst z
        refine one _ (fun o' h' => ?_) u (List.mem_singleton.mpr rfl) o ho
        cases u with
        | o x =>
          obtain ⟨d, rfl⟩ := h (.o x) (List.mem_cons_self ..) x rfl
          cases h'; exact ⟨_, rfl⟩
        | sl i =>
          obtain ⟨p', q1, _, q3⟩ := tO_fz e e
          rw [h'] at q1; cases q1
          exact ⟨_, q3 rfl ⟨i, rfl⟩⟩
      · exact ih _ u z o ho
theorem reps_of {G : Hp} {f : Nat → List Addr} {us : Stk c} (h1 : ρ.length = σ.length) (h3 : ∀ t ∈ ts ++ us, SlOk ρ σ t) (g : JG c E (ρ ++ cO (ts ++ us)) (σ ++ cV (ts ++ us)) H G f) : ∀ {tms : List (Tm c)} {vs : List V} {ds : List c.D}, tms.length = vs.length → (∀ p ∈ tms.zip vs, p ∈ ts ++ us) → AllFz ρ tms → datas ρ tms = some ds → RepL c G vs ds
  | [], [], ds, _, _, _, e => by cases e; exact .nil
  | [], _ :: _, _, h, _, _, _ => by simp at h
  | _ :: _, [], _, h, _, _, _ => by simp at h
  | t :: tms, v :: vs, ds, hl, hm, hf, e => by
    simp only [datas] at e
    split at e
    · rename_i o es e1 e2
      cases e
      obtain ⟨d, rfl⟩ := hf t (List.mem_cons_self ..) o e1
      obtain ⟨fx, rx⟩ := g.tO h1 h3 (hm (t, v) (by simp)) e1
      exact .cons rx.unfr (reps_of h1 h3 g (by simpa using hl) (fun p hp => hm p (by simp [hp])) (fun u hu => hf u (List.mem_cons_of_mem _ hu)) e2)
    · cases e
theorem repL_perm {G : Hp} {vs : List V} {ds : List c.D} (r : RepL c G vs ds) : ∀ {perm : List Nat} {es : List c.D}, permute ds perm = some es → ∃ ws, perm.mapM (fun k => vs[k]?) = some ws ∧ RepL c G ws es
  | [], es, h => by cases h; exact ⟨[], rfl, .nil⟩
  | k :: ks, es, h => by
    simp only [permute] at h
    split at h
    · rename_i d es' h1 h2
      cases h
      obtain ⟨v, hv, rv⟩ := r.get h1
      obtain ⟨ws, hw, rw'⟩ := repL_perm r h2
      exact ⟨v :: ws, by simp [hv, hw], .cons rv rw'⟩
    · cases h

/-! the call itself, with names or without -/
def kwN : List Keyword → Option (List Str)
  | [] => some []
  | ⟨some n, _, _⟩ :: r => (kwN r).map (n :: ·)
  | ⟨none, _, _⟩ :: _ => none
theorem kwN_ok {pos : Pos} {env : Env} : ∀ {kws : List Keyword} {ks : List Str}, kwN kws = some ks → (backToKw pos (keywordEach kws env)).all (·.1.isSome) = true ∧ (backToKw pos (keywordEach kws env)).filterMap (·.1) = ks ∧ (backToKw pos (keywordEach kws env)).any (·.1.isNone) = false
  | [], ks, h => by cases h; exact ⟨rfl, rfl, rfl⟩
  | ⟨some n, e, p⟩ :: r, ks, h => by
    simp only [kwN] at h
    obtain ⟨ks', h1, h2⟩ := Option.map_eq_some_iff.mp h
    subst h2
    obtain ⟨q1, q2, q3⟩ := kwN_ok (pos := pos) (env := env) h1
    refine ⟨?_, ?_, ?_⟩
    · have : (backToKw pos (keywordEach (⟨some n, e, p⟩ :: r) env)).all (·.1.isSome) = (true && (backToKw pos (keywordEach r env)).all (·.1.isSome)) := rfl
      rw [this, q1]; rfl
    · have : (backToKw pos (keywordEach (⟨some n, e, p⟩ :: r) env)).filterMap (·.1) = n :: (backToKw pos (keywordEach r env)).filterMap (·.1) := rfl
      rw [this, q2]
    · have : (backToKw pos (keywordEach (⟨some n, e, p⟩ :: r) env)).any (·.1.isNone) = (false || (backToKw pos (keywordEach r env)).any (·.1.isNone)) := rfl
      rw [this, q3]; rfl
  | ⟨none, _, _⟩ :: _, _, h => by cases h
theorem kwN_len : ∀ {kws : List Keyword} {ks : List Str}, kwN kws = some ks → ks.length = kws.length
  | [], ks, h => by cases h; rfl
  | ⟨some n, e, p⟩ :: r, ks, h => by
    simp only [kwN] at h
    obtain ⟨ks', h1, h2⟩ := Option.map_eq_some_iff.mp h
    subst h2
    simp [kwN_len h1]
  | ⟨none, _, _⟩ :: _, _, h => by cases h
def pick {α : Type} (xs : List α) (perm : List Nat) : List α := perm.filterMap fun k => xs[k]?
theorem pick_vals {xs : List V} {us : List Value} (r : Vals xs us) : ∀ perm : List Nat, Vals (pick xs perm) (pick us perm)
  | [] => .nil
  | k :: ks => by
    unfold pick
    rw [List.filterMap_cons, List.filterMap_cons]
    cases e : xs[k]? with
    | none => rw [r.none_of e]; exact pick_vals r ks
    | some x =>
      obtain ⟨u, e2, q⟩ := r.get e
      rw [e2]
      exact .cons q (pick_vals r ks)
/-- how a call's arguments come to the parameters -/
def KB (K : PySem.W.Frag) (fd : FuncData) (ps : List Str) (dvs : List V) (np : Nat) (ks : List Str) (perm : List Nat) : Prop :=
  ∃ its : List Value, Vals dvs its ∧ ∀ (s : Shared) (us ws : List Value), K.In s.heap → us.length = np → ws.length = ks.length → BindsTo s fd ⟨us, ks.zip ws⟩ (ps.zip (pick (us ++ ws ++ its) perm))
theorem run_fnG {CX : CXT} {k : Nat} {f : Addr} {fd : FuncData} {ps ks : List Str} {sp : Sp} {EW' : XK} {np : Nat} {perm : List Nat} {pins : List (Addr × Obj)} {s : Shared} {Q : VK} {us ws : List Value} {vs zs dvs : List V} (F : FnOk X.prog X.w X.K X.mg X.base CX k f fd ps sp) (hr : Room k X.A) (hb : KB X.K fd ps dvs np ks perm) (hx : Passes CX X EW')
    (I : Inv X pins σ H s) (r : Vals vs us) (rz : Vals zs ws) (l1 : vs.length = np) (l2 : zs.length = ks.length) (h : sp (pick (vs ++ zs ++ dvs) perm) H Q EW') : wpAny (model X.prog X.w) X.A (call (.ref f) us (ks.zip ws)) (EP X pins σ Q) X.xe s := by
  obtain ⟨its, rd, hb⟩ := hb
  have r2 : Vals (pick (vs ++ zs ++ dvs) perm) (pick (us ++ ws ++ its) perm) := pick_vals ((r.append rz).append rd) perm
  refine wpAny_call (codeAny_mono (F.run X.A X.stack s H ⟨us, ks.zip ws⟩ (pick (us ++ ws ++ its) perm) (pick (vs ++ zs ++ dvs) perm) Q EW' hr I.env0 (hb s us ws I.kIn (r.length.symm.trans l1) (rz.length.symm.trans l2)) r2 h) fun r s' hq => ?_)
  cases r with
  | error e => exact hx pins σ H s e s' I hq
  | ok fl =>
    cases fl with
    | ret u => exact I.after hq
    | next => exact False.elim hq
    | brk => exact False.elim hq
    | cont => exact False.elim hq
def tCallG (np nk : Nat) (perm : List Nat) (dvs : List V) (sp : Sp) (EW' : XK) (t tk : TA) : TE := fun σ H Q => t σ H fun vs H1 => vs.length = np ∧ tk σ H1 fun zs H2 => zs.length = nk ∧ sp (pick (vs ++ zs ++ dvs) perm) H2 Q EW'
theorem pe_callG {dvs : List V} {CX : CXT} {k : Nat} {f : Addr} {fd : FuncData} {ps ks : List Str} {sp : Sp} {EW' : XK} {np : Nat} {perm : List Nat} {x : Str} {p pos : Pos} {e : Expr} {es : List Expr} {kws : List Keyword} {t tk : TA} (F : FnOk X.prog X.w X.K X.mg X.base CX k f fd ps sp) (hr : Room k X.A) (hg : Gl X x) (hm : X.mg x = some (.ref f))
    (hk : PySem.W.keepIn X.K (.ref f) = true) (hb : KB X.K fd ps dvs np ks perm) (hx : Passes CX X EW') (ha : PA X (e :: es) t) (hkw : PK X kws tk) (hpl : (e :: es).all plE = true) (hks : kwN kws = some ks) (hdb : (x == ("__debug__" : Str)) = false) :
    PE X (.Call (.Name x p) (e :: es) kws pos) (tCallG np kws.length perm dvs sp EW' t tk) := by
  refine ⟨fun pins s σ H Q I h => ?_⟩
  refine wpAny_Call_Name_kw (ld_glob I hg hm ?_ hdb)
  obtain ⟨q1, q2, q3⟩ := kwN_ok (pos := pos) (env := X.env) hks
  have hany : ((backTo pos (starEach (e :: es) X.env)).any (·.1) || (backToKw pos (keywordEach kws X.env)).any (·.1.isNone)) = false := by
    rw [q3, any_pl hpl]; rfl
  rw [List.all_cons, Bool.and_eq_true] at hpl
  refine PySem.W.callWith_KW (h₀ := X.base) I.ok.mod.kin hk q1 (thn (ha.run pos pins s σ H _ I h) fun us s1 ⟨vs, H1, I1, r, q⟩ => ?_) hany (star_pl hpl.1)
  obtain ⟨l1, q⟩ := q
  refine thn (hkw.run pos pins s1 σ H1 _ I1 q) fun ws s2 ⟨zs, H2, I2, rz, l2, q2'⟩ => ⟨I2.kIn, ?_⟩
  rw [q2]
  exact run_fnG F hr hb hx I2 r rz l1 (l2.trans (kwN_len hks).symm) q2'
theorem pe_callG0 {dvs : List V} {CX : CXT} {k : Nat} {f : Addr} {fd : FuncData} {ps ks : List Str} {sp : Sp} {EW' : XK} {perm : List Nat} {x : Str} {p pos : Pos} {kws : List Keyword} {tk : TA} (F : FnOk X.prog X.w X.K X.mg X.base CX k f fd ps sp) (hr : Room k X.A) (hg : Gl X x) (hm : X.mg x = some (.ref f))
    (hk : PySem.W.keepIn X.K (.ref f) = true) (hb : KB X.K fd ps dvs 0 ks perm) (hx : Passes CX X EW') (hkw : PK X kws tk) (hks : kwN kws = some ks) (hdb : (x == ("__debug__" : Str)) = false) :
    PE X (.Call (.Name x p) [] kws pos) (tCallG 0 kws.length perm dvs sp EW' tNil tk) := by
  refine ⟨fun pins s σ H Q I h => ?_⟩
  refine wpAny_Call_Name_kw (ld_glob I hg hm ?_ hdb)
  obtain ⟨q1, q2, q3⟩ := kwN_ok (pos := pos) (env := X.env) hks
  refine PySem.W.callWith_KW0 (h₀ := X.base) I.ok.mod.kin hk q1 ?_ (by rw [q3]; rfl)
  obtain ⟨l1, h⟩ := h
  refine thn (hkw.run pos pins s σ H _ I h) fun ws s2 ⟨zs, H2, I2, rz, l2, q2'⟩ => ⟨I2.kIn, ?_⟩
  rw [q2]
  exact run_fnG F hr hb hx I2 .nil rz l1 (l2.trans (kwN_len hks).symm) q2'
end
section
variable {c : Cf} {X : Cx} {EW : XK}
structure CallOk (c : Cf) (X : Cx) (EW : XK) (k : Nat) (I : FnI) (io : Bool) (F : Option c.O → List c.D → FO c) (dfl : List c.D) : Prop where
  dv : ∀ G : Hp, RepL c G I.dvs dfl
  ok : FnOk X.prog X.w X.K X.mg X.base (L2.CX X.prog X.w) k I.ad I.fd I.ps (spF c io F)
  room : Room k X.A
  gl : Gl X I.nm
  mg : X.mg I.nm = some (.ref I.ad)
  kp : PySem.W.keepIn X.K (.ref I.ad) = true
  tk : Takes X fun cls d _ H => EW cls d H
  db : (I.nm == ("__debug__" : Str)) = false
theorem pick_mapM {α : Type} {xs : List α} : ∀ {perm : List Nat} {ws : List α}, perm.mapM (fun k => xs[k]?) = some ws → pick xs perm = ws
  | [], ws, h => by cases h; rfl
  | k :: ks, ws, h => by
    rw [List.mapM_cons] at h
    cases e : xs[k]? with
    | none => rw [e] at h; cases h
    | some x =>
      rw [e] at h
      cases e2 : ks.mapM (fun k => xs[k]?) with
      | none => rw [e2] at h; cases h
      | some r =>
        rw [e2] at h
        cases h
        unfold pick
        rw [List.filterMap_cons, e]
        show x :: pick xs ks = _
        rw [pick_mapM e2]
theorem zip_mem {ts : Stk c} {tms : List (Tm c)} {vs : List V} : ∀ p ∈ tms.zip vs, p ∈ ts ++ tms.zip vs := fun p h => List.mem_append_right _ h
/-- the state behind the arguments of a call that lends its slots: what the callee is told -/
theorem call_pure {E : Ent} {ρ : Rho c} {σ : L2.St} {ts : Stk c} {H : Hp} {Q : VK} {F : Option c.O → List c.D → FO c} {tms : List (Tm c)} {vs dvs : List V} {dfl : List c.D} (hdv : ∀ G : Hp, RepL c G dvs dfl) {perm : List Nat} {ds : List c.D} (hl : tms.length = vs.length) (j : J c E ρ σ (ts ++ tms.zip vs) H) (hfr : ∀ t ∈ tms, ∀ x, t = .o x → ∃ d, x = .fr d)
    (hd : (datas ρ tms).bind (fun ds => permute (ds ++ dfl) perm) = some ds) (hw : Wt c E EW (fun tm ρ' => ∀ v H', J c E ρ' σ (ts ++ [(tm, v)]) H' → Q v H') (match F none ds with | .ok r none => if atomO r then .ok (.o r) ρ else .ok (.o r) (fzAll ρ tms) | .exc n fs => .exc n fs | _ => .bad)) :
    spF c false F (pick (vs ++ dvs) perm) H Q EW := by
  obtain ⟨ds0, hd0, hd1⟩ := Option.bind_eq_some_iff.mp hd
  have jf : J c E (fzAll ρ tms) σ (ts ++ tms.zip vs) H := fzAll_ok j fun t ht i e => by
    obtain ⟨k, hk, ek⟩ := List.mem_iff_getElem.mp ht
    have hm : (t, vs[k]'(by omega)) ∈ tms.zip vs := by
      rw [← ek]
      exact List.mem_iff_getElem.mpr ⟨k, by simp; omega, by simp⟩
    have := j.sl _ (zip_mem _ hm)
    unfold SlOk at this
    rw [e] at this
    exact ⟨_, this.1⟩
  obtain ⟨h1, h2, h3, G, f, g⟩ := id jf
  have rl := reps_of h1 h3 g hl zip_mem (fzAll_fz hfr) (datas_fzAll hd0)
  obtain ⟨ws, hws, rws⟩ := repL_perm (rl.append (hdv G)) hd1
  rw [pick_mapM hws]
  refine ⟨G, g.sub, g.tab, g.ntb, .inl ⟨rfl, ds, rws, ?_⟩⟩
  have hl0 : (fzAll ρ tms ++ cO ts).length = (σ ++ cV ts).length := by simp [cO, cV, h1]
  cases hF : F none ds with
  | bad => rw [hF] at hw; exact hw.elim
  | exc n fs =>
    rw [hF] at hw
    exact fun d H' jx => hw d H' (JX.after g (.inl rfl) jx)
  | ok r io =>
    rw [hF] at hw
    cases io with
    | some o => exact hw.elim
    | none =>
      refine ⟨rfl, fun v H' G' f' k => ?_⟩
      simp only at hw
      split at hw
      · -- an atom: what was lent comes back
        rename_i hat
        refine hw v H' ?_
        obtain ⟨q1, q2, q3, Gj, fj, gj⟩ := J.cut j
        have g0 := JG.after0 gj k
        have hlj : (ρ ++ cO ts).length = (σ ++ cV ts).length := by simp [cO, cV, q1]
        obtain ⟨w, e1, rr⟩ := k.rep 0 r rfl
        obtain rfl : v = w := Option.some.inj (Option.some.inj e1)
        unfold atomO at hat
        split at hat
        · rename_i d
          have rv : ∀ G : Hp, Rep c G v d := fun G => by
            have := rr.unfr
            cases this <;> first | exact .non | exact .bl _ | exact .int _ | exact .str _ | cases hat
          exact (J.of q1 q2 q3 g0).atom rv
        · cases hat
      · refine hw v H' ?_
        have gc := g
        rw [cO_app, cV_app, ← List.append_assoc, ← List.append_assoc] at gc
        have gcut := gc.cut hl0
        refine J.ofEx h1 h2 (sl_snoc h3) ?_
        rw [cO_snoc, cV_snoc, ← List.append_assoc, ← List.append_assoc]
        exact ⟨_, _, JG.after (Gc := G) gcut hl0 (Same.refl _) k⟩
theorem so_call {k : Nat} {I : FnI} {F : Option c.O → List c.D → FO c} {dfl : List c.D} {f : Rho c → Out c (List (Tm c))} {e : Expr} {es : List Expr} {kws : List Keyword} {ks : List Str} {perm : List Nat} {p pos : Pos} (h : CallOk c X EW k I false F dfl) (hb : KB X.K I.fd I.ps I.dvs (e :: es).length ks perm) (hpl : (e :: es).all plE = true) (hks : kwN kws = some ks)
    (ha : SoA c X EW f (e :: es) kws) : SoE c X EW (callP F dfl f perm) (.Call (.Name I.nm p) (e :: es) kws pos) := by
  obtain ⟨t, tk, pa, pk, kk⟩ := ha.ex
  refine ⟨_, pe_callG h.ok h.room h.gl h.mg h.kp hb (passes_call h.tk fun _ _ _ _ z => z) pa pk hpl hks h.db, fun E ρ σ ts H Q j hw => ?_⟩
  refine kk E ρ σ ts H (fun vs H2 => spF c false F (pick (vs ++ I.dvs) perm) H2 Q EW) j ((Wt.bind hw).mono fun tms ρ1 h1 vs H1 hl j1 hfr => ?_)
  cases e1 : (datas ρ1 tms).bind (fun ds => permute (ds ++ dfl) perm) with
  | none => simp only [e1] at h1; exact h1.elim
  | some ds => simp only [e1] at h1; exact call_pure h.dv hl j1 hfr e1 h1
theorem so_call0 {k : Nat} {I : FnI} {F : Option c.O → List c.D → FO c} {dfl : List c.D} {f : Rho c → Out c (List (Tm c))} {kws : List Keyword} {ks : List Str} {perm : List Nat} {p pos : Pos} (h : CallOk c X EW k I false F dfl) (hb : KB X.K I.fd I.ps I.dvs 0 ks perm) (hks : kwN kws = some ks)
    (ha : SoK c X EW f kws) : SoE c X EW (callP F dfl f perm) (.Call (.Name I.nm p) [] kws pos) := by
  obtain ⟨tk, pk, kk⟩ := ha.ex
  refine ⟨_, pe_callG0 h.ok h.room h.gl h.mg h.kp hb (passes_call h.tk fun _ _ _ _ z => z) pk hks h.db, fun E ρ σ ts H Q j hw => ⟨rfl, ?_⟩⟩
  refine kk E ρ σ ts H (fun vs H2 => spF c false F (pick ([] ++ vs ++ I.dvs) perm) H2 Q EW) j ((Wt.bind hw).mono fun tms ρ1 h1 vs H1 hl j1 hfr => ?_)
  cases e1 : (datas ρ1 tms).bind (fun ds => permute (ds ++ dfl) perm) with
  | none => simp only [e1] at h1; exact h1.elim
  | some ds => simp only [e1] at h1; exact call_pure h.dv hl j1 hfr e1 h1
/-! a call that changes its first argument, a slot's list -/
theorem pick_range {α : Type} (xs : List α) : pick xs (List.range xs.length) = xs := by
  induction xs with
  | nil => rfl
  | cons x xs ih =>
    unfold pick at ih ⊢
    rw [List.length_cons, List.range_succ_eq_map, List.filterMap_cons]
    simp only [List.getElem?_cons_zero, List.filterMap_map]
    congr 1
theorem filterMap_eq {α β : Type} {f g : α → Option β} : ∀ {l : List α}, (∀ a ∈ l, f a = g a) → l.filterMap f = l.filterMap g
  | [], _ => rfl
  | a :: l, h => by
    rw [List.filterMap_cons, List.filterMap_cons, h a (List.mem_cons_self ..), filterMap_eq fun b hb => h b (List.mem_cons_of_mem _ hb)]
theorem pick_rangeA {α : Type} (xs ys : List α) : pick (xs ++ ys) (List.range xs.length) = xs := by
  refine Eq.trans (filterMap_eq fun k hk => ?_) (pick_range xs)
  rw [List.getElem?_append_left (List.mem_range.mp hk)]
theorem so_callI {k : Nat} {I : FnI} {F : Option c.O → List c.D → FO c} {dfl : List c.D} {f : Rho c → Out c (List (Tm c))} {e : Expr} {es : List Expr} {p pos : Pos} (h : CallOk c X EW k I true F dfl) (hb : KB X.K I.fd I.ps I.dvs (e :: es).length [] (List.range (e :: es).length)) (hpl : (e :: es).all plE = true)
    (ha : SoA c X EW f (e :: es) []) : SoE c X EW (callI F f (e :: es).length) (.Call (.Name I.nm p) (e :: es) [] pos) := by
  obtain ⟨t, tk, pa, pk, kk⟩ := ha.ex
  refine ⟨_, pe_callG h.ok h.room h.gl h.mg h.kp hb (passes_call h.tk fun _ _ _ _ z => z) pa pk hpl rfl h.db, fun E ρ σ ts H Q j hw => ?_⟩
  refine kk E ρ σ ts H (fun vs H2 => spF c true F (pick (vs ++ I.dvs) (List.range (e :: es).length)) H2 Q EW) j ((Wt.bind hw).mono fun tms ρ1 h1 vs H1 hl j1 hfr => ?_)
  match tms, vs, hl, j1, hfr, h1 with
  | [], _, _, _, _, h1 => exact h1.elim
  | .o _ :: _, _, _, _, _, h1 => exact h1.elim
  | .sl i :: rest, [], hl, _, _, _ => simp at hl
  | .sl i :: rest, v0 :: vs, hl, j1, hfr, h1 =>
    simp only at h1
    cases e1 : (ρ1[i]?).join with
    | none => simp only [e1] at h1; exact h1.elim
    | some o0 =>
      cases e2 : datas ρ1 rest with
      | none => simp only [e1, e2] at h1; exact h1.elim
      | some ds =>
        simp only [e1, e2] at h1
        split at h1
        · rename_i hc
          rw [Bool.and_eq_true, decide_eq_true_eq] at hc
          obtain ⟨hn, hall⟩ := hc
          have hl' : rest.length = vs.length := by simpa using hl
          have en : (e :: es).length = (v0 :: vs).length := by rw [← hn]; simp [hl']
          rw [en, pick_rangeA]
          obtain ⟨q1, q2, q3, G, f0, g⟩ := id j1
          have e1' := join_some e1
          have hi : i < ρ1.length := (List.getElem?_eq_some_iff.mp e1').1
          have hv : σ[i]? = some (some v0) := (q3 (.sl i, v0) (by simp)).1
          obtain ⟨w, e3, r⟩ := g.rep i o0 (by rw [List.getElem?_append_left hi]; exact e1')
          rw [List.getElem?_append_left (by omega), hv] at e3
          obtain rfl : v0 = w := Option.some.inj (Option.some.inj e3)
          have hfz : AllFz ρ1 rest := fun u hu o ho => by
            cases u with
            | o x => cases ho; exact hfr _ (List.mem_cons_of_mem _ hu) _ rfl
            | sl k =>
              have := List.all_eq_true.mp hall _ hu
              simp only [okIo, Bool.and_eq_true] at this
              have h2 := this.2
              have ho' : (ρ1[k]?).join = some o := ho
              rw [ho'] at h2
              split at h2
              · rename_i hh; cases hh; exact ⟨_, rfl⟩
              · cases h2
          have rl : RepL c G vs ds := reps_of q1 q3 g hl' (fun p hp => List.mem_append_right _ (by simp [hp])) hfz e2
          refine ⟨G, g.sub, g.tab, g.ntb, .inr ⟨rfl, v0, o0, f0 i, vs, ds, rfl, r, g.nd i, rl, ?_⟩⟩
          have hl0 : (ρ1 ++ cO ts).length = (σ ++ cV ts).length := by simp [cO, cV, q1]
          cases hF : F (some o0) ds with
          | bad => rw [hF] at h1; exact h1.elim
          | exc n fs =>
            rw [hF] at h1
            exact fun d H' jx => h1 d H' (JX.after g (.inr ⟨i, rfl⟩) jx)
          | ok r io =>
            rw [hF] at h1
            cases io with
            | none => exact h1.elim
            | some o' =>
              refine ⟨rfl, fun v H' G' f' k => h1 v H' ?_⟩
              have hli : i < (ρ1 ++ cO ts).length := by simp; omega
              have gc := g
              rw [cO_app, cV_app, ← List.append_assoc, ← List.append_assoc] at gc
              have gcut := gc.cut hl0
              have ef : (fun q => if q < (ρ1 ++ cO ts).length then f0 q else []) i = f0 i := if_pos hli
              have k' : JG c ⟨H1, G, (fun q => if q < (ρ1 ++ cO ts).length then f0 q else []) i, some v0⟩ [some r, some o'] [some v, some v0] H' G' f' := by rw [ef]; exact k
              have q := JG.afterIo gcut hl0 hli (by rw [List.getElem?_append_left (by omega)]; exact hv) k'
              rw [List.set_append_left _ _ hi] at q
              refine J.ofEx (by simp [q1]) q2 (fun u hu => ?_) ?_
              · rcases List.mem_append.mp hu with hu | hu
                · have hs := q3 u (List.mem_append_left _ hu)
                  unfold SlOk at hs ⊢
                  split
                  · trivial
                  · rename_i m em
                    rw [em] at hs
                    obtain ⟨s1, oo, s2⟩ := hs
                    refine ⟨s1, ?_⟩
                    by_cases hm : i = m
                    · subst hm; exact ⟨_, List.getElem?_set_self hi⟩
                    · exact ⟨oo, by rw [List.getElem?_set_ne hm]; exact s2⟩
                · rw [List.mem_singleton.mp hu]; trivial
              · rw [cO_snoc, cV_snoc, ← List.append_assoc, ← List.append_assoc]
                exact ⟨_, _, q⟩
        · exact h1.elim
/-! ### a function's own promise -/
theorem JG.pick2 {E : Ent} {ρ : Rho c} {σ : L2.St} {H G : Hp} {f : Nat → List Addr} {o : c.O} {v : V} (g : JG c E (ρ ++ [some o]) (σ ++ [some v]) H G f) (hl : ρ.length = σ.length) : JG c E [some o] [some v] H G (fun i => if i = 0 then f ρ.length else []) := by
  obtain ⟨w, e3, r⟩ := g.rep ρ.length o (get_last _ _)
  rw [hl, get_last] at e3
  obtain rfl : v = w := Option.some.inj (Option.some.inj e3)
  refine ⟨g.sub, g.sub0, g.old, g.tab, fun i b hb => ?_, fun i b hb => ?_, g.unf, fun i x e => ?_, fun i => ?_, fun i j hij b hb => ?_, fun i hi => ?_, g.a0, g.ntb⟩
  · by_cases h : i = 0
    · rw [if_pos h] at hb; exact g.own _ b hb
    · rw [if_neg h] at hb; simp at hb
  · by_cases h : i = 0
    · rw [if_pos h] at hb; exact g.liv _ b hb
    · rw [if_neg h] at hb; simp at hb
  · cases i with
    | zero => cases e; exact ⟨v, rfl, by rw [if_pos rfl]; exact r⟩
    | succ i => simp at e
  · by_cases h : i = 0
    · rw [if_pos h]; exact g.nd _
    · rw [if_neg h]; exact List.nodup_nil
  · by_cases h : i = 0
    · rw [if_neg (by omega)]; simp
    · rw [if_neg h] at hb; simp at hb
  · rw [if_neg (by simp at hi; omega)]
end
end Y

set_option Elab.async false
set_option linter.all false
set_option maxRecDepth 100000
set_option maxHeartbeats 4000000
namespace Y
open PySem PySem.Spec PyProof.Rows L2
/-! ## own classes: instances whose fields __init__ alone writes -/
structure ClsF (c : Cf) : Prop where
  ok : ∀ k f, f ∈ c.fld k → Cls c.K (c.cls k) ∧ NoAttr c.K (c.cls k) f
theorem pos_mem {f : Str} : ∀ {l : List Str} {i : Nat}, pos f l = some i → f ∈ l
  | [], _, h => by cases h
  | g :: r, i, h => by
    unfold pos at h
    split at h
    · rename_i e; rw [e]; exact List.mem_cons_self ..
    · obtain ⟨j, h1, _⟩ := Option.map_eq_some_iff.mp h
      exact List.mem_cons_of_mem _ (pos_mem h1)
section
variable {c : Cf} {X : Cx} {EW : XK} {E : Ent} {ρ : Rho c} {σ : L2.St} {ts us : Stk c} {H : Hp} {x : c.O} {v : V}
theorem lookup_pos {G : Hp} {f : Str} : ∀ {names : List Str} {fs : List (Str × V)} {ds : List c.D} {i : Nat} {d : c.D}, fs.map (fun p => p.1) = names.take ds.length → RepL c G (fs.map fun p => p.2) ds → pos f names = some i → ds[i]? = some d → ∃ v, fs.lookup f = some v ∧ Rep c G v d
  | names, fs, [], i, d, h1, h2, h3, h4 => by simp at h4
  | [], fs, e :: ds, i, d, h1, h2, h3, h4 => by cases h3
  | g :: r, [], e :: ds, i, d, h1, h2, h3, h4 => by simp at h1
  | g :: r, (n, w) :: fs, e :: ds, i, d, h1, h2, h3, h4 => by
    simp only [List.map_cons, List.length_cons, List.take_succ_cons, List.cons.injEq] at h1
    obtain ⟨rfl, h1⟩ := h1
    cases h2 with
    | cons ra rb =>
      unfold pos at h3
      by_cases hg : n = f
      · rw [if_pos hg] at h3
        cases h3
        simp at h4
        subst h4 hg
        exact ⟨w, by simp [List.lookup], ra⟩
      · rw [if_neg hg] at h3
        obtain ⟨j, q1, q2⟩ := Option.map_eq_some_iff.mp h3
        subst q2
        obtain ⟨v, v1, v2⟩ := lookup_pos h1 rb q1 (by simpa using h4)
        refine ⟨v, ?_, v2⟩
        have : (f == n) = false := by rw [beq_eq_false_iff_ne]; exact fun z => hg z.symm
        rw [List.lookup_cons, this]; exact v1
theorem obj_rep {G : Hp} {f : List Addr} {k : Nat} {ds : List c.D} (s : Same G H) (r : ORep c G H v x f) (h : x.d = .obj k ds) : ∃ a dx fs, v = .ref a ∧ H a = some (.ins (c.cls k) dx fs) ∧ fs.map (fun p => p.1) = (c.fld k).take ds.length ∧ RepL c G (fs.map fun p => p.2) ds := by
  cases r with
  | fr r =>
    rename_i d
    have h : d = .obj k ds := h
    subst h
    cases r with
    | obj q e r => exact ⟨_, _, _, rfl, s _ _ q, e, r⟩
  | lst _ _ _ => cases h
  | dct q _ r1 r2 => cases h
  | obj q _ e r => cases h; exact ⟨_, _, _, rfl, q, e, r⟩
/-- o.f -/
theorem so_fld {fa : Rho c → Out c (Tm c)} {a : Expr} {f : Str} {pos : Pos} (hC : ClsF c) (hK : X.K = c.K) (hb : attributeBase a f X.env (eval a X.env) = eval a X.env) (ha : SoE c X EW fa a) : SoE c X EW (unS (fldO f) fa) (.Attribute a f pos) := by
  obtain ⟨t, p, k⟩ := ha.ex
  refine ⟨_, pe_fld p hb, fun E ρ σ ts H Q j hw => k E ρ σ ts H _ j ((Wt.bind hw).mono fun t1 ρ1 h1 v1 H1 j1 => ?_)⟩
  cases e1 : tO ρ1 t1 with
  | none => simp only [e1] at h1; exact h1.elim
  | some x =>
    simp only [e1] at h1
    unfold fldO at h1
    split at h1
    · rename_i r er
      split at er
      · rename_i kk ds ex
        split at er
        · rename_i i hi
          obtain ⟨d, hd, rfl⟩ := Option.map_eq_some_iff.mp er
          obtain ⟨q1, q2, q3, G, ff, g⟩ := id j1
          obtain ⟨fx, rx⟩ := g.tO q1 q3 m0 e1
          obtain ⟨ad, dx, fs, rfl, w1, w2, w3⟩ := obj_rep g.sub rx ex
          obtain ⟨v, l1, l2⟩ := lookup_pos w2 w3 hi hd
          obtain ⟨c1, c2⟩ := hC.ok kk f (pos_mem hi)
          exact ⟨ad, _, dx, fs, v, rfl, w1, by rw [hK]; exact c1, by rw [hK]; exact c2, l1, h1 _ _ (mkPart q1 q2 q3 g l2)⟩
        · cases er
      · cases er
    · exact h1.elim
/-! ### a field stored -/
theorem JG.writeO {G : Hp} {f : Nat → List Addr} (j : JG c E ρ σ H G f) {n : Nat} {a dx : Addr} {k : Nat} {fs fs' : List (Str × V)} {ds : List c.D} (hl : ρ.length = σ.length) (hn : n < ρ.length) (hv : σ[n]? = some (some (.ref a))) (hf : f n = [a]) (hx : H a = some (.ins (c.cls k) dx fs))
    (r1 : fs'.map (fun p => p.1) = (c.fld k).take ds.length) (r2 : RepL c G (fs'.map fun p => p.2) ds) : JG c E (ρ.set n (some (.obj k ds))) σ (upd H a (.ins (c.cls k) dx fs')) G (fset f n [a]) := by
  have ga : G a = none := (j.liv n a (by rw [hf]; exact List.mem_cons_self ..)).1
  have oa := j.own n a (by rw [hf]; exact List.mem_cons_self ..)
  have na : ∀ i, i ≠ n → a ∉ f i := fun i h => j.dj n i (fun e => h e.symm) a (by rw [hf]; exact List.mem_cons_self ..)
  refine ⟨fun b o e => ?_, j.sub0, fun b o e nb => ?_, tabs_lv j.tab hx (.inr (.inr ⟨_, _, _, rfl⟩)), fun i b hb => ?_, fun i b hb => ?_, j.unf, fun i x ex => ?_, fun i => ?_, fun i q hiq b hb => ?_, fun i h => ?_, fun b hb z => ?_, j.ntb⟩
  · rw [upd_ne (ne_of_none e ga)]; exact j.sub b o e
  · have nba : b ≠ a := fun z => by
      subst z
      rcases oa with z | z
      · exact nb z
      · rw [z] at e; cases e
    rcases j.old b o e nb with z | ⟨ps, qs, z1, z2⟩
    · exact .inl (by rw [upd_ne nba]; exact z)
    · exact .inr ⟨ps, qs, z1, by rw [upd_ne nba]; exact z2⟩
  · by_cases h : i = n
    · subst h; rw [fset_same, List.mem_singleton] at hb; rw [hb]; exact oa
    · rw [fset_ne h] at hb; exact j.own i b hb
  · by_cases h : i = n
    · subst h; rw [fset_same, List.mem_singleton] at hb; subst hb; exact ⟨ga, lv_ins upd_same⟩
    · rw [fset_ne h] at hb
      have nba : b ≠ a := fun z => na i h (z ▸ hb)
      exact ⟨(j.liv i b hb).1, lv_upd nba (j.liv i b hb).2⟩
  · by_cases h : i = n
    · subst h
      rw [List.getElem?_set_self hn] at ex
      cases ex
      refine ⟨_, hv, ?_⟩
      rw [fset_same]
      exact .obj upd_same ga r1 r2
    · rw [List.getElem?_set_ne (fun z => h z.symm)] at ex
      obtain ⟨w, e2, r2⟩ := j.rep i x ex
      refine ⟨w, e2, ?_⟩
      rw [fset_ne h]
      refine r2.move (Same.refl _) fun b hb => ?_
      have nba : b ≠ a := fun z => na i h (z ▸ hb)
      rw [upd_ne nba]; exact ⟨(j.liv i b hb).1, rfl⟩
  · by_cases h : i = n
    · subst h; rw [fset_same]; exact List.nodup_cons.mpr ⟨by simp, List.nodup_nil⟩
    · rw [fset_ne h]; exact j.nd i
  · by_cases h : i = n
    · subst h; rw [fset_same, List.mem_singleton] at hb; rw [fset_ne (fun e => hiq e.symm), hb]; exact na q fun e => hiq e.symm
    · rw [fset_ne h] at hb
      by_cases h2 : q = n
      · subst h2; rw [fset_same, List.mem_singleton]; intro z; subst z; exact na i h hb
      · rw [fset_ne h2]; exact j.dj i q hiq b hb
  · rw [List.length_set] at h
    rw [fset_ne (by omega)]; exact j.out i h
  · by_cases hba : b = a
    · subst hba; rw [upd_same] at z; cases z
    · rw [upd_ne hba] at z; exact j.a0 b hb z
theorem putF_new {f : Str} {y : V} : ∀ {fs : List (Str × V)}, f ∉ fs.map (fun p => p.1) → putF f y fs = fs ++ [(f, y)]
  | [], _ => rfl
  | (g, w) :: fs, h => by
    simp only [List.map_cons, List.mem_cons, not_or] at h
    unfold putF
    rw [if_neg (fun z => h.1 z.symm), putF_new h.2]; rfl
theorem putF_old {f : Str} {y : V} : ∀ {fs : List (Str × V)} {names : List Str} {i : Nat}, fs.map (fun p => p.1) = names.take fs.length → pos f names = some i → i < fs.length → (putF f y fs).map (fun p => p.1) = fs.map (fun p => p.1) ∧ (putF f y fs).map (fun p => p.2) = (fs.map fun p => p.2).set i y
  | [], _, _, _, _, h => by simp at h
  | (g, w) :: fs, [], i, h1, h2, h3 => by cases h2
  | (g, w) :: fs, m :: names, i, h1, h2, h3 => by
    simp only [List.map_cons, List.length_cons, List.take_succ_cons, List.cons.injEq] at h1
    obtain ⟨rfl, h1⟩ := h1
    unfold pos at h2
    by_cases hg : g = f
    · rw [if_pos hg] at h2
      cases h2
      unfold putF
      rw [if_pos hg]
      exact ⟨rfl, rfl⟩
    · rw [if_neg hg] at h2
      obtain ⟨j, q1, q2⟩ := Option.map_eq_some_iff.mp h2
      subst q2
      obtain ⟨r1, r2⟩ := putF_old (y := y) h1 q1 (by simpa using h3)
      unfold putF
      rw [if_neg hg]
      simp only [List.map_cons, List.set_cons_succ]
      exact ⟨by rw [r1], by rw [r2]⟩
theorem pos_take {f : Str} : ∀ {names : List Str} {i : Nat}, pos f names = some i → f ∉ names.take i ∧ names[i]? = some f
  | [], _, h => by cases h
  | g :: r, i, h => by
    unfold pos at h
    by_cases hg : g = f
    · rw [if_pos hg] at h; cases h; exact ⟨by simp, by simp [hg]⟩
    · rw [if_neg hg] at h
      obtain ⟨j, q1, q2⟩ := Option.map_eq_some_iff.mp h
      subst q2
      obtain ⟨r1, r2⟩ := pos_take q1
      refine ⟨?_, by simpa using r2⟩
      rw [List.take_succ_cons, List.mem_cons, not_or]
      exact ⟨fun z => hg z.symm, r1⟩
theorem ss_sfl {pin : Bool} {fe : Rho c → Out c (Tm c)} {i : Nat} {n f : Str} {e : Expr} {p1 p2 pos : Pos} (hC : ClsF c) (hK : X.K = c.K) (hN : X.N[i]? = some n) (hv : Vis X.env.scope n) (hdb : (n == ("__debug__" : Str)) = false) (hcd : (n == ("__classdict__" : Str)) = false)
    (hs : swapsWith e (some (.Attribute (.Name n p1) f p2)) pos.line X.env = pure false) (he : SoE c X EW fe e) : SoS c X EW pin (fun ρ => ofOut (frS fe ρ) fun d ρ1 => sflS i f d ρ1) (.Assign [.Attribute (.Name n p1) f p2] e pos) := by
  obtain ⟨t, p, k⟩ := fr_so he
  refine ⟨_, ps_fld (pe_var hN hv hdb hcd) p hs, fun E ρ σ ts H D hp hal j hw => k E ρ σ ts H _ j ((WS.out hw).mono fun d ρ1 h1 v1 H1 j1 => ?_)⟩
  unfold sflS at h1
  split at h1
  · rename_i kk ds e1
    have e1' := join_some e1
    split at h1
    · rename_i m hm
      obtain ⟨q1, q2, q3, G, ff, g⟩ := id j1
      have hi : i < ρ1.length := (List.getElem?_eq_some_iff.mp e1').1
      obtain ⟨w, e2, r⟩ := g.rep i _ (by rw [List.getElem?_append_left hi]; exact e1')
      rw [List.getElem?_append_left (by omega)] at e2
      obtain ⟨fx, rx⟩ := g.tO q1 q3 (tm := .o (.fr d)) m0 rfl
      have rd := rx.unfr
      have hl0 : (ρ1 ++ cO ts).length = (σ ++ cV ts).length := by simp [cO, cV, q1]
      have gc := g
      rw [cO_snoc, cV_snoc, ← List.append_assoc, ← List.append_assoc] at gc
      have gcut := gc.cut hl0
      have hlt : i < (ρ1 ++ cO ts).length := by simp; omega
      obtain ⟨w', e3, r'⟩ := gcut.rep i (.obj kk ds) (by rw [List.getElem?_append_left hi]; exact e1')
      rw [List.getElem?_append_left (by omega), e2] at e3
      obtain rfl : w = w' := Option.some.inj (Option.some.inj e3)
      generalize hfi : (if i < (ρ1 ++ cO ts).length then ff i else []) = fi at r'
      cases r' with
      | @obj a dx fs _ _ hx ga rn rv =>
        have hlen : fs.length = ds.length := by have := rv.length; simpa using this
        obtain ⟨c1, c2⟩ := hC.ok kk f (pos_mem hm)
        have fin : ∀ ds' : List c.D, (putF f v1 fs).map (fun p => p.1) = (c.fld kk).take ds'.length → RepL c G ((putF f v1 fs).map fun p => p.2) ds' → ds.length < 1000 → WS c E EW ts D (.nx (ρ1.set i (some (.obj kk ds')))) →
            ∃ (a' : Addr) (C : Addr) (dx' : Addr) (fs' : List (Str × V)), V.ref a = .ref a' ∧ H1 a' = some (.ins C dx' fs') ∧ Cls X.K C ∧ NoAttr X.K C f ∧ fs'.length < 1000 ∧ D.nx σ (upd H1 a' (.ins C dx' (putF f v1 fs'))) := fun ds' hn' hr' hsz hw' => by
          refine ⟨a, _, dx, fs, rfl, hx, by rw [hK]; exact c1, by rw [hK]; exact c2, by omega, ?_⟩
          have gw := gcut.writeO (n := i) (fs' := putF f v1 fs) (ds := ds') hl0 hlt (by rw [List.getElem?_append_left (by omega)]; exact e2) hfi hx hn' hr'
          rw [List.set_append_left _ _ hi] at gw
          exact hw' σ _ (J.of (by simp [q1]) q2 (fun u hu => hal.sl u hu) gw)
        show ∃ v, σ[i]? = some (some v) ∧ _
        refine ⟨_, e2, ?_⟩
        split at h1
        · rename_i hlt2
          obtain ⟨p1', p2'⟩ := putF_old (y := v1) (by rw [rn, hlen]) hm (by omega)
          exact fin _ (by rw [p1', rn, List.length_set]) (by rw [p2']; exact repL_set rv rd) hlt2.2 h1
        · rename_i hlt2
          split at h1
          · rename_i hh
            obtain ⟨hh1, hh2⟩ := hh
            obtain ⟨t1, t2⟩ := pos_take hm
            have en : putF f v1 fs = fs ++ [(f, v1)] := putF_new (by rw [rn, ← hh1]; exact t1)
            refine fin _ ?_ ?_ (by omega) h1
            · rw [en, List.map_append, rn, List.length_append, List.length_singleton, ← hh1]
              rw [List.take_add_one, t2]; rfl
            · rw [en, List.map_append]; exact rv.append (.cons rd .nil)
          · exact h1.elim
    · exact h1.elim
  · exact h1.elim
end
end Y

set_option Elab.async false
set_option linter.all false
set_option maxRecDepth 100000
set_option maxHeartbeats 4000000
namespace Y
open PySem PySem.Spec PyProof.Rows L2
/-! ## a new instance: its dict, then __init__ -/
section
variable {c : Cf} {X : Cx} {EW : XK} {E : Ent} {ρ : Rho c} {σ : L2.St} {ts us : Stk c} {H : Hp} {x : c.O} {v : V}
theorem J.objNil {a dx : Addr} (k : Nat) (j : J c E ρ σ ts H) (ha : H a = none) (hd : H dx = none) (hne : dx ≠ a) : J c E ρ σ (ts ++ [(.o (.obj k []), .ref a)]) (upd (upd H dx (.own a)) a (.ins (c.cls k) dx [])) := by
  have hl := j.lens
  obtain ⟨h1, h2, h3, G, f, g⟩ := j
  have g1 := g.newH (u := .own a) hd
  have ha1 : upd H dx (.own a) a = none := by rw [upd_ne (fun e => hne e.symm)]; exact ha
  obtain ⟨q0, q1, q2, q3⟩ := g1.fresh ha1
  have g2 := g1.newH (u := .ins (c.cls k) dx []) ha1
  refine J.ofEx h1 h2 (sl_snoc (us := []) (by simpa using h3)) ?_
  rw [cO_snoc, cV_snoc, ← List.append_assoc, ← List.append_assoc]
  refine ⟨_, _, g2.push (g := [a]) hl (fun x e => ?_) (List.nodup_cons.mpr ⟨by simp, List.nodup_nil⟩) (fun b hb => ?_) (fun i b hb => ?_) fun b hb => ?_⟩
  · cases e
    exact .obj upd_same q0 rfl .nil
  · rw [List.mem_singleton.mp hb]; exact .inr q2
  · rw [List.mem_singleton.mp hb]; exact q1 i
  · rw [List.mem_singleton.mp hb]; exact ⟨q0, lv_ins upd_same⟩
def tMakeG (C : Addr) (np nk : Nat) (perm : List Nat) (dvs : List V) (sp : Sp) (E : XK) (t tk : TA) : TE := fun σ H Q => t σ H fun vs H1 => vs.length = np ∧ tk σ H1 fun zs H2 => zs.length = nk ∧
  ∀ x dx, H2 x = none → H2 dx = none → dx ≠ x → sp (.ref x :: pick (vs ++ zs ++ dvs) perm) (upd (upd H2 dx (.own x)) x (.ins C dx [])) (fun v H3 => v = .non ∧ Q (.ref x) H3) E
theorem pick_succ {α : Type} (a : α) (l : List α) : ∀ perm : List Nat, pick (a :: l) (perm.map Nat.succ) = pick l perm
  | [] => rfl
  | k :: ks => by
    unfold pick
    rw [List.map_cons, List.filterMap_cons, List.filterMap_cons]
    have := pick_succ a l ks
    unfold pick at this
    rw [List.getElem?_cons_succ]
    cases l[k]? with
    | none => exact this
    | some z => simp only; rw [this]
theorem pick_self {α : Type} (a : α) (l : List α) (perm : List Nat) : pick (a :: l) (0 :: perm.map Nat.succ) = a :: pick l perm := by
  have := pick_succ a l perm
  unfold pick at this ⊢
  rw [List.filterMap_cons, List.getElem?_cons_zero]
  simp only
  rw [this]
theorem kbn_of {K : PySem.W.Frag} {fd : FuncData} {ps ks : List Str} {dvs : List V} {n : Nat} {perm : List Nat} (h : KB K fd ps dvs n ks perm) : ∃ its, KBn K fd ps n ks (fun us ws => pick (us ++ ws ++ its) perm) (fun vs zs => pick (vs ++ zs ++ dvs) perm) := by
  obtain ⟨its, r, h⟩ := h
  exact ⟨its, h, fun ru rz => pick_vals ((ru.append rz).append r) perm⟩
theorem mk_conv {C : Addr} {perm : List Nat} {sp : Sp} {EW' : XK} (vs zs dvs : List V) (H2 : Hp) (Q : VK) (h : ∀ x dx, H2 x = none → H2 dx = none → dx ≠ x → sp (.ref x :: pick (vs ++ zs ++ dvs) perm) (upd (upd H2 dx (.own x)) x (.ins C dx [])) (fun v H3 => v = .non ∧ Q (.ref x) H3) EW') :
    ∀ x dx, H2 x = none → H2 dx = none → dx ≠ x → sp (pick ((.ref x :: vs) ++ zs ++ dvs) (0 :: perm.map Nat.succ)) (upd (upd H2 dx (.own x)) x (.ins C dx [])) (fun v H3 => v = .non ∧ Q (.ref x) H3) EW' := fun x dx a1 a2 a3 => by
  rw [List.cons_append, List.cons_append, pick_self]; exact h x dx a1 a2 a3
theorem pe_makeG {dvs : List V} {CX : CXT} {k : Nat} {f C : Addr} {fd : FuncData} {ps ks : List Str} {sp : Sp} {EW' : XK} {np : Nat} {perm : List Nat} {x : Str} {p pos : Pos} {e : Expr} {es : List Expr} {kws : List Keyword} {t tk : TA} (M : Mk X.K C f) (F : FnOk X.prog X.w X.K X.mg X.base CX k f fd ps sp) (hr : Room (k + 1) X.A) (hg : Gl X x) (hm : X.mg x = some (.ref C))
    (hb : KB X.K fd ps dvs (np + 1) ks (0 :: perm.map Nat.succ)) (hx : Passes CX X EW') (ha : PA X (e :: es) t) (hkw : PK X kws tk) (hpl : (e :: es).all plE = true) (hks : kwN kws = some ks) (hdb : (x == ("__debug__" : Str)) = false) :
    PE X (.Call (.Name x p) (e :: es) kws pos) (tMakeG C np kws.length perm dvs sp EW' t tk) := by
  obtain ⟨its, hb⟩ := kbn_of hb
  obtain ⟨q1, q2, q3⟩ := kwN_ok (pos := pos) (env := X.env) hks
  have hkl := kwN_len hks
  refine ⟨fun pins s σ H Q I h => ?_⟩
  refine wpAny_Call_Name_kw (ld_glob I hg hm ?_ hdb)
  have hany : ((backTo pos (starEach (e :: es) X.env)).any (·.1) || (backToKw pos (keywordEach kws X.env)).any (·.1.isNone)) = false := by
    rw [q3, any_pl hpl]; rfl
  rw [List.all_cons, Bool.and_eq_true] at hpl
  refine PySem.W.callWith_KW (h₀ := X.base) I.ok.mod.kin M.kp q1 (thn (ha.run pos pins s σ H _ I h) fun us s1 ⟨vs, H1, I1, r, q⟩ => ?_) hany (star_pl hpl.1)
  obtain ⟨l1, q⟩ := q
  refine thn (hkw.run pos pins s1 σ H1 _ I1 q) fun ws s2 ⟨zs, H2, I2, rz, l2, q2'⟩ => ⟨I2.kIn, ?_⟩
  rw [q2]
  exact run_makeN (n := np) M F hr hb hx I2 r rz l1 (l2.trans hkl.symm) (mk_conv vs zs dvs H2 Q q2')
theorem pe_makeG0 {dvs : List V} {CX : CXT} {k : Nat} {f C : Addr} {fd : FuncData} {ps ks : List Str} {sp : Sp} {EW' : XK} {perm : List Nat} {x : Str} {p pos : Pos} {kws : List Keyword} {tk : TA} (M : Mk X.K C f) (F : FnOk X.prog X.w X.K X.mg X.base CX k f fd ps sp) (hr : Room (k + 1) X.A) (hg : Gl X x) (hm : X.mg x = some (.ref C))
    (hb : KB X.K fd ps dvs 1 ks (0 :: perm.map Nat.succ)) (hx : Passes CX X EW') (hkw : PK X kws tk) (hks : kwN kws = some ks) (hdb : (x == ("__debug__" : Str)) = false) :
    PE X (.Call (.Name x p) [] kws pos) (tMakeG C 0 kws.length perm dvs sp EW' tNil tk) := by
  obtain ⟨its, hb⟩ := kbn_of hb
  obtain ⟨q1, q2, q3⟩ := kwN_ok (pos := pos) (env := X.env) hks
  have hkl := kwN_len hks
  refine ⟨fun pins s σ H Q I h => ?_⟩
  refine wpAny_Call_Name_kw (ld_glob I hg hm ?_ hdb)
  refine PySem.W.callWith_KW0 (h₀ := X.base) I.ok.mod.kin M.kp q1 ?_ (by rw [q3]; rfl)
  obtain ⟨l1, h⟩ := h
  refine thn (hkw.run pos pins s σ H _ I h) fun ws s2 ⟨zs, H2, I2, rz, l2, q2'⟩ => ⟨I2.kIn, ?_⟩
  rw [q2]
  exact run_makeN (us := []) (vs := []) (n := 0) M F hr hb hx I2 .nil rz rfl (l2.trans hkl.symm) (mk_conv [] zs dvs H2 Q q2')
theorem make_pure {dvs : List V} {dfl : List c.D} (hdv : ∀ G : Hp, RepL c G dvs dfl) {k : Nat} {Q : VK} {F : Option c.O → List c.D → FO c} {tms : List (Tm c)} {vs : List V} {perm : List Nat} {ds : List c.D} (hl : tms.length = vs.length) (j : J c E ρ σ (ts ++ tms.zip vs) H) (hfr : ∀ t ∈ tms, ∀ x, t = .o x → ∃ d, x = .fr d)
    (hd : (datas ρ tms).bind (fun ds => permute (ds ++ dfl) perm) = some ds) (hw : Wt c E EW (fun tm ρ' => ∀ v H', J c E ρ' σ (ts ++ [(tm, v)]) H' → Q v H') (match F (some (.obj k [])) ds with | .ok (.fr .non) (some o') => .ok (.o o') (fzAll ρ tms) | .exc n fs => .exc n fs | _ => .bad)) :
    ∀ x dx, H x = none → H dx = none → dx ≠ x → spF c true F (.ref x :: pick (vs ++ dvs) perm) (upd (upd H dx (.own x)) x (.ins (c.cls k) dx [])) (fun v H3 => v = .non ∧ Q (.ref x) H3) EW := by
  intro x dx hx hdx hne
  obtain ⟨ds0, hd0, hd1⟩ := Option.bind_eq_some_iff.mp hd
  have jf : J c E (fzAll ρ tms) σ (ts ++ tms.zip vs) H := fzAll_ok j fun t ht i e => by
    obtain ⟨k, hk, ek⟩ := List.mem_iff_getElem.mp ht
    have hm : (t, vs[k]'(by omega)) ∈ tms.zip vs := by
      rw [← ek]
      exact List.mem_iff_getElem.mpr ⟨k, by simp; omega, by simp⟩
    have := j.sl _ (zip_mem _ hm)
    unfold SlOk at this
    rw [e] at this
    exact ⟨_, this.1⟩
  have jo := jf.objNil k hx hdx hne
  generalize hHn : upd (upd H dx (.own x)) x (.ins (c.cls k) dx []) = Hn at jo
  obtain ⟨h1, h2, h3, G, f, g⟩ := id jo
  have rl : RepL c G vs ds0 := reps_of (ts := ts) (us := tms.zip vs ++ [((Tm.o (OT.obj k []) : Tm c), V.ref x)]) h1 (by rw [← List.append_assoc]; exact h3) (by rw [← List.append_assoc]; exact g) hl (fun p hp => by simp [hp]) (fzAll_fz hfr) (datas_fzAll hd0)
  obtain ⟨ws, hws, rws⟩ := repL_perm (rl.append (hdv G)) hd1
  rw [pick_mapM hws]
  have g' := g
  rw [cO_snoc, cV_snoc, ← List.append_assoc, ← List.append_assoc] at g'
  have hl0 : (fzAll ρ tms ++ cO (ts ++ tms.zip vs)).length = (σ ++ cV (ts ++ tms.zip vs)).length := by simp [cO, cV, h1]
  obtain ⟨w, e1, r⟩ := g'.rep _ (.obj k []) (get_last _ _)
  rw [hl0, get_last] at e1
  obtain rfl : V.ref x = w := Option.some.inj (Option.some.inj e1)
  refine ⟨G, g.sub, g.tab, g.ntb, .inr ⟨rfl, .ref x, .obj k [], _, ws, ds, rfl, r, g.nd _, rws, ?_⟩⟩
  cases hF : F (some (.obj k [])) ds with
  | bad => rw [hF] at hw; exact hw.elim
  | exc n fs =>
    rw [hF] at hw
    exact fun d H' jx => hw d H' (JX.after g (.inr ⟨_, rfl⟩) jx)
  | ok r0 io =>
    rw [hF] at hw
    split at hw
    · rename_i o' e
      cases e
      refine ⟨rfl, fun v H' G' f' kk => ?_⟩
      obtain ⟨w0, ew, rw0⟩ := kk.rep 0 _ rfl
      obtain rfl : v = w0 := Option.some.inj (Option.some.inj ew)
      obtain rfl := rep_non rw0.unfr
      refine ⟨rfl, hw _ _ ?_⟩
      have hl1 : (fzAll ρ tms ++ cO (ts ++ tms.zip vs) ++ [some (OT.obj k [])]).length = (σ ++ cV (ts ++ tms.zip vs) ++ [some (V.ref x)]).length := by simp [cO, cV, h1]
      have q := JG.afterIo g' hl1 (n := (fzAll ρ tms ++ cO (ts ++ tms.zip vs)).length) (by simp) (by rw [hl0]; exact get_last _ _) kk
      rw [set_app_last] at q
      have q2 := q.cut (by simp [cO, cV, h1])
      have jn : J c E (fzAll ρ tms) σ (ts ++ tms.zip vs ++ [((Tm.o o' : Tm c), V.ref x)]) H' := by
        refine J.ofEx h1 h2 (sl_snoc (us := [((Tm.o (OT.obj k []) : Tm c), V.ref x)]) h3) ?_
        rw [cO_snoc, cV_snoc, ← List.append_assoc, ← List.append_assoc]
        exact ⟨_, _, q2⟩
      exact jn.mid
    · rename_i e
      cases e
    · exact hw.elim
/-- how a class is made -/
structure MakeOk (c : Cf) (X : Cx) (EW : XK) (k : Nat) (I : FnI) (C : Nat) (nm : Str) (F : Option c.O → List c.D → FO c) (dfl : List c.D) : Prop where
  dv : ∀ G : Hp, RepL c G I.dvs dfl
  ok : FnOk X.prog X.w X.K X.mg X.base (L2.CX X.prog X.w) k I.ad I.fd I.ps (spF c true F)
  room : Room (k + 1) X.A
  mkk : Mk X.K (c.cls C) I.ad
  gl : Gl X nm
  mg : X.mg nm = some (.ref (c.cls C))
  tk : Takes X fun cls d _ H => EW cls d H
  db : (nm == ("__debug__" : Str)) = false
theorem so_make {k C : Nat} {nm : Str} {I : FnI} {F : Option c.O → List c.D → FO c} {dfl : List c.D} {f : Rho c → Out c (List (Tm c))} {e : Expr} {es : List Expr} {kws : List Keyword} {ks : List Str} {perm : List Nat} {p pos : Pos} (h : MakeOk c X EW k I C nm F dfl) (hb : KB X.K I.fd I.ps I.dvs ((e :: es).length + 1) ks (0 :: perm.map Nat.succ)) (hpl : (e :: es).all plE = true) (hks : kwN kws = some ks)
    (ha : SoA c X EW f (e :: es) kws) : SoE c X EW (mkS C F dfl f perm) (.Call (.Name nm p) (e :: es) kws pos) := by
  obtain ⟨t, tk, pa, pk, kk⟩ := ha.ex
  refine ⟨_, pe_makeG h.mkk h.ok h.room h.gl h.mg hb (passes_call h.tk fun _ _ _ _ z => z) pa pk hpl hks h.db, fun E ρ σ ts H Q j hw => ?_⟩
  refine kk E ρ σ ts H (fun vs H2 => ∀ x dx, H2 x = none → H2 dx = none → dx ≠ x → spF c true F (.ref x :: pick (vs ++ I.dvs) perm) (upd (upd H2 dx (.own x)) x (.ins (c.cls C) dx [])) (fun v H3 => v = .non ∧ Q (.ref x) H3) EW) j ((Wt.bind hw).mono fun tms ρ1 h1 vs H1 hl j1 hfr => ?_)
  cases e1 : (datas ρ1 tms).bind (fun ds => permute (ds ++ dfl) perm) with
  | none => simp only [e1] at h1; exact h1.elim
  | some ds => simp only [e1] at h1; exact make_pure h.dv hl j1 hfr e1 h1
theorem so_make0 {k C : Nat} {nm : Str} {I : FnI} {F : Option c.O → List c.D → FO c} {dfl : List c.D} {f : Rho c → Out c (List (Tm c))} {kws : List Keyword} {ks : List Str} {perm : List Nat} {p pos : Pos} (h : MakeOk c X EW k I C nm F dfl) (hb : KB X.K I.fd I.ps I.dvs 1 ks (0 :: perm.map Nat.succ)) (hks : kwN kws = some ks)
    (ha : SoK c X EW f kws) : SoE c X EW (mkS C F dfl f perm) (.Call (.Name nm p) [] kws pos) := by
  obtain ⟨tk, pk, kk⟩ := ha.ex
  refine ⟨_, pe_makeG0 h.mkk h.ok h.room h.gl h.mg hb (passes_call h.tk fun _ _ _ _ z => z) pk hks h.db, fun E ρ σ ts H Q j hw => ⟨rfl, ?_⟩⟩
  refine kk E ρ σ ts H (fun vs H2 => ∀ x dx, H2 x = none → H2 dx = none → dx ≠ x → spF c true F (.ref x :: pick ([] ++ vs ++ I.dvs) perm) (upd (upd H2 dx (.own x)) x (.ins (c.cls C) dx [])) (fun v H3 => v = .non ∧ Q (.ref x) H3) EW) j ((Wt.bind hw).mono fun tms ρ1 h1 vs H1 hl j1 hfr => ?_)
  cases e1 : (datas ρ1 tms).bind (fun ds => permute (ds ++ dfl) perm) with
  | none => simp only [e1] at h1; exact h1.elim
  | some ds => simp only [e1] at h1; exact make_pure h.dv hl j1 hfr e1 h1
end
end Y

set_option Elab.async false
set_option linter.all false
set_option maxRecDepth 100000
set_option maxHeartbeats 4000000
namespace Y
open PySem PySem.Spec PyProof.Rows L2
/-! ## methods, properties, static methods -/
def abOk (o : Expr) : Bool := match o with
  | .Call (.Name _ _) [] [] _ => false
  | _ => true
theorem ab_ok {o : Expr} {f : Str} {env : Env} {w : PySem.Sem Value} (h : abOk o = true) : attributeBase o f env w = w := by
  unfold attributeBase
  split
  · cases h
  · rfl
theorem anyB_pl {pos : Pos} {env : Env} : ∀ {es : List Expr}, es.all plE = true → (backTo pos (starEach es env)).any (·.1) = false
  | [], _ => rfl
  | e :: es, h => any_pl h
theorem not_any {α : Type} {p : α → Bool} : ∀ {l : List α}, l.any p = false → (l.all fun x => !p x) = true
  | [], _ => rfl
  | a :: l, h => by
    rw [List.any_cons, Bool.or_eq_false_iff] at h
    rw [List.all_cons, h.1, not_any h.2]; rfl
theorem call_form {o : Expr} {m : Str} {apos pos : Pos} {es : List Expr} {kws : List Keyword} {ks : List Str} {env : Env} (hab : abOk o = true) (hpl : es.all plE = true) (hks : kwN kws = some ks) (hn : es.length + kws.length < 28) (hl : (apos.endLine == pos.line) = true) :
    eval (.Call (.Attribute o m apos) es kws pos) env = (do
      let ov ← eval o env
      standAt apos.atName
      let (f, first) ← holding [ov] (getMethod ov m (plainOf o env))
      callWith pos f first (backTo pos (starEach es env)) (backToKw pos (keywordEach kws env))) := by
  obtain ⟨q1, q2, q3⟩ := kwN_ok (pos := pos) (env := env) hks
  have hf : methodCallForm (es.length + kws.length) (backTo pos (starEach es env)) (backToKw pos (keywordEach kws env)) = true := by
    unfold methodCallForm
    rw [not_any (anyB_pl hpl), q1]
    simp only [Bool.true_and, decide_eq_true_eq]
    split <;> omega
  show (do
    let ov ← attributeBase o m env (eval o env)
    standAt apos.atName
    methodCall o m apos pos env ov (es.length + kws.length) (backTo pos (starEach es env)) (backToKw pos (keywordEach kws env))) = _
  rw [ab_ok hab]
  have e : (fun ov => (do
      standAt apos.atName
      methodCall o m apos pos env ov (es.length + kws.length) (backTo pos (starEach es env)) (backToKw pos (keywordEach kws env)) : PySem.Sem Value)) = fun ov => (do
      standAt apos.atName
      let (f, first) ← holding [ov] (getMethod ov m (plainOf o env))
      callWith pos f first (backTo pos (starEach es env)) (backToKw pos (keywordEach kws env))) := by
    funext ov
    rw [mcall_line hf hl]
  exact congrArg (fun z => eval o env >>= z) e
section
variable {c : Cf} {X : Cx} {EW : XK} {E : Ent} {ρ : Rho c} {σ : L2.St} {ts us : Stk c} {H : Hp} {x : c.O} {v : V}
/-- o.m(..), the def by the class of what o is -/
def tMethD (X : Cx) (m : Str) (np : Nat) (ks : List Str) (perm : List Nat) (kr : Nat) (EW' : XK) (ta : TE) (t tk : TA) : TE := fun σ H Q => ta σ H fun x H1 => ∃ (a dx C f : Addr) (fs : List (Str × V)) (fd : FuncData) (ps : List Str) (dvs : List V) (sp : Sp), x = .ref a ∧ H1 a = some (.ins C dx fs) ∧ fs.lookup m = none ∧ Cls X.K C ∧ Meth X.K C m f ∧
  FnOk X.prog X.w X.K X.mg X.base (L2.CX X.prog X.w) kr f fd ps sp ∧ KB X.K fd ps dvs (np + 1) ks (0 :: perm.map Nat.succ) ∧ t σ H1 fun vs H2 => vs.length = np ∧ tk σ H2 fun zs H3 => zs.length = ks.length ∧ sp (.ref a :: pick (vs ++ zs ++ dvs) perm) H3 Q EW'
theorem run_fnS {dvs : List V} {k : Nat} {f a : Addr} {fd : FuncData} {ps ks : List Str} {sp : Sp} {EW' : XK} {np : Nat} {perm : List Nat} {pins : List (Addr × Obj)} {s : Shared} {Q : VK} {us ws : List Value} {vs zs : List V} (F : FnOk X.prog X.w X.K X.mg X.base (L2.CX X.prog X.w) k f fd ps sp) (hr : Room k X.A) (hb : KB X.K fd ps dvs (np + 1) ks (0 :: perm.map Nat.succ)) (hx : Passes (L2.CX X.prog X.w) X EW')
    (I : Inv X pins σ H s) (r : Vals vs us) (rz : Vals zs ws) (l1 : vs.length = np) (l2 : zs.length = ks.length) (h : sp (.ref a :: pick (vs ++ zs ++ dvs) perm) H Q EW') : wpAny (model X.prog X.w) X.A (call (.ref f) ([.ref a] ++ us) (ks.zip ws)) (EP X pins σ Q) X.xe s := by
  refine run_fnG (vs := .ref a :: vs) (us := .ref a :: us) F hr hb hx I (.cons rfl r) rz (congrArg Nat.succ l1) l2 ?_
  rw [List.cons_append, List.cons_append, pick_self]; exact h
theorem pe_methD {kr : Nat} {m : Str} {EW' : XK} {np : Nat} {perm : List Nat} {o : Expr} {apos pos : Pos} {e : Expr} {es : List Expr} {kws : List Keyword} {ks : List Str} {ta : TE} {t tk : TA} (ho : PE X o ta) (hr : Room kr X.A) (hx : Passes (L2.CX X.prog X.w) X EW') (ha : PA X (e :: es) t) (hkw : PK X kws tk) (hab : abOk o = true)
    (hpl : (e :: es).all plE = true) (hks : kwN kws = some ks) (hn : (e :: es).length + kws.length < 28) (hl : (apos.endLine == pos.line) = true) : PE X (.Call (.Attribute o m apos) (e :: es) kws pos) (tMethD X m np ks perm kr EW' ta t tk) := by
  refine ⟨fun pins s σ H Q I h => ?_⟩
  obtain ⟨q1, q2, q3⟩ := kwN_ok (pos := pos) (env := X.env) hks
  refine PySem.W.methodCall_KW (pl := plainOf o X.env) (thn (ho.run pins s σ H _ I h) fun u s1 ⟨x, H1, I1, rx, a, dx, C, f, fs, fd, ps, dvs, sp, ex, ea, l, hc, hm, F, hb, q⟩ => ?_) (call_form hab hpl hks hn hl)
  subst ex
  obtain rfl : u = Value.ref a := rx
  refine getmeth_ok I1 ea hc hm l ?_
  have hany : ((backTo pos (starEach (e :: es) X.env)).any (·.1) || (backToKw pos (keywordEach kws X.env)).any (·.1.isNone)) = false := by
    rw [q3, any_pl hpl]; rfl
  rw [List.all_cons, Bool.and_eq_true] at hpl
  refine PySem.W.callWith_KW (first := [.ref a]) (h₀ := X.base) I1.ok.mod.kin hm.kp q1 (thn (ha.run pos pins s1 σ H1 _ I1 q) fun us s2 ⟨vs, H2, I2, r, q⟩ => ?_) hany (star_pl hpl.1)
  obtain ⟨l1, q⟩ := q
  refine thn (hkw.run pos pins s2 σ H2 _ I2 q) fun ws s3 ⟨zs, H3, I3, rz, l2, q3'⟩ => ⟨I3.kIn, ?_⟩
  rw [q2]
  exact run_fnS F hr hb hx I3 r rz l1 l2 q3'
theorem pe_methD0 {kr : Nat} {m : Str} {EW' : XK} {perm : List Nat} {o : Expr} {apos pos : Pos} {kws : List Keyword} {ks : List Str} {ta : TE} {tk : TA} (ho : PE X o ta) (hr : Room kr X.A) (hx : Passes (L2.CX X.prog X.w) X EW') (hkw : PK X kws tk) (hab : abOk o = true)
    (hks : kwN kws = some ks) (hn : kws.length < 28) (hl : (apos.endLine == pos.line) = true) : PE X (.Call (.Attribute o m apos) [] kws pos) (tMethD X m 0 ks perm kr EW' ta tNil tk) := by
  refine ⟨fun pins s σ H Q I h => ?_⟩
  obtain ⟨q1, q2, q3⟩ := kwN_ok (pos := pos) (env := X.env) hks
  refine PySem.W.methodCall_KW (pl := plainOf o X.env) (thn (ho.run pins s σ H _ I h) fun u s1 ⟨x, H1, I1, rx, a, dx, C, f, fs, fd, ps, dvs, sp, ex, ea, l, hc, hm, F, hb, q⟩ => ?_) (call_form hab rfl hks (by simpa using hn) hl)
  subst ex
  obtain rfl : u = Value.ref a := rx
  refine getmeth_ok I1 ea hc hm l ?_
  refine PySem.W.callWith_KW0 (first := [.ref a]) (h₀ := X.base) I1.ok.mod.kin hm.kp q1 ?_ (by rw [q3]; rfl)
  obtain ⟨l1, q⟩ := q
  refine thn (hkw.run pos pins s1 σ H1 _ I1 q) fun ws s3 ⟨zs, H3, I3, rz, l2, q3'⟩ => ⟨I3.kIn, ?_⟩
  rw [q2]
  exact run_fnS (us := []) (vs := []) F hr hb hx I3 .nil rz l1 l2 q3'
/-- what is known of a method, class by class -/
structure MthOk (c : Cf) (X : Cx) (EW : XK) (kr : Nat) (m : Str) (np : Nat) (ks : List Str) (perm : List Nat) (mt : Nat → Option ((Option c.O → List c.D → FO c) × List c.D)) : Prop where
  ok : ∀ k F, mt k = some F → ∃ (f : Addr) (fd : FuncData) (ps : List Str) (dvs : List V), Cls X.K (c.cls k) ∧ Meth X.K (c.cls k) m f ∧ FnOk X.prog X.w X.K X.mg X.base (L2.CX X.prog X.w) kr f fd ps (spF c false F.1) ∧ KB X.K fd ps dvs (np + 1) ks (0 :: perm.map Nat.succ) ∧ ∀ G : Hp, RepL c G dvs F.2
  room : Room kr X.A
  tk : Takes X fun cls d _ H => EW cls d H
theorem no_look {k : Nat} {m : Str} {fs : List (Str × V)} {n : Nat} (h1 : fs.map (fun p => p.1) = (c.fld k).take n) (h2 : (pos m (c.fld k)).isNone = true) : fs.lookup m = none := by
  have hn : m ∉ c.fld k := by
    generalize c.fld k = l at h2
    clear h1
    induction l with
    | nil => simp
    | cons g r ih =>
      unfold pos at h2
      split at h2
      · cases h2
      · rename_i hg
        rw [Option.isNone_map] at h2
        rw [List.mem_cons, not_or]
        exact ⟨fun z => hg z.symm, ih h2⟩
  have hm : m ∉ fs.map (fun p => p.1) := by rw [h1]; exact fun z => hn (List.mem_of_mem_take z)
  clear h1
  induction fs with
  | nil => rfl
  | cons p fs ih =>
    simp only [List.map_cons, List.mem_cons, not_or] at hm
    obtain ⟨a, b⟩ := p
    have : (m == a) = false := by rw [beq_eq_false_iff_ne]; exact hm.1
    rw [List.lookup_cons, this]; exact ih hm.2
theorem kOf_rep {k : Nat} {t : Tm c} (j : J c E ρ σ (ts ++ [(t, v)]) H) (h : kOf ρ t = some k) : ∃ a dx fs n, v = .ref a ∧ H a = some (.ins (c.cls k) dx fs) ∧ fs.map (fun p => p.1) = (c.fld k).take n := by
  unfold kOf at h
  split at h
  · rename_i kk ds e
    cases h
    obtain ⟨x, e1, e2⟩ := Option.map_eq_some_iff.mp e
    obtain ⟨q1, q2, q3, G, f, g⟩ := id j
    obtain ⟨fx, rx⟩ := g.tO q1 q3 m0 e1
    obtain ⟨a, dx, fs, h1, h2, h3, _⟩ := obj_rep g.sub rx e2
    exact ⟨a, dx, fs, _, h1, h2, h3⟩
  · cases h
theorem so_mth {kr : Nat} {m : Str} {np : Nat} {perm : List Nat} {mt : Nat → Option ((Option c.O → List c.D → FO c) × List c.D)} {fo : Rho c → Out c (Tm c)} {f : Rho c → Out c (List (Tm c))} {o e : Expr} {es : List Expr} {kws : List Keyword} {ks : List Str} {apos pos : Pos} (h : MthOk c X EW kr m np ks perm mt) (ho : SoE c X EW fo o) (hab : abOk o = true) (hnp : (e :: es).length = np)
    (hpl : (e :: es).all plE = true) (hks : kwN kws = some ks) (hn : (e :: es).length + kws.length < 28) (hl : (apos.endLine == pos.line) = true) (ha : SoA c X EW f (e :: es) kws) : SoE c X EW (mthS mt m fo f perm) (.Call (.Attribute o m apos) (e :: es) kws pos) := by
  obtain ⟨t0, p0, k0⟩ := ag_so ho
  obtain ⟨t, tk, pa, pk, kk⟩ := ha.ex
  have hkl := kwN_len hks
  refine ⟨_, pe_methD (np := np) (perm := perm) p0 h.room (passes_call h.tk fun _ _ _ _ z => z) pa pk hab hpl hks hn hl, fun E ρ σ ts H Q j hw => ?_⟩
  refine k0 E ρ σ ts H _ j ((Wt.bind hw).mono fun tm ρ1 h1 v1 H1 j1 hfr0 => ?_)
  cases ek : kOf ρ1 tm with
  | none => simp only [ek] at h1; exact h1.elim
  | some k =>
    simp only [ek] at h1
    split at h1
    · rename_i hp
      cases em : mt k with
      | none => simp only [em] at h1; exact h1.elim
      | some F =>
        simp only [em] at h1
        obtain ⟨a, dx, fs, n, rfl, ea, en⟩ := kOf_rep j1 ek
        obtain ⟨ad, fd, ps, dvs, w1, w2, w3, w4, w5⟩ := h.ok k F em
        refine ⟨a, dx, _, ad, fs, fd, ps, dvs, _, rfl, ea, no_look en hp, w1, w2, w3, w4, ?_⟩
        have z := kk E ρ1 σ _ H1 (fun vs H2 => spF c false F.1 (.ref a :: pick (vs ++ dvs) perm) H2 Q EW) j1 ((Wt.bind h1).mono fun tms ρ2 h2 vs H2 hlen j2 hfr => ?_)
        · rw [hnp, ← hkl] at z
          exact z
        · have j3 : J c E ρ2 σ (ts ++ (tm :: tms).zip (.ref a :: vs)) H2 := by
            rw [List.zip_cons_cons, ← List.singleton_append, ← List.append_assoc]; exact j2
          rw [← pick_self]
          unfold cpC at h2
          cases e1 : (datas ρ2 (tm :: tms)).bind (fun ds => permute (ds ++ F.2) (0 :: perm.map Nat.succ)) with
          | none => rw [e1] at h2; exact h2.elim
          | some ds =>
            rw [e1] at h2
            exact call_pure (tms := tm :: tms) (vs := .ref a :: vs) w5 (congrArg Nat.succ hlen) j3 (fun t ht x ex => by
              rcases List.mem_cons.mp ht with rfl | ht
              · exact hfr0 x ex
              · exact hfr t ht x ex) e1 h2
    · exact h1.elim
theorem so_mth0 {kr : Nat} {m : Str} {perm : List Nat} {mt : Nat → Option ((Option c.O → List c.D → FO c) × List c.D)} {fo : Rho c → Out c (Tm c)} {f : Rho c → Out c (List (Tm c))} {o : Expr} {kws : List Keyword} {ks : List Str} {apos pos : Pos} (h : MthOk c X EW kr m 0 ks perm mt) (ho : SoE c X EW fo o) (hab : abOk o = true)
    (hks : kwN kws = some ks) (hn : kws.length < 28) (hl : (apos.endLine == pos.line) = true) (ha : SoK c X EW f kws) : SoE c X EW (mthS mt m fo f perm) (.Call (.Attribute o m apos) [] kws pos) := by
  obtain ⟨t0, p0, k0⟩ := ag_so ho
  obtain ⟨tk, pk, kk⟩ := ha.ex
  have hkl := kwN_len hks
  refine ⟨_, pe_methD0 (perm := perm) p0 h.room (passes_call h.tk fun _ _ _ _ z => z) pk hab hks hn hl, fun E ρ σ ts H Q j hw => ?_⟩
  refine k0 E ρ σ ts H _ j ((Wt.bind hw).mono fun tm ρ1 h1 v1 H1 j1 hfr0 => ?_)
  cases ek : kOf ρ1 tm with
  | none => simp only [ek] at h1; exact h1.elim
  | some k =>
    simp only [ek] at h1
    split at h1
    · rename_i hp
      cases em : mt k with
      | none => simp only [em] at h1; exact h1.elim
      | some F =>
        simp only [em] at h1
        obtain ⟨a, dx, fs, n, rfl, ea, en⟩ := kOf_rep j1 ek
        obtain ⟨ad, fd, ps, dvs, w1, w2, w3, w4, w5⟩ := h.ok k F em
        refine ⟨a, dx, _, ad, fs, fd, ps, dvs, _, rfl, ea, no_look en hp, w1, w2, w3, w4, rfl, ?_⟩
        have z := kk E ρ1 σ _ H1 (fun vs H2 => spF c false F.1 (.ref a :: pick ([] ++ vs ++ dvs) perm) H2 Q EW) j1 ((Wt.bind h1).mono fun tms ρ2 h2 vs H2 hlen j2 hfr => ?_)
        · rw [← hkl] at z
          exact z
        · have j3 : J c E ρ2 σ (ts ++ (tm :: tms).zip (.ref a :: vs)) H2 := by
            rw [List.zip_cons_cons, ← List.singleton_append, ← List.append_assoc]; exact j2
          rw [List.nil_append, ← pick_self]
          unfold cpC at h2
          cases e1 : (datas ρ2 (tm :: tms)).bind (fun ds => permute (ds ++ F.2) (0 :: perm.map Nat.succ)) with
          | none => rw [e1] at h2; exact h2.elim
          | some ds =>
            rw [e1] at h2
            exact call_pure (tms := tm :: tms) (vs := .ref a :: vs) w5 (congrArg Nat.succ hlen) j3 (fun t ht x ex => by
              rcases List.mem_cons.mp ht with rfl | ht
              · exact hfr0 x ex
              · exact hfr t ht x ex) e1 h2
    · exact h1.elim
end
end Y

set_option Elab.async false
set_option linter.all false
set_option maxRecDepth 100000
set_option maxHeartbeats 4000000
namespace Y
open PySem PySem.Spec PyProof.Rows L2
section
variable {c : Cf} {X : Cx} {EW : XK} {E : Ent} {ρ : Rho c} {σ : L2.St} {ts us : Stk c} {H : Hp} {x : c.O} {v : V}
/-- o.p, a property, the getter by the class of what o is -/
def tPropD (X : Cx) (m : Str) (kr : Nat) (ta : TE) : TE := fun σ H Q => ta σ H fun x H1 => ∃ (a dx C p f : Addr) (fs : List (Str × V)) (fd : FuncData) (ps : List Str) (sp : Sp), x = .ref a ∧ H1 a = some (.ins C dx fs) ∧ Cls X.K C ∧ PropOf X.K C m p f ∧
  FnOk X.prog X.w X.K X.mg X.base (L2.CX X.prog X.w) kr f fd ps sp ∧ L2.Binds X.K fd ps [] ∧ sp [.ref a] H1 Q E0
theorem pe_propD {kr : Nat} {m : Str} {o : Expr} {p : Pos} {ta : TE} (ho : PE X o ta) (hr : Room (kr + 1) X.A) (hab : abOk o = true) : PE X (.Attribute o m p) (tPropD X m kr ta) := by
  refine ⟨fun pins s σ H Q I h => ?_⟩
  refine attr_of (ab_ok hab) (thn (ho.run pins s σ H _ I h) fun u s1 ⟨x, H1, I1, rx, a, dx, C, p, f, fs, fd, ps, sp, ex, ea, hc, hp, F, hb, q⟩ => ?_)
  subst ex
  obtain rfl : u = Value.ref a := rx
  exact getprop_ok I1 ea hc hp F hr hb .nil passL q
structure PrpOk (c : Cf) (X : Cx) (kr : Nat) (m : Str) (mt : Nat → Option (Option c.O → List c.D → FO c)) : Prop where
  ok : ∀ k F, mt k = some F → ∃ (p f : Addr) (fd : FuncData) (ps : List Str), Cls X.K (c.cls k) ∧ PropOf X.K (c.cls k) m p f ∧ FnOk X.prog X.w X.K X.mg X.base (L2.CX X.prog X.w) kr f fd ps (spF c false F) ∧ L2.Binds X.K fd ps []
  room : Room (kr + 1) X.A
theorem so_prp {kr : Nat} {m : Str} {mt : Nat → Option (Option c.O → List c.D → FO c)} {fo : Rho c → Out c (Tm c)} {o : Expr} {p : Pos} (h : PrpOk c X kr m mt) (ho : SoE c X EW fo o) (hab : abOk o = true) : SoE c X EW (prpS mt fo) (.Attribute o m p) := by
  obtain ⟨t0, p0, k0⟩ := ag_so ho
  refine ⟨_, pe_propD p0 h.room hab, fun E ρ σ ts H Q j hw => ?_⟩
  refine k0 E ρ σ ts H _ j ((Wt.bind hw).mono fun tm ρ1 h1 v1 H1 j1 hfr0 => ?_)
  cases ek : kOf ρ1 tm with
  | none => simp only [ek] at h1; exact h1.elim
  | some k =>
    simp only [ek] at h1
    cases em : mt k with
    | none => simp only [em] at h1; exact h1.elim
    | some F =>
      simp only [em] at h1
      obtain ⟨a, dx, fs, n, rfl, ea, en⟩ := kOf_rep j1 ek
      obtain ⟨p, ad, fd, ps, w1, w2, w3, w4⟩ := h.ok k F em
      refine ⟨a, dx, _, p, ad, fs, fd, ps, _, rfl, ea, w1, w2, w3, w4, ?_⟩
      have j3 : J c E ρ1 σ (ts ++ [tm].zip [V.ref a]) H1 := j1
      show spF c false F (pick ([V.ref a] ++ []) [0]) H1 Q E0
      unfold cpC at h1
      cases e1 : (datas ρ1 [tm]).bind (fun ds => permute (ds ++ []) [0]) with
      | none => rw [e1] at h1; exact h1.elim
      | some ds =>
        rw [e1] at h1
        refine call_pure (tms := [tm]) (vs := [.ref a]) (dvs := []) (dfl := []) (fun G => .nil) rfl j3 (fun t ht x ex => by
          rw [List.mem_singleton] at ht; subst ht; exact hfr0 x ex) e1 ?_
        cases hF : F none ds with
        | bad => simp only [hF] at h1; exact h1.elim
        | exc n fs => simp only [hF] at h1; exact h1.elim
        | ok r io =>
          simp only [hF] at h1
          cases io with
          | some _ => exact h1.elim
          | none =>
            by_cases ha : atomO r = true
            · simp only [ha, if_true] at h1 ⊢; exact h1
            · simp only [ha] at h1 ⊢; exact h1
/-! ### C.m(..), a static method -/
structure StaF (K : PySem.W.Frag) (C : Addr) (m : Str) (p f : Addr) : Prop where
  rd : ClX.CRead K C (.type "type")
  at_ : PySem.W.findCls K (.ref C) (.type "type") m = some (.get (.builtin "staticmethod.__get__") (.ref p) .none (.ref C))
  rc : ∃ rest, PySem.W.recIn K p "staticmethod" = some (.ref f :: rest)
  kp : PySem.W.keepIn K (.ref f) = true
theorem getsta_ok {C p f : Addr} {m : Str} {pl : PySem.Sem Bool} {pins : List (Addr × Obj)} {s : Shared} {A : Around} {E : Value → Shared → Prop} {Q : Value × List Value → Shared → Prop} (I : Inv X pins σ H s) (S : StaF X.K C m p f) (h : ∀ s', Inv X pins σ H s' → Q (.ref f, []) s') : wpAny (model X.prog X.w) A (getMethod (.ref C) m pl) Q E s := by
  obtain ⟨rest, hp⟩ := S.rc
  refine PySem.W.method_cls I.kIn S.rd.ga ?_
  refine PySem.W.cls_bind I.kIn S.rd.rd S.at_ ?_
  refine wpAny_call (PySem.W.sm_get (s := { s with toks := s.toks + 1 }) I.kIn hp (PySem.W.handed_on rfl ?_))
  exact h _ (I.tok _)
theorem pe_staG {dvs : List V} {k : Nat} {f p C : Addr} {m nm : Str} {fd : FuncData} {ps ks : List Str} {sp : Sp} {EW' : XK} {np : Nat} {perm : List Nat} {p1 apos pos : Pos} {e : Expr} {es : List Expr} {kws : List Keyword} {t tk : TA} (S : StaF X.K C m p f) (F : FnOk X.prog X.w X.K X.mg X.base (L2.CX X.prog X.w) k f fd ps sp) (hr : Room k X.A) (hg : Gl X nm) (hm : X.mg nm = some (.ref C))
    (hb : KB X.K fd ps dvs np ks perm) (hx : Passes (L2.CX X.prog X.w) X EW') (ha : PA X (e :: es) t) (hkw : PK X kws tk) (hpl : (e :: es).all plE = true) (hks : kwN kws = some ks) (hn : (e :: es).length + kws.length < 28) (hl : (apos.endLine == pos.line) = true) (hdb : (nm == ("__debug__" : Str)) = false) :
    PE X (.Call (.Attribute (.Name nm p1) m apos) (e :: es) kws pos) (tCallG np kws.length perm dvs sp EW' t tk) := by
  refine ⟨fun pins s σ H Q I h => ?_⟩
  obtain ⟨q1, q2, q3⟩ := kwN_ok (pos := pos) (env := X.env) hks
  have hC : PE X (.Name nm p1) (fun σ H Q => Q (.ref C) H) := pe_glob hg hm (v := .ref C) rfl hdb
  refine PySem.W.methodCall_KW (pl := plainOf (.Name nm p1) X.env) (thn (hC.run pins s σ H (fun v H1 => v = .ref C ∧ H1 = H) I ⟨rfl, rfl⟩) fun u s1 ⟨x, H1, I1, rx, ex, eh⟩ => ?_) (call_form rfl hpl hks hn hl)
  subst ex eh
  obtain rfl : u = Value.ref C := rx
  refine getsta_ok I1 S fun s2 I2 => ?_
  have hany : ((backTo pos (starEach (e :: es) X.env)).any (·.1) || (backToKw pos (keywordEach kws X.env)).any (·.1.isNone)) = false := by
    rw [q3, any_pl hpl]; rfl
  rw [List.all_cons, Bool.and_eq_true] at hpl
  refine PySem.W.callWith_KW (first := []) (h₀ := X.base) I2.ok.mod.kin S.kp q1 (thn (ha.run pos pins s2 σ H1 _ I2 h) fun us s3 ⟨vs, H2, I3, r, q⟩ => ?_) hany (star_pl hpl.1)
  obtain ⟨l1, q⟩ := q
  refine thn (hkw.run pos pins s3 σ H2 _ I3 q) fun ws s4 ⟨zs, H3, I4, rz, l2, q2'⟩ => ⟨I4.kIn, ?_⟩
  rw [q2]
  exact run_fnG F hr hb hx I4 r rz l1 (l2.trans (kwN_len hks).symm) q2'
theorem pe_staG0 {dvs : List V} {k : Nat} {f p C : Addr} {m nm : Str} {fd : FuncData} {ps ks : List Str} {sp : Sp} {EW' : XK} {perm : List Nat} {p1 apos pos : Pos} {kws : List Keyword} {tk : TA} (S : StaF X.K C m p f) (F : FnOk X.prog X.w X.K X.mg X.base (L2.CX X.prog X.w) k f fd ps sp) (hr : Room k X.A) (hg : Gl X nm) (hm : X.mg nm = some (.ref C))
    (hb : KB X.K fd ps dvs 0 ks perm) (hx : Passes (L2.CX X.prog X.w) X EW') (hkw : PK X kws tk) (hks : kwN kws = some ks) (hn : kws.length < 28) (hl : (apos.endLine == pos.line) = true) (hdb : (nm == ("__debug__" : Str)) = false) :
    PE X (.Call (.Attribute (.Name nm p1) m apos) [] kws pos) (tCallG 0 kws.length perm dvs sp EW' tNil tk) := by
  refine ⟨fun pins s σ H Q I h => ?_⟩
  obtain ⟨q1, q2, q3⟩ := kwN_ok (pos := pos) (env := X.env) hks
  have hC : PE X (.Name nm p1) (fun σ H Q => Q (.ref C) H) := pe_glob hg hm (v := .ref C) rfl hdb
  refine PySem.W.methodCall_KW (pl := plainOf (.Name nm p1) X.env) (thn (hC.run pins s σ H (fun v H1 => v = .ref C ∧ H1 = H) I ⟨rfl, rfl⟩) fun u s1 ⟨x, H1, I1, rx, ex, eh⟩ => ?_) (call_form rfl rfl hks (by simpa using hn) hl)
  subst ex eh
  obtain rfl : u = Value.ref C := rx
  refine getsta_ok I1 S fun s2 I2 => ?_
  refine PySem.W.callWith_KW0 (first := []) (h₀ := X.base) I2.ok.mod.kin S.kp q1 ?_ (by rw [q3]; rfl)
  obtain ⟨l1, h⟩ := h
  refine thn (hkw.run pos pins s2 σ H1 _ I2 h) fun ws s4 ⟨zs, H3, I4, rz, l2, q2'⟩ => ⟨I4.kIn, ?_⟩
  rw [q2]
  exact run_fnG F hr hb hx I4 .nil rz l1 (l2.trans (kwN_len hks).symm) q2'
structure StaOk (c : Cf) (X : Cx) (EW : XK) (k : Nat) (I : FnI) (C : Nat) (nm m : Str) (F : Option c.O → List c.D → FO c) (dfl : List c.D) : Prop where
  dv : ∀ G : Hp, RepL c G I.dvs dfl
  ok : FnOk X.prog X.w X.K X.mg X.base (L2.CX X.prog X.w) k I.ad I.fd I.ps (spF c false F)
  room : Room k X.A
  gl : Gl X nm
  mg : X.mg nm = some (.ref (c.cls C))
  st : ∃ p, StaF X.K (c.cls C) m p I.ad
  tk : Takes X fun cls d _ H => EW cls d H
  db : (nm == ("__debug__" : Str)) = false
theorem so_sta {k C : Nat} {nm m : Str} {I : FnI} {F : Option c.O → List c.D → FO c} {dfl : List c.D} {f : Rho c → Out c (List (Tm c))} {e : Expr} {es : List Expr} {kws : List Keyword} {ks : List Str} {perm : List Nat} {p1 apos pos : Pos} (h : StaOk c X EW k I C nm m F dfl) (hb : KB X.K I.fd I.ps I.dvs (e :: es).length ks perm) (hpl : (e :: es).all plE = true) (hks : kwN kws = some ks)
    (hn : (e :: es).length + kws.length < 28) (hl : (apos.endLine == pos.line) = true) (ha : SoA c X EW f (e :: es) kws) : SoE c X EW (callP F dfl f perm) (.Call (.Attribute (.Name nm p1) m apos) (e :: es) kws pos) := by
  obtain ⟨t, tk, pa, pk, kk⟩ := ha.ex
  obtain ⟨p, S⟩ := h.st
  refine ⟨_, pe_staG S h.ok h.room h.gl h.mg hb (passes_call h.tk fun _ _ _ _ z => z) pa pk hpl hks hn hl h.db, fun E ρ σ ts H Q j hw => ?_⟩
  refine kk E ρ σ ts H (fun vs H2 => spF c false F (pick (vs ++ I.dvs) perm) H2 Q EW) j ((Wt.bind hw).mono fun tms ρ1 h1 vs H1 hl j1 hfr => ?_)
  cases e1 : (datas ρ1 tms).bind (fun ds => permute (ds ++ dfl) perm) with
  | none => simp only [e1] at h1; exact h1.elim
  | some ds => simp only [e1] at h1; exact call_pure h.dv hl j1 hfr e1 h1
theorem so_sta0 {k C : Nat} {nm m : Str} {I : FnI} {F : Option c.O → List c.D → FO c} {dfl : List c.D} {f : Rho c → Out c (List (Tm c))} {kws : List Keyword} {ks : List Str} {perm : List Nat} {p1 apos pos : Pos} (h : StaOk c X EW k I C nm m F dfl) (hb : KB X.K I.fd I.ps I.dvs 0 ks perm) (hks : kwN kws = some ks)
    (hn : kws.length < 28) (hl : (apos.endLine == pos.line) = true) (ha : SoK c X EW f kws) : SoE c X EW (callP F dfl f perm) (.Call (.Attribute (.Name nm p1) m apos) [] kws pos) := by
  obtain ⟨tk, pk, kk⟩ := ha.ex
  obtain ⟨p, S⟩ := h.st
  refine ⟨_, pe_staG0 S h.ok h.room h.gl h.mg hb (passes_call h.tk fun _ _ _ _ z => z) pk hks hn hl h.db, fun E ρ σ ts H Q j hw => ⟨rfl, ?_⟩⟩
  refine kk E ρ σ ts H (fun vs H2 => spF c false F (pick ([] ++ vs ++ I.dvs) perm) H2 Q EW) j ((Wt.bind hw).mono fun tms ρ1 h1 vs H1 hl j1 hfr => ?_)
  cases e1 : (datas ρ1 tms).bind (fun ds => permute (ds ++ dfl) perm) with
  | none => simp only [e1] at h1; exact h1.elim
  | some ds => simp only [e1] at h1; exact call_pure h.dv hl j1 hfr e1 h1
end
end Y

set_option Elab.async false
set_option linter.all false
set_option maxRecDepth 100000
set_option maxHeartbeats 4000000
namespace Y
open PySem PySem.Spec PyProof.Rows L2 RZ
/-! ## enumerate over a tuple -/
theorem meets_enumT (l : Addr) (items : Array Value) :
    Meets (Builtin.«enumerate.__new__» ⟨[.type "enumerate", .ref l], []⟩) (fun _ R s => s.heap.IsTuple l items ∧
      R (.ok (.ret (.ref (s.heap.push { cls := .type "tuple_iterator", data := .fields #[.ref l, .int 0 0] }).objs.size)))
        { s with heap := (s.heap.push { cls := .type "tuple_iterator", data := .fields #[.ref l, .int 0 0] }).push { cls := .type "enumerate", data := .fields #[.none, .bool false, .ref s.heap.objs.size, rawInt 0, .none, .none] } }) :=
  .of_wp fun prog w A R s h => by
    obtain ⟨hp, g, d, tk, os⟩ := s; obtain ⟨hl, h⟩ := h
    have hsub := sub_enumerate
    have hL : Heap.IsTuple (Shared.heap ⟨hp, g, d, tk, os⟩) l items := hl
    obtain ⟨⟨c, dct, dt, sl⟩, hl0, hc, n0, hd⟩ := id hl
    replace hc : c = .type "tuple" := hc
    replace hd : dt = .seq items n0 := hd
    subst hc hd
    wp_walk using AutoSeq1.wpAny_loadPart' hl0
    refine wpAny_stack_any fun st => wpAny_pure ?_
    split
    · rename_i c _ _ _ _ _
      cases (c == Value.type "enumerate")
      · wp_walk using AutoSeq1.wpAny_loadPart' hl0, wpAny_pyIter_tuple hL
        exact ⟨_, rfl, h⟩
      · wp_walk using AutoSeq1.wpAny_loadPart' hl0, wpAny_pyIter_tuple hL
        exact ⟨_, rfl, h⟩
    · wp_walk using AutoSeq1.wpAny_loadPart' hl0, wpAny_pyIter_tuple hL
      exact ⟨_, rfl, h⟩
section
variable {prog : Program} {w : World} {A : Around} {E : Value → Shared → Prop} {s : Shared}
theorem call_enumT {l : Addr} {items : Array Value} {Q : Value → Shared → Prop} (hL : s.heap.IsTuple l items)
    (h : ∀ h', IsEnum h' (s.heap.objs.size + 1) s.heap.objs.size 0 .none → h'.IsTupleIter s.heap.objs.size l 0 → h'.objs.size = s.heap.objs.size + 2 →
      (∀ b o, s.heap.get? b = some o → h'.get? b = some o) → Q (.ref (s.heap.objs.size + 1)) { s with heap := h' }) :
    wpAny (model prog w) A (call (.type "enumerate") [.ref l]) Q E s := by
  refine callType_new F.called_enumerate (by decide) (F.typeCall_enumerate_1 _) (F.newCall_enumerate_1 _) (fun obj => F.args_object_init_2 obj _) F.entry_enumerate_new
    (meets_enumT l items) ⟨hL, ?_⟩
  have hz : (s.heap.push { cls := .type "tuple_iterator", data := .fields #[.ref l, .int 0 0] }).objs.size = s.heap.objs.size + 1 := Heap.size_push ..
  show _ ∧ _
  rw [hz]
  have he : IsEnum ((s.heap.push { cls := .type "tuple_iterator", data := .fields #[.ref l, .int 0 0] }).push
      { cls := .type "enumerate", data := .fields #[.none, .bool false, .ref s.heap.objs.size, rawInt 0, .none, .none] }) (s.heap.objs.size + 1) s.heap.objs.size 0 .none := by
    have := Heap.get?_push_size (s.heap.push { cls := .type "tuple_iterator", data := .fields #[.ref l, .int 0 0] })
      (o := { cls := .type "enumerate", data := .fields #[.none, .bool false, .ref s.heap.objs.size, rawInt 0, .none, .none] }) rfl
    rw [hz] at this; exact this
  exact ⟨⟨_, he, rfl⟩, h _ he ⟨_, Heap.get?_push_of_some _ (Heap.get?_push_size _ rfl), rfl, rfl⟩ (by rw [Heap.size_push, hz]) fun b o x => Heap.get?_push_of_some _ (Heap.get?_push_of_some _ x)⟩
end
/-- the tuple at a, each item in a new pair -/
def IteT (K : PySem.W.Frag) (a : Addr) : It :=
  ⟨fun i H => ∃ (xs : List V) (x : V), SqT K H a xs ∧ xs[i]? = some x, fun i H v H' => ∃ T x, v = .ref T ∧ H T = none ∧ H' = upd H T (.tup [.int (i : Nat), x]) ∧ ∀ xs, SqT K H a xs → xs[i]? = some x, fun i H => ∃ xs : List V, SqT K H a xs ∧ xs.length ≤ i⟩
theorem turn_enumT {P : Program} {w : World} {K : PySem.W.Frag} {elts : List Expr} {kk : Nat} {tpos : Pos} (a e it : Addr) (hae : e ≠ a) (hai : a ≠ it) :
    Turn P w K (.Tuple elts kk tpos) (IteT K a) [e, it] e (fun i h => (∃ old, IsEnum h e it ((i : Nat) : Int) old) ∧ h.IsTupleIter it a i ∧ e ≠ it) where
  mem := by simp
  obj := fun i h st b hb => by
    obtain ⟨⟨old, he⟩, ⟨o, ho, hc, hd⟩, _⟩ := st
    have e' : b = e ∨ b = it := by simpa using hb
    rcases e' with z | z
    · rw [z]; exact ⟨_, he, fun v q => nomatch q⟩
    · rw [z]; exact ⟨o, ho, fun v q => by rw [hd] at q; cases q⟩
  keep := fun i h h' st k => let ⟨⟨old, he⟩, hi, hne⟩ := st; ⟨⟨old, k e (by simp) _ he⟩, hi.at fun o q => k it (by simp) o q, hne⟩
  item := by
    intro X hP hw hK hc i pins s σ H E I hf st hg
    subst hP hw hK
    obtain ⟨⟨old, he⟩, hit, hne⟩ := st
    obtain ⟨xs, x, hq, hx⟩ := hg
    obtain ⟨its, rv, p, hz⟩ := I.tuple hq
    obtain ⟨u, hu, ru⟩ := rv.get hx
    have hel : e < s.heap.objs.size := Heap.lt_size he
    have hil : it < s.heap.objs.size := by obtain ⟨_, q, _⟩ := hit; exact Heap.lt_size q
    have hx2 : its.toArray[i]? = some u := by simpa using hu
    have hlt : i < its.toArray.size := by
      have := (Array.getElem?_eq_some_iff.mp hx2).1
      exact this
    refine wpAny_pyNext_enum_itemD (Draws.tuple (A := X.A.in1) (I.ok.hd hc) it a hai its.toArray) he ⟨hit, p⟩ hlt hne (by simp [hne, hae]) fun x' h' tk hx' ho hst hT hsz hk => ?_
    obtain ⟨hit', _⟩ := hst
    have ex : u = x' := Option.some.inj (hx2.symm.trans hx')
    subst ex
    refine ⟨_, rfl, wpAny_letOwnedTupleGo_enum (s := { s with heap := h', toks := tk + 1 }) ho fun h'' he' sb => ?_⟩
    have hT2 : h''.get? s.heap.objs.size = some { cls := .type "tuple", data := .seq #[.int i tk, u] } := (sb.2 _ (Nat.ne_of_gt hel)).trans hT
    have new : ObjOk X.prog X.w (upd H s.heap.objs.size (.tup [.int (i : Nat), x])) h'' s.heap.objs.size (.tup [.int (i : Nat), x]) :=
      ⟨by show 2 ≤ sizeLine; decide, [.int i tk, u], .cons ⟨_, rfl⟩ (.cons ru .nil), ⟨_, hT2, rfl, _, rfl⟩⟩
    have I1 : Inv X pins σ (upd H s.heap.objs.size (.tup [.int (i : Nat), x])) { s with heap := h'', toks := tk + 1 } :=
      I.turnedNew (ch := [e, it]) (fun b ob hb q => (sb.2 b (fun z => hb (by simp [z]))).trans (hk b ob (fun z => hb (by simp [z])) (fun z => hb (by simp [z])) q)) hf (Nat.le_refl _) new
    refine ⟨.ref s.heap.objs.size, _, I1, rfl, ⟨_, x, rfl, I.hok.fresh (Nat.le_refl _), rfl, fun ys hy => by rw [I.tuple_inj hy hq]; exact hx⟩, ⟨⟨u, ?_⟩, hit'.at fun o q => (sb.2 it (Ne.symm hne)).trans q, hne⟩, fun b hb => ?_⟩
    · have e1 : ((i + 1 : Nat) : Int) = (i : Int) + 1 := by omega
      rw [e1]; exact he'
    · have hb' : b < s.heap.objs.size := by
        have e' : b = e ∨ b = it := by simpa using hb
        rcases e' with z | z
        · rw [z]; exact hel
        · rw [z]; exact hil
      rw [upd_ne (Nat.ne_of_lt hb')]
      exact (hf b hb).1
  done := by
    intro X hP hw hK hc i pins s σ H E I hf st hg
    subst hP hw hK
    obtain ⟨⟨old, he⟩, hit, hne⟩ := st
    obtain ⟨xs, hq, hx⟩ := hg
    obtain ⟨its, rv, p, hz⟩ := I.tuple hq
    obtain ⟨f0, f1, f2, f3, f4, f5⟩ := hf it (by simp)
    have hl := rv.length
    unfold pyNext
    have hT : s.TypeIs (.ref e) "enumerate" := ⟨_, he, rfl⟩
    refine wpAny_bind (wpAny_attempt (wpAny_callSpecial?_slot (name := Str.ofString "__next__") hT F.slot_enumerate_next
      (wpAny_call_entry F.slot_enumerate_next hT F.entry_enumerate_next ?_ (F.args_enumerate_next_1 _))))
    show wpAny _ _ (field (.ref e) 2 >>= _) _ _ _
    refine wpAny_bind (wpAny_field he rfl (x := .ref it) rfl ?_)
    refine wpAny_bind (wpAny_nextOf_tuple_end (I.ok.hd hc) hit p (by simp; omega) fun h' x he' hx' => ?_)
    obtain ⟨o, ho, hc⟩ := hx'
    refine wpAny_bind (wpAny_isInstance (T := "StopIteration") (b := true) ⟨o, ho, hc⟩ isSubtype_stop ?_)
    exact wpAny_pure ⟨rfl, I.turned (t' := s.toks) (fun b o hb q => he' b o hb q) f0 f1 f3 f4 f5⟩
  self := fun A i s Q E st h => let ⟨⟨_, he⟩, _⟩ := st; wpAny_pyIter_enum he h
def iEnumA (K : PySem.W.Frag) (ta : TA) : TI := fun σ H R => ta σ H fun vs H1 => ∃ a xs, vs = [.ref a] ∧ ((SqL K H1 a xs ∧ R (Ite K a) H1) ∨ (SqT K H1 a xs ∧ R (IteT K a) H1))
theorem pi_enumA {X : Cx} {e : Expr} {ta : TA} {p pos tpos : Pos} {elts : List Expr} {kk : Nat} (hg : Gl X "enumerate") (hm : X.mg "enumerate" = none) (ha : PA X [e] ta) (hs : starEach [e] X.env = [(false, eval e X.env)] := by rfl) :
    PI X (.Tuple elts kk tpos) (.Call (.Name "enumerate" p) [e] [] pos) (iEnumA X.K ta) := by
  refine ⟨fun pins s σ H R I h => ?_⟩
  refine Call_ (ld_blt I hg hm boot_enumerate (PyProof.Rows.callWith_type1 (thn (ha.run pos pins s σ H _ I h) fun us s1 ⟨vs, H1, I1, r1, q1⟩ => ?_) hs rfl))
  obtain ⟨a, xs, ex, q1⟩ := q1
  subst ex
  cases r1 with
  | cons r rr =>
    cases rr
    cases r
    have fresh2 : ∀ b, b ∈ [s1.heap.objs.size + 1, s1.heap.objs.size] → FpOk X pins H1 b := fun b hb => by
      have e' : b = s1.heap.objs.size + 1 ∨ b = s1.heap.objs.size := by simpa using hb
      have hle : s1.heap.objs.size ≤ b := by
        rcases e' with z | z
        · rw [z]; exact Nat.le_add_right _ _
        · rw [z]; exact Nat.le_refl _
      exact I1.fpOk hle (I1.hok.fresh hle)
    rcases q1 with ⟨hq, q⟩ | ⟨hq, q⟩
    · obtain ⟨its, rv, p', hz⟩ := I1.list hq
      refine call_enumerate_list p'.isList fun h' he hit hsz hk => wpAny_pyIter_enum he ?_
      have I2 : Inv X pins σ H1 { s1 with heap := h' } := I1.kept (t' := s1.toks) hk
      exact ⟨s1.heap.objs.size + 1, [s1.heap.objs.size + 1, s1.heap.objs.size], _, _, H1, rfl, I2, turn_enum a (s1.heap.objs.size + 1) s1.heap.objs.size, ⟨⟨.none, he⟩, hit, Nat.succ_ne_self _⟩, fresh2, q⟩
    · obtain ⟨its, rv, p', hz⟩ := I1.tuple hq
      obtain ⟨o1, ho1, _⟩ := id p'
      have lta : a < s1.heap.objs.size := Heap.lt_size ho1
      refine call_enumT (show s1.heap.IsTuple a its.toArray from p') fun h' he hit hsz hk => wpAny_pyIter_enum he ?_
      have I2 : Inv X pins σ H1 { s1 with heap := h' } := I1.kept (t' := s1.toks) hk
      exact ⟨s1.heap.objs.size + 1, [s1.heap.objs.size + 1, s1.heap.objs.size], _, _, H1, rfl, I2, turn_enumT a (s1.heap.objs.size + 1) s1.heap.objs.size (Nat.ne_of_gt (Nat.lt_succ_of_lt lta)) (Nat.ne_of_lt lta), ⟨⟨.none, he⟩, hit, Nat.succ_ne_self _⟩, fresh2, q⟩
end Y

set_option Elab.async false
set_option linter.all false
set_option maxRecDepth 100000
set_option maxHeartbeats 4000000
namespace Y
open PySem PySem.Spec PyProof.Rows L2 RZ
/-! ## enumerate, zip; tuple, sum, min, max -/
section
variable {c : Cf} {X : Cx} {EW : XK} {E : Ent} {ρ : Rho c} {σ : L2.St} {ts us : Stk c} {H : Hp} {x : c.O} {v : V}
theorem enuD_len : ∀ (n : Nat) (ds : List c.D), (enuD n ds).length = ds.length
  | _, [] => rfl
  | n, d :: ds => congrArg Nat.succ (enuD_len (n + 1) ds)
theorem enuD_get : ∀ {n i : Nat} {ds : List c.D} {d : c.D}, ds[i]? = some d → (enuD n ds)[i]? = some (.tup [.int (c.nm.lit ((n + i : Nat) : Int)), d])
  | n, 0, d :: ds, e, h => by cases h; rfl
  | n, i + 1, d :: ds, e, h => by
    have := enuD_get (n := n + 1) (i := i) (ds := ds) (d := e) (by simpa using h)
    rw [show n + (i + 1) = n + 1 + i by omega]
    simpa [enuD] using this
theorem zipD_get : ∀ {i : Nat} {as bs : List c.D} {a b : c.D}, as[i]? = some a → bs[i]? = some b → (zipD as bs)[i]? = some (.tup [a, b])
  | 0, x :: as, y :: bs, a, b, h1, h2 => by cases h1; cases h2; rfl
  | i + 1, x :: as, y :: bs, a, b, h1, h2 => zipD_get (i := i) (as := as) (bs := bs) (by simpa using h1) (by simpa using h2)
theorem zipD_len : ∀ (as bs : List c.D), (zipD as bs).length = min as.length bs.length
  | [], _ => by simp [zipD]
  | _ :: _, [] => by simp [zipD]
  | a :: as, b :: bs => by simp [zipD, zipD_len as bs]
theorem pair_new {d e : c.D} {G : Hp} {f : Nat → List Addr} {v w : V} {T : Addr} (h1 : ρ.length = σ.length) (h2 : ∀ v0, E.pin = some v0 → σ[0]? = some (some v0)) (h3 : ∀ t ∈ ts, SlOk ρ σ t) (g : JG c E (ρ ++ cO ts) (σ ++ cV ts) H G f) (r1 : Rep c G v d) (r2 : Rep c G w e) (hT : H T = none) : J c E ρ σ (ts ++ [(.o (.fr (.tup [d, e])), .ref T)]) (upd H T (.tup [v, w])) := by
  have j := mkSeg (ts := ts) (us := []) (ds := [d, e]) (vs := [v, w]) h1 h2 (by simpa using h3) (by simpa using g) (.cons r1 (.cons r2 .nil))
  exact j.tup rfl hT
theorem itOk_enu {ds : List c.D} {a : Addr} : ItOk c (Ite c.K a) [(.o (.fr (.lst ds)), .ref a)] (enuD 0 ds) := by
  intro E ρ σ ts ws H j
  obtain ⟨h1, h2, h3, G, f, g⟩ := j
  obtain ⟨fx, rx⟩ := g.tO h1 h3 (tm := .o (.fr (.lst ds))) mem_mid rfl
  obtain ⟨a', xs, ev, q, r⟩ := rep_lst rx.unfr
  cases ev
  have qH : SqL c.K H a xs := SqL.of (g.sub _ _ q)
  refine ⟨fun i hi => ?_, fun i hi => ⟨xs, qH, by rw [r.length]; rw [enuD_len] at hi; exact hi⟩⟩
  rw [enuD_len] at hi
  obtain ⟨v, hv, rv⟩ := r.get (i := i) (List.getElem?_eq_getElem hi)
  refine ⟨⟨xs, v, qH, hv⟩, fun x H' y => ?_⟩
  obtain ⟨T, w, rfl, hT, rfl, e2⟩ := y
  have e3 := e2 xs qH
  rw [hv] at e3; cases e3
  refine ⟨_, enuD_get (List.getElem?_eq_getElem hi), ?_⟩
  rw [Nat.zero_add]
  exact pair_new h1 h2 h3 g (lit_rep _) rv hT
theorem itOk_enuT {ds : List c.D} {a : Addr} : ItOk c (IteT c.K a) [(.o (.fr (.tup ds)), .ref a)] (enuD 0 ds) := by
  intro E ρ σ ts ws H j
  obtain ⟨h1, h2, h3, G, f, g⟩ := j
  obtain ⟨fx, rx⟩ := g.tO h1 h3 (tm := .o (.fr (.tup ds))) mem_mid rfl
  obtain ⟨a', xs, ev, q, r⟩ := rep_tup rx.unfr
  cases ev
  have qH : SqT c.K H a xs := seqT_mono g.sub q
  refine ⟨fun i hi => ?_, fun i hi => ⟨xs, qH, by rw [r.length]; rw [enuD_len] at hi; exact hi⟩⟩
  rw [enuD_len] at hi
  obtain ⟨v, hv, rv⟩ := r.get (i := i) (List.getElem?_eq_getElem hi)
  refine ⟨⟨xs, v, qH, hv⟩, fun x H' y => ?_⟩
  obtain ⟨T, w, rfl, hT, rfl, e2⟩ := y
  have e3 := e2 xs qH
  rw [hv] at e3; cases e3
  refine ⟨_, enuD_get (List.getElem?_eq_getElem hi), ?_⟩
  rw [Nat.zero_add]
  exact pair_new h1 h2 h3 g (lit_rep _) rv hT
theorem so_enu {fa : Rho c → Out c (Tm c)} {a : Expr} {elts : List Expr} {kk : Nat} {tpos p pos : Pos} (hpl : plE a = true) (hK : X.K = c.K) (hg : Gl X "enumerate") (hm : X.mg "enumerate" = none) (ha : SoE c X EW fa a) : SoI c X EW (fun ρ => (frS fa ρ).bind fun d ρ1 => match seqD d with
      | some ds => .ok (enuD 0 ds) ρ1
      | none => .bad) (.Tuple elts kk tpos) (.Call (.Name "enumerate" p) [a] [] pos) := by
  constructor
  obtain ⟨t, pe, k⟩ := fr_so ha
  refine ⟨_, pi_enumA hg hm (pa_cons pe pa_nil (star_pl hpl)) (star_pl hpl), fun E ρ σ ts H R j hw => k E ρ σ ts H _ j ((Wt.bind hw).mono fun d ρ1 h1 v1 H1 j1 => ?_)⟩
  cases e : seqD d with
  | none => simp only [e] at h1; exact h1.elim
  | some ds =>
    simp only [e] at h1
    obtain ⟨q1, q2, q3, G, f, g⟩ := id j1
    unfold seqD at e
    split at e
    · cases e
      obtain ⟨fx, rx⟩ := g.tO q1 q3 (tm := .o (.fr (.lst ds))) m0 rfl
      obtain ⟨a', xs, ev, q, r⟩ := rep_lst rx.unfr
      subst ev
      have us1 : AllO [((Tm.o (OT.fr (.lst ds)) : Tm c), V.ref a')] := fun t ht => ⟨.fr (.lst ds), by rw [List.mem_singleton.mp ht]⟩
      refine ⟨a', xs, rfl, .inl ⟨SqL.of (g.sub _ _ q), ?_⟩⟩
      rw [hK]
      exact h1 _ H1 _ j1 us1 itOk_enu
    · cases e
      obtain ⟨fx, rx⟩ := g.tO q1 q3 (tm := .o (.fr (.tup ds))) m0 rfl
      obtain ⟨a', xs, ev, q, r⟩ := rep_tup rx.unfr
      subst ev
      have us1 : AllO [((Tm.o (OT.fr (.tup ds)) : Tm c), V.ref a')] := fun t ht => ⟨.fr (.tup ds), by rw [List.mem_singleton.mp ht]⟩
      refine ⟨a', xs, rfl, .inr ⟨by rw [hK]; exact seqT_mono g.sub q, ?_⟩⟩
      rw [hK]
      exact h1 _ H1 _ j1 us1 itOk_enuT
    · cases e
theorem mem2a {t u : Tm c × V} {ws : Stk c} : t ∈ ts ++ [t, u] ++ ws := by simp
theorem mem2b {t u : Tm c × V} {ws : Stk c} : u ∈ ts ++ [t, u] ++ ws := by simp
theorem itOk_zipL {ds es : List c.D} {a b : Addr} : ItOk c (Itz c.K a b) [(.o (.fr (.lst ds)), .ref a), (.o (.fr (.lst es)), .ref b)] (zipD ds es) := by
  intro E ρ σ ts ws H j
  obtain ⟨h1, h2, h3, G, f, g⟩ := j
  obtain ⟨fx, rx⟩ := g.tO h1 h3 (tm := .o (.fr (.lst ds))) mem2a rfl
  obtain ⟨fy, ry⟩ := g.tO h1 h3 (tm := .o (.fr (.lst es))) mem2b rfl
  obtain ⟨a', xs, ev, q, r⟩ := rep_lst rx.unfr
  cases ev
  obtain ⟨b', ys, ev2, q2, r2⟩ := rep_lst ry.unfr
  cases ev2
  have qH : SqL c.K H a xs := SqL.of (g.sub _ _ q)
  have qH2 : SqL c.K H b ys := SqL.of (g.sub _ _ q2)
  refine ⟨fun i hi => ?_, fun i hi => ⟨xs, ys, qH, qH2, by rw [r.length, r2.length]; rw [zipD_len] at hi; omega⟩⟩
  rw [zipD_len] at hi
  obtain ⟨v, hv, rv⟩ := r.get (i := i) (List.getElem?_eq_getElem (by omega))
  obtain ⟨w, hw, rw'⟩ := r2.get (i := i) (List.getElem?_eq_getElem (by omega))
  refine ⟨⟨xs, ys, v, w, qH, qH2, hv, hw⟩, fun x H' y => ?_⟩
  obtain ⟨T, v', w', rfl, hT, rfl, e2, e3⟩ := y
  have e4 := e2 xs qH
  have e5 := e3 ys qH2
  rw [hv] at e4; cases e4
  rw [hw] at e5; cases e5
  exact ⟨_, zipD_get (List.getElem?_eq_getElem (by omega)) (List.getElem?_eq_getElem (by omega)), pair_new h1 h2 h3 g rv rw' hT⟩
theorem itOk_zipT {ds es : List c.D} {a b : Addr} : ItOk c (ItzT c.K a b) [(.o (.fr (.tup ds)), .ref a), (.o (.fr (.tup es)), .ref b)] (zipD ds es) := by
  intro E ρ σ ts ws H j
  obtain ⟨h1, h2, h3, G, f, g⟩ := j
  obtain ⟨fx, rx⟩ := g.tO h1 h3 (tm := .o (.fr (.tup ds))) mem2a rfl
  obtain ⟨fy, ry⟩ := g.tO h1 h3 (tm := .o (.fr (.tup es))) mem2b rfl
  obtain ⟨a', xs, ev, q, r⟩ := rep_tup rx.unfr
  cases ev
  obtain ⟨b', ys, ev2, q2, r2⟩ := rep_tup ry.unfr
  cases ev2
  have qH : SqT c.K H a xs := seqT_mono g.sub q
  have qH2 : SqT c.K H b ys := seqT_mono g.sub q2
  refine ⟨fun i hi => ?_, fun i hi => ⟨xs, ys, qH, qH2, by rw [r.length, r2.length]; rw [zipD_len] at hi; omega⟩⟩
  rw [zipD_len] at hi
  obtain ⟨v, hv, rv⟩ := r.get (i := i) (List.getElem?_eq_getElem (by omega))
  obtain ⟨w, hw, rw'⟩ := r2.get (i := i) (List.getElem?_eq_getElem (by omega))
  refine ⟨⟨xs, ys, v, w, qH, qH2, hv, hw⟩, fun x H' y => ?_⟩
  obtain ⟨T, v', w', rfl, hT, rfl, e2, e3⟩ := y
  have e4 := e2 xs qH
  have e5 := e3 ys qH2
  rw [hv] at e4; cases e4
  rw [hw] at e5; cases e5
  exact ⟨_, zipD_get (List.getElem?_eq_getElem (by omega)) (List.getElem?_eq_getElem (by omega)), pair_new h1 h2 h3 g rv rw' hT⟩
theorem so_zip {fa fb : Rho c → Out c (Tm c)} {a b : Expr} {elts : List Expr} {kk : Nat} {tpos p pos : Pos} (hpl : plE a = true) (hpl2 : plE b = true) (hK : X.K = c.K) (hg : Gl X "zip") (hm : X.mg "zip" = none) (ha : SoE c X EW fa a) (hb : SoE c X EW fb b) : SoI c X EW (fun ρ => (frS fa ρ).bind fun d ρ1 => (frS fb ρ1).bind fun e ρ2 => match twoD d e with
      | some p => .ok (zipD p.1 p.2) ρ2
      | none => .bad) (.Tuple elts kk tpos) (.Call (.Name "zip" p) [a, b] [] pos) := by
  constructor
  obtain ⟨t, pe, k⟩ := fr_so ha
  obtain ⟨t2, pe2, k2⟩ := fr_so hb
  refine ⟨_, pi_zipA hg hm (pa_cons pe (pa_cons pe2 pa_nil (star_pl hpl2)) (star_pl hpl)) (star_pl hpl) (by rw [star_pl hpl2]; rfl), fun E ρ σ ts H R j hw => k E ρ σ ts H _ j ((Wt.bind hw).mono fun d ρ1 h1 v1 H1 j1 => ?_)⟩
  refine k2 E ρ1 σ _ H1 _ j1 ((Wt.bind h1).mono fun e ρ2 h2 v2 H2 j2 => ?_)
  rw [List.append_assoc] at j2
  cases et : twoD d e with
  | none => simp only [et] at h2; exact h2.elim
  | some pq =>
    simp only [et] at h2
    have us1 : AllO [((Tm.o (OT.fr d) : Tm c), v1), ((Tm.o (OT.fr e) : Tm c), v2)] := fun t ht => by
      rcases List.mem_cons.mp ht with rfl | ht
      · exact ⟨_, rfl⟩
      · exact ⟨.fr e, by rw [List.mem_singleton.mp ht]⟩
    obtain ⟨q1, q2, q3, G, f, g⟩ := id j2
    unfold twoD at et
    split at et
    · rename_i xs ys
      cases et
      obtain ⟨fx, rx⟩ := g.tO q1 q3 (tm := .o (.fr (.lst xs))) (v := v1) (by simp) rfl
      obtain ⟨fy, ry⟩ := g.tO q1 q3 (tm := .o (.fr (.lst ys))) (v := v2) (by simp) rfl
      obtain ⟨a', vs, ev, q, r⟩ := rep_lst rx.unfr
      subst ev
      obtain ⟨b', ws, ev2, q', r'⟩ := rep_lst ry.unfr
      subst ev2
      refine ⟨a', b', vs, ws, rfl, .inl ⟨SqL.of (g.sub _ _ q), SqL.of (g.sub _ _ q'), ?_⟩⟩
      rw [hK]
      exact h2 _ H2 _ j2 us1 itOk_zipL
    · rename_i xs ys
      cases et
      obtain ⟨fx, rx⟩ := g.tO q1 q3 (tm := .o (.fr (.tup xs))) (v := v1) (by simp) rfl
      obtain ⟨fy, ry⟩ := g.tO q1 q3 (tm := .o (.fr (.tup ys))) (v := v2) (by simp) rfl
      obtain ⟨a', vs, ev, q, r⟩ := rep_tup rx.unfr
      subst ev
      obtain ⟨b', ws, ev2, q', r'⟩ := rep_tup ry.unfr
      subst ev2
      refine ⟨a', b', vs, ws, rfl, .inr ⟨by rw [hK]; exact seqT_mono g.sub q, by rw [hK]; exact seqT_mono g.sub q', ?_⟩⟩
      rw [hK]
      exact h2 _ H2 _ j2 us1 itOk_zipT
    · cases et
end
end Y

set_option Elab.async false
set_option linter.all false
set_option maxRecDepth 100000
set_option maxHeartbeats 4000000
namespace Y
open PySem PySem.Spec PyProof.Rows L2
section
variable {c : Cf} {X : Cx} {EW : XK} {E : Ent} {ρ ρ' : Rho c} {σ : L2.St} {ts us : Stk c} {H : Hp} {Q : VK} {t1 t2 : Tm c} {v v1 v2 : V} {x y z : c.O}
theorem so_tupF {f : Rho c → Out c (List (Tm c))} {e : Expr} {es : List Expr} {p pos : Pos} (hs : (e :: es).all plE = true) (hK : X.K = c.K) (hg : Gl X "tuple") (hm : X.mg "tuple" = none) (h : SoB c X EW f (e :: es)) :
    SoE c X EW (fun ρ => (f ρ).bind fun tms ρ1 => match (tOs ρ1 tms).bind (one1 tupO) with | some r => .ok (.o r) ρ1 | none => .bad) (.Call (.Name "tuple" p) (e :: es) [] pos) := by
  rw [List.all_cons, Bool.and_eq_true] at hs
  refine so_bf h (fun pa => pe_callTy call_tuple_of hg hm PySem.Pv.boot_tuple pa (he := star_pl hs.1) (hpl := any_pl hs.2)) fun E ρ σ ts H Q t v x z j e3 e2 k => ?_
  obtain ⟨h1, h2, h3, G, ff, g⟩ := j
  obtain ⟨fx, rx⟩ := g.tO h1 h3 m0 e3
  unfold tupO at e2
  split at e2
  · cases e2
    obtain ⟨p, xs, ev, q, r0⟩ := rep_tup rx.unfr
    exact ⟨p, xs, by rw [ev], .inr ⟨by rw [hK]; exact seqT_mono g.sub q, k _ _ (mkPart h1 h2 h3 g (.tup q r0))⟩⟩
  · obtain ⟨ds, e4, e5⟩ := Option.map_eq_some_iff.mp e2
    subst e5
    obtain ⟨p, xs, ev, hx, r⟩ := lItems_rep g.sub rx e4
    exact ⟨p, xs, by rw [ev], .inl ⟨by rw [hK]; exact SqL.of hx, fun l hl => k _ _ (mkTup h1 h2 h3 g hl r)⟩⟩
theorem so_fz {fa : Rho c → Out c (Tm c)} {a : Expr} (ha : SoE c X EW fa a) : SoE c X EW (fzS fa) a := by
  obtain ⟨t, p, k⟩ := fr_so ha
  exact ⟨t, p, fun E ρ σ ts H Q j hw => k E ρ σ ts H Q j ((Wt.bind hw).mono fun d ρ1 h1 v H1 j1 => h1 v H1 j1)⟩
/-! ## a module's dict with keys that are tuples, nested -/
end
mutual
def nkD {c : Cf} : c.D → Option NestedKey
  | .non => some .none
  | .int n => some (.num (c.nm.val n))
  | .str s => some (.text s)
  | .tup l => (nkDs l).map .tup
  | _ => none
def nkDs {c : Cf} : List c.D → Option (List NestedKey)
  | [] => some []
  | d :: ds => match nkD d, nkDs ds with
    | some a, some b => some (a :: b)
    | _, _ => none
end
section
variable {c : Cf}
mutual
theorem nk_dep : ∀ {d : c.D} {k : NestedKey} {n : Nat}, nkD d = some k → nkB d = some n → k.depth = n
  | .non, _, _, h, h2 => by simp only [nkD, nkB] at h h2; cases h; cases h2; rfl
  | .int _, _, _, h, h2 => by simp only [nkD, nkB] at h h2; cases h; cases h2; rfl
  | .str _, _, _, h, h2 => by simp only [nkD, nkB] at h h2; cases h; cases h2; rfl
  | .tup l, _, _, h, h2 => by
    simp only [nkD, nkB] at h h2
    obtain ⟨ks, q1, q2⟩ := Option.map_eq_some_iff.mp h
    obtain ⟨m, q3, q4⟩ := Option.map_eq_some_iff.mp h2
    subst q2 q4
    simp only [NestedKey.depth]
    rw [nks_dep q1 q3]
  | .bl _, _, _, h, _ => by simp [nkD] at h
  | .lst _, _, _, h, _ => by simp [nkD] at h
  | .dct _ _, _, _, h, _ => by simp [nkD] at h
  | .scr _, _, _, h, _ => by simp [nkD] at h
  | .obj _ _, _, _, h, _ => by simp [nkD] at h
theorem nks_dep : ∀ {l : List c.D} {ks : List NestedKey} {n : Nat}, nkDs l = some ks → nkBs l = some n → NestedKey.depthAll ks = n
  | [], _, _, h, h2 => by simp only [nkDs, nkBs] at h h2; cases h; cases h2; rfl
  | d :: ds, _, _, h, h2 => by
    simp only [nkDs, nkBs] at h h2
    split at h
    · rename_i a b ea eb
      cases h
      split at h2
      · rename_i m n em en
        cases h2
        simp only [NestedKey.depthAll]
        rw [nk_dep ea em, nks_dep eb en]
      · cases h2
    · cases h
end
mutual
theorem nk_some : ∀ {d : c.D} {n : Nat}, nkB d = some n → ∃ k, nkD d = some k
  | .non, _, _ => ⟨_, rfl⟩
  | .int _, _, _ => ⟨_, rfl⟩
  | .str _, _, _ => ⟨_, rfl⟩
  | .tup l, _, h => by
    simp only [nkB] at h
    obtain ⟨m, q3, q4⟩ := Option.map_eq_some_iff.mp h
    obtain ⟨ks, e⟩ := nks_some q3
    exact ⟨.tup ks, by simp only [nkD, e]; rfl⟩
  | .bl _, _, h => by simp [nkB] at h
  | .lst _, _, h => by simp [nkB] at h
  | .dct _ _, _, h => by simp [nkB] at h
  | .scr _, _, h => by simp [nkB] at h
  | .obj _ _, _, h => by simp [nkB] at h
theorem nks_some : ∀ {l : List c.D} {n : Nat}, nkBs l = some n → ∃ ks, nkDs l = some ks
  | [], _, _ => ⟨[], rfl⟩
  | d :: ds, _, h => by
    simp only [nkBs] at h
    split at h
    · rename_i m n em en
      obtain ⟨k, e1⟩ := nk_some em
      obtain ⟨ks, e2⟩ := nks_some en
      exact ⟨k :: ks, by simp only [nkDs, e1, e2]⟩
    · cases h
end
mutual
theorem nk_eq : ∀ {a b : c.D} {p q : NestedKey} {r : Bool}, nkD a = some p → nkD b = some q → eqD a b = some r → NestedKey.beq p q = r
  | .non, b, p, q, r, h1, h2, h => by
    simp only [nkD] at h1; cases h1
    cases b <;> simp only [nkD, eqD] at h2 h <;> first | (cases h2; cases h; rfl) | cases h2 | (obtain ⟨ks, e1, e2⟩ := Option.map_eq_some_iff.mp h2; subst e2; cases h; rfl)
  | .int n, b, p, q, r, h1, h2, h => by
    simp only [nkD] at h1; cases h1
    cases b with
    | int m =>
      simp only [nkD, eqD] at h2 h
      cases h2
      obtain ⟨o, e1, e2⟩ := Option.map_eq_some_iff.mp h
      subst e2
      simp only [NestedKey.beq]
      rw [cmp_eq (c.nm.cmp_ok e1), Bool.eq_iff_iff]
      simp
    | _ => simp only [nkD, eqD] at h2 h <;> first | (cases h2; cases h; rfl) | cases h2 | (obtain ⟨ks, e1, e2⟩ := Option.map_eq_some_iff.mp h2; subst e2; cases h; rfl)
  | .str s, b, p, q, r, h1, h2, h => by
    simp only [nkD] at h1; cases h1
    cases b with
    | str m =>
      simp only [nkD, eqD] at h2 h
      cases h2
      cases h
      simp only [NestedKey.beq]
      rw [Bool.eq_iff_iff]
      simp
    | _ => simp only [nkD, eqD] at h2 h <;> first | (cases h2; cases h; rfl) | cases h2 | (obtain ⟨ks, e1, e2⟩ := Option.map_eq_some_iff.mp h2; subst e2; cases h; rfl)
  | .tup l, b, p, q, r, h1, h2, h => by
    simp only [nkD] at h1
    obtain ⟨ks, e1, e2⟩ := Option.map_eq_some_iff.mp h1
    subst e2
    cases b with
    | tup m =>
      simp only [nkD, eqD] at h2 h
      obtain ⟨ks2, e3, e4⟩ := Option.map_eq_some_iff.mp h2
      subst e4
      simp only [NestedKey.beq]
      exact nks_eq e1 e3 h
    | _ => simp only [nkD, eqD] at h2 h <;> first | (cases h2; cases h; rfl) | cases h2
  | .bl _, _, _, _, _, h, _, _ => by simp [nkD] at h
  | .lst _, _, _, _, _, h, _, _ => by simp [nkD] at h
  | .dct _ _, _, _, _, _, h, _, _ => by simp [nkD] at h
  | .scr _, _, _, _, _, h, _, _ => by simp [nkD] at h
  | .obj _ _, _, _, _, _, h, _, _ => by simp [nkD] at h
theorem nks_eq : ∀ {a b : List c.D} {p q : List NestedKey} {r : Bool}, nkDs a = some p → nkDs b = some q → eqDs a b = some r → NestedKey.beqAll p q = r
  | [], [], _, _, _, h1, h2, h => by simp only [nkDs, eqDs] at h1 h2 h; cases h1; cases h2; cases h; rfl
  | [], d :: ds, _, _, _, h1, h2, h => by
    simp only [nkDs, eqDs] at h1 h2 h
    split at h2
    · cases h1; cases h2; cases h; rfl
    · cases h2
  | d :: ds, [], _, _, _, h1, h2, h => by
    simp only [nkDs, eqDs] at h1 h2 h
    split at h1
    · cases h1; cases h2; cases h; rfl
    · cases h1
  | d :: ds, e :: es, _, _, _, h1, h2, h => by
    simp only [nkDs, eqDs] at h1 h2 h
    split at h1
    · rename_i a1 a2 ea1 ea2
      split at h2
      · rename_i b1 b2 eb1 eb2
        cases h1; cases h2
        simp only [NestedKey.beqAll]
        split at h
        · rename_i e1
          rw [nk_eq ea1 eb1 e1, Bool.true_and]; exact nks_eq ea2 eb2 h
        · rename_i e1
          cases h
          rw [nk_eq ea1 eb1 e1]; rfl
        · cases h
      · cases h2
    · cases h1
end
/-- the entries of such a dict -/
inductive DcnL (c : Cf) : List (c.D × c.D) → List (NestedKey × Addr × Value) → Prop
  | nil : DcnL c [] []
  | cons {k d : c.D} {nk : NestedKey} {a : Addr} {u : Value} {v : V} {t xs} : nkD k = some nk → RelV v u → (∀ G : Hp, Rep c G v d) → DcnL c t xs → DcnL c ((k, d) :: t) ((nk, a, u) :: xs)
def KDcn (c : Cf) (a : Addr) (t : List (c.D × c.D)) : Prop := ∃ xs, DcnL c t xs ∧ ∀ h : Heap, c.K.In h → h.DictOfH (nestedKind c.P c.w) a xs
theorem atKey_cons {nk k : NestedKey} {q : Addr × Value} {xs : List (NestedKey × Addr × Value)} : atKey ((nk, q) :: xs) k = if nk = k then some q else atKey xs k := by
  unfold atKey
  rw [List.find?_cons]
  by_cases h : nk = k
  · simp [h]
  · simp [h]
theorem dcn_look {x : c.D} {k : NestedKey} (hk : nkD x = some k) : ∀ {t : List (c.D × c.D)} {xs : List (NestedKey × Addr × Value)} {d : c.D}, DcnL c t xs → dgnD x t = some d → ∃ p v, atKey xs k = some p ∧ RelV v p.2 ∧ ∀ G : Hp, Rep c G v d
  | _, _, _, .nil, h => by cases h
  | _, _, _, .cons (nk := nk) (a := a) (u := u) (v := v) q1 q2 q3 q4, h => by
    simp only [dgnD] at h
    split at h
    · rename_i e
      cases h
      have e2 := nk_eq hk q1 e
      have e3 := NestedKey.eq_of_beq _ _ e2
      exact ⟨(a, u), v, by rw [atKey_cons, if_pos e3.symm], q2, q3⟩
    · rename_i e
      obtain ⟨p, v, r1, r2, r3⟩ := dcn_look hk q4 h
      refine ⟨p, v, ?_, r2, r3⟩
      rw [atKey_cons, if_neg]
      · exact r1
      · intro e3
        have := nk_eq hk q1 e
        rw [← e3, NestedKey.beq_self] at this
        cases this
    · cases h
mutual
theorem nk_rep {X : Cx} {pins : List (Addr × Obj)} {σ : L2.St} {H G : Hp} {s : Shared} (hK : X.K = c.K) (I : Inv X pins σ H s) (hs : Same G H) : ∀ {v : V} {d : c.D} {k : NestedKey} {u : Value}, Rep c G v d → nkD d = some k → RelV v u → NestedIs s.heap k u
  | _, _, _, _, .non, h, r => by simp only [nkD] at h; cases h; cases r; exact .none
  | _, _, _, _, .int n, h, r => by simp only [nkD] at h; cases h; obtain ⟨t, rfl⟩ := r; exact .int _ _
  | _, _, _, _, .str s, h, r => by simp only [nkD] at h; cases h; obtain ⟨t, rfl⟩ := r; exact .text _ _
  | _, _, _, _, .tup (a := a) (xs := xs) (ds := ds) q r0, h, r => by
    simp only [nkD] at h
    obtain ⟨ks, e1, e2⟩ := Option.map_eq_some_iff.mp h
    subst e2
    cases r
    obtain ⟨its, r', ⟨o, ho, hc, n, hd⟩, _⟩ := I.tuple (a := a) (xs := xs) (by rw [hK]; exact seqT_mono hs q)
    exact .tup ho hc hd (nks_rep hK I hs r0 e1 r')
  | _, _, _, _, .bl _, h, _ => by simp [nkD] at h
  | _, _, _, _, .lst _ _, h, _ => by simp [nkD] at h
  | _, _, _, _, .dct _ _ _, h, _ => by simp [nkD] at h
  | _, _, _, _, .scr _ _, h, _ => by simp [nkD] at h
  | _, _, _, _, .obj _ _ _, h, _ => by simp [nkD] at h
theorem nks_rep {X : Cx} {pins : List (Addr × Obj)} {σ : L2.St} {H G : Hp} {s : Shared} (hK : X.K = c.K) (I : Inv X pins σ H s) (hs : Same G H) : ∀ {vs : List V} {ds : List c.D} {ks : List NestedKey} {us : List Value}, RepL c G vs ds → nkDs ds = some ks → Vals vs us → NestedAll s.heap ks us
  | _, _, _, _, .nil, h, r => by simp only [nkDs] at h; cases h; cases r; exact .nil
  | _, _, _, _, .cons a b, h, r => by
    simp only [nkDs] at h
    split at h
    · rename_i e1 e2
      cases h
      cases r with
      | cons r1 r2 => exact .cons (nk_rep hK I hs a e1 r1) (nks_rep hK I hs b e2 r2)
    · cases h
end
end
section
variable {c : Cf} {X : Cx} {EW : XK} {E : Ent} {ρ ρ' : Rho c} {σ : L2.St} {ts us : Stk c} {H : Hp} {Q : VK} {t1 t2 : Tm c} {v v1 v2 : V} {x y z : c.O}
def rIxN (c : Cf) : R2 := fun x y H Q => ∃ (p : Addr) (xs : List (NestedKey × Addr × Value)) (a : Addr) (k : NestedKey) (q : Addr × Value) (v : V) (G : Hp) (d : c.D), x = .ref p ∧ y = .ref a ∧ (∀ h : Heap, c.K.In h → h.DictOfH (nestedKind c.P c.w) p xs) ∧ Same G H ∧ Rep c G y d ∧ nkD d = some k ∧ k.depth ≤ 8 ∧ atKey xs k = some q ∧ RelV v q.2 ∧ Q v H
theorem ix_nest (hP : X.prog = c.P) (hW : X.w = c.w) (hK : X.K = c.K) (hu : X.A.units + 20 < cLine) : IxR X (rIxN c) := by
  intro value slice pins s σ H x y v u Q I rx ry h hs
  obtain ⟨p, xs, a, k, q, r, G, d, rfl, rfl, hd, sm, rp, hk, hdep, hat, rv, hq⟩ := h
  obtain rfl : v = Value.ref p := rx
  obtain rfl : u = Value.ref a := ry
  have hkey := nk_rep hK I sm rp hk (u := .ref a) rfl
  have hm := hd s.heap (by rw [← hK]; exact I.kIn)
  rw [← hP, ← hW] at hm
  exact tail_any hm.typeIs slot_dict_getitem.lookup (wpAny_getItem_heap (knd := nestedKind X.prog X.w) (by show X.A.in1.units + 8 < cLine; have := hu; simp [Around.in1]; omega) ⟨hkey, hdep⟩ hm hat ⟨r, H, I.tok _, rv, hq⟩) hs
theorem so_dgn {t : List (c.D × c.D)} {fk : Rho c → Out c (Tm c)} {k : Expr} {n : Str} {a0 : Addr} {p pos : Pos} (hp : PlainIx k) (hP : X.prog = c.P) (hW : X.w = c.w) (hK : X.K = c.K) (hu : X.A.units + 20 < cLine) (hg : Gl X n) (hdb : (n == ("__debug__" : Str)) = false) (hm : X.mg n = some (.ref a0)) (ht : KDcn c a0 t) (hk : SoE c X EW fk k) :
    SoE c X EW (unS (dgnO t) fk) (.Subscript (.Name n p) k pos) := by
  obtain ⟨tk, pk, kk⟩ := hk.ex
  refine ⟨_, pe_ix (ix_nest hP hW hK hu) (pe_glob hg hm (v := .ref a0) rfl hdb) pk hp, fun E ρ σ ts H Q j hw => ?_⟩
  refine kk E ρ σ ts H _ j ((Wt.bind hw).mono fun t1 ρ1 h1 v1 H1 j1 => ?_)
  cases e1 : tO ρ1 t1 with
  | none => simp only [e1] at h1; exact h1.elim
  | some x =>
    cases e2 : dgnO t x with
    | none => simp only [e1, e2] at h1; exact h1.elim
    | some r =>
      simp only [e1, e2] at h1
      unfold dgnO at e2
      split at e2
      · rename_i l
        split at e2
        · rename_i nn enn
          split at e2
          · rename_i hdep
            obtain ⟨d, q1, q2⟩ := Option.map_eq_some_iff.mp e2
            subst q2
            obtain ⟨h1', h2', h3', G, ff, g⟩ := id j1
            obtain ⟨fx, rx⟩ := g.tO h1' h3' m0 e1
            have rx := rx.unfr
            obtain ⟨nk, enk⟩ := nk_some enn
            have hd2 := nk_dep enk enn
            obtain ⟨xs, hx, hx2⟩ := ht
            obtain ⟨q, v, r1, r2, r3⟩ := dcn_look enk hx q1
            obtain ⟨a, vs, ev, _, _⟩ := rep_tup rx
            subst ev
            exact ⟨a0, xs, a, nk, q, v, G, _, rfl, rfl, hx2, g.sub, rx, enk, by rw [hd2]; exact hdep, r1, r2, h1 _ _ (j1.at fun G => r3 G)⟩
          · cases e2
        · cases e2
      · cases e2
end
end Y

set_option Elab.async false
set_option linter.all false
set_option maxRecDepth 100000
set_option maxHeartbeats 4000000
namespace Y
open PySem PySem.Spec PyProof.Rows L2
/-! ## sum, max, min -/
section
variable {c : Cf} {X : Cx} {EW : XK} {E : Ent} {ρ : Rho c} {σ : L2.St} {ts us : Stk c} {H : Hp} {x : c.O} {v : V}
theorem ints_rep {G : Hp} : ∀ {vs : List V} {ds : List c.D} {ns : List c.nm.T}, RepL c G vs ds → intsD ds = some ns → vs = (ns.map c.nm.val).map V.int
  | _, _, _, .nil, h => by cases h; rfl
  | _, _, _, .cons a b, h => by
    unfold intsD at h
    split at h
    · rename_i e; cases e
    · rename_i n r e
      cases e
      obtain ⟨ns, h1, h2⟩ := Option.map_eq_some_iff.mp h
      subst h2
      rw [List.map_cons, List.map_cons, ← ints_rep b h1]
      cases a; rfl
    · cases h
theorem sumT_ok : ∀ {ns : List c.nm.T} {a m : c.nm.T}, sumT a ns = some m → c.nm.val m = c.nm.val a + (ns.map c.nm.val).sum
  | [], a, m, h => by cases h; simp
  | n :: r, a, m, h => by
    unfold sumT at h
    obtain ⟨b, h1, h2⟩ := Option.bind_eq_some_iff.mp h
    rw [sumT_ok h2, c.nm.add_ok h1, List.map_cons, List.sum_cons]; omega
theorem cmpI_lt {a b : Int} : compare a b = .lt ↔ a < b := by
  show compareOfLessAndEq a b = .lt ↔ _
  unfold compareOfLessAndEq
  split
  · simp [*]
  · split <;> simp [*]
theorem cmpI_gt {a b : Int} : compare a b = .gt ↔ b < a := by
  show compareOfLessAndEq a b = .gt ↔ _
  unfold compareOfLessAndEq
  split
  · simp; omega
  · split
    · simp; omega
    · simp; omega
theorem maxT_ok : ∀ {ns : List c.nm.T} {a m : c.nm.T}, maxT a ns = some m → c.nm.val m ∈ (a :: ns).map c.nm.val ∧ ∀ y ∈ (a :: ns).map c.nm.val, y ≤ c.nm.val m
  | [], a, m, h => by cases h; simp
  | n :: r, a, m, h => by
    unfold maxT at h
    split at h
    · rename_i e
      have hc := cmpI_lt.mp (c.nm.cmp_ok e)
      obtain ⟨h1, h2⟩ := maxT_ok h
      refine ⟨by rw [List.map_cons]; exact List.mem_cons_of_mem _ h1, fun y hy => ?_⟩
      rw [List.map_cons] at hy
      rcases List.mem_cons.mp hy with rfl | hy
      · have := h2 _ (List.mem_cons_self ..); omega
      · exact h2 y hy
    · rename_i o hne e
      have hc : ¬ c.nm.val a < c.nm.val n := fun z => hne (by rw [← c.nm.cmp_ok e]; exact cmpI_lt.mpr z)
      obtain ⟨h1, h2⟩ := maxT_ok h
      refine ⟨?_, fun y hy => ?_⟩
      · rw [List.map_cons] at h1 ⊢
        rcases List.mem_cons.mp h1 with e1 | h1
        · rw [e1]; exact List.mem_cons_self ..
        · exact List.mem_cons_of_mem _ (List.mem_cons_of_mem _ h1)
      · rw [List.map_cons, List.map_cons] at hy
        have := h2 _ (List.mem_cons_self ..)
        rcases List.mem_cons.mp hy with rfl | hy
        · exact this
        · rcases List.mem_cons.mp hy with rfl | hy
          · omega
          · exact h2 y (List.mem_cons_of_mem _ hy)
    · cases h
theorem minT_ok : ∀ {ns : List c.nm.T} {a m : c.nm.T}, minT a ns = some m → c.nm.val m ∈ (a :: ns).map c.nm.val ∧ ∀ y ∈ (a :: ns).map c.nm.val, c.nm.val m ≤ y
  | [], a, m, h => by cases h; simp
  | n :: r, a, m, h => by
    unfold minT at h
    split at h
    · rename_i e
      have hc := cmpI_gt.mp (c.nm.cmp_ok e)
      obtain ⟨h1, h2⟩ := minT_ok h
      refine ⟨by rw [List.map_cons]; exact List.mem_cons_of_mem _ h1, fun y hy => ?_⟩
      rw [List.map_cons] at hy
      rcases List.mem_cons.mp hy with rfl | hy
      · have := h2 _ (List.mem_cons_self ..); omega
      · exact h2 y hy
    · rename_i o hne e
      have hc : ¬ c.nm.val a > c.nm.val n := fun z => hne (by rw [← c.nm.cmp_ok e]; exact cmpI_gt.mpr z)
      obtain ⟨h1, h2⟩ := minT_ok h
      refine ⟨?_, fun y hy => ?_⟩
      · rw [List.map_cons] at h1 ⊢
        rcases List.mem_cons.mp h1 with e1 | h1
        · rw [e1]; exact List.mem_cons_self ..
        · exact List.mem_cons_of_mem _ (List.mem_cons_of_mem _ h1)
      · rw [List.map_cons, List.map_cons] at hy
        have := h2 _ (List.mem_cons_self ..)
        rcases List.mem_cons.mp hy with rfl | hy
        · exact this
        · rcases List.mem_cons.mp hy with rfl | hy
          · omega
          · exact h2 y (List.mem_cons_of_mem _ hy)
    · cases h
/-- sum(xs), xs a tuple of ints -/
def rSumT (K : PySem.W.Frag) : List V → Hp → VK → Prop := fun vs H Q => ∃ (a : Addr) (ns : List Int), vs = [V.ref a] ∧ SqT K H a (ns.map V.int) ∧ Q (.int ns.sum) H
theorem cr_sumT {X : Cx} (hc : X.calm = true) : CallR X (.builtin "sum") (rSumT X.K) := by
  intro pins s σ H vs us Q I r h
  obtain ⟨a, ns, rfl, hs, q⟩ := h
  obtain ⟨its, rv, hl, _⟩ := I.tuple hs
  rw [Vals.ref1 r]
  have hi := rv.ints
  obtain ⟨xs, hx⟩ := hi.allInts.items
  have hl : s.heap.IsTuple a its.toArray := hl
  have hn : numsOf its.toArray.toList = ns := by rw [show its.toArray.toList = its from rfl, hi.numsOf]
  rw [hx] at hl hn
  rw [nums_intItems] at hn
  refine PySem.W.ktm_sumG (I.ok.hd hc) hl fun h' tk t' hk => ?_
  rw [preSum_eq, List.take_of_length_le (by simp), hn]
  exact ⟨.int _, H, I.kept hk, ⟨_, rfl⟩, q⟩
theorem so_sum {f : Rho c → Out c (List (Tm c))} {e : Expr} {es : List Expr} {p pos : Pos} (hK : X.K = c.K) (hs : (e :: es).all plE = true) (hc : X.calm = true) (hg : Gl X "sum") (hm : X.mg "sum" = none) (h : SoB c X EW f (e :: es)) :
    SoE c X EW (fun ρ => (f ρ).bind fun tms ρ1 => match (tOs ρ1 tms).bind (one1 sumO) with | some r => .ok (.o r) ρ1 | none => .bad) (.Call (.Name "sum" p) (e :: es) [] pos) := by
  rw [List.all_cons, Bool.and_eq_true] at hs
  refine so_bf h (fun pa => pe_callB ((cr_sum hc).or (cr_sumT hc)) hg hm PyProof.Rows.Boot.«sum» pa (he := star_pl hs.1) (hpl := any_pl hs.2)) fun E ρ σ ts H Q t v x z j e3 e2 k => ?_
  obtain ⟨ds, q1, q2⟩ := Option.bind_eq_some_iff.mp e2
  obtain ⟨ns, q3, q4⟩ := Option.bind_eq_some_iff.mp q2
  obtain ⟨m, q5, q6⟩ := Option.map_eq_some_iff.mp q4
  subst q6
  obtain ⟨h1, h2, h3, G, ff, g⟩ := j
  obtain ⟨fx, rx⟩ := g.tO h1 h3 m0 e3
  have hv := sumT_ok q5
  rw [c.nm.lit_ok, Int.zero_add] at hv
  have lst : lItems x = some ds → ((fun xs H Q => rSum X.K xs H Q ∨ rSumT X.K xs H Q) [v] H Q) := fun q1 => by
    obtain ⟨pp, xs, ev, q, r0⟩ := lItems_rep g.sub rx q1
    refine .inl ⟨pp, ns.map c.nm.val, by rw [ev], by rw [← ints_rep r0 q3]; exact SqL.of q, k _ _ ?_⟩
    rw [← hv]
    exact mkPart h1 h2 h3 g (.int _)
  unfold sItems at q1
  split at q1
  · cases q1
    obtain ⟨a', xs, ev, q, r⟩ := rep_tup rx.unfr
    refine .inr ⟨a', ns.map c.nm.val, by rw [ev], by rw [hK, ← ints_rep r q3]; exact seqT_mono g.sub q, k _ _ ?_⟩
    rw [← hv]
    exact mkPart h1 h2 h3 g (.int _)
  · exact lst q1
theorem so_max {f : Rho c → Out c (List (Tm c))} {e : Expr} {es : List Expr} {p pos : Pos} (hs : (e :: es).all plE = true) (hc : X.calm = true) (hg : Gl X "max") (hm : X.mg "max" = none) (h : SoB c X EW f (e :: es)) :
    SoE c X EW (fun ρ => (f ρ).bind fun tms ρ1 => match (tOs ρ1 tms).bind (one1 maxO) with | some r => .ok (.o r) ρ1 | none => .bad) (.Call (.Name "max" p) (e :: es) [] pos) := by
  rw [List.all_cons, Bool.and_eq_true] at hs
  refine so_bf h (fun pa => pe_callB (cr_max hc) hg hm PyProof.Rows.Boot.«max» pa (he := star_pl hs.1) (hpl := any_pl hs.2)) fun E ρ σ ts H Q t v x z j e3 e2 k => ?_
  obtain ⟨ds, q1, q2⟩ := Option.bind_eq_some_iff.mp e2
  obtain ⟨ns, q3, q4⟩ := Option.bind_eq_some_iff.mp q2
  obtain ⟨m, q5, q6⟩ := Option.map_eq_some_iff.mp q4
  subst q6
  obtain ⟨h1, h2, h3, G, ff, g⟩ := j
  obtain ⟨fx, rx⟩ := g.tO h1 h3 m0 e3
  obtain ⟨pp, xs, ev, q, r0⟩ := lItems_rep g.sub rx q1
  cases ns with
  | nil => cases q5
  | cons a r =>
    obtain ⟨w1, w2⟩ := maxT_ok q5
    refine ⟨pp, (a :: r).map c.nm.val, by rw [ev], by rw [← ints_rep r0 q3]; exact SqL.of q, by simp, fun y hy hall => k _ _ ?_⟩
    have e : y = c.nm.val m := Int.le_antisymm (w2 y hy) (hall _ w1)
    rw [e]
    exact mkPart h1 h2 h3 g (.int _)
theorem so_min {f : Rho c → Out c (List (Tm c))} {e : Expr} {es : List Expr} {p pos : Pos} (hs : (e :: es).all plE = true) (hc : X.calm = true) (hg : Gl X "min") (hm : X.mg "min" = none) (h : SoB c X EW f (e :: es)) :
    SoE c X EW (fun ρ => (f ρ).bind fun tms ρ1 => match (tOs ρ1 tms).bind (one1 minO) with | some r => .ok (.o r) ρ1 | none => .bad) (.Call (.Name "min" p) (e :: es) [] pos) := by
  rw [List.all_cons, Bool.and_eq_true] at hs
  refine so_bf h (fun pa => pe_callB (cr_min hc) hg hm PyProof.Rows.Boot.«min» pa (he := star_pl hs.1) (hpl := any_pl hs.2)) fun E ρ σ ts H Q t v x z j e3 e2 k => ?_
  obtain ⟨ds, q1, q2⟩ := Option.bind_eq_some_iff.mp e2
  obtain ⟨ns, q3, q4⟩ := Option.bind_eq_some_iff.mp q2
  obtain ⟨m, q5, q6⟩ := Option.map_eq_some_iff.mp q4
  subst q6
  obtain ⟨h1, h2, h3, G, ff, g⟩ := j
  obtain ⟨fx, rx⟩ := g.tO h1 h3 m0 e3
  obtain ⟨pp, xs, ev, q, r0⟩ := lItems_rep g.sub rx q1
  cases ns with
  | nil => cases q5
  | cons a r =>
    obtain ⟨w1, w2⟩ := minT_ok q5
    refine ⟨pp, (a :: r).map c.nm.val, by rw [ev], by rw [← ints_rep r0 q3]; exact SqL.of q, by simp, fun y hy hall => k _ _ ?_⟩
    have e : y = c.nm.val m := Int.le_antisymm (hall _ w1) (w2 y hy)
    rw [e]
    exact mkPart h1 h2 h3 g (.int _)
/-! ## x, y = a, b -/
theorem par_sw {env : Env} {x y : Str} {px py pt pt2 : Pos} {kt k2 : Nat} {a b : Expr} (hb : env.scope.kind = .function) (hx : env.scope.names.lookup x = some .local) (hy : env.scope.names.lookup y = some .local) (hxy : x ≠ y) (hl : (px.line == py.line) = true)
    (h1 : plE a = true) (h2 : plE b = true) (h3 : ([a, b].all (foldedForSure 8)) = false) (h4 : ([a, b].all (constantsAlone 8)) = false) :
    swappedStores [.Tuple [.Name x px, .Name y py] kt pt] (.Tuple [a, b] k2 pt2) env = pure (some [x, y]) := by
  have e1 : env.kindOf x = some .local := hx
  have e2 : env.kindOf y = some .local := hy
  have hbk : env.blockKind = .function := by unfold Env.blockKind; rw [hb]; rfl
  have nst : ∀ e : Expr, plE e = true → ¬ ((match e with | .Starred _ _ => true | _ => false) = true) := fun e h => by
    cases e <;> first | (cases h; done) | (intro z; cases z)
  have hl' : (py.line == px.line) = true := by rw [eq_of_beq hl]; exact beq_self_eq_true _
  have hl2 : py.line = px.line := eq_of_beq hl'
  have f1 : ¬ (foldedForSure 8 a = true ∧ foldedForSure 8 b = true) := fun z => by simp [z.1, z.2] at h3
  have f2 : ¬ (constantsAlone 8 a = true ∧ constantsAlone 8 b = true) := fun z => by simp [z.1, z.2] at h4
  have hyx : ¬ y = x := fun e => hxy e.symm
  unfold swappedStores
  simp [hbk, List.filterMap_cons, List.any_cons, e1, e2, hl2, Expr.pos, List.eraseDups_cons, hyx, f1, f2]
  exact fun h => (h.elim (nst a h1) (nst b h2)).elim
theorem ss_par {pin : Bool} {i j : Nat} {x y : Str} (hij : i ≠ j) {px py pt pt2 pos : Pos} {kt k2 : Nat} {a b : Expr} {fl : Rho c → Out c (List c.O)} (hc : X.calm = true) (hN : X.N.Nodup) (hi : X.N[i]? = some x) (hj : X.N[j]? = some y)
    (hx : X.env.scope.names.lookup x = some .local) (hy : X.env.scope.names.lookup y = some .local) (hw : x ≠ y → swappedStores [.Tuple [.Name x px, .Name y py] kt pt] (.Tuple [a, b] k2 pt2) X.env = pure (some [x, y])) (hs : swapsWithSole [.Tuple [.Name x px, .Name y py] kt pt] (.Tuple [a, b] k2 pt2) pos.line X.env = pure false) (hl : SoV c X EW fl [a, b]) :
    SoS c X EW pin (fun ρ => ofOut (fl ρ) fun os ρ1 => match os with
      | [x, y] => if i ≠ j ∧ i < ρ1.length ∧ j < ρ1.length ∧ (pin && (i == 0 || j == 0)) = false then .nx ((ρ1.set j (some y)).set i (some x)) else .bad
      | _ => .bad) (.Assign [.Tuple [.Name x px, .Name y py] kt pt] (.Tuple [a, b] k2 pt2) pos) := by
  · obtain ⟨t, p, k⟩ := hl.ex
    have hxy : x ≠ y := fun e => hij (by
      have h1 := (List.getElem?_eq_some_iff.mp hi)
      have h2 := (List.getElem?_eq_some_iff.mp hj)
      obtain ⟨l1, e1⟩ := h1
      obtain ⟨l2, e2⟩ := h2
      exact (List.getElem?_inj l1 hN).mp (by rw [hi, hj, e]))
    refine ⟨_, ps_par hc hN hi hj hij hx hy p (hw hxy) hs, fun E ρ σ ts H D hp hal jj hww => k E ρ σ ts H _ jj ((WS.out hww).mono fun os ρ1 h1 vs H1 hlen j1 => ?_)⟩
    match os, vs, hlen, j1, h1 with
    | [], _, _, _, h1 => exact h1.elim
    | [_], _, _, _, h1 => exact h1.elim
    | _ :: _ :: _ :: _, _, _, _, h1 => exact h1.elim
    | [o1, o2], [v1, v2], _, j1, h1 =>
      simp only at h1
      split at h1
      · rename_i hh
        obtain ⟨_, hi', hj', hpn⟩ := hh
        refine ⟨v1, v2, rfl, ?_⟩
        have e0 : ts ++ oS [o1, o2] [v1, v2] = ts ++ [((.o o1 : Tm c), v1)] ++ [((.o o2 : Tm c), v2)] := by simp [oS]
        rw [e0] at j1
        have np : ∀ q : Nat, (q = i ∨ q = j) → E.pin = none ∨ q ≠ 0 := fun q hq => by
          rcases hp with h | h
          · exact .inl h
          · refine .inr fun e => ?_
            subst e
            rw [h] at hpn
            rcases hq with e | e <;> subst e <;> simp at hpn
        have no1 : NoSl [j] (ts ++ [((.o o1 : Tm c), v1)]) := fun q hq t ht => by
          rcases List.mem_append.mp ht with ht | ht
          · exact hal.no q hq t ht
          · rw [List.mem_singleton.mp ht]; intro z; cases z
        have j2 := j1.set hj' (np j (.inr rfl)) no1
        have j3 := j2.set (i := i) (by rw [List.length_set]; exact hi') (np i (.inl rfl)) hal.no
        have es : (σ.set j (some v2)).set i (some v1) = (σ.set i (some v1)).set j (some v2) := List.set_comm _ _ (fun e => hij e.symm)
        rw [es] at j3
        exact h1 _ H1 j3
      · exact h1.elim
end
end Y

set_option Elab.async false
set_option linter.all false
set_option maxRecDepth 100000
set_option maxHeartbeats 4000000
namespace PySem.W
open PySem PySem.Calls PyProof.Rows PySem.Spec
theorem one_bind : bindSpecial (.builtin "object.__ne__") (.ref x) = pure (.builtin "object.__ne__", [.ref x]) :=
  (Slot.of (T := "object") (name := "__ne__") (owner := "object") (n := "__ne__") (by rw [typeLookup_type, builtinLookup_eq_fast]; kernel_rfl) (by decide +kernel) (by decide +kernel) (by decide +kernel)
    (.inl (by decide +kernel)) (by rw [isSubtype_type]; kernel_rfl)).bind (.ref x)
section
variable {prog : Program} {w : World} {A A₀ : Around} {E : Value → Shared → Prop} {s : Shared} {K : Frag} {x C L f : Addr} {h₀ : Heap} {m : Str → Option Value} {ox : Obj} {od : Option Obj} {name : Str} {b tb : Value}
theorem ifSlot_ne {M : Model} {args : List Value} {Q : Option Value → Shared → Prop} (X : K.In s.heap) (I : InstAt s.heap x ox C od) (hs : findIn K (.ref C) "__ne__" = some (some (.builtin "object.__ne__")))
    (h : wpAny M A (call (.builtin "object.__ne__") (.ref x :: args)) (fun v => Q (some v)) E s) : wpAny M A (callSpecialIfBound? (.ref x) "__ne__" args) Q E s := by
  simp only [callSpecialIfBound?, bindSpecialIfBound?]
  refine wpAny_holding (wpAny_bind (wpAny_bind (wpAny_bind (I.type.here ((looks_findIn X hs).here ?_)))))
  refine wpAny_bind (wpAny_askSetting (wpAny_ite ?_))
  have fin : wpAny M A (call (.builtin "object.__ne__") ([.ref x] ++ args) >>= fun v => pure (some v)) Q E s := wpAny_bind (wpAny_mono h (fun v s' h' => wpAny_pure h') fun _ _ h' => h')
  split
  · rw [one_bind]; exact wpAny_bind (wpAny_pure (wpAny_pure (by exact fin)))
  · rw [one_bind]; exact wpAny_tryCatch (wpAny_bind (wpAny_pure (wpAny_pure (by exact fin))))
def NeBack (Q : Value → Shared → Prop) (v : Value) (s' : Shared) : Prop := ∃ r, v = .bool r ∧ Q (.bool !r) s'
theorem cmpNe_K {Q : Value → Shared → Prop} (hu : A.units + 1 < cLine) (hF : PyProof.Rows.Fr h₀ L s.heap m) (X₀ : K.In h₀) (I : InstAt s.heap x ox C od) (hb : Looks (model prog w) s.heap (typeOf b) tb) (hn : notFirst K C tb = true)
    (hne : findIn K (.ref C) "__ne__" = some (some (.builtin "object.__ne__"))) (hm : mroIn K C (.type "object") = some true) (hs : findIn K (.ref C) "__eq__" = some (some (.ref f))) (hf : isFn K (.ref f) = true)
    (h : wpAny (model prog w) A.in1 (call (.ref f) [.ref x, b]) (NeBack Q) E s) : wpAny (model prog w) A (richCompare .NotEq (.ref x) b) Q E s := by
  have X := X₀.keeps hF.keep
  have hu0 : A.units < cLine := Nat.lt_of_succ_lt hu
  have inst : Looks (model prog w) s.heap (isInstance (.ref x) (.type "object")) true := I.type.andThen (looks_mroIn X hm)
  have body : wpAny (model prog w) A.in1 (Builtin.«object.__ne__» ⟨[.ref x, b], []⟩) (fun fin s' => match fin with | .done f => (wants (fun v s' => ∃ r, v = .bool r ∧ Q v s') E) (.ok f) s' | .again c' => c'.quiet = true ∧ codeAny (model prog w) A c' (wants (fun v s' => ∃ r, v = .bool r ∧ Q v s') E) s') (fun e s' => wants (fun v s' => ∃ r, v = .bool r ∧ Q v s') E (.error e) s') s := by
    unfold Builtin.«object.__ne__»
    have t1 : wpAny (model prog w) A.in1 (callSpecialIfBound? (.ref x) "__eq__" [b]) (fun r s' => ∃ r', r = some (.bool r') ∧ Q (.bool !r') s') E s := ifBound_K X I hs hf (wpAny_mono h (fun v s' ⟨r, e, q⟩ => by subst e; exact ⟨r, rfl, q⟩) fun _ _ e => e)
    repeat (first | with_reducible refine wpAny_cRoomFor hu ?_ | with_reducible refine wpAny_bind (wpAny_mono t1 (fun r s' z => ?_) fun _ _ e => e) | wp_step)
    obtain ⟨r', rfl, q⟩ := z
    repeat wp_step
    exact ⟨_, rfl, q⟩
  have one : wpAny (model prog w) A (tryCompare (.ref x) "__ne__" b) (fun r s' => ∃ v, r = some v ∧ Q v s') E s := by
    unfold tryCompare
    refine wpAny_bind (ifSlot_ne X I hne (wpAny_mono (wpAny_call (codeAny_call_builtin (by kernel_rfl) PySem.F.cmpEntry_ne (check_slot PySem.F.cmpKind_ne PySem.F.cmpSplit_ne inst (PySem.F.cmpArgs_ne _ _) body))) (fun v s' hv => ?_) fun _ _ e => e))
    obtain ⟨r, rfl, q⟩ := hv
    exact wpAny_pure ⟨_, rfl, q⟩
  unfold richCompare
  simp only [oneThing_ref]
  refine wpAny_holding (wpAny_bind (wpAny_cRoomFor hu0 ?_))
  refine wpAny_bind (I.type.here (wpAny_bind (hb.here ?_)))
  split
  · rename_i q
    have e : subIn K tb (.ref C) = some false := by
      rcases Bool.or_eq_true_iff.mp hn with e | e
      · rw [beq_iff_eq.mp e] at q; simp at q
      · exact beq_iff_eq.mp e
    refine wpAny_bind ((looks_subIn X e).here ?_)
    simp only [Bool.false_eq_true, if_false]
    refine wpAny_bind (wpAny_mono one (fun r s' z => ?_) fun _ _ e => e)
    obtain ⟨v, rfl, hq⟩ := z
    exact wpAny_pure hq
  · refine wpAny_bind (wpAny_pure ?_)
    simp only [Bool.false_eq_true, if_false]
    refine wpAny_bind (wpAny_mono one (fun r s' z => ?_) fun _ _ e => e)
    obtain ⟨v, rfl, hq⟩ := z
    exact wpAny_pure hq
end
end PySem.W

namespace Y
open PySem PySem.Spec PyProof.Rows L2
def tyL : List String := ["NoneType", "bool", "int", "str", "tuple", "list"]
/-- what isinstance asks of the own classes -/
structure InsK (c : Cf) (n : Nat) : Prop where
  own : ∀ j, j < n → Cls c.K (c.cls j) ∧ PySem.W.findIn c.K (.ref (c.cls j)) "__class__" = some (some (.builtin "object.__class__")) ∧ PySem.W.specialIn c.K (.builtin "object.__class__") "__get__" = some (some (.builtin "getset_descriptor.__get__")) ∧
    PySem.W.takesIn c.K (.builtin "object.__class__") = some true ∧ PySem.W.mroIn c.K (c.cls j) (.type "object") = some true
  kit : ∀ j k, j < n → k < n → PySem.W.kitOne c.K (.ref (c.cls j)) (.ref (c.cls k)) = some (j == k)
  ty : ∀ k, k < n → ∀ t ∈ tyL, PySem.W.kitOne c.K (.type t) (.ref (c.cls k)) = some false
section
variable {c : Cf} {X : Cx} {EW : XK} {E : Ent} {ρ : Rho c} {σ : L2.St} {ts us : Stk c} {H : Hp} {x : c.O} {v : V}
theorem ty_ok {n k : Nat} {d : c.D} {b : Bool} (hI : InsK c n) (r : Rep c H v d) (h : iscO n k d = some b) : ∃ t, TyX c.K H v t ∧ ((∃ z ∈ tyL, t = .type z ∧ b = false) ∨ ∃ j, j < n ∧ t = .ref (c.cls j) ∧ b = (j == k)) := by
  cases r with
  | non => cases h; exact ⟨_, .base .non, .inl ⟨_, by decide, rfl, rfl⟩⟩
  | bl b => cases h; exact ⟨_, .base (.bl _), .inl ⟨_, by decide, rfl, rfl⟩⟩
  | int n => cases h; exact ⟨_, .base (.int _), .inl ⟨_, by decide, rfl, rfl⟩⟩
  | str n => cases h; exact ⟨_, .base (.str _), .inl ⟨_, by decide, rfl, rfl⟩⟩
  | lst s r => cases h; exact ⟨_, .base (.lst s), .inl ⟨_, by decide, rfl, rfl⟩⟩
  | scr s r => cases h
  | dct s r1 r2 => cases h
  | @obj a dx fs j ds s e r =>
    have h : (if j < n then some (j == k) else none) = some b := h
    split at h
    · rename_i hj
      cases h
      obtain ⟨q1, q2, q3, q4, q5⟩ := hI.own _ hj
      exact ⟨_, .base (.ins s q1 q2 q3 q4 q5), .inr ⟨_, hj, rfl, rfl⟩⟩
    · cases h
  | @tup a xs ds s r =>
    have ty : TyX c.K H (.ref a) (.type "tuple") := by
      rcases s with (s | ⟨o, s⟩) | ⟨o, its, n, hk, hc, _⟩
      · exact .base (.tup s)
      · exact .fTuple s
      · exact .kTuple hk hc
    cases h
    exact ⟨_, ty, .inl ⟨_, by decide, rfl, rfl⟩⟩
theorem so_isc {n k : Nat} {fa : Rho c → Out c (Tm c)} {a : Expr} {p p2 pos : Pos} {nm : Str} (hI : InsK c n) (hk : k < n) (hpl : plE a = true) (hK : X.K = c.K) (hg : Gl X "isinstance") (hm : X.mg "isinstance" = none) (hg2 : Gl X nm) (hm2 : X.mg nm = some (.ref (c.cls k))) (hdb : (nm == ("__debug__" : Str)) = false) (ha : SoE c X EW fa a) :
    SoE c X EW (unS (fun x => (iscO n k x.d).map fun b => .fr (.bl b)) fa) (.Call (.Name "isinstance" p) [a, .Name nm p2] [] pos) := by
  obtain ⟨t, pe, kk⟩ := ha.ex
  have pt : PE X (.Name nm p2) (tC (.ref (c.cls k))) := pe_glob hg2 hm2 (v := .ref (c.cls k)) rfl hdb
  refine ⟨_, pe_callB call_isi hg hm (by decide +kernel) (pa_cons pe (pa_cons pt pa_nil) (star_pl hpl)) (he := star_pl hpl), fun E ρ σ ts H Q j hw => kk E ρ σ ts H _ j ((Wt.bind hw).mono fun t1 ρ1 h1 v1 H1 j1 => ?_)⟩
  cases e1 : tO ρ1 t1 with
  | none => simp only [e1] at h1; exact h1.elim
  | some x =>
    cases e2 : iscO n k x.d with
    | none => simp only [e1, e2] at h1; exact h1.elim
    | some b =>
      simp only [e1, e2] at h1
      obtain ⟨tt, h2, h3⟩ := ty_ok hI (j1.tD m0 (tD_of e1)) e2
      refine ⟨v1, .ref (c.cls k), tt, .ref (c.cls k), b, rfl, .own _, by rw [hK]; exact h2, ?_, h1 _ _ (j1.at fun G => .bl _)⟩
      rw [hK]
      rcases h3 with ⟨z, hz, rfl, rfl⟩ | ⟨j, hj, rfl, rfl⟩
      · exact hI.ty k hk z hz
      · exact hI.kit j k hj hk
/-! ### an own == -/
structure EqF (c : Cf) (n C : Nat) (f : Addr) : Prop where
  eq : PySem.W.findIn c.K (.ref (c.cls C)) "__eq__" = some (some (.ref f))
  fn : PySem.W.isFn c.K (.ref f) = true
  ne : PySem.W.findIn c.K (.ref (c.cls C)) "__ne__" = some (some (.builtin "object.__ne__"))
  top : PySem.W.mroIn c.K (c.cls C) (.type "object") = some true
  nf : (∀ t ∈ tyL, PySem.W.notFirst c.K (c.cls C) (.type t) = true) ∧ ∀ j, j < n → PySem.W.notFirst c.K (c.cls C) (.ref (c.cls j)) = true
def rOwn (X : Cx) (ne : Bool) (kr : Nat) : R2 := fun x y H Q => ∃ (a dx C f : Addr) (fs : List (Str × V)) (fd : FuncData) (ps : List Str) (sp : Sp) (t : Value), x = .ref a ∧ H a = some (.ins C dx fs) ∧ TyX X.K H y t ∧ PySem.W.notFirst X.K C t = true ∧
  PySem.W.findIn X.K (.ref C) "__eq__" = some (some (.ref f)) ∧ PySem.W.isFn X.K (.ref f) = true ∧ PySem.W.findIn X.K (.ref C) "__ne__" = some (some (.builtin "object.__ne__")) ∧ PySem.W.mroIn X.K C (.type "object") = some true ∧
  FnOk X.prog X.w X.K X.mg X.base (L2.CX X.prog X.w) kr f fd ps sp ∧ L2.Binds X.K fd ps [] ∧ sp [.ref a, y] H (fun v H' => ∃ b, v = .bl b ∧ Q (.bl (if ne then !b else b)) H') E0
theorem run_own {kr : Nat} {A : Around} {pins : List (Addr × Obj)} {s : Shared} {Q : Bool → Hp → Prop} {f a : Addr} {y : V} {u : Value} {fd : FuncData} {ps : List Str} {sp : Sp} (hr : Room kr A) (hfr : A.frames = X.A.frames) (I : Inv X pins σ H s) (F : FnOk X.prog X.w X.K X.mg X.base (L2.CX X.prog X.w) kr f fd ps sp) (hb : L2.Binds X.K fd ps [])
    (ry : RelV y u) (h : sp [.ref a, y] H (fun v H' => ∃ b, v = .bl b ∧ Q b H') E0) : wpAny (model X.prog X.w) A (call (.ref f) [.ref a, u]) (fun r s' => ∃ b, r = .bool b ∧ ∃ H', Inv X pins σ H' s' ∧ Q b H') X.xe s := by
  have e0 : Env0 X.prog X.w X.K X.mg X.base A X.stack s H := by
    have e := I.env0
    exact ⟨by rw [hfr]; exact e.frames, e.mod, e.bs, e.bsz, e.funs, e.frf, e.hok, e.bare⟩
  have hl := F.len _ _ _ _ h
  have r2 : Vals [V.ref a, y] [Value.ref a, u] := .cons rfl (.cons ry .nil)
  refine wpAny_call (codeAny_mono (F.run A X.stack s H ⟨[.ref a, u], []⟩ [.ref a, u] [.ref a, y] _ E0 hr e0 (by
    have := hb s [.ref a, u] I.kIn (by simpa using hl)
    simpa using this) r2 h) fun r s' hq => ?_)
  cases r with
  | error e => exact False.elim (passL (X := X.nox) pins σ H s e s' (I.wish _) hq)
  | ok fl =>
    cases fl with
    | ret w =>
      obtain ⟨z, H', I', rz, b, ez, q⟩ := I.after hq
      subst ez
      cases rz
      exact ⟨b, rfl, H', I', q⟩
    | next => exact False.elim hq
    | brk => exact False.elim hq
    | cont => exact False.elim hq
theorem op_own {kr : Nat} (ne : Bool) (hr : Room (kr + 1) X.A) : OpR X (compareOp (if ne then .NotEq else .Eq)) (rOwn X ne kr) := by
  intro pins s σ H x y v u Q I rx ry hq
  obtain ⟨a, dx, C, f, fs, fd, ps, sp, t, rfl, ha, ty, hn, e1, e2, e3, e4, F, hb, h⟩ := hq
  cases rx
  obtain ⟨mA, J, _⟩ := ins_get I.hok ha
  obtain ⟨od, J, _⟩ := J.look
  obtain ⟨m, hF⟩ := I.fr
  obtain ⟨P, Z, p, _⟩ := kit_of I ry ty
  have hty := Z.ty (model X.prog X.w) s.heap I.kIn p
  cases ne with
  | false =>
    show wpAny (model X.prog X.w) X.A (richCompare .Eq (.ref a) u) (EP X pins σ Q) X.xe s
    refine PySem.W.cmp_K (op := .Eq) hr.units0 hF I.ok.mod.kin J hty hn e1 e2 (wpAny_mono (run_own (A := X.A) (Q := fun b H' => Q (.bl b) H') (hr.mono (Nat.le_succ _)) rfl I F hb ry h) (fun r s' z => ?_) fun _ _ x => x)
    obtain ⟨b, rfl, H', I', q⟩ := z
    exact ⟨.bl b, H', I', rfl, q⟩
  | true =>
    show wpAny (model X.prog X.w) X.A (richCompare .NotEq (.ref a) u) (EP X pins σ Q) X.xe s
    refine PySem.W.cmpNe_K (by have := hr.un; omega) hF I.ok.mod.kin J hty hn e3 e4 e1 e2 (wpAny_mono (run_own (A := X.A.in1) (Q := fun b H' => Q (.bl (!b)) H') hr.in1 rfl I F hb ry h) (fun r s' z => ?_) fun _ _ x => x)
    obtain ⟨b, rfl, H', I', q⟩ := z
    exact ⟨b, rfl, .bl (!b), H', I', rfl, q⟩
end
end Y

set_option Elab.async false
set_option linter.all false
set_option maxRecDepth 100000
set_option maxHeartbeats 4000000
namespace Y
open PySem PySem.Spec PyProof.Rows L2
section
variable {c : Cf} {X : Cx} {EW : XK} {E : Ent} {ρ : Rho c} {σ : L2.St} {ts us : Stk c} {H : Hp} {x : c.O} {v : V}
structure OeqOk (c : Cf) (X : Cx) (kr n : Nat) (mt : Nat → Option (Option c.O → List c.D → FO c)) : Prop where
  ins : InsK c n
  ok : ∀ k F, mt k = some F → ∃ (f : Addr) (fd : FuncData) (ps : List Str), EqF c n k f ∧ FnOk X.prog X.w X.K X.mg X.base (L2.CX X.prog X.w) kr f fd ps (spF c false F) ∧ L2.Binds X.K fd ps []
  room : Room (kr + 1) X.A
theorem kOf_d {k : Nat} {t : Tm c} (h : kOf ρ t = some k) : ∃ x ds, tO ρ t = some x ∧ x.d = .obj k ds := by
  unfold kOf at h
  split at h
  · rename_i kk ds e
    cases h
    obtain ⟨x, e1, e2⟩ := Option.map_eq_some_iff.mp e
    exact ⟨x, ds, e1, e2⟩
  · cases h
theorem oeq_ex {kr n : Nat} {ne : Bool} {mt : Nat → Option (Option c.O → List c.D → FO c)} {fa fb : Rho c → Out c (Tm c)} {a b : Expr} (hK : X.K = c.K) (h : OeqOk c X kr n mt) (ha : SoE c X EW fa a) (hb : SoE c X EW fb b) :
    ∃ ta tb : TE, PE X a ta ∧ PE X b tb ∧ ∀ (E : Ent) (ρ : Rho c) (σ : L2.St) (ts : Stk c) (H : Hp) (Q : VK), J c E ρ σ ts H → Wt c E EW (fun tm ρ' => ∀ v H', J c E ρ' σ (ts ++ [(tm, v)]) H' → Q v H') (oeqS n mt ne fa fb ρ) → tOp (rOwn X ne kr) ta tb σ H Q := by
  obtain ⟨ta, pa, ka⟩ := ag_so ha
  obtain ⟨tb, pb, kb⟩ := ag_so hb
  refine ⟨ta, tb, pa, pb, fun E ρ σ ts H Q j hw => ?_⟩
  refine ka E ρ σ ts H _ j ((Wt.bind hw).mono fun t0 ρ1 h1 v0 H1 j1 hf0 => ?_)
  refine kb E ρ1 σ _ H1 _ j1 ((Wt.bind h1).mono fun t1 ρ2 h2 v1 H2 j2 hf1 => ?_)
  cases ek : kOf ρ2 t0 with
  | none => simp only [ek] at h2; exact h2.elim
  | some k =>
    cases em : mt k with
    | none => simp only [ek, em] at h2; exact h2.elim
    | some F =>
      cases ei : (tO ρ2 t1).bind fun x => iscO n 0 x.d with
      | none => simp only [ek, em, ei] at h2; exact h2.elim
      | some b0 =>
        simp only [ek, em, ei] at h2
        obtain ⟨x1, e1, e2⟩ := Option.bind_eq_some_iff.mp ei
        have j2c := j2
        rw [List.append_assoc] at j2c
        obtain ⟨ad, dx, fs, nn, rfl, hx, _⟩ := kOf_rep (ts := ts) (v := v0) (t := t0) (by
          have := j2.cut
          exact this) ek
        have ry := j2.tD m0 (tD_of e1)
        obtain ⟨tt, ty, hh⟩ := ty_ok h.ins ry e2
        obtain ⟨f, fd, ps, EF, FO, hbn⟩ := h.ok k F em
        refine ⟨ad, dx, _, f, fs, fd, ps, _, tt, rfl, hx, by rw [hK]; exact ty, ?_, by rw [hK]; exact EF.eq, by rw [hK]; exact EF.fn, by rw [hK]; exact EF.ne, by rw [hK]; exact EF.top, FO, hbn, ?_⟩
        · rw [hK]
          rcases hh with ⟨z, hz, rfl, _⟩ | ⟨q, hq, rfl, _⟩
          · exact EF.nf.1 z hz
          · exact EF.nf.2 q hq
        · have j3 : J c E ρ2 σ (ts ++ [t0, t1].zip [V.ref ad, v1]) H2 := j2c
          show spF c false F (pick ([V.ref ad, v1] ++ []) [0, 1]) H2 _ E0
          unfold cpC at h2
          cases e5 : (datas ρ2 [t0, t1]).bind (fun ds => permute (ds ++ []) [0, 1]) with
          | none => rw [e5] at h2; exact h2.elim
          | some ds =>
            rw [e5] at h2
            refine call_pure (EW := E0) (tms := [t0, t1]) (vs := [.ref ad, v1]) (dvs := []) (dfl := []) (fun G => .nil) rfl j3 (fun t ht x ex => by
              rcases List.mem_cons.mp ht with rfl | ht
              · exact hf0 x ex
              · rw [List.mem_singleton] at ht; subst ht; exact hf1 x ex) e5 ?_
            cases hF : F none ds with
            | bad => simp only [hF] at h2; exact h2.elim
            | exc n fs => simp only [hF] at h2; exact h2.elim
            | ok r io =>
              simp only [hF] at h2
              cases io with
              | some _ => exact h2.elim
              | none =>
                have fin : ∀ (b : Bool) (ρ3 : Rho c), Wt c E EW (fun tm ρ' => ∀ v H', J c E ρ' σ (ts ++ [(tm, v)]) H' → Q v H') (.ok (.o (.fr (.bl (if ne then !b else b)))) ρ3) → Wt c E E0 (fun tm ρ' => ∀ v H', J c E ρ' σ (ts ++ [(tm, v)]) H' → ∃ b, v = .bl b ∧ Q (.bl (if ne then !b else b)) H') (.ok (.o (.fr (.bl b))) ρ3) := fun b ρ3 q v H' jj => by
                  obtain ⟨G, f, s, r⟩ := jj.tO (tm := .o (.fr (.bl b))) m0 rfl
                  exact ⟨b, rep_bl r.unfr, q _ _ (jj.cut.atom fun G => .bl _)⟩
                by_cases hat : atomO r = true
                · simp only [hat, if_true] at h2 ⊢
                  split at h2
                  · rename_i b' ρ3 e6
                    cases e6
                    exact fin _ _ h2
                  · exact h2.elim
                · simp only [hat] at h2 ⊢
                  split at h2
                  · rename_i b' ρ3 e6
                    cases e6
                    exact absurd rfl hat
                  · exact h2.elim
theorem so_oeq {kr n : Nat} {ne : Bool} {mt : Nat → Option (Option c.O → List c.D → FO c)} {fa fb : Rho c → Out c (Tm c)} {a b : Expr} {pos : Pos} (hK : X.K = c.K) (h : OeqOk c X kr n mt) (ha : SoE c X EW fa a) (hb : SoE c X EW fb b) :
    SoE c X EW (oeqS n mt ne fa fb) (.Compare a [if ne then .NotEq else .Eq] [b] pos) := by
  obtain ⟨ta, tb, pa, pb, k⟩ := oeq_ex (ne := ne) hK h ha hb
  exact ⟨_, pe_cmpR (op_own ne h.room) pa pb (by cases ne <;> exact nomark _), k⟩
theorem so_oeqT {kr n : Nat} {ne : Bool} {mt : Nat → Option (Option c.O → List c.D → FO c)} {fa fb : Rho c → Out c (Tm c)} {a b : Expr} {pos : Pos} (hK : X.K = c.K) (h : OeqOk c X kr n mt) (ha : SoE c X EW fa a) (hb : SoE c X EW fb b) :
    SoT c X EW (tstS (oeqS n mt ne fa fb)) (.Compare a [if ne then .NotEq else .Eq] [b] pos) := by
  obtain ⟨ta, tb, pa, pb, k⟩ := oeq_ex (ne := ne) hK h ha hb
  refine ⟨_, pt_cmpR (op_own ne h.room) pa pb (by cases ne <;> exact nomark _), fun E ρ σ ts H Q j hw => ?_⟩
  refine k E ρ σ ts H (fun v H' => ∃ b, v = .bl b ∧ Q b H') j ((Wt.bind hw).mono fun t1 ρ1 h1 v1 H1 j1 => ?_)
  cases e1 : (tO ρ1 t1).bind boolO with
  | none => simp only [e1] at h1; exact h1.elim
  | some b =>
    simp only [e1] at h1
    obtain ⟨x, e2, e3⟩ := Option.bind_eq_some_iff.mp e1
    unfold boolO at e3
    split at e3
    · cases e3
      obtain ⟨G, f, s, r⟩ := j1.tO m0 e2
      exact ⟨b, rep_bl r.unfr, h1 H1 j1.cut⟩
    · cases e3
end
end Y

set_option Elab.async false
set_option linter.all false
set_option maxRecDepth 100000
set_option maxHeartbeats 4000000
namespace Y
open PySem PySem.Spec PyProof.Rows L2 RZ
/-! ## comprehensions of two clauses; the inner one walks what needs no place of its own -/
section
variable {c : Cf} {X : Cx}
theorem wipe_sub {σ : L2.St} {a b : List Nat} (h : ∀ i ∈ a, i ∈ b) : wipe (wipe σ a) b = wipe σ b := by
  apply List.ext_getElem?
  intro i
  by_cases hi : i ∈ b
  · rw [wipe_in hi, wipe_in hi, wipe_length]
  · rw [wipe_outS hi, wipe_outS hi, wipe_outS fun z => hi (h i z)]
/-- what is asked of a clause's store -/
def PStore (c : Cf) (pin : Bool) (S : List Nat) (gg : c.O → Rho c → Option (Rho c)) (g : TG) : Prop := ∀ (E : Ent) (ρ ρ' : Rho c) (σ : L2.St) (ts : Stk c) (H : Hp) (Q : L2.St → Hp → Prop) (o : c.O) (v : V), (E.pin = none ∨ pin = true ∨ 0 ∉ S) → NoSl S ts → J c E ρ σ (ts ++ [(.o o, v)]) H → gg o ρ = some ρ' →
      (∀ σ', J c E ρ' σ' ts H → (∀ own, (∀ i ∈ S, i ∈ own) → wipe σ' own = wipe σ own) → Q σ' H) → g v σ H Q
def PTest (c : Cf) (ft : Rho c → Out c Bool) (t : TT) : Prop := ∀ (E : Ent) (ρ : Rho c) (σ : L2.St) (ts : Stk c) (H : Hp) (Q : Bool → Hp → Prop), J c E ρ σ ts H → Wt c E (fun _ _ _ => False) (fun b ρ' => ∀ H', J c E ρ' σ ts H' → Q b H') (ft ρ) → t σ H Q
def PElt (c : Cf) (fe : Rho c → Out c (Tm c)) (t : TE) : Prop := ∀ (E : Ent) (ρ : Rho c) (σ : L2.St) (ts : Stk c) (H : Hp) (Q : VK), J c E ρ σ ts H → Wt c E (fun _ _ _ => False) (fun d ρ' => ∀ v H', J c E ρ' σ (ts ++ [(.o (.fr d), v)]) H' → Q v H') (frS fe ρ) → t σ H Q
def PIn (c : Cf) (fi : Rho c → Out c (List c.D)) (w : TI) : Prop := ∀ (E : Ent) (ρ : Rho c) (σ : L2.St) (ts : Stk c) (H : Hp) (R : It → Hp → Prop), J c E ρ σ ts H → Wt c E (fun _ _ _ => False) (fun ds ρ' => ∀ I H', J c E ρ' σ ts H' → ItOk c I [] ds → R I H') (fi ρ) → w σ H R
theorem in_loop {pin : Bool} {E : Ent} {gg : c.O → Rho c → Option (Rho c)} {ft : Rho c → Out c Bool} {fe : Rho c → Out c (Tm c)} {S ow : List Nat} {g : TG} {tt : TT} {te : TE} (kg : PStore c pin S gg g) (hS : ∀ i ∈ S, i ∈ ow) (kt : PTest c ft tt) (ke : PElt c fe te)
    {I : It} {ds acc0 accF : List c.D} {ρ0 ρF : Rho c} {σ : L2.St} {ts : Stk c} {H0 : Hp} {D : Addr} {Nx : Hp → Prop} (hns : ∀ i ∈ ow, ∀ t ∈ ts, t.1 ≠ .sl i) (hpz : E.pin = none ∨ 0 ∉ ow) (hpz2 : E.pin = none ∨ 0 ∉ S) (hit : ItOk c I [] ds)
    (j0 : J c E ρ0 (wipe σ ow) (ts ++ [(.o (.lst (acc0.map .fr)), .ref D)]) H0) (hcs : compS ow gg ft fe ds acc0 ρ0 = .ok accF ρF)
    (hN : ∀ H, J c E ρF (wipe σ ow) (ts ++ [(.o (.lst (accF.map .fr)), .ref D)]) H → Nx H) :
    ∃ W1 : Nat → Nat → Hp → Prop, (∃ m, W1 0 m H0) ∧ ∀ j k H, W1 j k H →
      (I.stop j H ∧ Nx H) ∨ (I.go j H ∧ ∃ Nx1 : Hp → Prop, (∀ H', Nx1 H' → ∃ k', k' < k ∧ W1 (j + 1) k' H') ∧ ∀ x H', I.yld j H x H' → g x (wipe σ ow) H' fun σ3 H5 => wipe σ3 ow = wipe σ ow ∧ tt σ3 H5 fun b H6 =>
        if b = true then te σ3 H6 fun y H7 => ∃ acc, H7 D = some (.lst acc) ∧ acc.length < sizeLine ∧ Nx1 (upd H7 D (.lst (acc ++ [y]))) else Nx1 H6) := by
  refine ⟨fun i m H => m = ds.length - i ∧ i ≤ ds.length ∧ ∃ acc ρ', J c E ρ' (wipe σ ow) (ts ++ [(.o (.lst (acc.map .fr)), .ref D)]) H ∧ compS ow gg ft fe (ds.drop i) acc ρ' = .ok accF ρF,
    ⟨ds.length, by simp, Nat.zero_le _, acc0, ρ0, j0, hcs⟩, ?_⟩
  rintro i m H' ⟨rfl, hle, acc, ρ', jj, hcomp⟩
  have hit2 := hit E ρ' (wipe σ ow) ts [(.o (.lst (acc.map .fr)), .ref D)] H' (by simpa using jj)
  simp only [List.append_nil] at hit2
  obtain ⟨hgo, hst⟩ := hit2
  by_cases hlt : i < ds.length
  · refine .inr ⟨(hgo i hlt).1, fun H2 => ∃ acc ρ2, J c E ρ2 (wipe σ ow) (ts ++ [(.o (.lst (acc.map .fr)), .ref D)]) H2 ∧ compS ow gg ft fe (ds.drop (i + 1)) acc ρ2 = .ok accF ρF,
      fun H2 ⟨acc, ρ2, a1, a3⟩ => ⟨ds.length - (i + 1), by omega, rfl, hlt, acc, ρ2, a1, a3⟩, fun x H2 hy => ?_⟩
    obtain ⟨d, hd, jd⟩ := (hgo i hlt).2 x H2 hy
    have edrop : ds.drop i = d :: ds.drop (i + 1) := by
      rw [List.drop_eq_getElem_cons hlt]
      congr 1
      rw [List.getElem?_eq_getElem hlt] at hd
      exact Option.some.inj hd
    rw [edrop] at hcomp
    unfold compS at hcomp
    cases hg1 : gg (.fr d) ρ' with
    | none => rw [hg1] at hcomp; cases hcomp
    | some ρa =>
      rw [hg1] at hcomp
      simp only at hcomp
      have hnsD : ∀ i ∈ ow, ∀ t ∈ ts ++ [((Tm.o (OT.lst (acc.map .fr)) : Tm c), V.ref D)], t.1 ≠ .sl i := fun k hk t ht => by
        rcases List.mem_append.mp ht with ht | ht
        · exact hns k hk t ht
        · rw [List.mem_singleton.mp ht]; intro z; cases z
      refine kg E ρ' ρa (wipe σ ow) _ _ _ (.fr d) x (hpz2.imp id fun z => .inr z) (fun k hk => hnsD k (hS k hk)) jd hg1 fun σ' jg hww => ?_
      have hwip : wipe σ' ow = wipe σ ow := by
        rw [hww ow hS, wipe_idem]
      refine ⟨hwip, ?_⟩
      cases hft : ft ρa with
      | bad => rw [hft] at hcomp; cases hcomp
      | exc n fs => rw [hft] at hcomp; cases hcomp
      | ok b ρ2 =>
        rw [hft] at hcomp
        refine kt E ρa σ' _ _ _ jg ?_
        rw [hft]
        show ∀ H3, J c E ρ2 σ' _ H3 → _
        intro H3 j3
        cases b with
        | false =>
          rw [if_neg (by simp)]
          refine ⟨acc, wipeR ρ2 ow, ?_, hcomp⟩
          have := j3.wipe1 hnsD hpz
          rw [hwip] at this
          exact this
        | true =>
          rw [if_pos rfl]
          simp only at hcomp
          cases hfe : frS fe ρ2 with
          | bad => rw [hfe] at hcomp; cases hcomp
          | exc n fs => rw [hfe] at hcomp; cases hcomp
          | ok d2 ρ3 =>
            rw [hfe] at hcomp
            simp only at hcomp
            split at hcomp
            · cases hcomp
            · rename_i hlen
              refine ke E ρ2 σ' _ _ _ j3 ?_
              rw [hfe]
              show ∀ v H4, J c E ρ3 σ' _ H4 → _
              intro y H4 j4
              rw [List.append_assoc] at j4
              obtain ⟨xs, hx, hxl, j5⟩ := J.appTop j4
              have l6 : 1000000 < sizeLine := by rw [sizeLine_eq]; decide
              refine ⟨xs, hx, by rw [hxl]; omega, acc ++ [d2], wipeR ρ3 ow, ?_, hcomp⟩
              have := j5.wipe1 (own := ow) (fun k hk t ht => by
                rcases List.mem_append.mp ht with ht | ht
                · exact hns k hk t ht
                · rw [List.mem_singleton.mp ht]; intro z; cases z) hpz
              rw [hwip] at this
              exact this
  · refine .inl ⟨hst i (by omega), hN _ ?_⟩
    rw [List.drop_eq_nil_of_le (by omega)] at hcomp
    unfold compS at hcomp
    cases hcomp
    exact jj
theorem so_comp2 {EW : XK} {pin : Bool} {fi fi1 : Rho c → Out c (List c.D)} {gg gg1 : c.O → Rho c → Option (Rho c)} {ft ft1 : Rho c → Out c Bool} {fe : Rho c → Out c (Tm c)} {S S1 : List Nat} {elt tg iter tg1 iter1 : Expr} {ifs ifs1 : List Expr} {scope : Scope} {own : List (Str × Nat)} {ow1 : List Nat} {pos : Pos}
    (hc : X.calm = true) (hN : X.N.Nodup) (hset : notSet iter = true) (hset1 : notSet iter1 = true) (ok : BlkOk X.N X.env.scope scope own)
    (hi : SoI c X EW fi tg iter)
    (hg : ∃ g : TG, (∀ (s : Shared) (H : Hp) (C : Addr) (cl : List (Str × Addr)) (fp : List Addr), PG (X.blk s H scope (compEnvC scope cl C X.env) fp) tg g) ∧ PStore c pin S gg g)
    (hS : ∀ i ∈ S, i ∈ own.map (·.2)) (hS1 : ∀ i ∈ S1, i ∈ ow1) (hO : ∀ i ∈ ow1, i ∈ own.map (·.2))
    (ht : ∃ t : TT, (∀ (s : Shared) (H : Hp) (C : Addr) (cl : List (Str × Addr)) (fp : List Addr), PTs (X.blk s H scope (compEnvC scope cl C X.env) fp) ifs t) ∧ PTest c ft t)
    (hi1 : ∃ w : TI, (∀ (s : Shared) (H : Hp) (C : Addr) (cl : List (Str × Addr)) (fp : List Addr), PI (X.blk s H scope (compEnvC scope cl C X.env) fp) tg1 iter1 w) ∧ PIn c fi1 w)
    (hg1 : ∃ g : TG, (∀ (s : Shared) (H : Hp) (C : Addr) (cl : List (Str × Addr)) (fp : List Addr), PG (X.blk s H scope (compEnvC scope cl C X.env) fp) tg1 g) ∧ PStore c pin S1 gg1 g)
    (ht1 : ∃ t : TT, (∀ (s : Shared) (H : Hp) (C : Addr) (cl : List (Str × Addr)) (fp : List Addr), PTs (X.blk s H scope (compEnvC scope cl C X.env) fp) ifs1 t) ∧ PTest c ft1 t)
    (he : ∃ t : TE, (∀ (s : Shared) (H : Hp) (C : Addr) (cl : List (Str × Addr)) (fp : List Addr), PE (X.blk s H scope (compEnvC scope cl C X.env) fp) elt t) ∧ PElt c fe t) :
    SoE c X EW (fun ρ => (fi ρ).bind fun ds ρ1 => if (own.map (·.2)).any fun k => ((ρ1[k]?).join).isSome || k == 0 then .bad else match compS2 (own.map (·.2)) ow1 gg ft fi1 gg1 ft1 fe ds [] (wipeR ρ1 (own.map (·.2))) with | .ok acc ρ2 => .ok (.o (.lst (acc.map .fr))) ρ2 | _ => .bad)
      (.ListComp elt [⟨tg, iter, ifs, 0⟩, ⟨tg1, iter1, ifs1, 0⟩] scope pos) := by
  obtain ⟨wi, pi, ki⟩ := hi.ex
  obtain ⟨tg', pg, kg⟩ := hg
  obtain ⟨tt, pt, kt⟩ := ht
  obtain ⟨wi1, pi1, ki1⟩ := hi1
  obtain ⟨tg1', pg1, kg1⟩ := hg1
  obtain ⟨tt1, pt1, kt1⟩ := ht1
  obtain ⟨te, pe, ke⟩ := he
  refine ⟨_, pe_lc2 hc hN pi ok hO pg pt pi1 pg1 pt1 pe (fold_pl hset) (fun env => fold_pl hset1), fun E ρ σ ts H Q j hw => ki E ρ σ ts H _ j ((Wt.bind hw).mono fun ds ρ1 h1 I H1 us j1 hus hit D hD => ?_)⟩
  generalize hown : own.map (·.2) = ow at h1 hS hO ⊢
  split at h1
  · exact h1.elim
  · rename_i hno
    have hno' : ∀ k ∈ ow, (ρ1[k]?).join = none ∧ ¬ (k = 0) := fun k hk => by
      have := fun z => hno (List.any_eq_true.mpr ⟨k, hk, z⟩)
      simp only [Bool.or_eq_true, beq_iff_eq] at this
      refine ⟨?_, fun z => this (.inr z)⟩
      cases e : (ρ1[k]?).join with
      | none => rfl
      | some o => exact (this (.inl (by rw [e]; rfl))).elim
    have hpz : E.pin = none ∨ 0 ∉ ow := .inr fun z => (hno' 0 z).2 rfl
    have hns : ∀ i ∈ ow, ∀ t ∈ ts ++ us, t.1 ≠ .sl i := fun i hi t ht z => by
      have q := j1.sl t ht
      unfold SlOk at q
      rw [z] at q
      obtain ⟨_, o, q2⟩ := q
      have := (hno' i hi).1
      rw [q2] at this
      cases this
    cases hcs : compS2 ow ow1 gg ft fi1 gg1 ft1 fe ds [] (wipeR ρ1 ow) with
    | exc n fs => rw [hcs] at h1; exact h1.elim
    | bad => rw [hcs] at h1; exact h1.elim
    | ok accF ρF =>
      rw [hcs] at h1
      have jw := (j1.wipe1 hns hpz)
      refine ⟨fun i m H => m = ds.length - i ∧ i ≤ ds.length ∧ ∃ acc ρ', J c E ρ' (wipe σ ow) (ts ++ us ++ [(.o (.lst (acc.map .fr)), .ref D)]) H ∧ (∀ k ∈ ow, ∀ o, ρ'[k]? ≠ some (some o)) ∧ compS2 ow ow1 gg ft fi1 gg1 ft1 fe (ds.drop i) acc ρ' = .ok accF ρF,
        ⟨ds.length, by simp, Nat.zero_le _, [], wipeR ρ1 ow, jw.lstNil hD, fun k hk o => wipeR_none ρ1 hk o, hcs⟩, ?_⟩
      rintro i m H' ⟨rfl, hle, acc, ρ', jj, hnn, hcomp⟩
      obtain ⟨hgo, hst⟩ := hit E ρ' (wipe σ ow) ts [(.o (.lst (acc.map .fr)), .ref D)] H' jj
      by_cases hlt : i < ds.length
      · refine .inr ⟨(hgo i hlt).1, fun H2 => ∃ acc ρ2, J c E ρ2 (wipe σ ow) (ts ++ us ++ [(.o (.lst (acc.map .fr)), .ref D)]) H2 ∧ (∀ k ∈ ow, ∀ o, ρ2[k]? ≠ some (some o)) ∧ compS2 ow ow1 gg ft fi1 gg1 ft1 fe (ds.drop (i + 1)) acc ρ2 = .ok accF ρF,
          fun H2 ⟨acc, ρ2, a1, a2, a3⟩ => ⟨ds.length - (i + 1), by omega, rfl, hlt, acc, ρ2, a1, a2, a3⟩, fun x H2 hy => ?_⟩
        obtain ⟨d, hd, jd⟩ := (hgo i hlt).2 x H2 hy
        have edrop : ds.drop i = d :: ds.drop (i + 1) := by
          rw [List.drop_eq_getElem_cons hlt]
          congr 1
          rw [List.getElem?_eq_getElem hlt] at hd
          exact Option.some.inj hd
        rw [edrop] at hcomp
        unfold compS2 at hcomp
        cases hgg : gg (.fr d) ρ' with
        | none => rw [hgg] at hcomp; cases hcomp
        | some ρa =>
          rw [hgg] at hcomp
          simp only at hcomp
          have hnsD : ∀ (acc : List c.D), ∀ i ∈ ow, ∀ t ∈ ts ++ us ++ [((Tm.o (OT.lst (acc.map .fr)) : Tm c), V.ref D)], t.1 ≠ .sl i := fun acc k hk t ht => by
            rcases List.mem_append.mp ht with ht | ht
            · exact hns k hk t ht
            · rw [List.mem_singleton.mp ht]; intro z; cases z
          refine kg E ρ' ρa (wipe σ ow) _ _ _ (.fr d) x (.inr (.inr fun z => (hno' 0 (hS 0 z)).2 rfl)) (fun k hk => hnsD acc k (hS k hk)) jd hgg fun σ' jg hww => ?_
          have hwip : wipe σ' ow = wipe σ ow := by
            rw [hww ow hS, wipe_idem]
          refine ⟨hwip, ?_⟩
          cases hft : ft ρa with
          | bad => rw [hft] at hcomp; cases hcomp
          | exc n fs => rw [hft] at hcomp; cases hcomp
          | ok b ρ2 =>
            rw [hft] at hcomp
            refine kt E ρa σ' _ _ _ jg ?_
            rw [hft]
            show ∀ H3, J c E ρ2 σ' _ H3 → _
            intro H3 j3
            cases b with
            | false =>
              rw [if_neg (by simp)]
              refine ⟨acc, wipeR ρ2 ow, ?_, fun k hk o => wipeR_none ρ2 hk o, hcomp⟩
              have := j3.wipe1 (hnsD acc) hpz
              rw [hwip] at this
              exact this
            | true =>
              rw [if_pos rfl]
              simp only at hcomp
              cases hfi : fi1 ρ2 with
              | bad => rw [hfi] at hcomp; cases hcomp
              | exc n fs => rw [hfi] at hcomp; cases hcomp
              | ok es ρ3 =>
                rw [hfi] at hcomp
                simp only at hcomp
                cases hin : compS ow1 gg1 ft1 fe es acc (wipeR ρ3 ow1) with
                | bad => rw [hin] at hcomp; cases hcomp
                | exc n fs => rw [hin] at hcomp; cases hcomp
                | ok acc2 ρ4 =>
                  rw [hin] at hcomp
                  simp only at hcomp
                  refine ki1 E ρ2 σ' _ _ _ j3 ?_
                  rw [hfi]
                  show ∀ I H4, J c E ρ3 σ' _ H4 → _
                  intro I1 H4 j4 hit1
                  have hns1 : ∀ i ∈ ow1, ∀ t ∈ ts ++ us, t.1 ≠ .sl i := fun i hi => hns i (hO i hi)
                  have hp1 : E.pin = none ∨ 0 ∉ ow1 := hpz.imp id fun z y => z (hO 0 y)
                  refine in_loop kg1 hS1 kt1 ke hns1 hp1 (hp1.imp id fun z y => z (hS1 0 y)) hit1 (j4.wipe1 (fun k hk => hnsD acc k (hO k hk)) hp1) hin fun H5 j5 => ?_
                  refine ⟨acc2, wipeR ρ4 ow, ?_, fun k hk o => wipeR_none ρ4 hk o, hcomp⟩
                  have := j5.wipe1 (hnsD acc2) hpz
                  rw [wipe_sub hO, hwip] at this
                  exact this
      · have e : i = ds.length := by omega
        subst e
        refine .inl ⟨hst _ (Nat.le_refl _), ?_⟩
        rw [List.drop_length] at hcomp
        cases hcomp
        refine h1 _ _ ((J.mid jj).reslot (wipe_length σ ow).symm (fun k o hk => ?_) j1.pin)
        by_cases hko : k ∈ ow
        · exact absurd hk (hnn k hko o)
        · exact (wipe_outS hko).symm
/-- range with one argument, as an inner source -/
theorem pin_rng1 {scope : Scope} {fa : Rho c → Out c (Tm c)} {tg a : Expr} {p pos : Pos} (hpl : plE a = true) (hg : ∀ (s : Shared) (H : Hp) (C : Addr) (cl : List (Str × Addr)) (fp : List Addr), Gl (X.blk s H scope (compEnvC scope cl C X.env) fp) "range") (hm : X.mg "range" = none)
    (ha : ∀ (s : Shared) (H : Hp) (C : Addr) (cl : List (Str × Addr)) (fp : List Addr), SoE c (X.blk s H scope (compEnvC scope cl C X.env) fp) (fun _ _ _ => False) fa a) :
    ∃ w : TI, (∀ (s : Shared) (H : Hp) (C : Addr) (cl : List (Str × Addr)) (fp : List Addr), PI (X.blk s H scope (compEnvC scope cl C X.env) fp) tg (.Call (.Name "range" p) [a] [] pos) w) ∧ PIn c (rg1S fa) w := by
  refine ⟨fun σ H R => ∃ (E : Ent) (ρ : Rho c) (ts : Stk c), J c E ρ σ ts H ∧ Wt c E (fun _ _ _ => False) (fun ds ρ' => ∀ I H', J c E ρ' σ ts H' → ItOk c I [] ds → R I H') (rg1S fa ρ), fun s H C cl fp => ?_, fun E ρ σ ts H R j hw => ⟨E, ρ, ts, j, hw⟩⟩
  obtain ⟨t, pe, k⟩ := (ha s H C cl fp).ex
  refine ⟨fun pins s σ H R I hh => ?_⟩
  obtain ⟨E, ρ, ts, j, hw⟩ := hh
  refine (pi_range1 (tg := tg) (p := p) (pos := pos) (hg _ _ _ _ _) hm (pa_cons pe pa_nil (star_pl hpl)) (star_pl hpl)).run pins s σ H R I (k E ρ σ ts H _ j ((Wt.bind hw).mono fun t1 ρ1 h1 v1 H1 j1 => ?_))
  cases e1 : tO ρ1 t1 with
  | none => simp only [e1, Option.bind_none] at h1; exact h1.elim
  | some x =>
    simp only [e1, Option.bind_some] at h1
    cases e2 : conOf x with
    | none => simp only [e2] at h1; exact h1.elim
    | some i =>
      simp only [e2] at h1
      split at h1
      · rename_i hb
        obtain ⟨n, rfl, hn⟩ := con_of e2
        have a2 := j1.int1 m0 e1
        rw [hn] at a2
        exact ⟨i, by rw [a2], by omega, by omega, h1 _ _ (by simpa using j1.cut) itOk_rng⟩
      · exact h1.elim
end
end Y

set_option Elab.async false
set_option linter.all false
set_option maxRecDepth 100000
set_option maxHeartbeats 4000000
namespace Y
open PySem PySem.Spec PyProof.Rows L2
def nodbg (n : Str) : Bool := !(n == ("__debug__" : Str)) && !(n == ("__classdict__" : Str))
def isVis (sc : Scope) (n : Str) : Bool := match sc.names.lookup n with
  | some .local => true | some .cell => true | some .free => true | _ => false
def isGlb (sc : Scope) (n : Str) : Bool := match sc.names.lookup n with
  | some .globalImplicit => true | _ => false
def storB (sc : Scope) (n : Str) : Bool := match sc.names.lookup n with
  | some .local => true | some .cell => true | _ => false
def tp (e : Expr) : Bool := match e with
  | .Name _ _ => true | .Constant _ _ _ => true | .BinOp _ _ _ _ => true | .UnaryOp .USub _ _ => true | .Call _ _ _ _ => true | .Subscript _ _ _ => true | .Attribute _ _ _ => true | .List _ _ => true | .Tuple _ _ _ => true | .ListComp _ _ _ _ => true
  | _ => false
theorem tp_ok {e : Expr} {env : Env} (h : tp e = true) : ∀ whole, isTrue e env whole = (do let v ← whole; standAt e.pos; holding [v] (truthy v)) := by
  cases e <;> first | (intro _; rfl) | (cases h; done) | skip
  rename_i op x pos
  cases op <;> first | (intro _; rfl) | cases h
def notSlice (e : Expr) : Bool := match e with
  | .Slice _ _ _ _ => false
  | _ => true
theorem plainIx {e : Expr} (h : notSlice e = true) : PlainIx e := by
  cases e <;> first | (intro _ _; rfl) | cases h
theorem mark_pl {e : Expr} {op : CmpOp} (h : notSet e = true) : behindInMarks op e = false := by
  cases e <;> first | rfl | cases h
def notComp (e : Expr) : Bool := match e with
  | .ListComp _ _ _ _ => false | .SetComp _ _ _ _ => false | .DictComp _ _ _ _ _ => false
  | _ => true
theorem swaps_pl {e : Expr} {t : Option Expr} {l : Nat} {env : Env} (h : notComp e = true) : swapsWith e t l env = pure false := by
  cases e <;> first | rfl | cases h
def isTL (e : Expr) : Bool := match e with
  | .Tuple _ _ _ => true | .List _ _ => true
  | _ => false
theorem stores_pl {t e : Expr} {env : Env} (h : (isTL t && isTL e) = false) : swappedStores [t] e env = pure none := by
  cases t <;> first | rfl | (cases e <;> first | rfl | cases h)
theorem assign_sub {o i : Expr} {pos : Pos} {env : Env} (h : notSlice i = true) : ∀ v, assign (.Subscript o i pos) env v = (do
      let ov ← holding [v] (eval o env)
      let iv ← holding [v, ov] (eval i env)
      standAt pos
      holding [v, ov, iv] (setItem ov iv v)
      release [v, ov, iv] []) := by
  cases i <;> first | (intro _; rfl) | cases h
def bName (k : Nat) : Str := match k with
  | 0 => "len" | 1 => "int" | 2 => "all" | 3 => "any" | 5 => "tuple" | 6 => "sum" | 7 => "max" | 8 => "min" | _ => "sorted"
def opK (op : Operator) : Nat := match op with
  | .Add => 0 | .Sub => 1 | .Mult => 2 | .FloorDiv => 3 | .Mod => 4 | .Pow => 5 | _ => 99
def cmK (op : CmpOp) : Nat := match op with
  | .Lt => 0 | .LtE => 1 | .Gt => 2 | .GtE => 3 | .Eq => 4 | .NotEq => 5 | .In => 6 | .NotIn => 7 | .Is => 8 | .IsNot => 9
theorem vis_of {sc : Scope} {n : Str} (h : isVis sc n = true) : Vis sc n := by
  unfold isVis at h
  split at h <;> first | exact .inl (by assumption) | exact .inr (.inl (by assumption)) | exact .inr (.inr (by assumption)) | cases h
theorem glb_of {X : Cx} {n : Str} (h : isGlb X.env.scope n = true) : Gl X n := by
  unfold isGlb at h
  split at h
  · assumption
  · cases h
theorem dbg_of {n : Str} (h : nodbg n = true) : (n == ("__debug__" : Str)) = false ∧ (n == ("__classdict__" : Str)) = false := by
  unfold nodbg at h
  rw [Bool.and_eq_true] at h
  exact ⟨by simpa using h.1, by simpa using h.2⟩
end Y

set_option Elab.async false
set_option linter.all false
set_option maxRecDepth 100000
set_option maxHeartbeats 4000000
namespace Y
open PySem PySem.Spec PyProof.Rows L2
/-! ## the def that tells a refusal: it calls a lambda, catches, and tells the error's field -/
/-- what an exception's class must say, so that its instances can be asked -/
structure XcF (K : PySem.W.Frag) (D : Addr) : Prop where
  cl : (PySem.W.clsIn K D).isSome = true
  ga : PySem.W.findIn K (.ref D) "__getattribute__" = some (some (.builtin "BaseException.__getattribute__"))
  gg : PySem.W.findIn K (.ref D) "__getattr__" = some none
  sub : PySem.W.subIn K (.ref D) (.type "BaseException") = some true
  hd : PySem.W.hasDictIn K D = true
  ha : PySem.W.findIn K (.ref D) "__class__" = some (some (.builtin "object.__class__"))
  hn : PySem.W.specialIn K (.builtin "object.__class__") "__get__" = some (some (.builtin "getset_descriptor.__get__"))
  ht : PySem.W.takesIn K (.builtin "object.__class__") = some true
  hm : PySem.W.mroIn K D (.type "object") = some true
/-- the held exception: of the class at D, its own dict at dd -/
def Held (K : PySem.W.Frag) (cls : Value) (d : Option Addr) (H : Hp) (D dd : Addr) (fs : List (Str × V)) : Prop := cls = .ref D ∧ d = some dd ∧ XcF K D ∧ H dd = some (.xd fs)
theorem held_inst {X : Cx} {a : Addr} {oe : Obj} {cls : Value} {d : Option Addr} {pn pins : List (Addr × Obj)} {σ : L2.St} {H : Hp} {s : Shared} {D dd : Addr} {fs : List (Str × V)} (I : Inv (X.suite a ((a, oe) :: pn)) pins σ H s) (hz : Zc cls d oe) (hf : ∃ vs, oe.data = .fields vs) (hh : Held X.K cls d H D dd fs) :
    ∃ od, PySem.W.InstAt s.heap a oe D (some od) ∧ ∀ f v, fs.lookup f = some v → ∃ u, PySem.W.lookIn f od = some (some u) ∧ RelV v u := by
  obtain ⟨e1, e2, _, ea⟩ := hh
  subst e1
  subst e2
  obtain ⟨hget, _⟩ := I.pin (a, oe) (List.mem_append_left _ List.mem_cons_self)
  obtain ⟨vs, hd⟩ := hf
  have hx : ObjOk X.prog X.w H s.heap dd (.xd fs) := I.hok dd _ ea
  obtain ⟨mA, hns, hr⟩ := hx
  obtain ⟨od, ho, hl⟩ := lookIn_ns hns
  refine ⟨od, ⟨hget, hz.1, by unfold PySem.W.notCls; rw [hd] <;> rfl, by rw [hz.2]; exact ho⟩, fun f v l => ?_⟩
  obtain ⟨u, hu, ru⟩ := RelO.some_of (v := v) (o := mA f) (by rw [← l]; exact hr f)
  exact ⟨u, by rw [hl, hu], ru⟩
def rIsD (K : PySem.W.Frag) (a : Addr) (cls : Value) (d : Option Addr) : List V → Hp → VK → Prop := fun xs H Q => ∃ (D dd : Addr) (fs : List (Str × V)) (c : V) (cv : Value) (b : Bool), Held K cls d H D dd fs ∧ xs = [.ref a, c] ∧ (∀ u, RelV c u → u = cv) ∧ PySem.W.kitOne K (.ref D) cv = some b ∧ Q (.bl b) H
theorem call_isD {X : Cx} {a : Addr} {oe : Obj} {cls : Value} {d : Option Addr} {pn : List (Addr × Obj)} (hz : Zc cls d oe) (hf : ∃ vs, oe.data = .fields vs) : CallR (X.suite a ((a, oe) :: pn)) (.builtin "isinstance") (rIsD X.K a cls d) := by
  intro pins s σ H xs us Q I r h
  obtain ⟨D, dd, fs, c, cv, b, hh, rfl, hcv, e, q⟩ := h
  obtain ⟨u1, u2, rfl, rx, rt⟩ := vals2 r
  obtain rfl : u1 = Value.ref a := rx
  have ec := hcv _ rt
  subst ec
  obtain ⟨od, J, _⟩ := held_inst I hz hf hh
  obtain ⟨_, _, C, _⟩ := hh
  exact PySem.W.kia_one (PySem.W.kitx_exc C.cl C.ga C.gg C.sub C.ha C.hn C.ht C.hm) I.kIn J e (fun z => nomatch z) fun tk => ⟨.bl b, H, I.kept (t' := tk) fun _ _ z => z, rfl, q⟩
def tEf (K : PySem.W.Frag) (a : Addr) (cls : Value) (d : Option Addr) (f : Str) (te : TE) : TE := fun σ H Q => te σ H fun x H1 => x = .ref a ∧ ∃ (D dd : Addr) (fs : List (Str × V)) (v : V), Held K cls d H1 D dd fs ∧ PySem.W.findIn K (.ref D) f = some none ∧ fs.lookup f = some v ∧ Q v H1
theorem pe_ef {X : Cx} {a : Addr} {oe : Obj} {cls : Value} {d : Option Addr} {pn : List (Addr × Obj)} {e : Expr} {f : Str} {te : TE} {pos : Pos} (hz : Zc cls d oe) (hf : ∃ vs, oe.data = .fields vs) (he : PE (X.suite a ((a, oe) :: pn)) e te) (hb : attributeBase e f X.env (eval e X.env) = eval e X.env) :
    PE (X.suite a ((a, oe) :: pn)) (.Attribute e f pos) (tEf X.K a cls d f te) := by
  refine ⟨fun pins s σ H Q I h => ?_⟩
  refine attr_of hb (thn (he.run pins s σ H _ I h) fun u s1 hh => ?_)
  obtain ⟨x, H1, I1, rx, ex, D, dd, fs, v, hh, hno, hl, q⟩ := hh
  subst ex
  obtain rfl : u = Value.ref a := rx
  obtain ⟨od, J, hk⟩ := held_inst I1 hz hf hh
  obtain ⟨_, _, C, _⟩ := hh
  obtain ⟨w, hw, rw'⟩ := hk f v hl
  exact HandSPX.exc_get I1.kIn J C.ga C.gg C.sub (PySem.W.findObj_own C.hd hno rfl hw) (handed_of rw') ⟨v, H1, I1.tok _, rw', q⟩
/-! ### its ifs -/
/-- if isinstance(e, C): told.append((tag, e.f)), one after another -/
inductive Ifs (sc : Scope) (told e : Str) : List (Str × Str × Str) → List Stmt → Prop
  | nil : Ifs sc told e [] []
  | cons {C tag f : Str} {ts : List (Str × Str × Str)} {ss : List Stmt} {p1 p2 p3 p4 p5 p6 p7 p8 p9 p10 p11 p12 p13 : Pos} {j k : Nat} : (p6.endLine == p11.line) = true → isGlb sc "isinstance" = true → isGlb sc C = true → nodbg C = true → Ifs sc told e ts ss →
    Ifs sc told e ((C, tag, f) :: ts) (.If (.Call (.Name "isinstance" p1) [.Name e p2, .Name C p3] [] p4) [.Expr (.Call (.Attribute (.Name told p5) "append" p6) [.Tuple [.Constant (.str tag) j p7, .Attribute (.Name e p8) f p9] k p10] [] p11) p12] [] p13 :: ss)
  | con0 {C tag : Str} {ts : List (Str × Str × Str)} {ss : List Stmt} {p1 p2 p3 p4 p5 p6 p7 p10 p11 p12 p13 : Pos} {j k : Nat} : (p6.endLine == p11.line) = true → isGlb sc "isinstance" = true → isGlb sc C = true → nodbg C = true → Ifs sc told e ts ss →
    Ifs sc told e ((C, tag, "") :: ts) (.If (.Call (.Name "isinstance" p1) [.Name e p2, .Name C p3] [] p4) [.Expr (.Call (.Attribute (.Name told p5) "append" p6) [.Tuple [.Constant (.str tag) j p7] k p10] [] p11) p12] [] p13 :: ss)
/-- what they leave, the hits' tags and values in the list at p -/
def Post (K : PySem.W.Frag) (mg : Str → Option Value) (D p : Addr) (fs : List (Str × V)) (Qn : Hp → Prop) : List (Str × Str × Str) → List V → Hp → Prop
  | [], _, H => Qn H
  | (C, tag, f) :: r, acc, H => ∃ (A : Addr) (b : Bool), mg C = some (.ref A) ∧ PySem.W.kitOne K (.ref D) (.ref A) = some b ∧
    (b = true → f ≠ "" ∧ acc.length < 1000 ∧ PySem.W.findIn K (.ref D) f = some none ∧ ∃ v, fs.lookup f = some v ∧ ∀ q, H q = none → Post K mg D p fs Qn r (acc ++ [.ref q]) (upd (upd H q (.tup [.str tag, v])) p (.lst (acc ++ [.ref q])))) ∧
    (b = false → Post K mg D p fs Qn r acc H)
theorem ifs_ok {X : Cx} {a p : Addr} {oe : Obj} {cls : Value} {d : Option Addr} {pn : List (Addr × Obj)} {told e : Str} (hz : Zc cls d oe) (hf : ∃ vs, oe.data = .fields vs) (hmI : X.mg "isinstance" = none) (ht : ∀ pos, PE (X.suite a ((a, oe) :: pn)) (.Name told pos) (tVar 1)) (he : ∀ pos, PE (X.suite a ((a, oe) :: pn)) (.Name e pos) (tVar 2)) :
    ∀ {ts : List (Str × Str × Str)} {ss : List Stmt}, Ifs X.env.scope told e ts ss → (∀ C ∈ ts, ∃ A, X.mg C.1 = some (.ref A)) → ∃ t, PSs (X.suite a ((a, oe) :: pn)) ss t ∧
      ∀ (Dn : Ends) (σ : L2.St) (H : Hp) (D dd : Addr) (fs : List (Str × V)) (acc : List V), σ[1]? = some (some (.ref p)) → σ[2]? = some (some (.ref a)) → H p = some (.lst acc) → Held X.K cls d H D dd fs → Post X.K X.mg D p fs (fun H' => Dn.nx σ H') ts acc H → t Dn σ H
  | _, _, .nil, _ => ⟨_, pss_nil, fun Dn σ H D dd fs acc _ _ _ _ h => h⟩
  | _, _, .cons (C := C) (tag := tag) (f := f) (ts := ts) (ss := ss) hl g1 g2 g3 r, hC => by
    obtain ⟨t, pt, k⟩ := ifs_ok hz hf hmI ht he r fun c hc => hC c (List.mem_cons_of_mem _ hc)
    obtain ⟨A0, hA0⟩ := hC _ (List.mem_cons_self ..)
    have hA0 : X.mg C = some (.ref A0) := hA0
    refine ⟨_, pss_cons (ps_if (pt_truth (pe_callB (call_isD hz hf) (glb_of (X := X.suite a ((a, oe) :: pn)) g1) hmI (by decide +kernel) (pa_cons (he _) (pa_cons (pe_glob (glb_of (X := X.suite a ((a, oe) :: pn)) g2) hA0 (v := .ref A0) rfl (dbg_of g3).1) pa_nil))) (fun _ => rfl))
      (pss_cons (ps_expr (pe_bm PySem.F.plainAttrs_list PySem.F.slot_list_append PySem.F.type_list_append mt_append (ht _) (pa_cons (pe_tup (pa_cons pe_str (pa_cons (pe_ef hz hf (he _) rfl) pa_nil))) pa_nil) (hbase := rfl) (hfew := rfl) (hline := hl) (hs := rfl) (hplain := rfl)) rfl) pss_nil) pss_nil) pt,
      fun Dn σ H D dd fs acc h1 h2 hp hh hpost => ?_⟩
    obtain ⟨A, b, eA, eb, hT, hF⟩ := hpost
    rw [hA0] at eA
    cases eA
    refine ⟨_, h2, D, dd, fs, _, .ref A0, b, hh, rfl, fun u hu => hu, eb, b, rfl, ?_⟩
    cases b with
    | false => exact k Dn σ H D dd fs acc h1 h2 hp hh (hF rfl)
    | true =>
      obtain ⟨_, hlen, hno, v, hv, hq⟩ := hT rfl
      have l6 : 1000000 < sizeLine := by rw [sizeLine_eq]; decide
      refine ⟨_, h1, tyV_lst hp, _, h2, rfl, D, dd, fs, v, hh, hno, hv, (by show 2 ≤ sizeLine; omega), fun q hq0 => ?_⟩
      have npq : p ≠ q := fun e => by rw [e, hq0] at hp; cases hp
      refine ⟨p, acc, .ref q, rfl, rfl, by rw [upd_ne npq]; exact hp, by omega, ?_⟩
      obtain ⟨c1, c2, c3, c4⟩ := hh
      have ndq : dd ≠ q := fun e => by rw [e, hq0] at c4; cases c4
      have ndp : dd ≠ p := fun e => by rw [e, hp] at c4; cases c4
      exact k Dn σ _ D dd fs _ h1 h2 upd_same ⟨c1, c2, c3, by rw [upd_ne ndp, upd_ne ndq]; exact c4⟩ (hq q hq0)
  | _, _, .con0 (C := C) (tag := tag) (ts := ts) (ss := ss) hl g1 g2 g3 r, hC => by
    obtain ⟨t, pt, k⟩ := ifs_ok hz hf hmI ht he r fun c hc => hC c (List.mem_cons_of_mem _ hc)
    obtain ⟨A0, hA0⟩ := hC _ (List.mem_cons_self ..)
    have hA0 : X.mg C = some (.ref A0) := hA0
    refine ⟨_, pss_cons (ps_if (pt_truth (pe_callB (call_isD hz hf) (glb_of (X := X.suite a ((a, oe) :: pn)) g1) hmI (by decide +kernel) (pa_cons (he _) (pa_cons (pe_glob (glb_of (X := X.suite a ((a, oe) :: pn)) g2) hA0 (v := .ref A0) rfl (dbg_of g3).1) pa_nil))) (fun _ => rfl))
      (pss_cons (ps_expr (pe_bm PySem.F.plainAttrs_list PySem.F.slot_list_append PySem.F.type_list_append mt_append (ht _) (pa_cons (pe_tup (pa_cons pe_str pa_nil)) pa_nil) (hbase := rfl) (hfew := rfl) (hline := hl) (hs := rfl) (hplain := rfl)) rfl) pss_nil) pss_nil) pt,
      fun Dn σ H D dd fs acc h1 h2 hp hh hpost => ?_⟩
    obtain ⟨A, b, eA, eb, hT, hF⟩ := hpost
    rw [hA0] at eA
    cases eA
    refine ⟨_, h2, D, dd, fs, _, .ref A0, b, hh, rfl, fun u hu => hu, eb, b, rfl, ?_⟩
    cases b with
    | false => exact k Dn σ H D dd fs acc h1 h2 hp hh (hF rfl)
    | true => exact absurd rfl (hT rfl).1

/-! ### the def -/
/-- what it promises: tl, the reading of the lambda's call, told by which errors -/
def TTref (K : PySem.W.Frag) (mg : Str → Option Value) (DE : Addr) (ts : List (Str × Str × Str)) : (XK → Hp → VK → Prop) → Hp → VK → Prop := fun tl H Q => ∀ p, H p = none → ∃ Ech : XK,
  (∀ cls d H', Ech cls d H' → ∃ (D dd : Addr) (fs : List (Str × V)), Held K cls d H' D dd fs ∧ H' p = some (.lst []) ∧ PySem.W.exmOne K cls (.ref DE) = some true ∧ PySem.W.kitOne K (.ref D) (.type "ValueError") = some true ∧ Post K mg D p fs (fun H2 => Q (.ref p) H2) ts [] H') ∧
  tl Ech (upd H p (.lst [])) (fun _ H' => Q (.ref p) H')
/-- its text -/
structure RefT (sg : Scope) (mg : Str → Option Value) (DE : Addr) (ts : List (Str × Str × Str)) (act told e x : Str) (bg : List Stmt) : Prop where
  nd : ([act, told, e] : List Str).Nodup
  va : isVis sg act = true
  vt : isVis sg told = true
  lt : sg.names.lookup told = some .local
  le : sg.names.lookup e = some .local
  da : nodbg act = true
  dt : nodbg told = true
  de : nodbg e = true
  gx : sg.names.lookup x = some .globalImplicit
  dx : nodbg x = true
  mx : mg x = some (.ref DE)
  gI : isGlb sg "isinstance" = true
  gV : isGlb sg "ValueError" = true
  mI : mg "isinstance" = none
  mV : mg "ValueError" = none
  hC : ∀ C ∈ ts, ∃ A, mg C.1 = some (.ref A)
  bg : ∃ (ss : List Stmt) (z : Str) (q1 q2 q3 q4 q5 q6 q7 q8 q9 q10 q11 q12 q13 q14 q15 q16 q17 q18 q19 q20 : Pos) (jj : Nat), Ifs sg told e ts ss ∧
    bg = [.Assign [.Name told q1] (.List [] q2) q3, .Try [.Expr (.Call (.Name act q4) [] [] q5) q6] [.ExceptHandler (some (.Name x q7)) (some e) (.If (.UnaryOp .Not (.Call (.Name "isinstance" q8) [.Name e q9, .Name "ValueError" q10] [] q11) q12) [.Return (some (.List [.Constant (.str z) jj q13] q14)) q15] [] q16 :: ss) q17] [] [] q18, .Return (some (.Name told q19)) q20]
theorem vis_local {sc : Scope} {n : Str} (h : sc.names.lookup n = some .local) : Vis sc n := .inl h
/-! ### a lambda handed to a def: as HandS.Lambda has it, but the handler may count on the slots as they are at the call -/
section
variable {X : Cx} {pins : List (Addr × Obj)} {σ : L2.St} {H : Hp} {s : Shared}
/-- the context of the def that got it -/
abbrev gCx (X : Cx) (Ng : List Str) (x : Str) (sg : Scope) (g : Addr) (cdg : Value) (s : Shared) (H : Hp) : Cx := cxOf C8.CX0 X.prog X.w X.K X.mg X.base Ng x sg g cdg X.A X.stack s H C8.E0
theorem act_own {Ng : List Str} {qg : Str} {sg : Scope} {g f c' : Addr} {cdg pm ctv : Value} {params : Arguments} {body : Expr} {scope : Scope} {k : Nat} {a : Str} {pn : List (Addr × Obj)} {xe : Value → Shared → Prop} {W : WX} {tb : XK → TE} {p1 p2 : Pos}
    (I : Inv X pins σ H s) (L : LamX.LamS X.env.scope scope) (hf : s.heap.get? f = some (PySem.W.kla_obj "<lambda>" (X.env.qual ++ "<lambda>") params body scope (cloFrom X.env.cells scope.names []) pm c' ctv)) (hfn : H f = none) (hfr : f ∉ frs X.stack)
    (hbind : bindArgs (PySem.W.kla_fn "<lambda>" (X.env.qual ++ "<lambda>") params body scope (cloFrom X.env.cells scope.names []) pm (.ref c') ctv) ⟨[], []⟩ = pure [])
    (tk : Takes ((gCx X Ng qg sg g cdg s H).tr pn xe) W) (hr : Room (k + 1) (X.A.deeper (envOfC qg sg s.heap.objs.size g cdg)))
    (hbody : ∀ (E : XK) (A : Around) (outer : List Env) (s : Shared) (H : Hp), Room k (A.deeper (LamX.lamEnv X scope s.heap.objs.size f c')) → PE (LamX.lamCx X A outer s H E scope f c') body (tb E))
    (ha : PE ((gCx X Ng qg sg g cdg s H).tr pn xe) (.Name a p1) (tVar 0)) :
    PE ((gCx X Ng qg sg g cdg s H).tr pn xe) (.Call (.Name a p1) [] [] p2)
      (fun σZ HZ Q => σZ[0]? = some (some (.ref f)) ∧ HZ c' = some (LamX.CodeO c' (X.env.qual ++ "<lambda>")) ∧ ∃ E : XK, (∀ cls d H', E cls d H' → W cls d σZ H') ∧ tb E σ HZ Q) := by
  constructor
  intro pinsZ sZ σZ HZ Q IZ ⟨h0, h1, E, hE, ht⟩
  have name := ha.run pinsZ sZ σZ HZ (fun v H1 => v = .ref f ∧ H1 = HZ) IZ ⟨.ref f, h0, rfl, rfl⟩
  apply wpAny_Call_Name_kw
  apply thn name
  rintro u s1 ⟨v, H1, I1, r1, rfl, rfl⟩
  cases r1
  have there := I1.base.keep f _ hf hfn hfr (fun z => nomatch (show f ∈ ([] : List Addr) from z))
  apply PySem.W.callWith_F0 ⟨_, _, _, _, there⟩
  obtain ⟨⟨oc, vs, t, e1, e2, e3⟩, _, _⟩ := I1.hok c' _ h1
  apply wpAny_call
  have run : codeAny (model X.prog X.w) (X.A.deeper (envOfC qg sg s.heap.objs.size g cdg)) (.call (.ref f) ⟨[], []⟩) (CR (L2.CX X.prog X.w) (envOfC qg sg s.heap.objs.size g cdg :: X.stack) X.prog X.w H1 s1 Q E) s1 := by
    apply PySem.W.kla_callFunE hr.depth there rfl L.co L.gen rfl ⟨c', oc, vs, t, rfl, e1, e2, e3⟩
    rw [hbind]
    apply wpAny_pure
    refine wpAny_newFunctionEnv (fun y hy => (L.own y hy).2) (fun y hy => absurd hy (by simp)) (fun h₁ hns hsb => ⟨I1.nolimit.fresh _ hsb, ?_⟩) L.kind
    have keep : ∀ b o, s1.heap.get? b = some o → h₁.get? b = some o := fun b o e => hsb.extBut b o (Nat.ne_of_lt (Heap.lt_size e)) (Heap.get?_push_of_some _ e)
    have J := LamX.lam_start2 (A := X.A.deeper (envOfC qg sg s.heap.objs.size g cdg)) (outer := envOfC qg sg s.heap.objs.size g cdg :: X.stack) (E := E) (f := f) (c' := c') (tk := s1.toks + ([] : List (Str × Value)).length) I L I1.env0 hr.hd I1.base hns keep
    have inner := (hbody E _ _ s1 H1 (hr.deeper _)).run [] _ _ H1 Q J ht
    exact PySem.W.kla_codeExpr (wpAny_mono inner (fun v s' ⟨w', H', J', rv, q⟩ => ⟨w', H', J'.os, J'.bare, J'.base, J'.hok, rv, q⟩) fun e s' z => z)
  refine codeAny_mono run fun r s' hq => ?_
  match r, hq with
  | .error e, hq => exact tk e s' (XE.of_call I1 hE hq)
  | .ok (.ret u), hq => exact I1.after hq
/-- as GivesTo, of the slots at the call -/
def GivesS (X : Cx) (Ng : List Str) (x : Str) (sg : Scope) (g : Addr) (cdg : Value) (bg : List Stmt) (a : Str) (q : Str) (TT : (XK → Hp → VK → Prop) → Hp → VK → Prop) : Prop :=
  ∀ (f c' : Addr) (s : Shared) (H : Hp) (Q : VK) (tl : XK → Hp → VK → Prop),
    (∀ (W : WX) (pn : List (Addr × Obj)) (xe : Value → Shared → Prop) (p1 p2 : Pos), Takes ((gCx X Ng x sg g cdg s H).tr pn xe) W →
      PE ((gCx X Ng x sg g cdg s H).tr pn xe) (.Call (.Name a p1) [] [] p2) (fun σZ HZ Q => σZ[0]? = some (some (.ref f)) ∧ HZ c' = some (LamX.CodeO c' q) ∧ ∃ E : XK, (∀ cls d H', E cls d H' → W cls d σZ H') ∧ tl E HZ Q)) →
    H c' = some (LamX.CodeO c' q) → TT tl H Q → ∃ t, PSs (gCx X Ng x sg g cdg s H).nox bg t ∧ t { nx := fun _ H' => Q .non H', rt := Q } (L2.start Ng [.ref f]) H
/-- what a lambda's making leaves: all, tables as tables -/
def ExtT (H H1 : Hp) : Prop := ∀ b o, H b = some o → H1 b = some o ∨ ∃ ps qs, o = .tbl ps ∧ H1 b = some (.tbl qs)
/-- the same context, the tables that stand now told of its entry -/
def tbX (X : Cx) (H : Hp) : Cx := { X with H_0 := fun b => match H b with | some (.tbl ps) => some (.tbl ps) | _ => X.H_0 b }
theorem tbX_some {X : Cx} {H : Hp} {b : Addr} {ps : Array Value} (h : H b = some (.tbl ps)) : (tbX X H).H_0 b = some (.tbl ps) := by
  show (match H b with | some (HO.tbl ps) => some (HO.tbl ps) | _ => X.H_0 b) = _
  rw [h]
theorem tbX_none {X : Cx} {H : Hp} {b : Addr} (h : ∀ ps, H b ≠ some (.tbl ps)) : (tbX X H).H_0 b = X.H_0 b := by
  show (match H b with | some (HO.tbl ps) => some (HO.tbl ps) | _ => X.H_0 b) = _
  split
  · rename_i ps e; exact absurd e (h ps)
  · rfl
theorem tbX_free {X : Cx} {H : Hp} {b : Addr} (h : (tbX X H).H_0 b = none) : X.H_0 b = none := by
  by_cases e : ∃ ps, H b = some (.tbl ps)
  · obtain ⟨ps, e⟩ := e
    rw [tbX_some e] at h; cases h
  · rw [tbX_none fun ps q => e ⟨ps, q⟩] at h; exact h
theorem tbX_in (I : Inv X pins σ H s) : Inv (tbX X H) pins σ H s := by
  have ok := I.ok
  have u := I.base
  have fr : ∀ b ∈ X.fs, H b = none := fun b hb => by
    obtain ⟨_, o', e, _⟩ := ok.funs.mem hb
    exact u.free b o' e (ok.frf b hb) fun z => ok.exfs b z hb
  have nt : ∀ b, H b = none → X.H_0 b = none → (tbX X H).H_0 b = none := fun b h1 h2 => by
    rw [tbX_none fun ps e => by rw [h1] at e; cases e]; exact h2
  refine ⟨⟨ok.mod, ok.kind, ok.glob, ok.blt, ok.above, ok.inj, ok.has, ok.cab, ok.hd, ok.frames, ok.stk, ok.exf, fun b o e => ⟨(ok.bs b o e).1, nt b (I.bs b o e).2 (ok.bs b o e).2⟩, ok.bsz, ok.noex, ok.exfs, ok.funs, fun b hb => nt b (fr b hb) (ok.frf b hb)⟩,
    I.os, I.bare, ?_, I.loc, I.cell, I.free, I.freeC, I.pin, I.hok, I.len⟩
  refine ⟨fun b o e n => u.keep b o e (tbX_free n), fun b o e n => u.slot b o e (tbX_free n), fun b o e n => u.free b o e (tbX_free n), u.there, fun b xs e => ?_, fun b o v e => ?_, fun b ps e => ?_⟩
  · by_cases h : ∃ ps, H b = some (.tbl ps)
    · obtain ⟨ps, h⟩ := h
      rw [tbX_some h] at e; cases e
    · rw [tbX_none fun ps q => h ⟨ps, q⟩] at e; exact u.tups b xs e
  · by_cases h : ∃ ps, H b = some (.tbl ps)
    · obtain ⟨ps, h⟩ := h
      rw [tbX_some h] at e; cases e
    · rw [tbX_none fun ps q => h ⟨ps, q⟩] at e; exact u.frzs b o v e
  · by_cases h : ∃ ps, H b = some (.tbl ps)
    · obtain ⟨ps', h⟩ := h
      rw [tbX_some h] at e; cases e
      exact ⟨#[], by simpa using h⟩
    · rw [tbX_none fun ps q => h ⟨ps, q⟩] at e; exact u.tbls b ps e
theorem tbX_out {σ1 : L2.St} {H1 : Hp} {s1 : Shared} {pins1 : List (Addr × Obj)} (I0 : Inv X pins σ H s) (I : Inv (tbX X H) pins1 σ1 H1 s1) : Inv X pins1 σ1 H1 s1 := by
  have u0 := I0.base
  have u := I.base
  have nn : ∀ b o, X.s_0.heap.get? b = some o → X.H_0 b = none → b ∉ X.ex → (tbX X H).H_0 b = none := fun b o e n hx => by
    rw [tbX_none fun ps q => by rw [u0.free b o e n hx] at q; cases q]; exact n
  refine ⟨I0.ok, I.os, I.bare, ⟨fun b o e n h1 h2 => u.keep b o e (nn b o e n h2) h1 h2, fun b o e n h1 h2 => u.slot b o e (nn b o e n h2) h1 h2, fun b o e n h2 => u.free b o e (nn b o e n h2) h2, u.there, fun b xs e => ?_, fun b o v e => ?_, fun b ps e => ?_⟩, I.loc, I.cell, I.free, I.freeC, I.pin, I.hok, I.len⟩
  · exact u.tups b xs (by rw [tbX_none fun ps q => by rw [u0.tups b xs e] at q; cases q]; exact e)
  · exact u.frzs b o v (by rw [tbX_none fun ps q => by rw [u0.frzs b o v e] at q; cases q]; exact e)
  · obtain ⟨m1, e1⟩ := u0.tbls b ps e
    obtain ⟨m2, e2⟩ := u.tbls b _ (tbX_some e1)
    exact ⟨m1 ++ m2, by rw [← Array.append_assoc]; exact e2⟩
def tLamO (T : List (Addr × Str)) (TT : (XK → Hp → VK → Prop) → Hp → VK → Prop) (t : XK → TE) : TE := fun σ H Q => LamX.Tabs T H ∧ ∀ H1, ExtT H H1 → LamX.Tabs T H1 → TT (fun E H' Q' => t E σ H' Q') H1 Q
theorem lamcall_own {T : List (Addr × Str)} {TT : (XK → Hp → VK → Prop) → Hp → VK → Prop} {x a : Str} {g c P : Addr} {k : Nat} {pg : Arguments} {bg : List Stmt} {sg : Scope} {dV kV doc pm cdv ct oc : Value} {an od : Option Addr} {osl : Array (Option Value)} {Ng : List Str}
    {params : Arguments} {body : Expr} {scope : Scope} {t : XK → TE} {p lpos pos : Pos} (hg : Gl X x) (hm : X.mg x = some (.ref g)) (hk : PySem.W.keepIn X.K (.ref g) = true)
    (lk : X.K.lookup g = some ⟨oc, od, .func (PySem.W.fnOf x x pg bg sg dV kV doc pm an cdv ct), osl⟩) (hcg : PySem.W.codeIn X.K cdv x = true) (hb : L2.Binds X.K (PySem.W.fnOf x x pg bg sg dV kV doc pm an cdv ct) [a] []) (Sg : FnScope Ng [a] sg)
    (ha : ∀ (s : Shared) (H : Hp) (pn : List (Addr × Obj)) (xe : Value → Shared → Prop) (p1 : Pos), PE ((gCx X Ng x sg g cdv s H).tr pn xe) (.Name a p1) (tVar 0))
    (hG : GivesS X Ng x sg g cdv bg a (X.env.qual ++ "<lambda>") TT)
    (TB : LamX.TabB X.base X.mg c P) (hcode : X.env.code = .ref c) (hmT : (P, X.env.qual ++ "<lambda>") ∈ T) (hu : ∀ p ∈ T, p.1 = P → p.2 = X.env.qual ++ "<lambda>") (hr : Room (k + 2) X.A) (L : LamX.LamS X.env.scope scope) (hdef : defaultsOf params X.env = ([], []))
    (hbind : ∀ (q : Str) (cl : List (Str × Addr)) (pm cv ctv : Value), bindArgs (PySem.W.kla_fn "<lambda>" q params body scope cl pm cv ctv) ⟨[], []⟩ = pure [])
    (hbody : ∀ (A : Around) (outer : List Env) (s : Shared) (H : Hp) (E : XK) (f c' : Addr), Room k (A.deeper (LamX.lamEnv X scope s.heap.objs.size f c')) → PE (LamX.lamCx X A outer s H E scope f c') body (t E)) (hdb : (x == ("__debug__" : Str)) = false) :
    PE X (.Call (.Name x p) [.Lambda params body scope lpos] [] pos) (tLamO T TT t) := by
  constructor
  intro pins s σ H Q I ⟨hT, h⟩
  apply wpAny_Call_Name_kw
  refine ld_glob I hg hm ?_ hdb
  refine PySem.W.callWith_K (h₀ := X.base) I.ok.mod.kin hk ?_ (by rfl) (by rfl)
  show wpAny _ _ (spliced ((false, eval (.Lambda params body scope lpos) X.env) :: backTo pos (starEach [] X.env))) _ _ s
  refine Calls.spliced_cons (LamX.lam_make2 (X := tbX X H) (tbX_in I) TB hcode hmT hu hT hdef (L.has I.ok) fun f c' pm' ctv H1 s' J1 eN T1 hf hfn hfr hco => ?_)
  have I1 : Inv X pins σ H1 s' := tbX_out I J1
  have eT : ExtT H H1 := fun b o e => by
    by_cases z : ∃ ps, o = .tbl ps
    · obtain ⟨ps, rfl⟩ := z
      obtain ⟨m, q⟩ := J1.base.tbls b ps (tbX_some e)
      exact .inr ⟨ps, _, rfl, q⟩
    · exact .inl (eN b o e fun ps q => z ⟨ps, q⟩)
  refine Calls.spliced_nil ⟨I1.kIn, ?_⟩
  apply wpAny_call
  have run : codeAny (model X.prog X.w) X.A (.call (.ref g) ⟨[.ref f], []⟩) (CR C8.CX0 X.stack X.prog X.w H1 s' Q C8.E0) s' := by
    refine LamX.run_ofS (N := Ng) (ps := [a]) (us := [.ref f]) (vs := [.ref f]) lk hcg Sg hr I1.env0 (hb s' [.ref f] I1.kIn rfl) (.cons rfl .nil) rfl fun hr' => ?_
    obtain ⟨t', h1, h2⟩ := hG f c' s' H1 Q (fun E H' Q' => t E σ H' Q') (fun W pn xe p1 p2 tk => act_own I1 L hf hfn hfr (hbind _ _ _ _ _) tk hr' (fun E A outer s H hr2 => hbody A outer s H E f c' hr2) (ha s' H1 pn xe p1)) hco (h H1 eT T1)
    exact ⟨t', h1.nox, h2⟩
  refine codeAny_mono run fun r s2 hq => ?_
  match r, hq with
  | .error e, hq => exact (show False from hq).elim
  | .ok (.ret u), hq => exact I1.after hq
end

theorem ref_gives {X : Cx} {g DE : Addr} {cdg : Value} {act told e x xx q : Str} {sg : Scope} {bg : List Stmt} {ts : List (Str × Str × Str)} (R : RefT sg X.mg DE ts act told e x bg) : GivesS X [act, told, e] xx sg g cdg bg act q (TTref X.K X.mg DE ts) := by
  intro f c' s H Q tl hact hc h
  obtain ⟨ss, z, q1, q2, q3, q4, q5, q6, q7, q8, q9, q10, q11, q12, q13, q14, q15, q16, q17, q18, q19, q20, jj, hifs, rfl⟩ := R.bg
  have hgl : Gl (gCx X [act, told, e] xx sg g cdg s H).nox x := R.gx
  refine ⟨_, pss_cons (ps_set (i := 1) R.nd rfl (.inl R.lt) (pe_lst pa_nil) rfl (.inr R.lt)) (pss_cons (ps_try_as (X := (gCx X [act, told, e] xx sg g cdg s H).nox) (i := 2) (c := .ref DE) (Wout := fun _ _ _ _ => False)
      (tb := fun W D σ H => ∃ Ech : XK, (∀ cls d H', Ech cls d H' → W cls d σ H') ∧ σ[0]? = some (some (.ref f)) ∧ H c' = some (LamX.CodeO c' q) ∧ tl Ech H (fun _ H1 => D.nx σ H1))
      (ts := fun a cls d Dn σ H => ∃ (D dd p : Addr) (fs : List (Str × V)), σ[1]? = some (some (.ref p)) ∧ σ[2]? = some (some (.ref a)) ∧ H p = some (.lst []) ∧ Held X.K cls d H D dd fs ∧ PySem.W.kitOne X.K (.ref D) (.type "ValueError") = some true ∧ Post X.K X.mg D p fs (fun H2 => Dn.nx σ H2) ts [] H)
      rfl rfl R.nd rfl R.le ⟨hgl, (dbg_of R.dx).1, .inl R.mx⟩ LamX.takes0 (fun W pn xe tk _ => ?_) (fun a oe cls d pn hz hf => ?_)) (pss_one (ps_ret (pe_var (i := 1) rfl (.inl R.lt) (dbg_of R.dt).1 (dbg_of R.dt).2)))), ?_⟩
  · refine ⟨fun pins s' σ H' D I h' => ?_⟩
    obtain ⟨Ech, hW, h1, h2, h3⟩ := h'
    exact (pss_one (ps_expr (hact W pn xe q4 q5 tk) rfl)).run pins s' σ H' D I ⟨h1, h2, Ech, hW, h3⟩
  · have ht : ∀ pos, PE ((gCx X [act, told, e] xx sg g cdg s H).nox.suite a ((a, oe) :: pn)) (.Name told pos) (tVar 1) := fun pos => pe_var (i := 1) rfl (.inl R.lt) (dbg_of R.dt).1 (dbg_of R.dt).2
    have he : ∀ pos, PE ((gCx X [act, told, e] xx sg g cdg s H).nox.suite a ((a, oe) :: pn)) (.Name e pos) (tVar 2) := fun pos => pe_var (i := 2) rfl (.inl R.le) (dbg_of R.de).1 (dbg_of R.de).2
    refine ⟨fun pins s' σ H' Dn I hh => ?_⟩
    obtain ⟨D, dd, p, fs, h1, h2, h3, h4, h5, h6⟩ := hh
    obtain ⟨t, pt, k⟩ := ifs_ok (X := (gCx X [act, told, e] xx sg g cdg s H).nox) (p := p) hz hf R.mI ht he hifs R.hC
    have full := pss_cons (ps_if (pos := q16) (pt_not (pos := q12) (pt_truth (pe_callB (pos := q11) (p := q8) (call_isD hz hf) (glb_of (X := (gCx X [act, told, e] xx sg g cdg s H).nox.suite a ((a, oe) :: pn)) R.gI) R.mI (by decide +kernel) (pa_cons (he q9) (pa_cons (pe_bltn (pos := q10) (v := .ty "ValueError") (glb_of (X := (gCx X [act, told, e] xx sg g cdg s H).nox.suite a ((a, oe) :: pn)) R.gV) R.mV PyProof.Rows.Boot.«ValueError» rfl (by decide +kernel) (by decide +kernel)) pa_nil))) (fun _ => rfl)))
      (pss_one (ps_ret (pos := q15) (pe_lst (pos := q14) (pa_cons (pe_str (x := z) (j := jj) (pos := q13)) pa_nil)))) pss_nil) pt
    refine full.run pins s' σ H' Dn I ?_
    refine ⟨_, h2, D, dd, fs, .ty "ValueError", .type "ValueError", true, h4, rfl, fun u hu => hu, h5, true, rfl, ?_⟩
    exact k Dn σ H' D dd fs [] h1 h2 h3 h4 h6
  · refine ⟨by show 0 ≤ sizeLine; omega, fun p hp => ?_⟩
    obtain ⟨Ech, hE, htl⟩ := h p hp
    have hpc : p ≠ c' := fun z => by rw [z, hc] at hp; cases hp
    refine ⟨Ech, fun cls d H' hh => ?_, rfl, by rw [upd_ne (Ne.symm hpc)]; exact hc, ?_⟩
    · obtain ⟨D, dd, fs, w1, w2, w3, w4, w5⟩ := hE cls d H' hh
      refine ⟨true, w3, fun _ a ha => ⟨D, dd, p, fs, rfl, rfl, w2, w1, w4, ?_⟩, fun z => by cases z⟩
      have mono : ∀ (ts : List (Str × Str × Str)) (acc : List V) (H : Hp) (Q1 Q2 : Hp → Prop), (∀ H, Q1 H → Q2 H) → Post X.K X.mg D p fs Q1 ts acc H → Post X.K X.mg D p fs Q2 ts acc H := by
        intro ts
        induction ts with
        | nil => intro acc H Q1 Q2 hq h; exact hq H h
        | cons c r ih =>
          intro acc H Q1 Q2 hq h
          obtain ⟨C, tag, fl⟩ := c
          obtain ⟨A, b, z1, z2, z3, z4⟩ := h
          refine ⟨A, b, z1, z2, fun hb => ?_, fun hb => ih _ _ _ _ hq (z4 hb)⟩
          obtain ⟨y0, y1, y2, v, y3, y4⟩ := z3 hb
          exact ⟨y0, y1, y2, v, y3, fun q hq0 => ih _ _ _ _ hq (y4 q hq0)⟩
      exact mono _ _ _ _ _ (fun H2 hq => ⟨.ref p, rfl, hq⟩) w5
    · have conv : (fun (_ : V) (H1 : Hp) => tRet (tVar 1) { nx := fun _ H' => Q .non H', rt := Q } (List.set (L2.start [act, told, e] [V.ref f]) 1 (some (V.ref p))) H1) = fun _ H' => Q (.ref p) H' := by
        funext _ H1
        apply propext
        constructor
        · rintro ⟨v, hv, hq⟩
          cases hv
          exact hq
        · exact fun hq => ⟨.ref p, rfl, hq⟩
      rw [← conv] at htl
      exact htl
end Y


set_option Elab.async false
set_option linter.all false
set_option maxRecDepth 100000
set_option maxHeartbeats 4000000
namespace Y
open PySem PySem.Spec PyProof.Rows L2
/-! ## refusal(lambda: e) -/
section
variable {c : Cf} {X : Cx} {EW : XK} {E : Ent} {ρ ρ' : Rho c} {σ : L2.St} {ts us : Stk c} {H H1 : Hp}
theorem J.ext (j : J c E ρ σ ts H) (h : ExtT H H1) (hT : LamX.Tabs c.T H1) : J c E ρ σ ts H1 := by
  obtain ⟨h1, h2, h3, G, f, g⟩ := j
  have sG : Same G H1 := fun b o e => by
    rcases h b o (g.sub b o e) with z | ⟨ps, qs, z, _⟩
    · exact z
    · subst z; exact absurd e (g.ntb b ps)
  have keep : ∀ b u, H b = some u → LvO u → H1 b = some u := fun b u e l => by
    rcases h b u e with z | ⟨ps, qs, z, _⟩
    · exact z
    · exact absurd z (l.ntbl ps)
  refine ⟨h1, h2, h3, G, f, sG, g.sub0, fun b o e n => ?_, hT, g.own, fun i b hb => ?_, g.unf, fun i o e => ?_, g.nd, g.dj, g.out, fun b hb z => ?_, g.ntb⟩
  · rcases g.old b o e n with z | ⟨ps, qs, z1, z2⟩
    · exact h b o z
    · rcases h b _ z2 with w | ⟨p2, q2, w1, w2⟩
      · exact .inr ⟨ps, qs, z1, w⟩
      · exact .inr ⟨ps, q2, z1, w2⟩
  · obtain ⟨q, u, e, l⟩ := g.liv i b hb
    exact ⟨q, u, keep b u e l, l⟩
  · obtain ⟨w, e2, r⟩ := g.rep i o e
    refine ⟨w, e2, r.move (Same.refl _) fun b hb => ?_⟩
    obtain ⟨q, u, e3, l⟩ := g.liv i b hb
    exact ⟨q, by rw [keep b u e3 l, e3]⟩
  · cases e : H b with
    | none => exact g.a0 b hb e
    | some o => rcases h b o e with w | ⟨_, _, _, w⟩ <;> (rw [w] at z; cases z)
/-- the slots' frozen things, in a frame of their own -/
theorem J.inner {G : Hp} {f : Nat → List Addr} (h1 : ρ.length = σ.length) (g : JG c E (ρ ++ cO ts) (σ ++ cV ts) H G f) : J c ⟨H, G, [], none⟩ (frO ρ) σ [] H := by
  refine ⟨by simp [frO, h1], by simp, by simp, G, fun _ => [], ?_⟩
  refine ⟨g.sub, Same.refl _, fun b o e _ => .inl e, g.tab, by simp, by simp, fun b h _ _ => h, fun i o e => ?_, by simp, by simp, by simp, by simp, g.ntb⟩
  simp only [cO, cV, List.map_nil, List.append_nil] at e ⊢
  unfold frO at e
  rw [List.getElem?_map] at e
  cases e1 : ρ[i]? with
  | none => rw [e1] at e; cases e
  | some o1 =>
    rw [e1] at e
    simp only [Option.map_some] at e
    split at e
    · rename_i d
      cases e
      have hi : i < ρ.length := (List.getElem?_eq_some_iff.mp e1).1
      obtain ⟨w, e2, r⟩ := g.rep i (.fr d) (by rw [List.getElem?_append_left hi]; exact e1)
      rw [List.getElem?_append_left (by omega)] at e2
      exact ⟨w, e2, .fr r.unfr⟩
    · cases e
/-- what the classes say of each other: the n-th exception's field fl is told under z -/
structure Tells (c : Cf) (DE : Addr) (ts : List (Str × Str × Str)) (n : Nat) (z : Str) : Prop where
  xc : XcF c.K (c.exa n)
  em : PySem.W.exmOne c.K (.ref (c.exa n)) (.ref DE) = some true
  ve : PySem.W.kitOne c.K (.ref (c.exa n)) (.type "ValueError") = some true
  ex : ∃ (pre post : List (Str × Str × Str)) (C fl : Str), fl ≠ "" ∧ c.exf n = [fl] ∧ ts = pre ++ (C, z, fl) :: post ∧ PySem.W.findIn c.K (.ref (c.exa n)) fl = some none ∧ (∃ A, c.mg C = some (.ref A) ∧ PySem.W.kitOne c.K (.ref (c.exa n)) (.ref A) = some true) ∧
    (∀ t ∈ pre ++ post, ∃ A, c.mg t.1 = some (.ref A) ∧ PySem.W.kitOne c.K (.ref (c.exa n)) (.ref A) = some false)
theorem post_skip {K : PySem.W.Frag} {mg : Str → Option Value} {D p : Addr} {fs : List (Str × V)} {Qn : Hp → Prop} : ∀ {a r : List (Str × Str × Str)} {acc : List V} {H : Hp}, (∀ t ∈ a, ∃ A, mg t.1 = some (.ref A) ∧ PySem.W.kitOne K (.ref D) (.ref A) = some false) → Post K mg D p fs Qn r acc H → Post K mg D p fs Qn (a ++ r) acc H
  | [], _, _, _, _, h => h
  | (C, tag, f) :: a, r, acc, H, hs, h => by
    obtain ⟨A, h1, h2⟩ := hs _ (List.mem_cons_self ..)
    exact ⟨A, false, h1, h2, fun z => (by cases z), fun _ => post_skip (fun t ht => hs t (List.mem_cons_of_mem _ ht)) h⟩
theorem so_tri {fb : Rho c → Out c (Tm c)} {tg : Nat → Option Str} {trp : List (Str × Str × Str)} {x act told e xE : Str} {g cc P DE : Addr} {k : Nat} {pg : Arguments} {bg : List Stmt} {sg : Scope} {dV kV doc pm cdv ct oc : Value} {an od : Option Addr} {osl : Array (Option Value)}
    {params : Arguments} {body : Expr} {scope : Scope} {p lpos pos : Pos} (hK : X.K = c.K) (hmg : X.mg = c.mg) (hg : Gl X x) (hm : X.mg x = some (.ref g)) (hk : PySem.W.keepIn X.K (.ref g) = true)
    (lk : X.K.lookup g = some ⟨oc, od, .func (PySem.W.fnOf x x pg bg sg dV kV doc pm an cdv ct), osl⟩) (hcg : PySem.W.codeIn X.K cdv x = true) (hb : L2.Binds X.K (PySem.W.fnOf x x pg bg sg dV kV doc pm an cdv ct) [act] []) (Sg : FnScope [act, told, e] [act] sg)
    (R : RefT sg X.mg DE trp act told e xE bg) (TB : LamX.TabB X.base X.mg cc P) (hcode : X.env.code = .ref cc) (hmT : (P, X.env.qual ++ "<lambda>") ∈ c.T) (hu : ∀ p ∈ c.T, p.1 = P → p.2 = X.env.qual ++ "<lambda>") (hr : Room (k + 2) X.A) (L : LamX.LamS X.env.scope scope) (hdef : defaultsOf params X.env = ([], []))
    (hbind : ∀ (q : Str) (cl : List (Str × Addr)) (pm cv ctv : Value), bindArgs (PySem.W.kla_fn "<lambda>" q params body scope cl pm cv ctv) ⟨[], []⟩ = pure [])
    (htell : ∀ n z, tg n = some z → Tells c DE trp n z) (hdb : (x == ("__debug__" : Str)) = false)
    (hbody : ∀ (A : Around) (outer : List Env) (s : Shared) (H : Hp) (E : XK) (f c' : Addr), Room k (A.deeper (LamX.lamEnv X scope s.heap.objs.size f c')) → SoE c (LamX.lamCx X A outer s H E scope f c') E fb body) :
    SoE c X EW (triS tg fb) (.Call (.Name x p) [.Lambda params body scope lpos] [] pos) := by
  refine ⟨_, lamcall_own (T := c.T) (k := k) (Ng := [act, told, e]) (t := fun E σ H Q => ∃ (En : Ent) (ρ : Rho c) (ts : Stk c), J c En ρ σ ts H ∧ Wt c En E (fun tm ρ' => ∀ v H', J c En ρ' σ (ts ++ [(tm, v)]) H' → Q v H') (fb ρ)) hg hm hk lk hcg hb Sg (fun s H pn xe p1 => pe_var (i := 0) rfl (vis_of R.va) (dbg_of R.da).1 (dbg_of R.da).2) (ref_gives R) TB hcode hmT hu hr L hdef hbind (fun A outer s H E f c' hr' => ?_) hdb, fun E ρ σ ts H Q j hw => ?_⟩
  · obtain ⟨t, pt, kk⟩ := (hbody A outer s H E f c' hr').ex
    refine ⟨fun pins s σ H Q I hh => ?_⟩
    obtain ⟨En, ρ, ts, j, hw⟩ := hh
    exact pt.run pins s σ H Q I (kk En ρ σ ts H Q j hw)
  · have hT : LamX.Tabs c.T H := by
      obtain ⟨_, _, _, G, f, g⟩ := j
      exact g.tab
    refine ⟨hT, fun H1 eT T1 p hp => ?_⟩
    have j1 := (j.ext eT T1).lstNil hp
    obtain ⟨h1, h2, h3, G, f, g⟩ := id j1
    have jn : J c ⟨upd H1 p (.lst []), G, [], none⟩ (frO ρ) σ [] (upd H1 p (.lst [])) := J.inner h1 g
    have back : ∀ {ρ' : List (Option c.O)} {σ' : List (Option V)} {H' G' : Hp} {f' : Nat → List Addr}, JG c ⟨upd H1 p (.lst []), G, [], none⟩ ρ' σ' H' G' f' → J c E ρ σ (ts ++ [(.o (.lst []), .ref p)]) H' := fun k => ⟨h1, h2, h3, _, _, JG.after0 g k⟩
    unfold triS at hw
    cases hf : fb (frO ρ) with
    | bad => rw [hf] at hw; exact hw.elim
    | ok tm ρ' =>
      rw [hf] at hw
      refine ⟨fun _ _ _ => False, fun _ _ _ z => z.elim, _, frO ρ, [], jn, ?_⟩
      rw [hf]
      intro v H' j'
      obtain ⟨_, _, _, G', f', g'⟩ := j'
      exact hw _ _ (back g')
    | exc n fs =>
      rw [hf] at hw
      match fs, hf, hw with
      | [], _, hw => exact hw.elim
      | _ :: _ :: _, _, hw => exact hw.elim
      | [d], hf, hw =>
        cases ez : tg n with
        | none => simp only [ez] at hw; exact hw.elim
        | some z =>
          simp only [ez] at hw
          obtain ⟨xc, em, ve, pre, post, C, fl, e0, e1, e2, e3, ⟨A, e4, e5⟩, e6⟩ := htell n z ez
          refine ⟨fun cls d' H' => cls = .ref (c.exa n) ∧ ∃ dd, d' = some dd ∧ JX c ⟨upd H1 p (.lst []), G, [], none⟩ n [d] dd H', fun cls d' H' hh => ?_, _, frO ρ, [], jn, ?_⟩
          · obtain ⟨rfl, dd, rfl, G', f', vs, k, hx, r⟩ := hh
            obtain ⟨v, rfl⟩ : ∃ v, vs = [v] := by
              have := r.length
              match vs, this with
              | [v], _ => exact ⟨v, rfl⟩
            have rv : Rep c G' v d := by cases r with | cons a _ => exact a
            rw [e1] at hx
            have hpp : H' p = some (.lst []) := by
              rcases k.old p _ upd_same (by simp) with z | ⟨_, _, z, _⟩
              · exact z
              · cases z
            refine ⟨c.exa n, dd, [(fl, v)], ⟨rfl, rfl, by rw [hK]; exact xc, hx⟩, hpp, by rw [hK]; exact em, by rw [hK]; exact ve, ?_⟩
            rw [hK, hmg, e2]
            refine post_skip (fun t ht => e6 t (List.mem_append_left _ ht)) ⟨A, true, e4, e5, fun _ => ⟨e0, by simp, e3, v, by simp [List.lookup], fun q hq => ?_⟩, fun z => by cases z⟩
            have hl0 : (ρ ++ cO (ts ++ [((Tm.o (OT.lst []) : Tm c), V.ref p)])).length = (σ ++ cV (ts ++ [((Tm.o (OT.lst []) : Tm c), V.ref p)])).length := j1.lens
            have k1 := k.push (o := some (.fr d)) (v := v) (g := []) rfl (fun x e => by cases e; exact .fr rv) List.nodup_nil (by simp) (by simp) (by simp)
            have g3 := JG.after (Gc := G) g hl0 (Same.refl _) k1
            have rv3 : Rep c G' v d := rv
            have j3 := mkTup (ts := ts ++ [((Tm.o (OT.lst []) : Tm c), V.ref p)]) (us := [((Tm.o (OT.fr d) : Tm c), v)]) (ds := [.str z, d]) (vs := [.str z, v]) h1 h2 (fun t ht => by
              rcases List.mem_append.mp ht with ht | ht
              · exact h3 t ht
              · rw [List.mem_singleton.mp ht]; trivial) (by rw [cO_app, cV_app, ← List.append_assoc, ← List.append_assoc]; exact g3) hq (.cons (.str z) (.cons rv3 .nil))
            rw [List.append_assoc] at j3
            obtain ⟨xs, w1, w2, w3⟩ := J.appTop (acc := []) j3
            have : xs = [] := List.length_eq_zero_iff.mp w2
            subst this
            have npq : p ≠ q := fun e => by rw [e, hq] at hpp; cases hpp
            refine post_skip (a := post) (r := []) (fun t ht => e6 t (List.mem_append_right _ ht)) ?_ |> fun h => by simpa using h
            exact hw _ _ w3
          · rw [hf]
            exact fun dd H' jx => ⟨rfl, dd, rfl, jx⟩
end
end Y

set_option Elab.async false
set_option linter.all false
set_option maxRecDepth 100000
set_option maxHeartbeats 4000000
namespace Y
open PySem PySem.Spec PyProof.Rows L2
/-! ## the look: the core term is the text's -/
structure Sx where
  N : List Str
  fns : List (Str × List (Nat × List Str × List Nat) × Bool)
  gls : List Str
  exs : List Str
  dics : List Str
  dcns : List Str
  ref : Option Str
  lam : Bool
  mps : List (List (Nat × List Str × List Nat)) := []
  cls : List (Str × Nat) := []
  mths : List (Str × List Nat) := []
  stas : List (Str × Str × Nat × Nat) := []
def Sx.off (S : Sx) : Sx := { S with lam := false }
structure Ck where
  e : Scope → Expr → Bool := fun _ _ => false
  t : Scope → Expr → Bool := fun _ _ => false
  a : Scope → List Expr → Bool := fun _ _ => false
  k : Scope → List Keyword → Bool := fun _ _ => false
  ak : Scope → List Expr → List Keyword → Bool := fun _ _ _ => false
  g : (Str → Bool) → Expr → Bool := fun _ _ => false
  gs : (Str → Bool) → List Expr → Bool := fun _ _ => false
  i : Scope → Expr → Expr → Bool := fun _ _ _ => false
  p : Scope → Option Expr → Bool := fun _ _ => false
  f : Scope → List Expr → Bool := fun _ _ => false
  s : Scope → Stmt → Bool := fun _ _ => false
  b : Scope → List Stmt → Bool := fun _ _ => false
  d : Scope → List Str → List (Option Expr) → List Expr → Bool := fun _ _ _ _ => false
def exprCk (ce : Scope → Expr → Bool) : Ck := { e := fun sc x => ce sc x && plE x, t := fun sc x => ce sc x && tp x, i := fun sc _ x => ce sc x && notSet x, p := fun sc o => match o with | some x => ce sc x | none => false, f := fun sc l => match l with | [x] => ce sc x && tp x | _ => false }
/-- a test -/
def testF (t : Scope → Expr → Bool) (sc : Scope) (l : List Expr) : Bool := match l with
  | [x] => t sc x
  | _ => false
def ifeC (t a b : Ck) (sc : Scope) (e : Expr) : Bool := match e with | .IfExp x y z _ => t.t sc x && a.e sc y && b.e sc z | _ => false
def compC (N : List Str) (own : List Nat) (sl : List Nat) (tg it t el : Ck) (sc : Scope) (e : Expr) : Bool := match e with
      | .ListComp x [⟨y, z, ifs, ia⟩] scope _ => decide (ia = 0) && notSet z && blkC N sc scope (own.map fun i => (N.getD i "", i)) && it.i sc y z && tg.g (storB scope) y && sl.all own.contains && t.f (relS scope sc) ifs && el.e (relS scope sc) x
      | _ => false
def compC2 (N : List Str) (own own1 sl sl1 : List Nat) (tg it t tg1 a1 t1 el : Ck) (sc : Scope) (e : Expr) : Bool := match e with
      | .ListComp x [⟨y, z, ifs, ia⟩, ⟨y1, .Call (.Name n _) [za] [] _, ifs1, ia1⟩] scope _ => decide (ia = 0) && (decide (ia1 = 0) && (notSet z && (blkC N sc scope (own.map fun i => (N.getD i "", i)) && (it.i sc y z && (tg.g (storB scope) y && (sl.all own.contains && (sl1.all own1.contains && (own1.all own.contains && (t.f (relS scope sc) ifs && (decide (n = "range") && (isGlb (relS scope sc) n && (plE za && (a1.e (relS scope sc) za && (tg1.g (storB scope) y1 && (t1.f (relS scope sc) ifs1 && el.e (relS scope sc) x)))))))))))))))
      | _ => false
/-- the arguments of a call, by the patterns of the def -/
def argC (l : Ck) (pats : List (Nat × List Str × List Nat)) (d : Nat) (perm : List Nat) (sc : Scope) (xs : List Expr) (ks : List Keyword) : Bool := xs.all plE && ((match kwN ks with
  | some kn => pats.contains (xs.length + d, kn, perm)
  | none => false) && (if xs.isEmpty then l.k sc ks else l.ak sc xs ks))
/-- a list made by a comprehension, set to a name that a block within uses -/
def cellT (sc : Scope) (tg v : Expr) : Bool := match tg, v with
  | .Name y _, .ListComp _ _ _ _ => (match sc.names.lookup y with
    | some .cell => true
    | _ => false)
  | _, _ => false
theorem cellT_pl {env : Env} {tg v : Expr} {l : Nat} (h : cellT env.scope tg v = true) : swapsWithSole [tg] v l env = pure false ∧ isTL tg = false := by
  unfold cellT at h
  split at h
  · split at h
    · rename_i e
      refine ⟨?_, rfl⟩
      have ky : ∀ y : Str, env.scope.names.lookup y = some .cell → env.kindOf y = some .cell := fun y e => e
      unfold swapsWithSole swapsWith
      simp only [ky _ e]
      have z : (some NameKind.cell == some NameKind.local) = false := by decide
      simp only [z, Bool.and_false, Bool.false_and]
    · cases h
  · cases h
def noArgs (p : Arguments) : Bool := match p with
  | { posonlyargs := [], args := [], vararg := none, kwonlyargs := [], kw_defaults := [], kwarg := none, defaults := [] } => true
  | _ => false
def chk (S : Sx) : M → Ck
  | .nop => { p := fun _ o => match o with | none => true | _ => false, f := fun _ l => match l with | [] => true | _ => false }
  | .nil => { a := fun _ l => match l with | [] => true | _ => false, k := fun _ l => match l with | [] => true | _ => false, ak := fun _ l k => match l, k with | [], [] => true | _, _ => false, gs := fun _ l => match l with | [] => true | _ => false, b := fun _ l => match l with | [] => true | _ => false, d := fun _ z k v => match z, k, v with | [], [], [] => true | _, _, _ => false }
  | .cons a r => { a := fun sc l => match l with | x :: xs => (chk S a).e sc x && (chk S r).a sc xs | _ => false
                   k := fun sc l => match l with | ⟨some _, x, _⟩ :: xs => (chk S a).e sc x && (chk S r).k sc xs | _ => false
                   ak := fun sc l k => match l, k with
                     | x :: xs, k => (chk S a).e sc x && (chk S r).ak sc xs k
                     | [], ⟨some _, x, _⟩ :: ks => (chk S a).e sc x && (chk S r).k sc ks
                     | _, _ => false
                   gs := fun st l => match l with | x :: xs => plT x && (chk S a).g st x && (chk S r).gs st xs | _ => false
                   b := fun sc l => match l with | x :: xs => (chk S a).s sc x && (chk S r).b sc xs | _ => false
                   d := fun sc z k v => match z, k, v with | z :: zs, some (.Constant (.str y) _ _) :: ks, x :: xs => decide (y = z) && (chk S a).e sc x && (chk S r).d sc zs ks xs | _, _, _ => false }
  | .var i => exprCk fun sc e => match e with | .Name n _ => decide (S.N[i]? = some n) && isVis sc n && nodbg n | _ => false
  | .glo g => exprCk fun sc e => match e with | .Name n _ => decide (S.gls[g]? = some n) && isGlb sc n && nodbg n | _ => false
  | .int i => exprCk fun _ e => match e with | .Constant (.int j) _ _ => decide (i = j) | _ => false
  | .str s => exprCk fun _ e => match e with | .Constant (.str j) _ _ => decide (s = j) | _ => false
  | .bl b => exprCk fun _ e => match e with | .Constant (.bool j) _ _ => decide (b = j) | _ => false
  | .non => exprCk fun _ e => match e with | .Constant .none _ _ => true | _ => false
  | .bin k a b => exprCk fun sc e => match e with | .BinOp x op y _ => decide (opK op = k) && decide (k < 6) && (chk S a).e sc x && (chk S b).e sc y | _ => false
  | .neg a => exprCk fun sc e => match e with | .UnaryOp .USub x _ => (chk S a).e sc x | _ => false
  | .nt a => { e := fun sc e => match e with | .UnaryOp .Not x _ => (chk S a).e sc x | _ => false, t := fun sc e => match e with | .UnaryOp .Not x _ => (chk S a).t sc x | _ => false, f := testF fun sc e => match e with | .UnaryOp .Not x _ => (chk S a).t sc x | _ => false }
  | .and a b => { e := fun sc e => match e with | .BoolOp .And (x :: y :: r) p => (chk S a).e sc x && (chk S b).e sc (.BoolOp .And (y :: r) p) | _ => false
                  t := fun sc e => match e with | .BoolOp .And (x :: y :: r) p => (chk S a).t sc x && (chk S b).t sc (.BoolOp .And (y :: r) p) | _ => false
                  f := testF fun sc e => match e with | .BoolOp .And (x :: y :: r) p => (chk S a).t sc x && (chk S b).t sc (.BoolOp .And (y :: r) p) | _ => false }
  | .or a b => { e := fun sc e => match e with | .BoolOp .Or (x :: y :: r) p => (chk S a).e sc x && (chk S b).e sc (.BoolOp .Or (y :: r) p) | _ => false
                 t := fun sc e => match e with | .BoolOp .Or (x :: y :: r) p => (chk S a).t sc x && (chk S b).t sc (.BoolOp .Or (y :: r) p) | _ => false
                 f := testF fun sc e => match e with | .BoolOp .Or (x :: y :: r) p => (chk S a).t sc x && (chk S b).t sc (.BoolOp .Or (y :: r) p) | _ => false }
  | .one a => { e := fun sc e => match e with | .BoolOp _ [x] _ => (chk S a).e sc x | _ => false, t := fun sc e => match e with | .BoolOp _ [x] _ => (chk S a).t sc x | _ => false }
  | .cmp k a b => let ce := fun (sc : Scope) (e : Expr) => (match e with | .Compare x [op] [y] _ => decide (cmK op = k) && notSet y && (chk S a).e sc x && (chk S b).e sc y | _ => false); { exprCk ce with t := ce, f := testF ce }
  | .ife t a b => { exprCk (ifeC (chk S t) (chk S a) (chk S b)) with t := fun _ _ => false, f := fun _ _ => false }
  | .tup l => exprCk fun sc e => match e with | .Tuple xs _ _ => (chk S l).a sc xs | _ => false
  | .lst l => exprCk fun sc e => match e with | .List xs _ => (chk S l).a sc xs | _ => false
  | .idx a i => exprCk fun sc e => match e with | .Subscript x y _ => notSlice y && (chk S a).e sc x && (chk S i).e sc y | _ => false
  | .dsp zs l => exprCk fun sc e => match e with | .Dict ks vs _ => !zs.isEmpty && decide (zs.length ≤ 15) && (chk S l).d sc zs ks vs | _ => false
  | .dix a k => exprCk fun sc e => match e with | .Subscript x y _ => notSlice y && (chk S a).e sc x && (chk S k).e sc y | _ => false
  | .dst i k e => { s := fun sc s => match s with
      | .Assign [.Subscript (.Name n _) x _] v _ => decide (S.N[i]? = some n) && isVis sc n && nodbg n && notComp v && notSlice x && (chk S k).e sc x && (chk S e).e sc v
      | _ => false }
  | .tri b => exprCk fun sc e => match e with
      | .Call (.Name n _) [.Lambda ps body scope _] [] _ => S.lam && decide (S.ref = some n) && isGlb sc n && nodbg n && noArgs ps && LamX.lamSB sc scope && (chk S.off b).e scope body
      | _ => false
  | .fz a => exprCk fun sc e => match e with | .ListComp _ _ _ _ => false | e => (chk S a).e sc e
  | .dgt g k => exprCk fun sc e => match e with | .Subscript (.Name n _) y _ => notSlice y && decide (S.dics[g]? = some n) && isGlb sc n && nodbg n && (chk S k).e sc y | _ => false
  | .dgn g k => exprCk fun sc e => match e with | .Subscript (.Name n _) y _ => notSlice y && decide (S.dcns[g]? = some n) && isGlb sc n && nodbg n && (chk S k).e sc y | _ => false
  | .slc a lo hi => exprCk fun sc e => match e with | .Subscript x (.Slice l h none _) _ => (chk S a).e sc x && (chk S lo).p sc l && (chk S hi).p sc h | _ => false
  | .call f l perm => exprCk fun sc e => match e with
      | .Call (.Name n _) xs ks _ => (match S.fns[f]? with
        | some (m, pats, io) => decide (m = n) && isGlb sc n && nodbg n && xs.all plE && (match kwN ks with
            | some kn => pats.contains (xs.length, kn, perm) && (if io then decide (kn = []) && !xs.isEmpty && decide (perm = List.range xs.length) else true)
            | none => false) && (if xs.isEmpty then (chk S l).k sc ks else (chk S l).ak sc xs ks)
        | none => false)
      | _ => false
  | .bfc k l => exprCk fun sc e => match e with | .Call (.Name n _) xs [] _ => decide (n = bName k) && decide (k < 9) && isGlb sc n && !xs.isEmpty && xs.all plE && (chk S l).a sc xs | _ => false
  | .isi k a => exprCk fun sc e => match e with | .Call (.Name n _) [x, .Name m _] [] _ => decide (n = "isinstance") && decide (m = kName k) && decide (k < 5) && isGlb sc n && isGlb sc m && plE x && (chk S a).e sc x | _ => false
  | .comp own tg it t el => exprCk (compC S.N own (tslots tg) (chk S.off tg) (chk S it) (chk S.off t) (chk S.off el))
  | .comp2 own own1 tg it t tg1 a1 t1 el => exprCk (compC2 S.N own own1 (tslots tg) (tslots tg1) (chk S.off tg) (chk S it) (chk S.off t) (chk S.off tg1) (chk S.off a1) (chk S.off t1) (chk S.off el))
  | .tn i => { g := fun st e => match e with | .Name n _ => decide (S.N[i]? = some n) && st n | _ => false }
  | .tt l => { g := fun st e => match e with | .Tuple xs _ _ => (chk S l).gs st xs | _ => false }
  | .rng1 a => { i := fun sc _ e => match e with | .Call (.Name n _) [x] [] _ => decide (n = "range") && isGlb sc n && plE x && (chk S a).e sc x | _ => false }
  | .rng2 a b => { i := fun sc _ e => match e with | .Call (.Name n _) [x, y] [] _ => decide (n = "range") && isGlb sc n && plE x && plE y && (chk S a).e sc x && (chk S b).e sc y | _ => false }
  | .enu a => { i := fun sc t e => match t, e with | .Tuple _ _ _, .Call (.Name n _) [x] [] _ => decide (n = "enumerate") && isGlb sc n && plE x && (chk S a).e sc x | _, _ => false }
  | .zp a b => { i := fun sc t e => match t, e with | .Tuple _ _ _, .Call (.Name n _) [x, y] [] _ => decide (n = "zip") && isGlb sc n && plE x && plE y && (chk S a).e sc x && (chk S b).e sc y | _, _ => false }
  | .fld a f => exprCk fun sc e => match e with | .Attribute o g _ => decide (g = f) && abOk o && (chk S a).e sc o | _ => false
  | .sfl i f e => { s := fun sc s => match s with
      | .Assign [.Attribute (.Name n _) g _] v _ => decide (g = f) && decide (S.N[i]? = some n) && isVis sc n && nodbg n && notComp v && (chk S e).e sc v
      | _ => false }
  | .mk k g l perm => exprCk fun sc e => match e with
      | .Call (.Name n _) xs ks _ => decide (S.cls[k]? = some (n, g)) && isGlb sc n && nodbg n && argC (chk S l) (S.mps.getD g []) 1 (0 :: perm.map Nat.succ) sc xs ks
      | _ => false
  | .mth m a l perm => exprCk fun sc e => match e with
      | .Call (.Attribute o n apos) xs ks pos => decide (n = m) && abOk o && decide (xs.length + ks.length < 28) && (apos.endLine == pos.line) && (chk S a).e sc o && xs.all plE && (match kwN ks with
          | some kn => ((S.mths.lookup m).getD []).all fun g => (S.mps.getD g []).contains (xs.length + 1, kn, 0 :: perm.map Nat.succ)
          | none => false) && (if xs.isEmpty then (chk S l).k sc ks else (chk S l).ak sc xs ks)
      | _ => false
  | .prp m a => exprCk fun sc e => match e with | .Attribute o n _ => decide (n = m) && abOk o && (chk S a).e sc o | _ => false
  | .sta k m g l perm => exprCk fun sc e => match e with
      | .Call (.Attribute (.Name n _) m2 apos) xs ks pos => decide (m2 = m) && S.stas.contains (n, m, k, g) && isGlb sc n && nodbg n && decide (xs.length + ks.length < 28) && (apos.endLine == pos.line) && argC (chk S l) (S.mps.getD g []) 0 perm sc xs ks
      | _ => false
  | .isc k a => exprCk fun sc e => match e with | .Call (.Name n _) [x, .Name m _] [] _ => decide (n = "isinstance") && decide ((S.cls[k]?).map (·.1) = some m) && isGlb sc n && isGlb sc m && nodbg m && plE x && (chk S a).e sc x | _ => false
  | .par i j l => { s := fun sc s => match s with
      | .Assign [.Tuple [.Name x px, .Name y py] _ _] (.Tuple [a, b] _ _) _ => !decide (i = j) && decide (S.N[i]? = some x) && decide (S.N[j]? = some y) && decide (sc.names.lookup x = some .local) && decide (sc.names.lookup y = some .local) && (match sc.kind with | .function => true | _ => false) && (px.line == py.line) && plE a && plE b && !([a, b].all (foldedForSure 8)) && !([a, b].all (constantsAlone 8)) && (chk S l).a sc [a, b]
      | _ => false }
  | .oeq ne a b => let ce := fun (sc : Scope) (e : Expr) => (match e with | .Compare x [op] [y] _ => decide (op = if ne then .NotEq else .Eq) && (chk S a).e sc x && (chk S b).e sc y | _ => false); { exprCk ce with t := ce, f := testF ce }
  | .asg t e => { s := fun sc s => match s with
      | .Assign [tg] v pos => plT tg && (chk S t).g (storB sc) tg && (chk S e).e sc v && ((notComp v && !(isTL tg && isTL v)) || (match tg, v with
          | .Name y py, .ListComp _ [_] scope p => (match sc.kind with | .function => true | _ => false) && (match sc.names.lookup y with
              | some .local => (py.line == p.line) && !(scope.names.any fun (n, k) => n == y && (k == .local || k == .cell))
              | _ => false)
          | _, _ => false) || cellT sc tg v)
      | _ => false }
  | .sti i k e => { s := fun sc s => match s with
      | .Assign [.Subscript (.Name n _) x _] v _ => decide (S.N[i]? = some n) && isVis sc n && nodbg n && notComp v && notSlice x && (chk S k).e sc x && (chk S e).e sc v
      | _ => false }
  | .app i e => { s := fun sc s => match s with
      | .Expr (.Call (.Attribute (.Name n _) m p2) [x] [] p3) _ => decide (m = "append") && (p2.endLine == p3.line) && decide (S.N[i]? = some n) && isVis sc n && nodbg n && plE x && (chk S e).e sc x
      | _ => false }
  | .pop0 i e => { s := fun sc s => match s with
      | .Expr (.Call (.Attribute (.Name n _) m p2) [x] [] p3) _ => decide (m = "pop") && (p2.endLine == p3.line) && decide (S.N[i]? = some n) && isVis sc n && nodbg n && plE x && (chk S e).e sc x
      | _ => false }
  | .clr i => { s := fun sc s => match s with
      | .Expr (.Call (.Attribute (.Name n _) m p2) [] [] p3) _ => decide (m = "clear") && (p2.endLine == p3.line) && decide (S.N[i]? = some n) && isVis sc n && nodbg n
      | _ => false }
  | .clra t l => { s := fun sc s => match s with
      | .For (.Name n _) (.Name m _) [.Expr (.Call (.Attribute (.Name n2 _) mt p3) [] [] p4) _] [] _ => decide (n2 = n) && decide (mt = "clear") && (p3.endLine == p4.line) && decide (S.N[t]? = some n) && storB sc n && isVis sc n && nodbg n && decide (S.N[l]? = some m) && isVis sc m && nodbg m
      | _ => false }
  | .iff t a b => { s := fun sc s => match s with | .If x y z _ => (chk S t).t sc x && (chk S a).b sc y && (chk S b).b sc z | _ => false }
  | .loop t it b => { s := fun sc s => match s with | .For x y z [] _ => notSet y && (chk S t).g (storB sc) x && (chk S it).i sc x y && (chk S b).b sc z | _ => false }
  | .ret e => { s := fun sc s => match s with | .Return (some x) _ => (chk S e).e sc x | _ => false }
  | .ret0 => { s := fun _ s => match s with | .Return none _ => true | _ => false }
  | .ex e => { s := fun sc s => match s with | .Expr x _ => notComp x && (chk S e).e sc x | _ => false }
  | .brk => { s := fun _ s => match s with | .Break _ => true | _ => false }
  | .cnt => { s := fun _ s => match s with | .Continue _ => true | _ => false }
  | .pas => { s := fun _ s => match s with | .Pass _ => true | _ => false }
  | .rai n l => { s := fun sc s => match s with
      | .Raise (some (.Call (.Name x _) (a :: as) [] _)) none _ => decide (S.exs[n]? = some x) && isGlb sc x && nodbg x && (a :: as).all plE && (chk S l).a sc (a :: as)
      | _ => false }
/-! ## the contexts -/
structure XOk (c : Cf) (base : Heap) (k : Nat) (S : Sx) (EW : XK) (X : Cx) : Prop where
  P : X.prog = c.P
  w : X.w = c.w
  K : X.K = c.K
  mg : X.mg = c.mg
  base : X.base = base
  N : X.N = S.N
  nd : X.N.Nodup
  calm : X.calm = true
  room : Room (k + 1) X.A
  tk : Takes X fun cls d _ H => EW cls d H
  po : PassesOwn (model X.prog X.w) X.A X.env X.xe
  deep : S.lam = true → Room (k + 3) X.A ∧ ∃ cc P, X.env.code = .ref cc ∧ LamX.TabB X.base X.mg cc P ∧ (P, X.env.qual ++ "<lambda>") ∈ c.T ∧ ∀ p ∈ c.T, p.1 = P → p.2 = X.env.qual ++ "<lambda>"
/-- names that may be stored -/
def StOk (X : Cx) (st : Str → Bool) : Prop := ∀ n, st n = true → Loc X.env.scope n ∧ (X.fn n = true ∨ X.env.scope.names.lookup n = some .local)
/-- what __init__ of an exception with one field does -/
def spInit (K : PySem.W.Frag) (f : Str) : Sp := fun vs H Q _ => ∃ (a C : Addr) (y : V), vs = [.ref a, y] ∧ OexC K C ∧ PySem.W.findIn K (.ref C) f = some none ∧ H a = some (exo a C none) ∧
  ∀ dx, H dx = none → dx ≠ a → Q .non (upd (upd H dx (exd dx [(f, y)])) a (exo a C (some dx)))
structure ExI (c : Cf) (base : Heap) (k : Nat) (n : Nat) (nm : Str) : Prop where
  two : 2 ≤ k
  ex : ∃ (fI : Addr) (fd : FuncData) (f : Str), c.exf n = [f] ∧ OexC c.K (c.exa n) ∧ PySem.W.findIn c.K (.ref (c.exa n)) "__init__" = some (some (.ref fI)) ∧ PySem.W.typeIn c.K (.ref fI) = some (.type "function") ∧
    FnOk c.P c.w c.K c.mg base (L2.CX c.P c.w) 1 fI fd ["self", f] (spInit c.K f) ∧ Binds c.K fd ["self", f] [] ∧ c.mg nm = some (.ref (c.exa n)) ∧ PySem.W.findIn c.K (.ref (c.exa n)) f = some none
/-- the def that tells refusals -/
structure RefI (c : Cf) (x : Str) (tg : Nat → Option Str) : Prop where
  ex : ∃ (act told e xE : Str) (g DE : Addr) (pg : Arguments) (bg : List Stmt) (sg : Scope) (dV kV doc pm cdv ct oc : Value) (an od : Option Addr) (osl : Array (Option Value)) (trp : List (Str × Str × Str)),
    c.mg x = some (.ref g) ∧ PySem.W.keepIn c.K (.ref g) = true ∧ c.K.lookup g = some ⟨oc, od, .func (PySem.W.fnOf x x pg bg sg dV kV doc pm an cdv ct), osl⟩ ∧ PySem.W.codeIn c.K cdv x = true ∧ L2.Binds c.K (PySem.W.fnOf x x pg bg sg dV kV doc pm an cdv ct) [act] [] ∧
    FnScope [act, told, e] [act] sg ∧ RefT sg c.mg DE trp act told e xE bg ∧ ∀ n z, tg n = some z → Tells c DE trp n z
structure VOk (c : Cf) (base : Heap) (k : Nat) (S : Sx) (V : Ev c) : Prop where
  call : ∀ f nm pats io, S.fns[f]? = some (nm, pats, io) → pats ≠ [] → V.io f = io ∧ ∃ I : FnI, I.nm = nm ∧ FnOk c.P c.w c.K c.mg base (L2.CX c.P c.w) k I.ad I.fd I.ps (spF c io (V.call f)) ∧ c.mg nm = some (.ref I.ad) ∧ PySem.W.keepIn c.K (.ref I.ad) = true ∧ (∀ G : Hp, RepL c G I.dvs (V.dfl f)) ∧ ∀ q ∈ pats, KB c.K I.fd I.ps I.dvs q.1 q.2.1 q.2.2
  ref : ∀ n, S.ref = some n → RefI c n V.tag
  exc : ∀ n nm, S.exs[n]? = some nm → ExI c base k n nm
  dic : ∀ g n, S.dics[g]? = some n → ∃ a, c.mg n = some (.ref a) ∧ ∀ z d, (V.dic g).lookup z = some d → ∃ v, KDct c.K c.w a z v ∧ ∀ G : Hp, Rep c G v d
  dcn : ∀ g n, S.dcns[g]? = some n → ∃ a, c.mg n = some (.ref a) ∧ KDcn c a (V.dcn g)
  glo : ∀ g n, S.gls[g]? = some n → ∃ v u, c.mg n = some u ∧ RelV v u ∧ ∀ G : Hp, Rep c G v (V.glo g)
  cf : ClsF c
  mkc : ∀ C nm g, S.cls[C]? = some (nm, g) → C < V.ncl ∧ ∃ I : FnI, FnOk c.P c.w c.K c.mg base (L2.CX c.P c.w) k I.ad I.fd I.ps (spF c true (V.call g)) ∧ Mk c.K (c.cls C) I.ad ∧ c.mg nm = some (.ref (c.cls C)) ∧ (∀ G : Hp, RepL c G I.dvs (V.dfl g)) ∧ ∀ q ∈ S.mps.getD g [], KB c.K I.fd I.ps I.dvs q.1 q.2.1 q.2.2
  mtd : ∀ m C g, V.mth m C = some g → g ∈ (S.mths.lookup m).getD [] ∧ ∃ (f : Addr) (fd : FuncData) (ps : List Str) (dvs : List L2.V), Cls c.K (c.cls C) ∧ Meth c.K (c.cls C) m f ∧ FnOk c.P c.w c.K c.mg base (L2.CX c.P c.w) k f fd ps (spF c false (V.call g)) ∧ (∀ G : Hp, RepL c G dvs (V.dfl g)) ∧ ∀ q ∈ S.mps.getD g [], KB c.K fd ps dvs q.1 q.2.1 q.2.2
  prp : ∀ m C g, V.prp m C = some g → ∃ (p f : Addr) (fd : FuncData) (ps : List Str), Cls c.K (c.cls C) ∧ PropOf c.K (c.cls C) m p f ∧ FnOk c.P c.w c.K c.mg base (L2.CX c.P c.w) k f fd ps (spF c false (V.call g)) ∧ L2.Binds c.K fd ps []
  sta : ∀ nm m C g, (nm, m, C, g) ∈ S.stas → ∃ I : FnI, FnOk c.P c.w c.K c.mg base (L2.CX c.P c.w) k I.ad I.fd I.ps (spF c false (V.call g)) ∧ c.mg nm = some (.ref (c.cls C)) ∧ (∃ p, StaF c.K (c.cls C) m p I.ad) ∧ (∀ G : Hp, RepL c G I.dvs (V.dfl g)) ∧ ∀ q ∈ S.mps.getD g [], KB c.K I.fd I.ps I.dvs q.1 q.2.1 q.2.2
  ins : InsK c V.ncl
  eqm : ∀ C g, V.eqm C = some g → ∃ (f : Addr) (fd : FuncData) (ps : List Str), EqF c V.ncl C f ∧ FnOk c.P c.w c.K c.mg base (L2.CX c.P c.w) k f fd ps (spF c false (V.call g)) ∧ L2.Binds c.K fd ps []
  blt : ∀ n ∈ (["len", "int", "all", "any", "isinstance", "range", "bool", "str", "tuple", "list", "sorted", "min", "max", "sum", "abs", "dict", "set", "enumerate", "zip"] : List Str), c.mg n = none
end Y

set_option Elab.async false
set_option linter.all false
set_option maxRecDepth 100000
set_option maxHeartbeats 4000000
namespace Y
open PySem PySem.Spec PyProof.Rows L2
theorem nof {p : Prop} {b : Bool} (h : b = true) (h2 : b = false) : p := by rw [h2] at h; cases h
structure SoTs (c : Cf) (X : Cx) (EW : XK) (f : Rho c → Out c Bool) (l : List Expr) : Prop where
  ex : ∃ t : TT, PTs X l t ∧ ∀ (E : Ent) (ρ : Rho c) (σ : L2.St) (ts : Stk c) (H : Hp) (Q : Bool → Hp → Prop), J c E ρ σ ts H → Wt c E EW (fun b ρ' => ∀ H', J c E ρ' σ ts H' → Q b H') (f ρ) → t σ H Q
theorem SoT.ts {c : Cf} {X : Cx} {EW : XK} {f : Rho c → Out c Bool} {x : Expr} (h : SoT c X EW f x) : SoTs c X EW f [x] := by
  obtain ⟨t, p, k⟩ := h.ex
  exact ⟨t, pts_one p, k⟩
structure Snd (c : Cf) (base : Heap) (k₀ : Nat) (S : Sx) (V : Ev c) (pin : Bool) (m : M) : Prop where
  e : ∀ X EW, XOk c base k₀ S EW X → ∀ x, (chk S m).e X.env.scope x = true → SoE c X EW (sem V pin m).o x
  lc : ∀ X EW, XOk c base k₀ S EW X → ∀ elt gg scope pos, (chk S m).e X.env.scope (.ListComp elt [gg] scope pos) = true → ∃ tg iter ifs own, [gg] = [⟨tg, iter, ifs, 0⟩] ∧ notSet iter = true ∧ BlkOk X.N X.env.scope scope own ∧ SoC c X EW (sem V pin m).o elt tg iter ifs scope own
  d : ∀ X EW, XOk c base k₀ S EW X → ∀ zs ks es, (chk S m).d X.env.scope zs ks es = true → SoD c X EW (sem V pin m).f zs ks es
  pl : ∀ sc x, (chk S m).e sc x = true → plE x = true
  t : ∀ X EW, XOk c base k₀ S EW X → ∀ x, (chk S m).t X.env.scope x = true → SoT c X EW (sem V pin m).t x
  w : ∀ X EW, XOk c base k₀ S EW X → ∀ op vs p, (chk S m).t X.env.scope (.BoolOp op vs p) = true → SoW c X EW (sem V pin m).t (.BoolOp op vs p)
  a : ∀ X EW, XOk c base k₀ S EW X → ∀ l, (chk S m).a X.env.scope l = true → SoB c X EW (sem V pin m).a l
  f : ∀ X EW, XOk c base k₀ S EW X → ∀ l, (chk S m).a X.env.scope l = true → SoF c X EW (sem V pin m).f l
  v : ∀ X EW, XOk c base k₀ S EW X → ∀ l, (chk S m).a X.env.scope l = true → SoV c X EW (sem V pin m).v l
  apl : ∀ sc l, (chk S m).a sc l = true → l.all plE = true
  k : ∀ X EW, XOk c base k₀ S EW X → ∀ l, (chk S m).k X.env.scope l = true → SoK c X EW (sem V pin m).a l
  ak : ∀ X EW, XOk c base k₀ S EW X → ∀ l kw, (chk S m).ak X.env.scope l kw = true → SoA c X EW (sem V pin m).a l kw
  g : ∀ X, X.K = c.K → X.N = S.N → X.N.Nodup → X.calm = true → ∀ st, StOk X st → ∀ x, (chk S m).g st x = true → SoG c X pin (tslots m) (sem V pin m).g x
  gs : ∀ X, X.K = c.K → X.N = S.N → X.N.Nodup → X.calm = true → ∀ st, StOk X st → ∀ l, (chk S m).gs st l = true → SoGs c X pin (tslots m) (sem V pin m).gs l
  i : ∀ X EW, XOk c base k₀ S EW X → ∀ tg x, (chk S m).i X.env.scope tg x = true → SoI c X EW (sem V pin m).i tg x
  p : ∀ X EW, XOk c base k₀ S EW X → ∀ o, (chk S m).p X.env.scope o = true → SoP c X EW (sem V pin m).p o
  fi : ∀ X EW, XOk c base k₀ S EW X → ∀ l, (chk S m).f X.env.scope l = true → SoTs c X EW (sem V pin m).t l
  s : ∀ X EW, XOk c base k₀ S EW X → StOk X (storB X.env.scope) → ∀ s, (chk S m).s X.env.scope s = true → SoS c X EW pin (sem V pin m).s s
  b : ∀ X EW, XOk c base k₀ S EW X → StOk X (storB X.env.scope) → ∀ l, (chk S m).b X.env.scope l = true → SoSs c X EW pin (sem V pin m).s l
section
variable {c : Cf} {base : Heap} {k₀ : Nat} {S : Sx} {V : Ev c} {pin : Bool}
theorem and2 {a b : Bool} (h : (a && b) = true) : a = true ∧ b = true := Bool.and_eq_true_iff.mp h
theorem testF_of {t : Scope → Expr → Bool} {sc : Scope} {l : List Expr} (h : testF t sc l = true) : ∃ x, l = [x] ∧ t sc x = true := by
  match l, h with
  | [x], h => exact ⟨x, rfl, h⟩
theorem snd_expr {m : M} {ce : Scope → Expr → Bool} {o : Rho c → Out c (Tm c)} (hlc : ∀ sc elt gens scope pos, ce sc (.ListComp elt gens scope pos) = false) (h1 : chk S m = exprCk ce) (h2 : sem V pin m = exprS o) (he : ∀ X EW, XOk c base k₀ S EW X → ∀ x, ce X.env.scope x = true → SoE c X EW o x) : Snd c base k₀ S V pin m := by
  refine { e := ?e, lc := fun X EW hx elt gens scope pos h => nof (and2 (h1 ▸ h)).1 (hlc _ _ _ _ _), d := ?d, pl := ?pl, t := ?t, w := ?w, a := ?a, f := ?f, v := ?v, apl := ?apl, k := ?k, ak := ?ak, g := ?g, gs := ?gs, i := ?i, p := ?p, fi := ?fi, s := ?s, b := ?b } <;> rw [h1] <;> (try rw [h2])
  case e => exact fun X EW hx x h => he X EW hx x (and2 h).1
  case d => exact fun X EW hx zs ks es h => nof h rfl
  case pl => exact fun sc x h => (and2 h).2
  case t => exact fun X EW hx x h => so_tru hx.K (he X EW hx x (and2 h).1) (tp_ok (and2 h).2)
  case w => exact fun X EW hx op vs p h => nof (and2 h).2 rfl
  case a => exact fun X EW hx l h => nof h rfl
  case f => exact fun X EW hx l h => nof h rfl
  case v => exact fun X EW hx l h => nof h rfl
  case apl => exact fun sc l h => nof h rfl
  case k => exact fun X EW hx l h => nof h rfl
  case ak => exact fun X EW hx l kw h => nof h rfl
  case g => exact fun X hK hN hnd hc st hst x h => nof h rfl
  case gs => exact fun X hK hN hnd hc st hst x h => nof h rfl
  case i => exact fun X EW hx tg x h => so_ite hx.K (he X EW hx x (and2 h).1)
  case p =>
    intro X EW hx o h
    cases o with
    | none => cases h
    | some x => exact so_prt (he X EW hx x h)
  case fi =>
    intro X EW hx l h
    match l, h with
    | [x], h => exact (so_tru hx.K (he X EW hx x (and2 h).1) (tp_ok (and2 h).2)).ts
  case s => exact fun X EW hx hs s h => nof h rfl
  case b => exact fun X EW hx hs s h => nof h rfl
theorem snd_nop : Snd c base k₀ S V pin .nop := by
  refine { e := fun X EW hx x h => nof h rfl, lc := fun X EW hx elt gens scope pos h => nof h rfl, d := fun X EW hx zs ks es h => nof h rfl, pl := fun sc x h => nof h rfl, t := fun X EW hx x h => nof h rfl, w := fun X EW hx op vs p h => nof h rfl, a := fun X EW hx l h => nof h rfl, f := fun X EW hx l h => nof h rfl, v := fun X EW hx l h => nof h rfl, apl := fun sc l h => nof h rfl, k := fun X EW hx l h => nof h rfl, ak := fun X EW hx l kw h => nof h rfl, g := fun X hK hN hnd hc st hst x h => nof h rfl, gs := fun X hK hN hnd hc st hst l h => nof h rfl, i := fun X EW hx tg x h => nof h rfl, p := ?p, fi := ?fi, s := fun X EW hx hs s h => nof h rfl, b := fun X EW hx hs l h => nof h rfl }
  case p =>
    intro X EW hx o h
    cases o with
    | none => exact so_noP
    | some x => cases h
  case fi =>
    intro X EW hx l h
    match l, h with
    | [], _ => exact ⟨_, pts_nil, fun E ρ σ ts H Q j hw => hw H j⟩
theorem snd_nil : Snd c base k₀ S V pin .nil := by
  refine { e := fun X EW hx x h => nof h rfl, lc := fun X EW hx elt gens scope pos h => nof h rfl, d := ?d, pl := fun sc x h => nof h rfl, t := fun X EW hx x h => nof h rfl, w := fun X EW hx op vs p h => nof h rfl, a := ?a, f := ?f, v := ?v, apl := ?apl, k := ?k, ak := ?ak, g := fun X hK hN hnd hc st hst x h => nof h rfl, gs := ?gs, i := fun X EW hx tg x h => nof h rfl, p := fun X EW hx o h => nof h rfl, fi := fun X EW hx l h => nof h rfl, s := fun X EW hx hs s h => nof h rfl, b := ?b }
  case d =>
    intro X EW hx zs ks es h
    match zs, ks, es, h with
    | [], [], [], _ => exact so_nilD
  case a =>
    intro X EW hx l h
    match l, h with
    | [], _ => exact so_nilB
  case f =>
    intro X EW hx l h
    match l, h with
    | [], _ => exact so_nilF
  case v =>
    intro X EW hx l h
    match l, h with
    | [], _ => exact so_nilV
  case apl =>
    intro sc l h
    match l, h with
    | [], _ => rfl
  case k =>
    intro X EW hx l h
    match l, h with
    | [], _ => exact so_nilK
  case ak =>
    intro X EW hx l kw h
    match l, kw, h with
    | [], [], _ => exact so_ofK so_nilK
  case gs =>
    intro X hK hN hnd hc st hst l h
    match l, h with
    | [], _ => exact so_gnil
  case b =>
    intro X EW hx hs l h
    match l, h with
    | [], _ => exact ss_nil
theorem snd_cons {a r : M} (ha : Snd c base k₀ S V pin a) (hr : Snd c base k₀ S V pin r) : Snd c base k₀ S V pin (.cons a r) := by
  refine { e := fun X EW hx x h => nof h rfl, lc := fun X EW hx elt gens scope pos h => nof h rfl, d := ?d, pl := fun sc x h => nof h rfl, t := fun X EW hx x h => nof h rfl, w := fun X EW hx op vs p h => nof h rfl, a := ?a, f := ?f, v := ?v, apl := ?apl, k := ?k, ak := ?ak, g := fun X hK hN hnd hc st hst x h => nof h rfl, gs := ?gs, i := fun X EW hx tg x h => nof h rfl, p := fun X EW hx o h => nof h rfl, fi := fun X EW hx l h => nof h rfl, s := fun X EW hx hs s h => nof h rfl, b := ?b }
  case d =>
    intro X EW hx zs ks es h
    match zs, ks, es, h with
    | z :: zs, some (.Constant (.str y) jj p) :: ks, x :: xs, h =>
      obtain ⟨h12, h3⟩ := and2 h
      obtain ⟨h1, h2⟩ := and2 h12
      have e := of_decide_eq_true h1
      subst e
      exact so_consD (ha.e X EW hx x h2) (hr.d X EW hx zs ks xs h3)
  case a =>
    intro X EW hx l h
    match l, h with
    | x :: xs, h =>
      obtain ⟨h1, h2⟩ := and2 h
      exact so_consB (ha.e X EW hx x h1) (hr.a X EW hx xs h2) (star_pl (ha.pl _ x h1))
  case f =>
    intro X EW hx l h
    match l, h with
    | x :: xs, h =>
      obtain ⟨h1, h2⟩ := and2 h
      exact so_consF (ha.e X EW hx x h1) (hr.f X EW hx xs h2) (star_pl (ha.pl _ x h1))
  case v =>
    intro X EW hx l h
    match l, h with
    | x :: xs, h =>
      obtain ⟨h1, h2⟩ := and2 h
      exact so_consV (ha.e X EW hx x h1) (hr.v X EW hx xs h2) (star_pl (ha.pl _ x h1))
  case apl =>
    intro sc l h
    match l, h with
    | x :: xs, h =>
      obtain ⟨h1, h2⟩ := and2 h
      rw [List.all_cons, ha.pl _ x h1, hr.apl _ xs h2]; rfl
  case k =>
    intro X EW hx l h
    match l, h with
    | ⟨some n, x, p⟩ :: xs, h =>
      obtain ⟨h1, h2⟩ := and2 h
      exact so_consK (ha.e X EW hx x h1) (hr.k X EW hx xs h2)
    | ⟨none, x, p⟩ :: xs, h => cases h
  case ak =>
    intro X EW hx l kw h
    match l, kw, h with
    | x :: xs, kw, h =>
      obtain ⟨h1, h2⟩ := and2 h
      exact so_consA (ha.e X EW hx x h1) (hr.ak X EW hx xs kw h2) (star_pl (ha.pl _ x h1))
    | [], ⟨some n, x, p⟩ :: xs, h =>
      obtain ⟨h1, h2⟩ := and2 h
      exact so_ofK (so_consK (ha.e X EW hx x h1) (hr.k X EW hx xs h2))
    | [], ⟨none, x, p⟩ :: xs, h => cases h
    | [], [], h => cases h
  case gs =>
    intro X hK hN hnd hc st hst l h
    match l, h with
    | x :: xs, h =>
      obtain ⟨h12, h3⟩ := and2 h
      obtain ⟨h1, h2⟩ := and2 h12
      exact so_gcons h1 (ha.g X hK hN hnd hc st hst x h2) (hr.gs X hK hN hnd hc st hst xs h3)
  case b =>
    intro X EW hx hs l h
    match l, h with
    | x :: xs, h =>
      obtain ⟨h1, h2⟩ := and2 h
      exact ss_cons (ha.s X EW hx hs x h1) (hr.b X EW hx hs xs h2)

theorem pe_var_of {X : Cx} {EW : XK} {i : Nat} {n : Str} {p : Pos} (hx : XOk c base k₀ S EW X) (h1 : S.N[i]? = some n) (h2 : isVis X.env.scope n = true) (h3 : nodbg n = true) : PE X (.Name n p) (tVar i) := pe_var (by rw [hx.N]; exact h1) (vis_of h2) (dbg_of h3).1 (dbg_of h3).2
theorem snd_var {i : Nat} : Snd c base k₀ S V pin (.var i) := snd_expr (fun _ _ _ _ _ => rfl) rfl rfl fun X EW hx x h => by
  split at h
  · rename_i n p
    obtain ⟨h12, h3⟩ := and2 h
    obtain ⟨h1, h2⟩ := and2 h12
    exact so_var (by rw [hx.N]; exact of_decide_eq_true h1) (vis_of h2) (dbg_of h3).1 (dbg_of h3).2
  · cases h
theorem snd_glo (hV : VOk c base k₀ S V) {g : Nat} : Snd c base k₀ S V pin (.glo g) := snd_expr (fun _ _ _ _ _ => rfl) rfl rfl fun X EW hx x h => by
  split at h
  · rename_i n p
    obtain ⟨h12, h3⟩ := and2 h
    obtain ⟨h1, h2⟩ := and2 h12
    obtain ⟨v, u, q1, q2, q3⟩ := hV.glo g n (of_decide_eq_true h1)
    exact so_const (pe_glob (glb_of h2) (by rw [hx.mg]; exact q1) q2 (dbg_of h3).1) q3
  · cases h
theorem snd_int {i : Int} : Snd c base k₀ S V pin (.int i) := snd_expr (fun _ _ _ _ _ => rfl) rfl rfl fun X EW hx x h => by
  split at h
  · have e := of_decide_eq_true h
    subst e
    exact so_const pe_int fun G => lit_rep i
  · cases h
theorem snd_str {s : Str} : Snd c base k₀ S V pin (.str s) := snd_expr (fun _ _ _ _ _ => rfl) rfl rfl fun X EW hx x h => by
  split at h
  · have e := of_decide_eq_true h
    subst e
    exact so_const pe_str fun G => .str s
  · cases h
theorem snd_bl {b : Bool} : Snd c base k₀ S V pin (.bl b) := snd_expr (fun _ _ _ _ _ => rfl) rfl rfl fun X EW hx x h => by
  split at h
  · have e := of_decide_eq_true h
    subst e
    exact so_const pe_bl fun G => .bl b
  · cases h
theorem snd_non : Snd c base k₀ S V pin .non := snd_expr (fun _ _ _ _ _ => rfl) rfl rfl fun X EW hx x h => by
  split at h
  · exact so_const pe_non fun G => .non
  · cases h
theorem snd_bin {k : Nat} {a b : M} (ha : Snd c base k₀ S V pin a) (hb : Snd c base k₀ S V pin b) : Snd c base k₀ S V pin (.bin k a b) := snd_expr (fun _ _ _ _ _ => rfl) rfl rfl fun X EW hx x h => by
  split at h
  · rename_i y op z p
    obtain ⟨h12, h3⟩ := and2 h
    obtain ⟨h10, h2⟩ := and2 h12
    obtain ⟨h1, h6⟩ := and2 h10
    have e := of_decide_eq_true h1
    have h6 := of_decide_eq_true h6
    subst e
    have sa := ha.e X EW hx y h2
    have sb := hb.e X EW hx z h3
    cases op with
    | Add => exact so_add hx.K sa sb
    | Sub => exact so_sub sa sb
    | Mult => exact so_mul sa sb
    | FloorDiv => exact so_div sa sb
    | Mod => exact so_mod sa sb
    | Pow => exact so_pow sa sb
    | _ => exact absurd h6 (by decide)
  · cases h
theorem snd_neg {a : M} (ha : Snd c base k₀ S V pin a) : Snd c base k₀ S V pin (.neg a) := snd_expr (fun _ _ _ _ _ => rfl) rfl rfl fun X EW hx x h => by
  split at h
  · exact so_neg (ha.e X EW hx _ h)
  · cases h
theorem ifeC_pl {t a b : Ck} {sc : Scope} {x : Expr} (h : ifeC t a b sc x = true) : plE x = true := by
  unfold ifeC at h
  split at h
  · rfl
  · cases h
theorem snd_ife {t a b : M} (ht : Snd c base k₀ S V pin t) (ha : Snd c base k₀ S V pin a) (hb : Snd c base k₀ S V pin b) : Snd c base k₀ S V pin (.ife t a b) := by
  have he : ∀ X EW, XOk c base k₀ S EW X → ∀ x, ifeC (chk S t) (chk S a) (chk S b) X.env.scope x = true → SoE c X EW (fun ρ => ((sem V pin t).t ρ).bind fun b1 ρ1 => if b1 then (sem V pin a).o ρ1 else (sem V pin b).o ρ1) x := fun X EW hx x h => by
    unfold ifeC at h
    split at h
    · obtain ⟨h12, h3⟩ := and2 h
      obtain ⟨h1, h2⟩ := and2 h12
      exact so_ife (ht.t X EW hx _ h1) (ha.e X EW hx _ h2) (hb.e X EW hx _ h3)
    · cases h
  refine { e := fun X EW hx x h => he X EW hx x (and2 h).1, lc := fun X EW hx elt gens scope pos h => nof h rfl, d := fun X EW hx zs ks es h => nof h rfl, pl := fun sc x h => (and2 h).2, t := fun X EW hx x h => nof h rfl, w := fun X EW hx op vs p h => nof h rfl, a := fun X EW hx l h => nof h rfl, f := fun X EW hx l h => nof h rfl, v := fun X EW hx l h => nof h rfl, apl := fun sc l h => nof h rfl, k := fun X EW hx l h => nof h rfl, ak := fun X EW hx l kw h => nof h rfl, g := fun X hK hN hnd hc st hst x h => nof h rfl, gs := fun X hK hN hnd hc st hst l h => nof h rfl, i := fun X EW hx tg x h => so_ite hx.K (he X EW hx x (and2 h).1), p := ?p, fi := fun X EW hx l h => nof h rfl, s := fun X EW hx hs s h => nof h rfl, b := fun X EW hx hs l h => nof h rfl }
  case p =>
    intro X EW hx o h
    cases o with
    | none => cases h
    | some x => exact so_prt (he X EW hx x h)
theorem snd_tup {l : M} (hl : Snd c base k₀ S V pin l) : Snd c base k₀ S V pin (.tup l) := snd_expr (fun _ _ _ _ _ => rfl) rfl rfl fun X EW hx x h => by
  split at h
  · exact so_tup (hl.f X EW hx _ h)
  · cases h
theorem snd_lst {l : M} (hl : Snd c base k₀ S V pin l) : Snd c base k₀ S V pin (.lst l) := snd_expr (fun _ _ _ _ _ => rfl) rfl rfl fun X EW hx x h => by
  split at h
  · exact so_lst (hl.v X EW hx _ h)
  · cases h
theorem snd_idx {a i : M} (ha : Snd c base k₀ S V pin a) (hi : Snd c base k₀ S V pin i) : Snd c base k₀ S V pin (.idx a i) := snd_expr (fun _ _ _ _ _ => rfl) rfl rfl fun X EW hx x h => by
  split at h
  · obtain ⟨h12, h3⟩ := and2 h
    obtain ⟨h1, h2⟩ := and2 h12
    exact so_idx (plainIx h1) hx.K (ha.e X EW hx _ h2) (hi.e X EW hx _ h3)
  · cases h
theorem snd_dsp {zs : List Str} {l : M} (hl : Snd c base k₀ S V pin l) : Snd c base k₀ S V pin (.dsp zs l) := snd_expr (fun _ _ _ _ _ => rfl) rfl rfl fun X EW hx x h => by
  split at h
  · obtain ⟨h12, h3⟩ := and2 h
    obtain ⟨h1, h2⟩ := and2 h12
    exact so_dsp (fun z => by subst z; cases h1) (of_decide_eq_true h2) (hl.d X EW hx _ _ _ h3)
  · cases h
theorem snd_dix {a k : M} (ha : Snd c base k₀ S V pin a) (hk : Snd c base k₀ S V pin k) : Snd c base k₀ S V pin (.dix a k) := snd_expr (fun _ _ _ _ _ => rfl) rfl rfl fun X EW hx x h => by
  split at h
  · obtain ⟨h12, h3⟩ := and2 h
    obtain ⟨h1, h2⟩ := and2 h12
    exact so_dix (by have := hx.room.un; omega) (noSl_of h1) (ha.e X EW hx _ h2) (hk.e X EW hx _ h3)
  · cases h
theorem snd_fz {a : M} (ha : Snd c base k₀ S V pin a) : Snd c base k₀ S V pin (.fz a) := snd_expr (fun _ _ _ _ _ => rfl) rfl rfl fun X EW hx x h => by
  split at h
  · cases h
  · exact so_fz (ha.e X EW hx _ h)
theorem snd_dgt (hV : VOk c base k₀ S V) {g : Nat} {k : M} (hk : Snd c base k₀ S V pin k) : Snd c base k₀ S V pin (.dgt g k) := snd_expr (fun _ _ _ _ _ => rfl) rfl rfl fun X EW hx x h => by
  split at h
  · obtain ⟨h, h5⟩ := and2 h
    obtain ⟨h, h4⟩ := and2 h
    obtain ⟨h, h3⟩ := and2 h
    obtain ⟨h1, h2⟩ := and2 h
    obtain ⟨a, q1, q2⟩ := hV.dic g _ (of_decide_eq_true h2)
    exact so_dgt (plainIx h1) hx.K hx.w (glb_of h3) (dbg_of h4).1 (by rw [hx.mg]; exact q1) q2 (hk.e X EW hx _ h5)
  · cases h
theorem snd_dgn (hV : VOk c base k₀ S V) {g : Nat} {k : M} (hk : Snd c base k₀ S V pin k) : Snd c base k₀ S V pin (.dgn g k) := snd_expr (fun _ _ _ _ _ => rfl) rfl rfl fun X EW hx x h => by
  split at h
  · obtain ⟨h, h5⟩ := and2 h
    obtain ⟨h, h4⟩ := and2 h
    obtain ⟨h, h3⟩ := and2 h
    obtain ⟨h1, h2⟩ := and2 h
    obtain ⟨a, q1, q2⟩ := hV.dcn g _ (of_decide_eq_true h2)
    exact so_dgn (plainIx h1) hx.P hx.w hx.K (by have := hx.room.un; omega) (glb_of h3) (dbg_of h4).1 (by rw [hx.mg]; exact q1) q2 (hk.e X EW hx _ h5)
  · cases h
theorem snd_slc {a lo hi : M} (ha : Snd c base k₀ S V pin a) (hlo : Snd c base k₀ S V pin lo) (hhi : Snd c base k₀ S V pin hi) : Snd c base k₀ S V pin (.slc a lo hi) := snd_expr (fun _ _ _ _ _ => rfl) rfl rfl fun X EW hx x h => by
  split at h
  · obtain ⟨h12, h3⟩ := and2 h
    obtain ⟨h1, h2⟩ := and2 h12
    exact so_slc hx.K (ha.e X EW hx _ h1) (hlo.p X EW hx _ h2) (hhi.p X EW hx _ h3)
  · cases h
theorem snd_isi (hV : VOk c base k₀ S V) {k : Nat} {a : M} (ha : Snd c base k₀ S V pin a) : Snd c base k₀ S V pin (.isi k a) := snd_expr (fun _ _ _ _ _ => rfl) rfl rfl fun X EW hx x h => by
  split at h
  · rename_i n p x1 m p2 p3
    obtain ⟨h, h7⟩ := and2 h
    obtain ⟨h, h6⟩ := and2 h
    obtain ⟨h, h5⟩ := and2 h
    obtain ⟨h, h4⟩ := and2 h
    obtain ⟨h, h3⟩ := and2 h
    obtain ⟨h1, h2⟩ := and2 h
    have e1 := of_decide_eq_true h1
    subst e1
    have e2 := of_decide_eq_true h2
    have e3 := of_decide_eq_true h3
    have hb : m ∈ (["bool", "int", "str", "tuple", "list"] : List Str) := by
      rw [e2]
      have hk' : k = 0 ∨ k = 1 ∨ k = 2 ∨ k = 3 ∨ k = 4 := by omega
      rcases hk' with rfl | rfl | rfl | rfl | rfl <;> decide
    refine so_isi e3 e2 h6 hx.K (glb_of h4) (by rw [hx.mg]; exact hV.blt _ (by decide)) (glb_of h5) (by rw [hx.mg]; refine hV.blt _ ?_; simp only [List.mem_cons, List.not_mem_nil, or_false] at hb ⊢; rcases hb with h | h | h | h | h <;> simp [h]) (ha.e X EW hx _ h7)
  · cases h
theorem snd_bfc (hV : VOk c base k₀ S V) {k : Nat} {l : M} (hl : Snd c base k₀ S V pin l) : Snd c base k₀ S V pin (.bfc k l) := snd_expr (fun _ _ _ _ _ => rfl) rfl rfl fun X EW hx x h => by
  split at h
  · rename_i n p xs p3
    obtain ⟨h, h6⟩ := and2 h
    obtain ⟨h, h5⟩ := and2 h
    obtain ⟨h, h4⟩ := and2 h
    obtain ⟨h, h3⟩ := and2 h
    obtain ⟨h1, h2⟩ := and2 h
    have e1 := of_decide_eq_true h1
    have e2 := of_decide_eq_true h2
    have hb := hl.a X EW hx _ h6
    match xs, h4, h5, hb with
    | x1 :: xs, _, h5, hb =>
      have hk' : k = 0 ∨ k = 1 ∨ k = 2 ∨ k = 3 ∨ k = 4 ∨ k = 5 ∨ k = 6 ∨ k = 7 ∨ k = 8 := by omega
      rcases hk' with rfl | rfl | rfl | rfl | rfl | rfl | rfl | rfl | rfl <;> subst e1
      · exact so_len h5 hx.K (glb_of h3) (by rw [hx.mg]; exact hV.blt _ (by decide)) hb
      · exact so_int h5 (glb_of h3) (by rw [hx.mg]; exact hV.blt _ (by decide)) hb
      · exact so_all h5 hx.calm (glb_of h3) (by rw [hx.mg]; exact hV.blt _ (by decide)) hb
      · exact so_any h5 hx.calm (glb_of h3) (by rw [hx.mg]; exact hV.blt _ (by decide)) hb
      · exact so_sorted h5 (by have := hx.room.un; omega) hx.K (glb_of h3) (by rw [hx.mg]; exact hV.blt _ (by decide)) hb
      · exact so_tupF h5 hx.K (glb_of h3) (by rw [hx.mg]; exact hV.blt _ (by decide)) hb
      · exact so_sum hx.K h5 hx.calm (glb_of h3) (by rw [hx.mg]; exact hV.blt _ (by decide)) hb
      · exact so_max h5 hx.calm (glb_of h3) (by rw [hx.mg]; exact hV.blt _ (by decide)) hb
      · exact so_min h5 hx.calm (glb_of h3) (by rw [hx.mg]; exact hV.blt _ (by decide)) hb
  · cases h
theorem kwN_nil {ks : List Keyword} (h : kwN ks = some []) : ks = [] := by
  cases ks with
  | nil => rfl
  | cons k ks =>
    obtain ⟨a, x, p⟩ := k
    have := kwN_len h
    simp at this
theorem snd_call (hV : VOk c base k₀ S V) {f : Nat} {perm : List Nat} {l : M} (hl : Snd c base k₀ S V pin l) : Snd c base k₀ S V pin (.call f l perm) := snd_expr (fun _ _ _ _ _ => rfl) rfl rfl fun X EW hx x h => by
  split at h
  · rename_i n p xs ks p3
    cases e0 : S.fns[f]? with
    | none => simp only [e0] at h; cases h
    | some q =>
      obtain ⟨m, pats, io⟩ := q
      simp only [e0] at h
      obtain ⟨h, h7⟩ := and2 h
      obtain ⟨h, h6⟩ := and2 h
      obtain ⟨h, h5⟩ := and2 h
      obtain ⟨h, h4⟩ := and2 h
      obtain ⟨h1, h2⟩ := and2 h
      have e1 := of_decide_eq_true h1
      subst e1
      cases e3 : kwN ks with
      | none => simp only [e3] at h6; cases h6
      | some kn =>
        simp only [e3] at h6
        obtain ⟨h61, h62⟩ := and2 h6
        obtain ⟨e2, I, enm, ok, emg, ekp, hdv, kb⟩ := hV.call f m pats io e0 (fun z => by rw [z] at h61; cases h61)
        subst enm
        have co : CallOk c X EW k₀ I io (V.call f) (V.dfl f) := ⟨hdv, by rw [hx.P, hx.w, hx.K, hx.mg, hx.base]; exact ok, hx.room.mono (Nat.le_succ _), glb_of h2, by rw [hx.mg]; exact emg, by rw [hx.K]; exact ekp, hx.tk, (dbg_of h4).1⟩
        have hkb : KB X.K I.fd I.ps I.dvs xs.length kn perm := by rw [hx.K]; exact kb _ (List.contains_iff_mem.mp h61)
        rw [e2]
        cases io with
        | false =>
          rw [if_neg (by decide)]
          match xs, h5, h7, hkb with
          | [], h5, h7, hkb => exact so_call0 co hkb e3 (hl.k X EW hx _ (by simpa using h7))
          | x1 :: xs, h5, h7, hkb => exact so_call co hkb h5 e3 (hl.ak X EW hx _ _ (by simpa using h7))
        | true =>
          rw [if_pos rfl] at h62 ⊢
          obtain ⟨h62, h65⟩ := and2 h62
          obtain ⟨h63, h64⟩ := and2 h62
          have e4 := of_decide_eq_true h63
          have e5 := of_decide_eq_true h65
          subst e4
          subst e5
          match xs, h64, h5, h7, hkb with
          | x1 :: xs, _, h5, h7, hkb =>
            have eks : ks = [] := kwN_nil e3
            subst eks
            have q := so_callI co hkb h5 (hl.ak X EW hx _ _ (by simpa using h7)) (p := p) (pos := p3)
            rw [List.length_range]
            exact q
  · cases h
end
end Y

set_option Elab.async false
set_option linter.all false
set_option maxRecDepth 100000
set_option maxHeartbeats 4000000
namespace Y
open PySem PySem.Spec PyProof.Rows L2
section
variable {c : Cf} {X : Cx} {EW : XK} {E : Ent} {ρ : Rho c} {σ : L2.St} {ts : Stk c} {H : Hp} {Q : VK} {t1 t2 : Tm c} {v1 v2 : V} {x y z : c.O}
theorem so_eqT {fa fb : Rho c → Out c (Tm c)} {a b : Expr} {pos : Pos} (hu : X.A.units + 64 < cLine) (hK : X.K = c.K) (ha : SoE c X EW fa a) (hb : SoE c X EW fb b) : SoT c X EW (tstS (binS eqO fa fb)) (.Compare a [.Eq] [b] pos) :=
  so_cmpT ha hb (fun pa pb => pt_cmpR (op_eqD hu) pa pb (nomark _)) fun E ρ σ ts H Q t1 t2 v1 v2 x y z j e1 e2 e3 k => by
    have := ra_eq (neg := false) hK j e1 e2 (by simpa only [eqO, Bool.xor_false] using e3) k
    simpa only [rEqD, Bool.xor_false] using this
theorem so_neT {fa fb : Rho c → Out c (Tm c)} {a b : Expr} {pos : Pos} (hu : X.A.units + 64 < cLine) (hK : X.K = c.K) (ha : SoE c X EW fa a) (hb : SoE c X EW fb b) : SoT c X EW (tstS (binS neO fa fb)) (.Compare a [.NotEq] [b] pos) :=
  so_cmpT ha hb (fun pa pb => pt_cmpR (op_neD hu) pa pb (nomark _)) fun E ρ σ ts H Q t1 t2 v1 v2 x y z j e1 e2 e3 k => by
    have := ra_eq (neg := true) hK j e1 e2 (by simpa only [neO, Bool.xor_true] using e3) k
    simpa only [rNeD, Bool.xor_true] using this
theorem so_inT {fa fb : Rho c → Out c (Tm c)} {a b : Expr} {pos : Pos} (hu : X.A.units + 65 < cLine) (hm : behindInMarks .In b = false) (hK : X.K = c.K) (ha : SoE c X EW fa a) (hb : SoE c X EW fb b) : SoT c X EW (tstS (binS inO fa fb)) (.Compare a [.In] [b] pos) :=
  so_cmpT ha hb (fun pa pb => pt_cmpR ((op_inD hu).or op_in_seq) pa pb hm) fun E ρ σ ts H Q t1 t2 v1 v2 x y z j e1 e2 e3 k => by
    have := ra_in (neg := false) hK j e1 e2 (by simpa only [inO, Bool.xor_false] using e3) k
    simpa only [rInD, rIn, Bool.xor_false, Bool.false_eq_true, if_false] using this
theorem so_niT {fa fb : Rho c → Out c (Tm c)} {a b : Expr} {pos : Pos} (hu : X.A.units + 65 < cLine) (hm : behindInMarks .NotIn b = false) (hK : X.K = c.K) (ha : SoE c X EW fa a) (hb : SoE c X EW fb b) : SoT c X EW (tstS (binS niO fa fb)) (.Compare a [.NotIn] [b] pos) :=
  so_cmpT ha hb (fun pa pb => pt_cmpR ((op_notInD hu).or op_notIn_seq) pa pb hm) fun E ρ σ ts H Q t1 t2 v1 v2 x y z j e1 e2 e3 k => by
    have := ra_in (neg := true) hK j e1 e2 (by simpa only [niO, Bool.xor_true] using e3) k
    simpa only [rNotInD, rIn, Bool.xor_true, if_true] using this
theorem so_ltT {fa fb : Rho c → Out c (Tm c)} {a b : Expr} {pos : Pos} (ha : SoE c X EW fa a) (hb : SoE c X EW fb b) : SoT c X EW (tstS (binS (cmpI (· == .lt)) fa fb)) (.Compare a [.Lt] [b] pos) :=
  so_cmpT ha hb (fun pa pb => pt_cmpR op_lt pa pb (nomark _)) fun E ρ σ ts H Q t1 t2 v1 v2 x y z j e1 e2 e3 k => ra_cmp (o := fun i j => decide (i < j)) cmp_lt j e1 e2 e3 k
theorem so_gtT {fa fb : Rho c → Out c (Tm c)} {a b : Expr} {pos : Pos} (ha : SoE c X EW fa a) (hb : SoE c X EW fb b) : SoT c X EW (tstS (binS (cmpI (· == .gt)) fa fb)) (.Compare a [.Gt] [b] pos) :=
  so_cmpT ha hb (fun pa pb => pt_cmpR op_gt pa pb (nomark _)) fun E ρ σ ts H Q t1 t2 v1 v2 x y z j e1 e2 e3 k => ra_cmp (o := fun i j => decide (j < i)) cmp_gt j e1 e2 e3 k
theorem so_leT {fa fb : Rho c → Out c (Tm c)} {a b : Expr} {pos : Pos} (ha : SoE c X EW fa a) (hb : SoE c X EW fb b) : SoT c X EW (tstS (binS (cmpI (fun o => !(o == .gt))) fa fb)) (.Compare a [.LtE] [b] pos) :=
  so_cmpT ha hb (fun pa pb => pt_cmpR op_le pa pb (nomark _)) fun E ρ σ ts H Q t1 t2 v1 v2 x y z j e1 e2 e3 k => ra_cmp (o := fun i j => decide (i ≤ j)) (fun {a b o} h => by rw [cmp_gt h, Bool.eq_iff_iff]; simp) j e1 e2 e3 k
theorem so_geT {fa fb : Rho c → Out c (Tm c)} {a b : Expr} {pos : Pos} (ha : SoE c X EW fa a) (hb : SoE c X EW fb b) : SoT c X EW (tstS (binS (cmpI (fun o => !(o == .lt))) fa fb)) (.Compare a [.GtE] [b] pos) :=
  so_cmpT ha hb (fun pa pb => pt_cmpR op_ge pa pb (nomark _)) fun E ρ σ ts H Q t1 t2 v1 v2 x y z j e1 e2 e3 k => ra_cmp (o := fun i j => decide (j ≤ i)) (fun {a b o} h => by rw [cmp_lt h, Bool.eq_iff_iff]; simp) j e1 e2 e3 k
theorem so_isNT {fa fb : Rho c → Out c (Tm c)} {a b : Expr} {pos : Pos} (ha : SoE c X EW fa a) (hb : SoE c X EW fb b) : SoT c X EW (tstS (binS isNO fa fb)) (.Compare a [.Is] [b] pos) :=
  so_cmpT ha hb (fun pa pb => pt_cmpR op_isN pa pb (nomark _)) fun E ρ σ ts H Q t1 t2 v1 v2 x y z j e1 e2 e3 k => by
    unfold isNO at e3
    split at e3
    · rename_i hy
      have e4 := isNon_of hy
      subst e4
      cases e3
      obtain ⟨G, f, s, r⟩ := j.tO m2 e2
      refine ⟨rep_non r.unfr, ?_⟩
      rw [ra_isN j e1]
      exact k _ _ (j.at fun G => .bl _)
    · cases e3
theorem so_nsNT {fa fb : Rho c → Out c (Tm c)} {a b : Expr} {pos : Pos} (ha : SoE c X EW fa a) (hb : SoE c X EW fb b) : SoT c X EW (tstS (binS nsNO fa fb)) (.Compare a [.IsNot] [b] pos) :=
  so_cmpT ha hb (fun pa pb => pt_cmpR op_notN pa pb (nomark _)) fun E ρ σ ts H Q t1 t2 v1 v2 x y z j e1 e2 e3 k => by
    unfold nsNO at e3
    split at e3
    · rename_i hy
      have e4 := isNon_of hy
      subst e4
      cases e3
      obtain ⟨G, f, s, r⟩ := j.tO m2 e2
      refine ⟨rep_non r.unfr, ?_⟩
      rw [ra_isN j e1]
      exact k _ _ (j.at fun G => .bl _)
    · cases e3
end
section
variable {c : Cf} {base : Heap} {k₀ : Nat} {S : Sx} {V : Ev c} {pin : Bool}
theorem fi_of {m : M} {ct : Scope → Expr → Bool} (h1 : (chk S m).f = testF ct) (h2 : (chk S m).t = ct) (h : ∀ X EW, XOk c base k₀ S EW X → ∀ x, (chk S m).t X.env.scope x = true → SoT c X EW (sem V pin m).t x) :
    ∀ X EW, XOk c base k₀ S EW X → ∀ l, (chk S m).f X.env.scope l = true → SoTs c X EW (sem V pin m).t l := fun X EW hx l hl => by
  rw [h1] at hl
  obtain ⟨x, e, hh⟩ := testF_of hl
  subst e
  exact (h X EW hx x (by rw [h2]; exact hh)).ts
theorem nt_t {a : M} (ha : Snd c base k₀ S V pin a) : ∀ X EW, XOk c base k₀ S EW X → ∀ x, (chk S (.nt a)).t X.env.scope x = true → SoT c X EW (sem V pin (.nt a)).t x := fun X EW hx x h => by
  simp only [chk] at h
  split at h
  · exact so_ntT (ha.t X EW hx _ h)
  · cases h
theorem snd_nt {a : M} (ha : Snd c base k₀ S V pin a) : Snd c base k₀ S V pin (.nt a) := by
  refine { e := ?e, lc := fun X EW hx elt gens scope pos h => nof h rfl, d := fun X EW hx zs ks es h => nof h rfl, pl := ?pl, t := ?t, w := fun X EW hx op vs p h => nof h rfl, a := fun X EW hx l h => nof h rfl, f := fun X EW hx l h => nof h rfl, v := fun X EW hx l h => nof h rfl, apl := fun sc l h => nof h rfl, k := fun X EW hx l h => nof h rfl, ak := fun X EW hx l kw h => nof h rfl, g := fun X hK hN hnd hc st hst x h => nof h rfl, gs := fun X hK hN hnd hc st hst l h => nof h rfl, i := fun X EW hx tg x h => nof h rfl, p := fun X EW hx o h => nof h rfl, fi := ?fi, s := fun X EW hx hs s h => nof h rfl, b := fun X EW hx hs l h => nof h rfl }
  case e =>
    intro X EW hx x h
    simp only [chk] at h
    split at h
    · exact so_nt (ha.e X EW hx _ h)
    · cases h
  case pl =>
    intro sc x h
    simp only [chk] at h
    split at h
    · rfl
    · cases h
  case t =>
    exact nt_t ha
  case fi =>
    exact fi_of rfl rfl (nt_t ha)
theorem and_w {a b : M} (ha : Snd c base k₀ S V pin a) (hb : Snd c base k₀ S V pin b) : ∀ X EW, XOk c base k₀ S EW X → ∀ op vs p, (chk S (.and a b)).t X.env.scope (.BoolOp op vs p) = true → SoW c X EW (sem V pin (.and a b)).t (.BoolOp op vs p) := fun X EW hx op vs p h => by
  simp only [chk] at h
  split at h
  · rename_i e
    cases e
    obtain ⟨h1, h2⟩ := and2 h
    exact so_andW (ha.t X EW hx _ h1) (hb.w X EW hx _ _ _ h2)
  · cases h
theorem and_t {a b : M} (ha : Snd c base k₀ S V pin a) (hb : Snd c base k₀ S V pin b) : ∀ X EW, XOk c base k₀ S EW X → ∀ x, (chk S (.and a b)).t X.env.scope x = true → SoT c X EW (sem V pin (.and a b)).t x := fun X EW hx x h => by
  cases x <;> first | exact (and_w ha hb X EW hx _ _ _ h).t | (simp only [chk] at h; cases h)
theorem snd_and {a b : M} (ha : Snd c base k₀ S V pin a) (hb : Snd c base k₀ S V pin b) : Snd c base k₀ S V pin (.and a b) := by
  refine { e := ?e, lc := fun X EW hx elt gens scope pos h => nof h rfl, d := fun X EW hx zs ks es h => nof h rfl, pl := ?pl, t := ?t, w := ?w, a := fun X EW hx l h => nof h rfl, f := fun X EW hx l h => nof h rfl, v := fun X EW hx l h => nof h rfl, apl := fun sc l h => nof h rfl, k := fun X EW hx l h => nof h rfl, ak := fun X EW hx l kw h => nof h rfl, g := fun X hK hN hnd hc st hst x h => nof h rfl, gs := fun X hK hN hnd hc st hst l h => nof h rfl, i := fun X EW hx tg x h => nof h rfl, p := fun X EW hx o h => nof h rfl, fi := ?fi, s := fun X EW hx hs s h => nof h rfl, b := fun X EW hx hs l h => nof h rfl }
  case e =>
    intro X EW hx x h
    simp only [chk] at h
    split at h
    · obtain ⟨h1, h2⟩ := and2 h
      exact so_and (ha.e X EW hx _ h1) (hb.e X EW hx _ h2)
    · cases h
  case pl =>
    intro sc x h
    simp only [chk] at h
    split at h
    · rfl
    · cases h
  case t =>
    exact and_t ha hb
  case w =>
    exact and_w ha hb
  case fi =>
    exact fi_of rfl rfl (and_t ha hb)
theorem or_w {a b : M} (ha : Snd c base k₀ S V pin a) (hb : Snd c base k₀ S V pin b) : ∀ X EW, XOk c base k₀ S EW X → ∀ op vs p, (chk S (.or a b)).t X.env.scope (.BoolOp op vs p) = true → SoW c X EW (sem V pin (.or a b)).t (.BoolOp op vs p) := fun X EW hx op vs p h => by
  simp only [chk] at h
  split at h
  · rename_i e
    cases e
    obtain ⟨h1, h2⟩ := and2 h
    exact so_orW (ha.t X EW hx _ h1) (hb.w X EW hx _ _ _ h2)
  · cases h
theorem or_t {a b : M} (ha : Snd c base k₀ S V pin a) (hb : Snd c base k₀ S V pin b) : ∀ X EW, XOk c base k₀ S EW X → ∀ x, (chk S (.or a b)).t X.env.scope x = true → SoT c X EW (sem V pin (.or a b)).t x := fun X EW hx x h => by
  cases x <;> first | exact (or_w ha hb X EW hx _ _ _ h).t | (simp only [chk] at h; cases h)
theorem snd_or {a b : M} (ha : Snd c base k₀ S V pin a) (hb : Snd c base k₀ S V pin b) : Snd c base k₀ S V pin (.or a b) := by
  refine { e := ?e, lc := fun X EW hx elt gens scope pos h => nof h rfl, d := fun X EW hx zs ks es h => nof h rfl, pl := ?pl, t := ?t, w := ?w, a := fun X EW hx l h => nof h rfl, f := fun X EW hx l h => nof h rfl, v := fun X EW hx l h => nof h rfl, apl := fun sc l h => nof h rfl, k := fun X EW hx l h => nof h rfl, ak := fun X EW hx l kw h => nof h rfl, g := fun X hK hN hnd hc st hst x h => nof h rfl, gs := fun X hK hN hnd hc st hst l h => nof h rfl, i := fun X EW hx tg x h => nof h rfl, p := fun X EW hx o h => nof h rfl, fi := ?fi, s := fun X EW hx hs s h => nof h rfl, b := fun X EW hx hs l h => nof h rfl }
  case e =>
    intro X EW hx x h
    simp only [chk] at h
    split at h
    · obtain ⟨h1, h2⟩ := and2 h
      exact so_or (ha.e X EW hx _ h1) (hb.e X EW hx _ h2)
    · cases h
  case pl =>
    intro sc x h
    simp only [chk] at h
    split at h
    · rfl
    · cases h
  case t =>
    exact or_t ha hb
  case w =>
    exact or_w ha hb
  case fi =>
    exact fi_of rfl rfl (or_t ha hb)
theorem one_w {a : M} (ha : Snd c base k₀ S V pin a) : ∀ X EW, XOk c base k₀ S EW X → ∀ op vs p, (chk S (.one a)).t X.env.scope (.BoolOp op vs p) = true → SoW c X EW (sem V pin (.one a)).t (.BoolOp op vs p) := fun X EW hx op vs p h => by
  simp only [chk] at h
  split at h
  · rename_i e
    cases e
    exact so_oneW (ha.t X EW hx _ h)
  · cases h
theorem snd_one {a : M} (ha : Snd c base k₀ S V pin a) : Snd c base k₀ S V pin (.one a) := by
  refine { e := ?e, lc := fun X EW hx elt gens scope pos h => nof h rfl, d := fun X EW hx zs ks es h => nof h rfl, pl := ?pl, t := ?t, w := ?w, a := fun X EW hx l h => nof h rfl, f := fun X EW hx l h => nof h rfl, v := fun X EW hx l h => nof h rfl, apl := fun sc l h => nof h rfl, k := fun X EW hx l h => nof h rfl, ak := fun X EW hx l kw h => nof h rfl, g := fun X hK hN hnd hc st hst x h => nof h rfl, gs := fun X hK hN hnd hc st hst l h => nof h rfl, i := fun X EW hx tg x h => nof h rfl, p := fun X EW hx o h => nof h rfl, fi := fun X EW hx l h => nof h rfl, s := fun X EW hx hs s h => nof h rfl, b := fun X EW hx hs l h => nof h rfl }
  case e =>
    intro X EW hx x h
    simp only [chk] at h
    split at h
    · exact so_one (ha.e X EW hx _ h)
    · cases h
  case pl =>
    intro sc x h
    simp only [chk] at h
    split at h
    · rfl
    · cases h
  case t =>
    intro X EW hx x h
    cases x <;> first | exact (one_w ha X EW hx _ _ _ h).t | (simp only [chk] at h; cases h)
  case w =>
    exact one_w ha

def cmpC (S : Sx) (k : Nat) (a b : M) (sc : Scope) (e : Expr) : Bool := match e with | .Compare x [op] [y] _ => decide (cmK op = k) && notSet y && (chk S a).e sc x && (chk S b).e sc y | _ => false
theorem un_of {k : Nat} {A : Around} (h : Room k A) : A.units + 64 < cLine := h.units
theorem un_of2 {k : Nat} {A : Around} (h : Room k A) : A.units + 65 < cLine := by have := h.un; omega
theorem cmp_e {k : Nat} {a b : M} (ha : Snd c base k₀ S V pin a) (hb : Snd c base k₀ S V pin b) : ∀ X EW, XOk c base k₀ S EW X → ∀ x, cmpC S k a b X.env.scope x = true → SoE c X EW (binS (cmpK k) (sem V pin a).o (sem V pin b).o) x := fun X EW hx x h => by
  unfold cmpC at h
  split at h
  · rename_i x1 op y p
    obtain ⟨h, h4⟩ := and2 h
    obtain ⟨h, h3⟩ := and2 h
    obtain ⟨h1, h2⟩ := and2 h
    have e := of_decide_eq_true h1
    subst e
    have sa := ha.e X EW hx _ h3
    have sb := hb.e X EW hx _ h4
    have hu := hx.room
    cases op with
    | Lt => exact so_lt sa sb
    | LtE => exact so_le sa sb
    | Gt => exact so_gt sa sb
    | GtE => exact so_ge sa sb
    | Eq => exact so_eq (un_of hu) hx.K sa sb
    | NotEq => exact so_ne (un_of hu) hx.K sa sb
    | In => exact so_in (un_of2 hu) (mark_pl h2) hx.K sa sb
    | NotIn => exact so_ni (un_of2 hu) (mark_pl h2) hx.K sa sb
    | Is => exact so_isN sa sb
    | IsNot => exact so_nsN sa sb
  · cases h
theorem cmp_t {k : Nat} {a b : M} (ha : Snd c base k₀ S V pin a) (hb : Snd c base k₀ S V pin b) : ∀ X EW, XOk c base k₀ S EW X → ∀ x, cmpC S k a b X.env.scope x = true → SoT c X EW (tstS (binS (cmpK k) (sem V pin a).o (sem V pin b).o)) x := fun X EW hx x h => by
  unfold cmpC at h
  split at h
  · rename_i x1 op y p
    obtain ⟨h, h4⟩ := and2 h
    obtain ⟨h, h3⟩ := and2 h
    obtain ⟨h1, h2⟩ := and2 h
    have e := of_decide_eq_true h1
    subst e
    have sa := ha.e X EW hx _ h3
    have sb := hb.e X EW hx _ h4
    have hu := hx.room
    cases op with
    | Lt => exact so_ltT sa sb
    | LtE => exact so_leT sa sb
    | Gt => exact so_gtT sa sb
    | GtE => exact so_geT sa sb
    | Eq => exact so_eqT (un_of hu) hx.K sa sb
    | NotEq => exact so_neT (un_of hu) hx.K sa sb
    | In => exact so_inT (un_of2 hu) (mark_pl h2) hx.K sa sb
    | NotIn => exact so_niT (un_of2 hu) (mark_pl h2) hx.K sa sb
    | Is => exact so_isNT sa sb
    | IsNot => exact so_nsNT sa sb
  · cases h
theorem snd_cmp {k : Nat} {a b : M} (ha : Snd c base k₀ S V pin a) (hb : Snd c base k₀ S V pin b) : Snd c base k₀ S V pin (.cmp k a b) := by
  refine { e := ?e, lc := fun X EW hx elt gens scope pos h => nof h rfl, d := fun X EW hx zs ks es h => nof h rfl, pl := ?pl, t := ?t, w := ?w, a := fun X EW hx l h => nof h rfl, f := fun X EW hx l h => nof h rfl, v := fun X EW hx l h => nof h rfl, apl := fun sc l h => nof h rfl, k := fun X EW hx l h => nof h rfl, ak := fun X EW hx l kw h => nof h rfl, g := fun X hK hN hnd hc st hst x h => nof h rfl, gs := fun X hK hN hnd hc st hst l h => nof h rfl, i := ?i, p := ?p, fi := ?fi, s := fun X EW hx hs s h => nof h rfl, b := fun X EW hx hs l h => nof h rfl }
  case e =>
    exact fun X EW hx x h => cmp_e ha hb X EW hx x (and2 h).1
  case pl =>
    exact fun sc x h => (and2 h).2
  case t =>
    exact cmp_t ha hb
  case w =>
    exact fun X EW hx op vs p h => nof h rfl
  case i =>
    exact fun X EW hx tg x h => so_ite hx.K (cmp_e ha hb X EW hx x (and2 h).1)
  case p =>
    intro X EW hx o h
    cases o with
    | none => cases h
    | some x => exact so_prt (cmp_e ha hb X EW hx x h)
  case fi =>
    exact fi_of rfl rfl (cmp_t ha hb)
end
end Y

set_option Elab.async false
set_option linter.all false
set_option maxRecDepth 100000
set_option maxHeartbeats 4000000
namespace Y
open PySem PySem.Spec PyProof.Rows L2
section
variable {c : Cf} {base : Heap} {k₀ : Nat} {S : Sx} {V : Ev c} {pin : Bool}
theorem snd_tn {i : Nat} : Snd c base k₀ S V pin (.tn i) := by
  refine { e := fun X EW hx x h => nof h rfl, lc := fun X EW hx elt gens scope pos h => nof h rfl, d := fun X EW hx zs ks es h => nof h rfl, pl := fun sc x h => nof h rfl, t := fun X EW hx x h => nof h rfl, w := fun X EW hx op vs p h => nof h rfl, a := fun X EW hx l h => nof h rfl, f := fun X EW hx l h => nof h rfl, v := fun X EW hx l h => nof h rfl, apl := fun sc l h => nof h rfl, k := fun X EW hx l h => nof h rfl, ak := fun X EW hx l kw h => nof h rfl, g := ?g, gs := fun X hK hN hnd hc st hst l h => nof h rfl, i := fun X EW hx tg x h => nof h rfl, p := fun X EW hx o h => nof h rfl, fi := fun X EW hx l h => nof h rfl, s := fun X EW hx hs s h => nof h rfl, b := fun X EW hx hs l h => nof h rfl }
  case g =>
    intro X hK hN hnd hc st hst x h
    simp only [chk] at h
    split at h
    · obtain ⟨h1, h2⟩ := and2 h
      obtain ⟨q1, q2⟩ := hst _ h2
      exact so_tn hnd (by rw [hN]; exact of_decide_eq_true h1) q1 q2
    · cases h
theorem snd_tt {l : M} (hl : Snd c base k₀ S V pin l) : Snd c base k₀ S V pin (.tt l) := by
  refine { e := fun X EW hx x h => nof h rfl, lc := fun X EW hx elt gens scope pos h => nof h rfl, d := fun X EW hx zs ks es h => nof h rfl, pl := fun sc x h => nof h rfl, t := fun X EW hx x h => nof h rfl, w := fun X EW hx op vs p h => nof h rfl, a := fun X EW hx l h => nof h rfl, f := fun X EW hx l h => nof h rfl, v := fun X EW hx l h => nof h rfl, apl := fun sc l h => nof h rfl, k := fun X EW hx l h => nof h rfl, ak := fun X EW hx l kw h => nof h rfl, g := ?g, gs := fun X hK hN hnd hc st hst l h => nof h rfl, i := fun X EW hx tg x h => nof h rfl, p := fun X EW hx o h => nof h rfl, fi := fun X EW hx l h => nof h rfl, s := fun X EW hx hs s h => nof h rfl, b := fun X EW hx hs l h => nof h rfl }
  case g =>
    intro X hK hN hnd hc st hst x h
    simp only [chk] at h
    split at h
    · exact so_tt hc hK (hl.gs X hK hN hnd hc st hst _ h)
    · cases h
theorem snd_rng1 (hV : VOk c base k₀ S V) {a : M} (ha : Snd c base k₀ S V pin a) : Snd c base k₀ S V pin (.rng1 a) := by
  refine { e := fun X EW hx x h => nof h rfl, lc := fun X EW hx elt gens scope pos h => nof h rfl, d := fun X EW hx zs ks es h => nof h rfl, pl := fun sc x h => nof h rfl, t := fun X EW hx x h => nof h rfl, w := fun X EW hx op vs p h => nof h rfl, a := fun X EW hx l h => nof h rfl, f := fun X EW hx l h => nof h rfl, v := fun X EW hx l h => nof h rfl, apl := fun sc l h => nof h rfl, k := fun X EW hx l h => nof h rfl, ak := fun X EW hx l kw h => nof h rfl, g := fun X hK hN hnd hc st hst x h => nof h rfl, gs := fun X hK hN hnd hc st hst l h => nof h rfl, i := ?i, p := fun X EW hx o h => nof h rfl, fi := fun X EW hx l h => nof h rfl, s := fun X EW hx hs s h => nof h rfl, b := fun X EW hx hs l h => nof h rfl }
  case i =>
    intro X EW hx tg x h
    simp only [chk] at h
    split at h
    · obtain ⟨h, h4⟩ := and2 h
      obtain ⟨h, h3⟩ := and2 h
      obtain ⟨h1, h2⟩ := and2 h
      have e := of_decide_eq_true h1
      subst e
      exact so_rng1 h3 (glb_of h2) (by rw [hx.mg]; exact hV.blt _ (by decide)) (ha.e X EW hx _ h4)
    · cases h
theorem snd_rng2 (hV : VOk c base k₀ S V) {a b : M} (ha : Snd c base k₀ S V pin a) (hb : Snd c base k₀ S V pin b) : Snd c base k₀ S V pin (.rng2 a b) := by
  refine { e := fun X EW hx x h => nof h rfl, lc := fun X EW hx elt gens scope pos h => nof h rfl, d := fun X EW hx zs ks es h => nof h rfl, pl := fun sc x h => nof h rfl, t := fun X EW hx x h => nof h rfl, w := fun X EW hx op vs p h => nof h rfl, a := fun X EW hx l h => nof h rfl, f := fun X EW hx l h => nof h rfl, v := fun X EW hx l h => nof h rfl, apl := fun sc l h => nof h rfl, k := fun X EW hx l h => nof h rfl, ak := fun X EW hx l kw h => nof h rfl, g := fun X hK hN hnd hc st hst x h => nof h rfl, gs := fun X hK hN hnd hc st hst l h => nof h rfl, i := ?i, p := fun X EW hx o h => nof h rfl, fi := fun X EW hx l h => nof h rfl, s := fun X EW hx hs s h => nof h rfl, b := fun X EW hx hs l h => nof h rfl }
  case i =>
    intro X EW hx tg x h
    simp only [chk] at h
    split at h
    · obtain ⟨h, h6⟩ := and2 h
      obtain ⟨h, h5⟩ := and2 h
      obtain ⟨h, h4⟩ := and2 h
      obtain ⟨h, h3⟩ := and2 h
      obtain ⟨h1, h2⟩ := and2 h
      have e := of_decide_eq_true h1
      subst e
      exact so_rng2 h3 h4 (glb_of h2) (by rw [hx.mg]; exact hV.blt _ (by decide)) (ha.e X EW hx _ h5) (hb.e X EW hx _ h6)
    · cases h

theorem not_tt {b : Bool} (h : (!b) = true) : b = false := by cases b <;> first | rfl | cases h
theorem sole_pl {e t : Expr} {l : Nat} {env : Env} (h : notComp e = true) : swapsWithSole [t] e l env = pure false := by
  unfold swapsWithSole
  exact swaps_pl h
def EWF : XK := fun _ _ _ => False
theorem xok_blk {X : Cx} {EW : XK} (hx : XOk c base k₀ S EW X) (s : Shared) (H : Hp) (scope : Scope) (cenv : Env) (fp : List Addr) : XOk c base k₀ S.off EWF (X.blk s H scope cenv fp) :=
  ⟨hx.P, hx.w, hx.K, hx.mg, hx.base, hx.N, hx.nd, hx.calm, hx.room, takes0, PassesOwn.never, fun h => by cases h⟩
theorem stOk_blk {X : Cx} {s : Shared} {H : Hp} {scope : Scope} {C : Addr} {cl : List (Str × Addr)} {fp : List Addr} : StOk (X.blk s H scope (compEnvC scope cl C X.env) fp) (storB scope) := fun n hn => by
  unfold storB at hn
  split at hn
  · rename_i e
    have q := lookup_relS_keep (sc := X.env.scope) (by decide) e
    exact ⟨.inl q, .inr q⟩
  · rename_i e
    have q := lookup_relS_keep (sc := X.env.scope) (by decide) e
    refine ⟨.inr q, .inl ?_⟩
    show (scope.names.lookup n == some .cell) = true
    rw [e]; rfl
  · cases hn
theorem map_own {N : List Str} {own : List Nat} : (own.map fun i => ((N.getD i "", i) : Str × Nat)).map (·.2) = own := by
  rw [List.map_map]
  exact List.map_id own
theorem comp_c {own : List Nat} {tg it t el : M} (htg : Snd c base k₀ S.off V pin tg) (hit : Snd c base k₀ S V pin it) (ht : Snd c base k₀ S.off V pin t) (hel : Snd c base k₀ S.off V pin el) : ∀ X EW, XOk c base k₀ S EW X → ∀ elt gens scope pos, compC S.N own (tslots tg) (chk S.off tg) (chk S it) (chk S.off t) (chk S.off el) X.env.scope (.ListComp elt gens scope pos) = true →
    ∃ tg' iter ifs own', gens = [⟨tg', iter, ifs, 0⟩] ∧ notSet iter = true ∧ BlkOk X.N X.env.scope scope own' ∧ SoC c X EW (fun ρ => ((sem V pin it).i ρ).bind fun ds ρ1 =>
      if own.any fun k => ((ρ1[k]?).join).isSome || k == 0 then .bad else match compS own (sem V pin tg).g (sem V pin t).t (sem V pin el).o ds [] (wipeR ρ1 own) with
        | .ok acc ρ2 => .ok (.o (.lst (acc.map .fr))) ρ2
        | _ => .bad) elt tg' iter ifs scope own' := fun X EW hx elt gens scope pos h => by
  match gens, h with
  | [⟨y, z, ifs, ia⟩], h =>
    simp only [compC] at h
    obtain ⟨h, h8⟩ := and2 h
    obtain ⟨h, h7⟩ := and2 h
    obtain ⟨h, h6⟩ := and2 h
    obtain ⟨h, h5⟩ := and2 h
    obtain ⟨h, h4⟩ := and2 h
    obtain ⟨h, h3⟩ := and2 h
    obtain ⟨h1, h2⟩ := and2 h
    have e := of_decide_eq_true h1
    subst e
    refine ⟨y, z, ifs, own.map fun i => (S.N.getD i "", i), rfl, h2, by rw [hx.N]; exact blkOk_by h3, ?_⟩
    have hS : ∀ i ∈ tslots tg, i ∈ (own.map fun i => ((S.N.getD i "", i) : Str × Nat)).map (·.2) := fun i hi => by
      rw [map_own]
      exact List.contains_iff_mem.mp (List.all_eq_true.mp h6 i hi)
    have key := so_comp (c := c) (X := X) (EW := EW) (pin := pin) (fi := (sem V pin it).i) (gg := (sem V pin tg).g) (ft := (sem V pin t).t) (fe := (sem V pin el).o) (S := tslots tg) (elt := elt) (tg := y) (iter := z) (ifs := ifs) (scope := scope) (own := own.map fun i => (S.N.getD i "", i)) (hit.i X EW hx y z h4) ?_ hS ?_ ?_
    · simp only [map_own] at key
      exact key
    · refine ⟨fun v σ H Q => ∃ (E : Ent) (ρ ρ' : Rho c) (ts : Stk c) (o : c.O), (E.pin = none ∨ pin = true ∨ 0 ∉ tslots tg) ∧ NoSl (tslots tg) ts ∧ J c E ρ σ (ts ++ [(.o o, v)]) H ∧ (sem V pin tg).g o ρ = some ρ' ∧
        (∀ σ', J c E ρ' σ' ts H → (∀ own, (∀ i ∈ tslots tg, i ∈ own) → wipe σ' own = wipe σ own) → Q σ' H), fun s H C cl fp => ?_, fun E ρ ρ' σ ts H Q o v hp hn j hg k => ⟨E, ρ, ρ', ts, o, hp, hn, j, hg, k⟩⟩
      obtain ⟨t, p, k⟩ := (htg.g (X.blk s H scope (compEnvC scope cl C X.env) fp) hx.K hx.N hx.nd hx.calm (storB scope) stOk_blk y h5).ex
      refine ⟨fun pins s σ H v u Q I r hh => ?_⟩
      obtain ⟨E, ρ, ρ', ts, o, hp, hn, j, hg, kk⟩ := hh
      exact p.run pins s σ H v u Q I r (k E ρ ρ' σ ts H Q o v hp hn j hg kk)
    · refine ⟨fun σ H Q => ∃ (E : Ent) (ρ : Rho c) (ts : Stk c), J c E ρ σ ts H ∧ Wt c E EWF (fun b ρ' => ∀ H', J c E ρ' σ ts H' → Q b H') ((sem V pin t).t ρ), fun s H C cl fp => ?_, fun E ρ σ ts H Q j hw => ⟨E, ρ, ts, j, hw⟩⟩
      obtain ⟨t, p, k⟩ := (ht.fi _ _ (xok_blk hx s H scope (compEnvC scope cl C X.env) fp) ifs h7).ex
      refine ⟨fun pins s σ H Q I hh => ?_⟩
      obtain ⟨E, ρ, ts, j, hw⟩ := hh
      exact p.run pins s σ H Q I (k E ρ σ ts H Q j hw)
    · refine ⟨fun σ H Q => ∃ (E : Ent) (ρ : Rho c) (ts : Stk c), J c E ρ σ ts H ∧ Wt c E EWF (fun (d : c.D) ρ' => ∀ v H', J c E ρ' σ (ts ++ [((.o (.fr d) : Tm c), v)]) H' → Q v H') (frS (sem V pin el).o ρ), fun s H C cl fp => ?_, fun E ρ σ ts H Q j hw => ⟨E, ρ, ts, j, hw⟩⟩
      obtain ⟨t, p, k⟩ := fr_so (hel.e _ _ (xok_blk hx s H scope (compEnvC scope cl C X.env) fp) elt h8)
      refine ⟨fun pins s σ H Q I hh => ?_⟩
      obtain ⟨E, ρ, ts, j, hw⟩ := hh
      exact p.run pins s σ H Q I (k E ρ σ ts H Q j hw)
theorem compC_lc {N : List Str} {own sl : List Nat} {tg it t el : Ck} {sc : Scope} {e : Expr} (h : compC N own sl tg it t el sc e = true) : ∃ elt gens scope pos, e = .ListComp elt gens scope pos := by
  unfold compC at h
  split at h
  · exact ⟨_, _, _, _, rfl⟩
  · cases h
theorem comp_e {own : List Nat} {tg it t el : M} (htg : Snd c base k₀ S.off V pin tg) (hit : Snd c base k₀ S V pin it) (ht : Snd c base k₀ S.off V pin t) (hel : Snd c base k₀ S.off V pin el) : ∀ X EW, XOk c base k₀ S EW X → ∀ x, compC S.N own (tslots tg) (chk S.off tg) (chk S it) (chk S.off t) (chk S.off el) X.env.scope x = true → SoE c X EW (fun ρ => ((sem V pin it).i ρ).bind fun ds ρ1 =>
      if own.any fun k => ((ρ1[k]?).join).isSome || k == 0 then .bad else match compS own (sem V pin tg).g (sem V pin t).t (sem V pin el).o ds [] (wipeR ρ1 own) with
        | .ok acc ρ2 => .ok (.o (.lst (acc.map .fr))) ρ2
        | _ => .bad) x := fun X EW hx x h => by
  obtain ⟨elt, gens, scope, pos, e⟩ := compC_lc h
  subst e
  obtain ⟨tg', iter, ifs, own', e, q1, q2, q3⟩ := comp_c htg hit ht hel X EW hx elt gens scope pos h
  subst e
  exact so_ofC hx.calm hx.nd q1 q2 q3
theorem snd_comp {own : List Nat} {tg it t el : M} (htg : Snd c base k₀ S.off V pin tg) (hit : Snd c base k₀ S V pin it) (ht : Snd c base k₀ S.off V pin t) (hel : Snd c base k₀ S.off V pin el) : Snd c base k₀ S V pin (.comp own tg it t el) := by
  refine { e := ?e, lc := ?lc, d := fun X EW hx zs ks es h => nof h rfl, pl := ?pl, t := ?t, w := ?w, a := fun X EW hx l h => nof h rfl, f := fun X EW hx l h => nof h rfl, v := fun X EW hx l h => nof h rfl, apl := fun sc l h => nof h rfl, k := fun X EW hx l h => nof h rfl, ak := fun X EW hx l kw h => nof h rfl, g := fun X hK hN hnd hc st hst x h => nof h rfl, gs := fun X hK hN hnd hc st hst l h => nof h rfl, i := ?i, p := ?p, fi := ?fi, s := fun X EW hx hs s h => nof h rfl, b := fun X EW hx hs l h => nof h rfl }
  case e =>
    exact fun X EW hx x h => comp_e htg hit ht hel X EW hx x (and2 h).1
  case lc =>
    exact fun X EW hx elt gg scope pos h => comp_c htg hit ht hel X EW hx elt [gg] scope pos (and2 h).1
  case pl =>
    exact fun sc x h => (and2 h).2
  case t =>
    exact fun X EW hx x h => so_tru hx.K (comp_e htg hit ht hel X EW hx x (and2 h).1) (tp_ok (and2 h).2)
  case w =>
    exact fun X EW hx op vs p h => nof h rfl
  case i =>
    exact fun X EW hx tg x h => so_ite hx.K (comp_e htg hit ht hel X EW hx x (and2 h).1)
  case p =>
    intro X EW hx o h
    cases o with
    | none => cases h
    | some x => exact so_prt (comp_e htg hit ht hel X EW hx x h)
  case fi =>
    intro X EW hx l h
    match l, h with
    | [x], h => exact (so_tru hx.K (comp_e htg hit ht hel X EW hx x (and2 h).1) (tp_ok (and2 h).2)).ts

theorem store_c {S : Sx} {X : Cx} {EW : XK} {scope : Scope} {tg : M} {y : Expr} (hx : XOk c base k₀ S EW X) (htg : Snd c base k₀ S.off V pin tg) (h5 : (chk S.off tg).g (storB scope) y = true) :
    ∃ g : TG, (∀ (s : Shared) (H : Hp) (C : Addr) (cl : List (Str × Addr)) (fp : List Addr), PG (X.blk s H scope (compEnvC scope cl C X.env) fp) y g) ∧ PStore c pin (tslots tg) (sem V pin tg).g g := by
  refine ⟨fun v σ H Q => ∃ (E : Ent) (ρ ρ' : Rho c) (ts : Stk c) (o : c.O), (E.pin = none ∨ pin = true ∨ 0 ∉ tslots tg) ∧ NoSl (tslots tg) ts ∧ J c E ρ σ (ts ++ [(.o o, v)]) H ∧ (sem V pin tg).g o ρ = some ρ' ∧
    (∀ σ', J c E ρ' σ' ts H → (∀ own, (∀ i ∈ tslots tg, i ∈ own) → wipe σ' own = wipe σ own) → Q σ' H), fun s H C cl fp => ?_, fun E ρ ρ' σ ts H Q o v hp hn j hg k => ⟨E, ρ, ρ', ts, o, hp, hn, j, hg, k⟩⟩
  obtain ⟨t, p, k⟩ := (htg.g (X.blk s H scope (compEnvC scope cl C X.env) fp) hx.K hx.N hx.nd hx.calm (storB scope) stOk_blk y h5).ex
  refine ⟨fun pins s σ H v u Q I r hh => ?_⟩
  obtain ⟨E, ρ, ρ', ts, o, hp, hn, j, hg, kk⟩ := hh
  exact p.run pins s σ H v u Q I r (k E ρ ρ' σ ts H Q o v hp hn j hg kk)
theorem tests_c {S : Sx} {X : Cx} {EW : XK} {scope : Scope} {t : M} {ifs : List Expr} (hx : XOk c base k₀ S EW X) (ht : Snd c base k₀ S.off V pin t) (h7 : (chk S.off t).f (relS scope X.env.scope) ifs = true) :
    ∃ w : TT, (∀ (s : Shared) (H : Hp) (C : Addr) (cl : List (Str × Addr)) (fp : List Addr), PTs (X.blk s H scope (compEnvC scope cl C X.env) fp) ifs w) ∧ PTest c (sem V pin t).t w := by
  refine ⟨fun σ H Q => ∃ (E : Ent) (ρ : Rho c) (ts : Stk c), J c E ρ σ ts H ∧ Wt c E EWF (fun b ρ' => ∀ H', J c E ρ' σ ts H' → Q b H') ((sem V pin t).t ρ), fun s H C cl fp => ?_, fun E ρ σ ts H Q j hw => ⟨E, ρ, ts, j, hw⟩⟩
  obtain ⟨t, p, k⟩ := (ht.fi _ _ (xok_blk hx s H scope (compEnvC scope cl C X.env) fp) ifs h7).ex
  refine ⟨fun pins s σ H Q I hh => ?_⟩
  obtain ⟨E, ρ, ts, j, hw⟩ := hh
  exact p.run pins s σ H Q I (k E ρ σ ts H Q j hw)
theorem elt_c {S : Sx} {X : Cx} {EW : XK} {scope : Scope} {el : M} {elt : Expr} (hx : XOk c base k₀ S EW X) (hel : Snd c base k₀ S.off V pin el) (h8 : (chk S.off el).e (relS scope X.env.scope) elt = true) :
    ∃ w : TE, (∀ (s : Shared) (H : Hp) (C : Addr) (cl : List (Str × Addr)) (fp : List Addr), PE (X.blk s H scope (compEnvC scope cl C X.env) fp) elt w) ∧ PElt c (sem V pin el).o w := by
  refine ⟨fun σ H Q => ∃ (E : Ent) (ρ : Rho c) (ts : Stk c), J c E ρ σ ts H ∧ Wt c E EWF (fun (d : c.D) ρ' => ∀ v H', J c E ρ' σ (ts ++ [((.o (.fr d) : Tm c), v)]) H' → Q v H') (frS (sem V pin el).o ρ), fun s H C cl fp => ?_, fun E ρ σ ts H Q j hw => ⟨E, ρ, ts, j, hw⟩⟩
  obtain ⟨t, p, k⟩ := fr_so (hel.e _ _ (xok_blk hx s H scope (compEnvC scope cl C X.env) fp) elt h8)
  refine ⟨fun pins s σ H Q I hh => ?_⟩
  obtain ⟨E, ρ, ts, j, hw⟩ := hh
  exact p.run pins s σ H Q I (k E ρ σ ts H Q j hw)
theorem allIn {l own : List Nat} (h : l.all own.contains = true) : ∀ i ∈ l, i ∈ own := fun i hi => List.contains_iff_mem.mp (List.all_eq_true.mp h i hi)
theorem comp2_e (hV : VOk c base k₀ S V) {own own1 : List Nat} {tg it t tg1 a1 t1 el : M} (htg : Snd c base k₀ S.off V pin tg) (hit : Snd c base k₀ S V pin it) (ht : Snd c base k₀ S.off V pin t) (htg1 : Snd c base k₀ S.off V pin tg1) (ha1 : Snd c base k₀ S.off V pin a1) (ht1 : Snd c base k₀ S.off V pin t1) (hel : Snd c base k₀ S.off V pin el) : ∀ X EW, XOk c base k₀ S EW X → ∀ x, compC2 S.N own own1 (tslots tg) (tslots tg1) (chk S.off tg) (chk S it) (chk S.off t) (chk S.off tg1) (chk S.off a1) (chk S.off t1) (chk S.off el) X.env.scope x = true → SoE c X EW (fun ρ => ((sem V pin it).i ρ).bind fun ds ρ1 =>
      if own.any fun k => ((ρ1[k]?).join).isSome || k == 0 then .bad else match compS2 own own1 (sem V pin tg).g (sem V pin t).t (rg1S (sem V pin a1).o) (sem V pin tg1).g (sem V pin t1).t (sem V pin el).o ds [] (wipeR ρ1 own) with
        | .ok acc ρ2 => .ok (.o (.lst (acc.map .fr))) ρ2
        | _ => .bad) x := fun X EW hx x h => by
  unfold compC2 at h
  split at h
  · rename_i elt y z ifs ia y1 n np za cp ifs1 ia1 scope pos
    obtain ⟨e1, h⟩ := and2 h
    obtain ⟨e2, h⟩ := and2 h
    obtain ⟨h1, h⟩ := and2 h
    obtain ⟨h2, h⟩ := and2 h
    obtain ⟨h3, h⟩ := and2 h
    obtain ⟨h4, h⟩ := and2 h
    obtain ⟨h5, h⟩ := and2 h
    obtain ⟨h6, h⟩ := and2 h
    obtain ⟨h7, h⟩ := and2 h
    obtain ⟨h8, h⟩ := and2 h
    obtain ⟨e3, h⟩ := and2 h
    obtain ⟨h9, h⟩ := and2 h
    obtain ⟨h10, h⟩ := and2 h
    obtain ⟨h11, h⟩ := and2 h
    obtain ⟨h12, h⟩ := and2 h
    obtain ⟨h13, h14⟩ := and2 h
    have e1 := of_decide_eq_true e1
    have e2 := of_decide_eq_true e2
    have e3 := of_decide_eq_true e3
    subst e1 e2 e3
    have key := so_comp2 (c := c) (X := X) (EW := EW) (pin := pin) (own := own.map fun i => (S.N.getD i "", i)) (ow1 := own1) (S := tslots tg) (S1 := tslots tg1) (pos := pos) hx.calm hx.nd h1 (iter1 := .Call (.Name "range" np) [za] [] cp) rfl (by rw [hx.N]; exact blkOk_by h2)
      (hit.i X EW hx y z h3) (store_c hx htg h4) (by rw [map_own]; exact allIn h5) (allIn h6) (by rw [map_own]; exact allIn h7) (tests_c hx ht h8)
      (pin_rng1 h10 (fun s H C cl fp => glb_of h9) (by rw [hx.mg]; exact hV.blt _ (by decide)) (fun s H C cl fp => ha1.e _ _ (xok_blk hx s H scope (compEnvC scope cl C X.env) fp) za h11))
      (store_c hx htg1 h12) (tests_c hx ht1 h13) (elt_c hx hel h14)
    simp only [map_own] at key
    exact key
  · cases h
theorem snd_comp2 (hV : VOk c base k₀ S V) {own own1 : List Nat} {tg it t tg1 a1 t1 el : M} (htg : Snd c base k₀ S.off V pin tg) (hit : Snd c base k₀ S V pin it) (ht : Snd c base k₀ S.off V pin t) (htg1 : Snd c base k₀ S.off V pin tg1) (ha1 : Snd c base k₀ S.off V pin a1) (ht1 : Snd c base k₀ S.off V pin t1) (hel : Snd c base k₀ S.off V pin el) : Snd c base k₀ S V pin (.comp2 own own1 tg it t tg1 a1 t1 el) := by
  refine { e := ?e, lc := ?lc, d := fun X EW hx zs ks es h => nof h rfl, pl := ?pl, t := ?t, w := ?w, a := fun X EW hx l h => nof h rfl, f := fun X EW hx l h => nof h rfl, v := fun X EW hx l h => nof h rfl, apl := fun sc l h => nof h rfl, k := fun X EW hx l h => nof h rfl, ak := fun X EW hx l kw h => nof h rfl, g := fun X hK hN hnd hc st hst x h => nof h rfl, gs := fun X hK hN hnd hc st hst l h => nof h rfl, i := ?i, p := ?p, fi := ?fi, s := fun X EW hx hs s h => nof h rfl, b := fun X EW hx hs l h => nof h rfl }
  case e =>
    exact fun X EW hx x h => comp2_e hV htg hit ht htg1 ha1 ht1 hel X EW hx x (and2 h).1
  case lc =>
    intro X EW hx elt gg scope pos h
    obtain ⟨gy, gz, gi, ga⟩ := gg
    simp only [chk, exprCk] at h
    obtain ⟨h, _⟩ := and2 h
    unfold compC2 at h
    split at h
    · rename_i e; cases e
    · cases h
  case pl =>
    exact fun sc x h => (and2 h).2
  case t =>
    exact fun X EW hx x h => so_tru hx.K (comp2_e hV htg hit ht htg1 ha1 ht1 hel X EW hx x (and2 h).1) (tp_ok (and2 h).2)
  case w =>
    exact fun X EW hx op vs p h => nof h rfl
  case i =>
    exact fun X EW hx tg x h => so_ite hx.K (comp2_e hV htg hit ht htg1 ha1 ht1 hel X EW hx x (and2 h).1)
  case p =>
    intro X EW hx o h
    cases o with
    | none => cases h
    | some x => exact so_prt (comp2_e hV htg hit ht htg1 ha1 ht1 hel X EW hx x h)
  case fi =>
    intro X EW hx l h
    match l, h with
    | [x], h => exact (so_tru hx.K (comp2_e hV htg hit ht htg1 ha1 ht1 hel X EW hx x (and2 h).1) (tp_ok (and2 h).2)).ts
theorem snd_enu (hV : VOk c base k₀ S V) {a : M} (ha : Snd c base k₀ S V pin a) : Snd c base k₀ S V pin (.enu a) := by
  refine { e := fun X EW hx x h => nof h rfl, lc := fun X EW hx elt gens scope pos h => nof h rfl, d := fun X EW hx zs ks es h => nof h rfl, pl := fun sc x h => nof h rfl, t := fun X EW hx x h => nof h rfl, w := fun X EW hx op vs p h => nof h rfl, a := fun X EW hx l h => nof h rfl, f := fun X EW hx l h => nof h rfl, v := fun X EW hx l h => nof h rfl, apl := fun sc l h => nof h rfl, k := fun X EW hx l h => nof h rfl, ak := fun X EW hx l kw h => nof h rfl, g := fun X hK hN hnd hc st hst x h => nof h rfl, gs := fun X hK hN hnd hc st hst l h => nof h rfl, i := ?i, p := fun X EW hx o h => nof h rfl, fi := fun X EW hx l h => nof h rfl, s := fun X EW hx hs s h => nof h rfl, b := fun X EW hx hs l h => nof h rfl }
  case i =>
    intro X EW hx tg x h
    simp only [chk] at h
    split at h
    · obtain ⟨h, h4⟩ := and2 h
      obtain ⟨h, h3⟩ := and2 h
      obtain ⟨h1, h2⟩ := and2 h
      have e := of_decide_eq_true h1
      subst e
      exact so_enu h3 hx.K (glb_of h2) (by rw [hx.mg]; exact hV.blt _ (by decide)) (ha.e X EW hx _ h4)
    · cases h
theorem snd_zp (hV : VOk c base k₀ S V) {a b : M} (ha : Snd c base k₀ S V pin a) (hb : Snd c base k₀ S V pin b) : Snd c base k₀ S V pin (.zp a b) := by
  refine { e := fun X EW hx x h => nof h rfl, lc := fun X EW hx elt gens scope pos h => nof h rfl, d := fun X EW hx zs ks es h => nof h rfl, pl := fun sc x h => nof h rfl, t := fun X EW hx x h => nof h rfl, w := fun X EW hx op vs p h => nof h rfl, a := fun X EW hx l h => nof h rfl, f := fun X EW hx l h => nof h rfl, v := fun X EW hx l h => nof h rfl, apl := fun sc l h => nof h rfl, k := fun X EW hx l h => nof h rfl, ak := fun X EW hx l kw h => nof h rfl, g := fun X hK hN hnd hc st hst x h => nof h rfl, gs := fun X hK hN hnd hc st hst l h => nof h rfl, i := ?i, p := fun X EW hx o h => nof h rfl, fi := fun X EW hx l h => nof h rfl, s := fun X EW hx hs s h => nof h rfl, b := fun X EW hx hs l h => nof h rfl }
  case i =>
    intro X EW hx tg x h
    simp only [chk] at h
    split at h
    · obtain ⟨h, h6⟩ := and2 h
      obtain ⟨h, h5⟩ := and2 h
      obtain ⟨h, h4⟩ := and2 h
      obtain ⟨h, h3⟩ := and2 h
      obtain ⟨h1, h2⟩ := and2 h
      have e := of_decide_eq_true h1
      subst e
      exact so_zip h3 h4 hx.K (glb_of h2) (by rw [hx.mg]; exact hV.blt _ (by decide)) (ha.e X EW hx _ h5) (hb.e X EW hx _ h6)
    · cases h

theorem snd_fld (hV : VOk c base k₀ S V) {a : M} {f : Str} (ha : Snd c base k₀ S V pin a) : Snd c base k₀ S V pin (.fld a f) := snd_expr (fun _ _ _ _ _ => rfl) rfl rfl fun X EW hx x h => by
  split at h
  · obtain ⟨h, h3⟩ := and2 h
    obtain ⟨h1, h2⟩ := and2 h
    have e1 := of_decide_eq_true h1
    subst e1
    exact so_fld hV.cf hx.K (ab_ok h2) (ha.e X EW hx _ h3)
  · cases h
theorem snd_prp (hV : VOk c base k₀ S V) {a : M} {m : Str} (ha : Snd c base k₀ S V pin a) : Snd c base k₀ S V pin (.prp m a) := snd_expr (fun _ _ _ _ _ => rfl) rfl rfl fun X EW hx x h => by
  split at h
  · obtain ⟨h, h3⟩ := and2 h
    obtain ⟨h1, h2⟩ := and2 h
    have e1 := of_decide_eq_true h1
    subst e1
    refine so_prp (kr := k₀) ⟨fun k F hF => ?_, hx.room⟩ (ha.e X EW hx _ h3) h2
    obtain ⟨g, e2, rfl⟩ := Option.map_eq_some_iff.mp hF
    obtain ⟨p, f, fd, ps, w1, w2, w3, w4⟩ := hV.prp _ k g e2
    exact ⟨p, f, fd, ps, by rw [hx.K]; exact w1, by rw [hx.K]; exact w2, by rw [hx.P, hx.w, hx.K, hx.mg, hx.base]; exact w3, by rw [hx.K]; exact w4⟩
  · cases h
theorem snd_mk (hV : VOk c base k₀ S V) {k g : Nat} {l : M} {pm : List Nat} (hl : Snd c base k₀ S V pin l) : Snd c base k₀ S V pin (.mk k g l pm) := snd_expr (fun _ _ _ _ _ => rfl) rfl rfl fun X EW hx x h => by
  split at h
  · rename_i n p xs ks p3
    obtain ⟨h, h4⟩ := and2 h
    obtain ⟨h, h3⟩ := and2 h
    obtain ⟨h1, h2⟩ := and2 h
    obtain ⟨q1, h5⟩ := and2 h4
    obtain ⟨q2, q3⟩ := and2 h5
    obtain ⟨_, I, w1, w2, w3, w4, w5⟩ := hV.mkc k n g (of_decide_eq_true h1)
    have co : MakeOk c X EW k₀ I k n (V.call g) (V.dfl g) := ⟨w4, by rw [hx.P, hx.w, hx.K, hx.mg, hx.base]; exact w1, hx.room, by rw [hx.K]; exact w2, glb_of h2, by rw [hx.mg]; exact w3, hx.tk, (dbg_of h3).1⟩
    cases e3 : kwN ks with
    | none => simp only [e3] at q2; cases q2
    | some kn =>
      simp only [e3] at q2
      have hkb : KB X.K I.fd I.ps I.dvs (xs.length + 1) kn (0 :: pm.map Nat.succ) := by rw [hx.K]; exact w5 _ (List.contains_iff_mem.mp q2)
      match xs, q1, q3, hkb with
      | [], q1, q3, hkb => exact so_make0 co hkb e3 (hl.k X EW hx _ (by simpa using q3))
      | x1 :: xs, q1, q3, hkb => exact so_make co hkb q1 e3 (hl.ak X EW hx _ _ (by simpa using q3))
  · cases h
theorem snd_sta (hV : VOk c base k₀ S V) {k g : Nat} {m : Str} {l : M} {pm : List Nat} (hl : Snd c base k₀ S V pin l) : Snd c base k₀ S V pin (.sta k m g l pm) := snd_expr (fun _ _ _ _ _ => rfl) rfl rfl fun X EW hx x h => by
  split at h
  · rename_i n p1 m2 apos xs ks p3
    obtain ⟨h, h7⟩ := and2 h
    obtain ⟨h, h6⟩ := and2 h
    obtain ⟨h, h5⟩ := and2 h
    obtain ⟨h, h4⟩ := and2 h
    obtain ⟨h, h3⟩ := and2 h
    obtain ⟨h1, h2⟩ := and2 h
    have e1 := of_decide_eq_true h1
    subst e1
    obtain ⟨q1, h8⟩ := and2 h7
    obtain ⟨q2, q3⟩ := and2 h8
    obtain ⟨I, w1, w3, w2, w4, w5⟩ := hV.sta _ _ _ _ (List.contains_iff_mem.mp h2)
    have co : StaOk c X EW k₀ I k n m2 (V.call g) (V.dfl g) := ⟨w4, by rw [hx.P, hx.w, hx.K, hx.mg, hx.base]; exact w1, hx.room.mono (Nat.le_succ _), glb_of h3, by rw [hx.mg]; exact w3, by rw [hx.K]; exact w2, hx.tk, (dbg_of h4).1⟩
    have hn : xs.length + ks.length < 28 := of_decide_eq_true h5
    cases e3 : kwN ks with
    | none => simp only [e3] at q2; cases q2
    | some kn =>
      simp only [e3] at q2
      have hkb : KB X.K I.fd I.ps I.dvs xs.length kn pm := by rw [hx.K]; exact w5 _ (List.contains_iff_mem.mp q2)
      match xs, q1, q3, hkb, hn with
      | [], q1, q3, hkb, hn => exact so_sta0 co hkb e3 (by simpa using hn) h6 (hl.k X EW hx _ (by simpa using q3))
      | x1 :: xs, q1, q3, hkb, hn => exact so_sta co hkb q1 e3 hn h6 (hl.ak X EW hx _ _ (by simpa using q3))
  · cases h
theorem snd_mth (hV : VOk c base k₀ S V) {m : Str} {a l : M} {pm : List Nat} (ha : Snd c base k₀ S V pin a) (hl : Snd c base k₀ S V pin l) : Snd c base k₀ S V pin (.mth m a l pm) := snd_expr (fun _ _ _ _ _ => rfl) rfl rfl fun X EW hx x h => by
  split at h
  · rename_i o n apos xs ks p3
    obtain ⟨h, q3⟩ := and2 h
    obtain ⟨h, q2⟩ := and2 h
    obtain ⟨h, q1⟩ := and2 h
    obtain ⟨h, h5⟩ := and2 h
    obtain ⟨h, h4⟩ := and2 h
    obtain ⟨h, h3⟩ := and2 h
    obtain ⟨h1, h2⟩ := and2 h
    have e1 := of_decide_eq_true h1
    subst e1
    have hn : xs.length + ks.length < 28 := of_decide_eq_true h3
    cases e3 : kwN ks with
    | none => simp only [e3] at q2; cases q2
    | some kn =>
      simp only [e3] at q2
      have co : MthOk c X EW k₀ n xs.length kn pm (fun k => (V.mth n k).map fun g => (V.call g, V.dfl g)) := ⟨fun k F hF => by
        obtain ⟨g, e2, rfl⟩ := Option.map_eq_some_iff.mp hF
        obtain ⟨w0, f, fd, ps, dvs, w1, w2, w3, w4, w5⟩ := hV.mtd _ k g e2
        exact ⟨f, fd, ps, dvs, by rw [hx.K]; exact w1, by rw [hx.K]; exact w2, by rw [hx.P, hx.w, hx.K, hx.mg, hx.base]; exact w3, by rw [hx.K]; exact w5 _ (List.contains_iff_mem.mp (List.all_eq_true.mp q2 _ w0)), w4⟩, hx.room.mono (Nat.le_succ _), hx.tk⟩
      match xs, q1, q3, co, hn with
      | [], q1, q3, co, hn => exact so_mth0 co (ha.e X EW hx _ h5) h2 e3 (by simpa using hn) h4 (hl.k X EW hx _ (by simpa using q3))
      | x1 :: xs, q1, q3, co, hn => exact so_mth co (ha.e X EW hx _ h5) h2 rfl q1 e3 hn h4 (hl.ak X EW hx _ _ (by simpa using q3))
  · cases h
theorem snd_isc (hV : VOk c base k₀ S V) {k : Nat} {a : M} (ha : Snd c base k₀ S V pin a) : Snd c base k₀ S V pin (.isc k a) := snd_expr (fun _ _ _ _ _ => rfl) rfl rfl fun X EW hx x h => by
  split at h
  · obtain ⟨h, h7⟩ := and2 h
    obtain ⟨h, h6⟩ := and2 h
    obtain ⟨h, h5⟩ := and2 h
    obtain ⟨h, h4⟩ := and2 h
    obtain ⟨h, h3⟩ := and2 h
    obtain ⟨h1, h2⟩ := and2 h
    have e1 := of_decide_eq_true h1
    subst e1
    obtain ⟨q, e2, e3⟩ := Option.map_eq_some_iff.mp (of_decide_eq_true h2)
    obtain ⟨nm, g⟩ := q
    subst e3
    obtain ⟨w0, I, w1, w2, w3, w4, w5⟩ := hV.mkc k _ g e2
    exact so_isc hV.ins w0 h6 hx.K (glb_of h3) (by rw [hx.mg]; exact hV.blt _ (by decide)) (glb_of h4) (by rw [hx.mg]; exact w3) (dbg_of h5).1 (ha.e X EW hx _ h7)
  · cases h
theorem oeq_ok (hV : VOk c base k₀ S V) {X : Cx} {EW : XK} (hx : XOk c base k₀ S EW X) : OeqOk c X k₀ V.ncl (fun k => (V.eqm k).map V.call) := ⟨hV.ins, fun k F hF => by
  obtain ⟨g, e2, rfl⟩ := Option.map_eq_some_iff.mp hF
  obtain ⟨f, fd, ps, w1, w2, w3⟩ := hV.eqm k g e2
  exact ⟨f, fd, ps, w1, by rw [hx.P, hx.w, hx.K, hx.mg, hx.base]; exact w2, by rw [hx.K]; exact w3⟩, hx.room⟩
theorem oeq_e (hV : VOk c base k₀ S V) {ne : Bool} {a b : M} (ha : Snd c base k₀ S V pin a) (hb : Snd c base k₀ S V pin b) : ∀ X EW, XOk c base k₀ S EW X → ∀ x, (match x with | .Compare x [op] [y] _ => decide (op = if ne then CmpOp.NotEq else CmpOp.Eq) && (chk S a).e X.env.scope x && (chk S b).e X.env.scope y | _ => false) = true → SoE c X EW (oeqS V.ncl (fun k => (V.eqm k).map V.call) ne (sem V pin a).o (sem V pin b).o) x := fun X EW hx x h => by
  split at h
  · obtain ⟨h, h3⟩ := and2 h
    obtain ⟨h1, h2⟩ := and2 h
    have e1 := of_decide_eq_true h1
    subst e1
    exact so_oeq hx.K (oeq_ok hV hx) (ha.e X EW hx _ h2) (hb.e X EW hx _ h3)
  · cases h
theorem oeq_t (hV : VOk c base k₀ S V) {ne : Bool} {a b : M} (ha : Snd c base k₀ S V pin a) (hb : Snd c base k₀ S V pin b) : ∀ X EW, XOk c base k₀ S EW X → ∀ x, (match x with | .Compare x [op] [y] _ => decide (op = if ne then CmpOp.NotEq else CmpOp.Eq) && (chk S a).e X.env.scope x && (chk S b).e X.env.scope y | _ => false) = true → SoT c X EW (tstS (oeqS V.ncl (fun k => (V.eqm k).map V.call) ne (sem V pin a).o (sem V pin b).o)) x := fun X EW hx x h => by
  split at h
  · obtain ⟨h, h3⟩ := and2 h
    obtain ⟨h1, h2⟩ := and2 h
    have e1 := of_decide_eq_true h1
    subst e1
    exact so_oeqT hx.K (oeq_ok hV hx) (ha.e X EW hx _ h2) (hb.e X EW hx _ h3)
  · cases h
theorem snd_oeq (hV : VOk c base k₀ S V) {ne : Bool} {a b : M} (ha : Snd c base k₀ S V pin a) (hb : Snd c base k₀ S V pin b) : Snd c base k₀ S V pin (.oeq ne a b) := by
  refine { e := ?e, lc := fun X EW hx elt gens scope pos h => nof h rfl, d := fun X EW hx zs ks es h => nof h rfl, pl := ?pl, t := ?t, w := ?w, a := fun X EW hx l h => nof h rfl, f := fun X EW hx l h => nof h rfl, v := fun X EW hx l h => nof h rfl, apl := fun sc l h => nof h rfl, k := fun X EW hx l h => nof h rfl, ak := fun X EW hx l kw h => nof h rfl, g := fun X hK hN hnd hc st hst x h => nof h rfl, gs := fun X hK hN hnd hc st hst l h => nof h rfl, i := ?i, p := ?p, fi := ?fi, s := fun X EW hx hs s h => nof h rfl, b := fun X EW hx hs l h => nof h rfl }
  case e =>
    exact fun X EW hx x h => oeq_e hV ha hb X EW hx x (and2 h).1
  case pl =>
    exact fun sc x h => (and2 h).2
  case t =>
    exact oeq_t hV ha hb
  case w =>
    exact fun X EW hx op vs p h => nof h rfl
  case i =>
    exact fun X EW hx tg x h => so_ite hx.K (oeq_e hV ha hb X EW hx x (and2 h).1)
  case p =>
    intro X EW hx o h
    cases o with
    | none => cases h
    | some x => exact so_prt (oeq_e hV ha hb X EW hx x h)
  case fi =>
    exact fi_of rfl rfl (oeq_t hV ha hb)
theorem snd_iff {t a b : M} (ht : Snd c base k₀ S V pin t) (ha : Snd c base k₀ S V pin a) (hb : Snd c base k₀ S V pin b) : Snd c base k₀ S V pin (.iff t a b) := by
  refine { e := fun X EW hx x h => nof h rfl, lc := fun X EW hx elt gens scope pos h => nof h rfl, d := fun X EW hx zs ks es h => nof h rfl, pl := fun sc x h => nof h rfl, t := fun X EW hx x h => nof h rfl, w := fun X EW hx op vs p h => nof h rfl, a := fun X EW hx l h => nof h rfl, f := fun X EW hx l h => nof h rfl, v := fun X EW hx l h => nof h rfl, apl := fun sc l h => nof h rfl, k := fun X EW hx l h => nof h rfl, ak := fun X EW hx l kw h => nof h rfl, g := fun X hK hN hnd hc st hst x h => nof h rfl, gs := fun X hK hN hnd hc st hst l h => nof h rfl, i := fun X EW hx tg x h => nof h rfl, p := fun X EW hx o h => nof h rfl, fi := fun X EW hx l h => nof h rfl, s := ?s, b := fun X EW hx hs l h => nof h rfl }
  case s =>
    intro X EW hx hs st h
    simp only [chk] at h
    split at h
    · obtain ⟨h, h3⟩ := and2 h
      obtain ⟨h1, h2⟩ := and2 h
      exact ss_iff (ht.t X EW hx _ h1) (ha.b X EW hx hs _ h2) (hb.b X EW hx hs _ h3)
    · cases h
theorem snd_loop {t it b : M} (ht : Snd c base k₀ S V pin t) (hi : Snd c base k₀ S V pin it) (hb : Snd c base k₀ S V pin b) : Snd c base k₀ S V pin (.loop t it b) := by
  refine { e := fun X EW hx x h => nof h rfl, lc := fun X EW hx elt gens scope pos h => nof h rfl, d := fun X EW hx zs ks es h => nof h rfl, pl := fun sc x h => nof h rfl, t := fun X EW hx x h => nof h rfl, w := fun X EW hx op vs p h => nof h rfl, a := fun X EW hx l h => nof h rfl, f := fun X EW hx l h => nof h rfl, v := fun X EW hx l h => nof h rfl, apl := fun sc l h => nof h rfl, k := fun X EW hx l h => nof h rfl, ak := fun X EW hx l kw h => nof h rfl, g := fun X hK hN hnd hc st hst x h => nof h rfl, gs := fun X hK hN hnd hc st hst l h => nof h rfl, i := fun X EW hx tg x h => nof h rfl, p := fun X EW hx o h => nof h rfl, fi := fun X EW hx l h => nof h rfl, s := ?s, b := fun X EW hx hs l h => nof h rfl }
  case s =>
    intro X EW hx hs st h
    simp only [chk] at h
    split at h
    · obtain ⟨h, h4⟩ := and2 h
      obtain ⟨h, h3⟩ := and2 h
      obtain ⟨h1, h2⟩ := and2 h
      exact ss_loop hx.po hx.calm h1 (hi.i X EW hx _ _ h3) (ht.g X hx.K hx.N hx.nd hx.calm _ hs _ h2) (hb.b X EW hx hs _ h4)
    · cases h
theorem snd_ret {e : M} (he : Snd c base k₀ S V pin e) : Snd c base k₀ S V pin (.ret e) := by
  refine { e := fun X EW hx x h => nof h rfl, lc := fun X EW hx elt gens scope pos h => nof h rfl, d := fun X EW hx zs ks es h => nof h rfl, pl := fun sc x h => nof h rfl, t := fun X EW hx x h => nof h rfl, w := fun X EW hx op vs p h => nof h rfl, a := fun X EW hx l h => nof h rfl, f := fun X EW hx l h => nof h rfl, v := fun X EW hx l h => nof h rfl, apl := fun sc l h => nof h rfl, k := fun X EW hx l h => nof h rfl, ak := fun X EW hx l kw h => nof h rfl, g := fun X hK hN hnd hc st hst x h => nof h rfl, gs := fun X hK hN hnd hc st hst l h => nof h rfl, i := fun X EW hx tg x h => nof h rfl, p := fun X EW hx o h => nof h rfl, fi := fun X EW hx l h => nof h rfl, s := ?s, b := fun X EW hx hs l h => nof h rfl }
  case s =>
    intro X EW hx hs st h
    simp only [chk] at h
    split at h
    · exact ss_ret (he.e X EW hx _ h)
    · cases h
theorem snd_ret0 : Snd c base k₀ S V pin .ret0 := by
  refine { e := fun X EW hx x h => nof h rfl, lc := fun X EW hx elt gens scope pos h => nof h rfl, d := fun X EW hx zs ks es h => nof h rfl, pl := fun sc x h => nof h rfl, t := fun X EW hx x h => nof h rfl, w := fun X EW hx op vs p h => nof h rfl, a := fun X EW hx l h => nof h rfl, f := fun X EW hx l h => nof h rfl, v := fun X EW hx l h => nof h rfl, apl := fun sc l h => nof h rfl, k := fun X EW hx l h => nof h rfl, ak := fun X EW hx l kw h => nof h rfl, g := fun X hK hN hnd hc st hst x h => nof h rfl, gs := fun X hK hN hnd hc st hst l h => nof h rfl, i := fun X EW hx tg x h => nof h rfl, p := fun X EW hx o h => nof h rfl, fi := fun X EW hx l h => nof h rfl, s := ?s, b := fun X EW hx hs l h => nof h rfl }
  case s =>
    intro X EW hx hs st h
    simp only [chk] at h
    split at h
    · exact ss_ret0
    · cases h
theorem snd_ex {e : M} (he : Snd c base k₀ S V pin e) : Snd c base k₀ S V pin (.ex e) := by
  refine { e := fun X EW hx x h => nof h rfl, lc := fun X EW hx elt gens scope pos h => nof h rfl, d := fun X EW hx zs ks es h => nof h rfl, pl := fun sc x h => nof h rfl, t := fun X EW hx x h => nof h rfl, w := fun X EW hx op vs p h => nof h rfl, a := fun X EW hx l h => nof h rfl, f := fun X EW hx l h => nof h rfl, v := fun X EW hx l h => nof h rfl, apl := fun sc l h => nof h rfl, k := fun X EW hx l h => nof h rfl, ak := fun X EW hx l kw h => nof h rfl, g := fun X hK hN hnd hc st hst x h => nof h rfl, gs := fun X hK hN hnd hc st hst l h => nof h rfl, i := fun X EW hx tg x h => nof h rfl, p := fun X EW hx o h => nof h rfl, fi := fun X EW hx l h => nof h rfl, s := ?s, b := fun X EW hx hs l h => nof h rfl }
  case s =>
    intro X EW hx hs st h
    simp only [chk] at h
    split at h
    · obtain ⟨h1, h2⟩ := and2 h
      exact ss_ex (he.e X EW hx _ h2) (swaps_pl h1)
    · cases h
theorem snd_brk : Snd c base k₀ S V pin .brk := by
  refine { e := fun X EW hx x h => nof h rfl, lc := fun X EW hx elt gens scope pos h => nof h rfl, d := fun X EW hx zs ks es h => nof h rfl, pl := fun sc x h => nof h rfl, t := fun X EW hx x h => nof h rfl, w := fun X EW hx op vs p h => nof h rfl, a := fun X EW hx l h => nof h rfl, f := fun X EW hx l h => nof h rfl, v := fun X EW hx l h => nof h rfl, apl := fun sc l h => nof h rfl, k := fun X EW hx l h => nof h rfl, ak := fun X EW hx l kw h => nof h rfl, g := fun X hK hN hnd hc st hst x h => nof h rfl, gs := fun X hK hN hnd hc st hst l h => nof h rfl, i := fun X EW hx tg x h => nof h rfl, p := fun X EW hx o h => nof h rfl, fi := fun X EW hx l h => nof h rfl, s := ?s, b := fun X EW hx hs l h => nof h rfl }
  case s =>
    intro X EW hx hs st h
    simp only [chk] at h
    split at h
    · exact ss_brk
    · cases h
theorem snd_cnt : Snd c base k₀ S V pin .cnt := by
  refine { e := fun X EW hx x h => nof h rfl, lc := fun X EW hx elt gens scope pos h => nof h rfl, d := fun X EW hx zs ks es h => nof h rfl, pl := fun sc x h => nof h rfl, t := fun X EW hx x h => nof h rfl, w := fun X EW hx op vs p h => nof h rfl, a := fun X EW hx l h => nof h rfl, f := fun X EW hx l h => nof h rfl, v := fun X EW hx l h => nof h rfl, apl := fun sc l h => nof h rfl, k := fun X EW hx l h => nof h rfl, ak := fun X EW hx l kw h => nof h rfl, g := fun X hK hN hnd hc st hst x h => nof h rfl, gs := fun X hK hN hnd hc st hst l h => nof h rfl, i := fun X EW hx tg x h => nof h rfl, p := fun X EW hx o h => nof h rfl, fi := fun X EW hx l h => nof h rfl, s := ?s, b := fun X EW hx hs l h => nof h rfl }
  case s =>
    intro X EW hx hs st h
    simp only [chk] at h
    split at h
    · exact ss_cnt
    · cases h
theorem snd_pas : Snd c base k₀ S V pin .pas := by
  refine { e := fun X EW hx x h => nof h rfl, lc := fun X EW hx elt gens scope pos h => nof h rfl, d := fun X EW hx zs ks es h => nof h rfl, pl := fun sc x h => nof h rfl, t := fun X EW hx x h => nof h rfl, w := fun X EW hx op vs p h => nof h rfl, a := fun X EW hx l h => nof h rfl, f := fun X EW hx l h => nof h rfl, v := fun X EW hx l h => nof h rfl, apl := fun sc l h => nof h rfl, k := fun X EW hx l h => nof h rfl, ak := fun X EW hx l kw h => nof h rfl, g := fun X hK hN hnd hc st hst x h => nof h rfl, gs := fun X hK hN hnd hc st hst l h => nof h rfl, i := fun X EW hx tg x h => nof h rfl, p := fun X EW hx o h => nof h rfl, fi := fun X EW hx l h => nof h rfl, s := ?s, b := fun X EW hx hs l h => nof h rfl }
  case s =>
    intro X EW hx hs st h
    simp only [chk] at h
    split at h
    · exact ss_pas
    · cases h

theorem JG.none {E : Ent} {ρ : List (Option c.O)} {σ : List (Option L2.V)} {H G : Hp} {f : Nat → List Addr} (g : JG c E ρ σ H G f) : JG c E [] [] H G (fun _ => []) :=
  ⟨g.sub, g.sub0, g.old, g.tab, by simp, by simp, g.unf, by simp, by simp, by simp, by simp, g.a0, g.ntb⟩
theorem ss_rai {X : Cx} {EW : XK} {n : Nat} {x : Str} {fl : Rho c → Out c (List c.D)} {e : Expr} {es : List Expr} {p pos pos2 : Pos} (hx : XOk c base k₀ S EW X) (I : ExI c base k₀ n x) (hg : Gl X x) (hdb : (x == ("__debug__" : Str)) = false) (hpl : (e :: es).all plE = true) (hl : SoF c X EW fl (e :: es)) :
    SoS c X EW pin (fun ρ => ofOut (fl ρ) fun fs _ => if fs.length = (c.exf n).length then .exc n fs else .bad) (.Raise (some (.Call (.Name x p) (e :: es) [] pos)) none pos2) := by
  obtain ⟨fI, fd, f, e1, T, iC, tI, F1, hb, hm, hno⟩ := I.ex
  obtain ⟨t, pa, k⟩ := hl.ex
  have hpl' := hpl
  rw [List.all_cons, Bool.and_eq_true] at hpl'
  refine ⟨_, ps_raise hx.calm hx.tk (pmk_oex (CX := L2.CX X.prog X.w) (k := 1) (C := c.exa n) (fI := fI) (fd := fd) (ps := ["self", f]) (sp := spInit c.K f) (ds := []) (dvs := []) (by rw [hx.K]; exact T) (by rw [hx.K]; exact iC) (by rw [hx.K]; exact tI) (by rw [hx.P, hx.w, hx.K, hx.mg, hx.base]; exact F1) (hx.room.mono (Nat.le_succ_of_le I.two)) (by rw [hx.K]; exact hb) .nil (passes_call hx.tk fun _ _ _ _ z => z.elim) hg (by rw [hx.mg]; exact hm) pa hdb (star_pl hpl'.1) (any_pl hpl'.2)),
    fun E ρ σ ts H D hp hal j hw => k E ρ σ ts H _ j ((WS.out hw).mono fun fs ρ1 h1 vs H1 hlen j1 => ?_)⟩
  rw [e1] at h1
  split at h1
  · rename_i h2
    match fs, vs, h2, hlen, j1, h1 with
    | [d], [v], _, _, j1, h1 =>
      refine ⟨by simp, fun a ha => ⟨a, c.exa n, v, rfl, T, hno, upd_same, fun dx hdx hne => ⟨rfl, dx, [(f, v)], upd_same, by rw [upd_ne hne, upd_same], by rw [upd_ne hne] at hdx; exact hdx, ?_⟩⟩⟩
      rw [upd_ne hne] at hdx
      have eh : upd (del (upd (upd (upd H1 a (exo a (c.exa n) none)) dx (exd dx [(f, v)])) a (exo a (c.exa n) (some dx))) a) dx (.xd [(f, v)]) = upd H1 dx (.xd [(f, v)]) := by
        funext b
        by_cases h1 : b = dx
        · rw [h1, upd_same, upd_same]
        · rw [upd_ne h1, upd_ne h1]
          by_cases h2 : b = a
          · rw [h2, del_same, ha]
          · rw [del_ne h2, upd_ne h2, upd_ne h1, upd_ne h2]
      rw [eh]
      obtain ⟨q1, q2, q3, G, f0, g⟩ := j1
      obtain ⟨fx, rx⟩ := g.tO q1 q3 (tm := .o (.fr d)) (v := v) (by simp [fS]) rfl
      refine h1 dx _ ⟨G, _, [v], g.none.newH hdx, ?_, .cons rx.unfr .nil⟩
      rw [upd_same, e1]; rfl
  · exact h1.elim
theorem snd_rai (hV : VOk c base k₀ S V) {n : Nat} {l : M} (hl : Snd c base k₀ S V pin l) : Snd c base k₀ S V pin (.rai n l) := by
  refine { e := fun X EW hx x h => nof h rfl, lc := fun X EW hx elt gens scope pos h => nof h rfl, d := fun X EW hx zs ks es h => nof h rfl, pl := fun sc x h => nof h rfl, t := fun X EW hx x h => nof h rfl, w := fun X EW hx op vs p h => nof h rfl, a := fun X EW hx l h => nof h rfl, f := fun X EW hx l h => nof h rfl, v := fun X EW hx l h => nof h rfl, apl := fun sc l h => nof h rfl, k := fun X EW hx l h => nof h rfl, ak := fun X EW hx l kw h => nof h rfl, g := fun X hK hN hnd hc st hst x h => nof h rfl, gs := fun X hK hN hnd hc st hst l h => nof h rfl, i := fun X EW hx tg x h => nof h rfl, p := fun X EW hx o h => nof h rfl, fi := fun X EW hx l h => nof h rfl, s := ?s, b := fun X EW hx hs l h => nof h rfl }
  case s =>
    intro X EW hx hs st h
    simp only [chk] at h
    split at h
    · obtain ⟨h, h5⟩ := and2 h
      obtain ⟨h, h4⟩ := and2 h
      obtain ⟨h, h3⟩ := and2 h
      obtain ⟨h1, h2⟩ := and2 h
      exact ss_rai hx (hV.exc _ _ (of_decide_eq_true h1)) (glb_of h2) (dbg_of h3).1 h4 (hl.f X EW hx _ h5)
    · cases h
theorem snd_app {i : Nat} {e : M} (he : Snd c base k₀ S V pin e) : Snd c base k₀ S V pin (.app i e) := by
  refine { e := fun X EW hx x h => nof h rfl, lc := fun X EW hx elt gens scope pos h => nof h rfl, d := fun X EW hx zs ks es h => nof h rfl, pl := fun sc x h => nof h rfl, t := fun X EW hx x h => nof h rfl, w := fun X EW hx op vs p h => nof h rfl, a := fun X EW hx l h => nof h rfl, f := fun X EW hx l h => nof h rfl, v := fun X EW hx l h => nof h rfl, apl := fun sc l h => nof h rfl, k := fun X EW hx l h => nof h rfl, ak := fun X EW hx l kw h => nof h rfl, g := fun X hK hN hnd hc st hst x h => nof h rfl, gs := fun X hK hN hnd hc st hst l h => nof h rfl, i := fun X EW hx tg x h => nof h rfl, p := fun X EW hx o h => nof h rfl, fi := fun X EW hx l h => nof h rfl, s := ?s, b := fun X EW hx hs l h => nof h rfl }
  case s =>
    intro X EW hx hs st h
    simp only [chk] at h
    split at h
    · obtain ⟨h, h7⟩ := and2 h
      obtain ⟨h, h6⟩ := and2 h
      obtain ⟨h, h5⟩ := and2 h
      obtain ⟨h, h4⟩ := and2 h
      obtain ⟨h, h3⟩ := and2 h
      obtain ⟨h1, h2⟩ := and2 h
      have e1 := of_decide_eq_true h1
      subst e1
      exact ss_app h6 h2 (pe_var_of hx (of_decide_eq_true h3) h4 h5) (he.e X EW hx _ h7)
    · cases h
theorem snd_pop0 {i : Nat} {e : M} (he : Snd c base k₀ S V pin e) : Snd c base k₀ S V pin (.pop0 i e) := by
  refine { e := fun X EW hx x h => nof h rfl, lc := fun X EW hx elt gens scope pos h => nof h rfl, d := fun X EW hx zs ks es h => nof h rfl, pl := fun sc x h => nof h rfl, t := fun X EW hx x h => nof h rfl, w := fun X EW hx op vs p h => nof h rfl, a := fun X EW hx l h => nof h rfl, f := fun X EW hx l h => nof h rfl, v := fun X EW hx l h => nof h rfl, apl := fun sc l h => nof h rfl, k := fun X EW hx l h => nof h rfl, ak := fun X EW hx l kw h => nof h rfl, g := fun X hK hN hnd hc st hst x h => nof h rfl, gs := fun X hK hN hnd hc st hst l h => nof h rfl, i := fun X EW hx tg x h => nof h rfl, p := fun X EW hx o h => nof h rfl, fi := fun X EW hx l h => nof h rfl, s := ?s, b := fun X EW hx hs l h => nof h rfl }
  case s =>
    intro X EW hx hs st h
    simp only [chk] at h
    split at h
    · obtain ⟨h, h7⟩ := and2 h
      obtain ⟨h, h6⟩ := and2 h
      obtain ⟨h, h5⟩ := and2 h
      obtain ⟨h, h4⟩ := and2 h
      obtain ⟨h, h3⟩ := and2 h
      obtain ⟨h1, h2⟩ := and2 h
      have e1 := of_decide_eq_true h1
      subst e1
      exact ss_pop h6 h2 (pe_var_of hx (of_decide_eq_true h3) h4 h5) (he.e X EW hx _ h7)
    · cases h
theorem snd_clr {i : Nat} : Snd c base k₀ S V pin (.clr i) := by
  refine { e := fun X EW hx x h => nof h rfl, lc := fun X EW hx elt gens scope pos h => nof h rfl, d := fun X EW hx zs ks es h => nof h rfl, pl := fun sc x h => nof h rfl, t := fun X EW hx x h => nof h rfl, w := fun X EW hx op vs p h => nof h rfl, a := fun X EW hx l h => nof h rfl, f := fun X EW hx l h => nof h rfl, v := fun X EW hx l h => nof h rfl, apl := fun sc l h => nof h rfl, k := fun X EW hx l h => nof h rfl, ak := fun X EW hx l kw h => nof h rfl, g := fun X hK hN hnd hc st hst x h => nof h rfl, gs := fun X hK hN hnd hc st hst l h => nof h rfl, i := fun X EW hx tg x h => nof h rfl, p := fun X EW hx o h => nof h rfl, fi := fun X EW hx l h => nof h rfl, s := ?s, b := fun X EW hx hs l h => nof h rfl }
  case s =>
    intro X EW hx hs st h
    simp only [chk] at h
    split at h
    · obtain ⟨h, h5⟩ := and2 h
      obtain ⟨h, h4⟩ := and2 h
      obtain ⟨h, h3⟩ := and2 h
      obtain ⟨h1, h2⟩ := and2 h
      have e1 := of_decide_eq_true h1
      subst e1
      exact ss_clr h2 (pe_var_of hx (of_decide_eq_true h3) h4 h5)
    · cases h
theorem snd_sti {i : Nat} {k e : M} (hk : Snd c base k₀ S V pin k) (he : Snd c base k₀ S V pin e) : Snd c base k₀ S V pin (.sti i k e) := by
  refine { e := fun X EW hx x h => nof h rfl, lc := fun X EW hx elt gens scope pos h => nof h rfl, d := fun X EW hx zs ks es h => nof h rfl, pl := fun sc x h => nof h rfl, t := fun X EW hx x h => nof h rfl, w := fun X EW hx op vs p h => nof h rfl, a := fun X EW hx l h => nof h rfl, f := fun X EW hx l h => nof h rfl, v := fun X EW hx l h => nof h rfl, apl := fun sc l h => nof h rfl, k := fun X EW hx l h => nof h rfl, ak := fun X EW hx l kw h => nof h rfl, g := fun X hK hN hnd hc st hst x h => nof h rfl, gs := fun X hK hN hnd hc st hst l h => nof h rfl, i := fun X EW hx tg x h => nof h rfl, p := fun X EW hx o h => nof h rfl, fi := fun X EW hx l h => nof h rfl, s := ?s, b := fun X EW hx hs l h => nof h rfl }
  case s =>
    intro X EW hx hs st h
    simp only [chk] at h
    split at h
    · obtain ⟨h, h7⟩ := and2 h
      obtain ⟨h, h6⟩ := and2 h
      obtain ⟨h, h5⟩ := and2 h
      obtain ⟨h, h4⟩ := and2 h
      obtain ⟨h, h3⟩ := and2 h
      obtain ⟨h1, h2⟩ := and2 h
      exact ss_sti (pe_var_of hx (of_decide_eq_true h1) h2 h3) (he.e X EW hx _ h7) (hk.e X EW hx _ h6) (sole_pl h4) (stores_pl rfl) (assign_sub h5)
    · cases h
theorem snd_clra {t l : Nat} : Snd c base k₀ S V pin (.clra t l) := by
  refine { e := fun X EW hx x h => nof h rfl, lc := fun X EW hx elt gens scope pos h => nof h rfl, d := fun X EW hx zs ks es h => nof h rfl, pl := fun sc x h => nof h rfl, t := fun X EW hx x h => nof h rfl, w := fun X EW hx op vs p h => nof h rfl, a := fun X EW hx l h => nof h rfl, f := fun X EW hx l h => nof h rfl, v := fun X EW hx l h => nof h rfl, apl := fun sc l h => nof h rfl, k := fun X EW hx l h => nof h rfl, ak := fun X EW hx l kw h => nof h rfl, g := fun X hK hN hnd hc st hst x h => nof h rfl, gs := fun X hK hN hnd hc st hst l h => nof h rfl, i := fun X EW hx tg x h => nof h rfl, p := fun X EW hx o h => nof h rfl, fi := fun X EW hx l h => nof h rfl, s := ?s, b := fun X EW hx hs l h => nof h rfl }
  case s =>
    intro X EW hx hs st h
    simp only [chk] at h
    split at h
    · obtain ⟨h, g9⟩ := and2 h
      obtain ⟨h, g8⟩ := and2 h
      obtain ⟨h, g7⟩ := and2 h
      obtain ⟨h, g6⟩ := and2 h
      obtain ⟨h, g5⟩ := and2 h
      obtain ⟨h, g4⟩ := and2 h
      obtain ⟨h, g3⟩ := and2 h
      obtain ⟨h, g2⟩ := and2 h
      obtain ⟨g0, g1⟩ := and2 h
      have e0 := of_decide_eq_true g0
      subst e0
      have e1 := of_decide_eq_true g1
      subst e1
      obtain ⟨q1, q2⟩ := hs _ g4
      have hN := of_decide_eq_true g3
      exact ss_clra hx.po hx.calm hx.nd (by rw [hx.N]; exact hN) q1 q2 g2 (pe_var_of hx hN g5 g6) (pe_var_of hx (of_decide_eq_true g7) g8 g9)
    · cases h
theorem snd_dst {i : Nat} {k e : M} (hk : Snd c base k₀ S V pin k) (he : Snd c base k₀ S V pin e) : Snd c base k₀ S V pin (.dst i k e) := by
  refine { e := fun X EW hx x h => nof h rfl, lc := fun X EW hx elt gens scope pos h => nof h rfl, d := fun X EW hx zs ks es h => nof h rfl, pl := fun sc x h => nof h rfl, t := fun X EW hx x h => nof h rfl, w := fun X EW hx op vs p h => nof h rfl, a := fun X EW hx l h => nof h rfl, f := fun X EW hx l h => nof h rfl, v := fun X EW hx l h => nof h rfl, apl := fun sc l h => nof h rfl, k := fun X EW hx l h => nof h rfl, ak := fun X EW hx l kw h => nof h rfl, g := fun X hK hN hnd hc st hst x h => nof h rfl, gs := fun X hK hN hnd hc st hst l h => nof h rfl, i := fun X EW hx tg x h => nof h rfl, p := fun X EW hx o h => nof h rfl, fi := fun X EW hx l h => nof h rfl, s := ?s, b := fun X EW hx hs l h => nof h rfl }
  case s =>
    intro X EW hx hs st h
    simp only [chk] at h
    split at h
    · obtain ⟨h, h7⟩ := and2 h
      obtain ⟨h, h6⟩ := and2 h
      obtain ⟨h, h5⟩ := and2 h
      obtain ⟨h, h4⟩ := and2 h
      obtain ⟨h, h3⟩ := and2 h
      obtain ⟨h1, h2⟩ := and2 h
      exact ss_dst (by have := hx.room.un; omega) (pe_var_of hx (of_decide_eq_true h1) h2 h3) (he.e X EW hx _ h7) (hk.e X EW hx _ h6) (swaps_pl h4)
    · cases h
theorem snd_sfl (hV : VOk c base k₀ S V) {i : Nat} {f : Str} {e : M} (he : Snd c base k₀ S V pin e) : Snd c base k₀ S V pin (.sfl i f e) := by
  refine { e := fun X EW hx x h => nof h rfl, lc := fun X EW hx elt gens scope pos h => nof h rfl, d := fun X EW hx zs ks es h => nof h rfl, pl := fun sc x h => nof h rfl, t := fun X EW hx x h => nof h rfl, w := fun X EW hx op vs p h => nof h rfl, a := fun X EW hx l h => nof h rfl, f := fun X EW hx l h => nof h rfl, v := fun X EW hx l h => nof h rfl, apl := fun sc l h => nof h rfl, k := fun X EW hx l h => nof h rfl, ak := fun X EW hx l kw h => nof h rfl, g := fun X hK hN hnd hc st hst x h => nof h rfl, gs := fun X hK hN hnd hc st hst l h => nof h rfl, i := fun X EW hx tg x h => nof h rfl, p := fun X EW hx o h => nof h rfl, fi := fun X EW hx l h => nof h rfl, s := ?s, b := fun X EW hx hs l h => nof h rfl }
  case s =>
    intro X EW hx hs st h
    simp only [chk] at h
    split at h
    · obtain ⟨h, h6⟩ := and2 h
      obtain ⟨h, h5⟩ := and2 h
      obtain ⟨h, h4⟩ := and2 h
      obtain ⟨h, h3⟩ := and2 h
      obtain ⟨h1, h2⟩ := and2 h
      have e1 := of_decide_eq_true h1
      subst e1
      exact ss_sfl hV.cf hx.K (by rw [hx.N]; exact of_decide_eq_true h2) (vis_of h3) (dbg_of h4).1 (dbg_of h4).2 (swaps_pl h5) (he.e X EW hx _ h6)
    · cases h
theorem snd_par {i j : Nat} {l : M} (hl : Snd c base k₀ S V pin l) : Snd c base k₀ S V pin (.par i j l) := by
  refine { e := fun X EW hx x h => nof h rfl, lc := fun X EW hx elt gens scope pos h => nof h rfl, d := fun X EW hx zs ks es h => nof h rfl, pl := fun sc x h => nof h rfl, t := fun X EW hx x h => nof h rfl, w := fun X EW hx op vs p h => nof h rfl, a := fun X EW hx l h => nof h rfl, f := fun X EW hx l h => nof h rfl, v := fun X EW hx l h => nof h rfl, apl := fun sc l h => nof h rfl, k := fun X EW hx l h => nof h rfl, ak := fun X EW hx l kw h => nof h rfl, g := fun X hK hN hnd hc st hst x h => nof h rfl, gs := fun X hK hN hnd hc st hst l h => nof h rfl, i := fun X EW hx tg x h => nof h rfl, p := fun X EW hx o h => nof h rfl, fi := fun X EW hx l h => nof h rfl, s := ?s, b := fun X EW hx hs l h => nof h rfl }
  case s =>
    intro X EW hx hs st h
    simp only [chk] at h
    split at h
    · obtain ⟨h, g12⟩ := and2 h
      obtain ⟨h, g11⟩ := and2 h
      obtain ⟨h, g10⟩ := and2 h
      obtain ⟨h, g9⟩ := and2 h
      obtain ⟨h, g8⟩ := and2 h
      obtain ⟨h, g7⟩ := and2 h
      obtain ⟨h, g6⟩ := and2 h
      obtain ⟨h, g5⟩ := and2 h
      obtain ⟨h, g4⟩ := and2 h
      obtain ⟨h, g3⟩ := and2 h
      obtain ⟨g1, g2⟩ := and2 h
      have hk : X.env.scope.kind = .function := by
        split at g6
        · assumption
        · cases g6
      have e4 := of_decide_eq_true g4
      have e5 := of_decide_eq_true g5
      exact ss_par (by simpa using g1) hx.calm hx.nd (by rw [hx.N]; exact of_decide_eq_true g2) (by rw [hx.N]; exact of_decide_eq_true g3) e4 e5 (fun hxy => par_sw hk e4 e5 hxy g7 g8 g9 (not_tt g10) (not_tt g11)) (sole_pl rfl) (hl.v X EW hx _ g12)
    · cases h
theorem snd_asg {t e : M} (ht : Snd c base k₀ S V pin t) (he : Snd c base k₀ S V pin e) : Snd c base k₀ S V pin (.asg t e) := by
  refine { e := fun X EW hx x h => nof h rfl, lc := fun X EW hx elt gens scope pos h => nof h rfl, d := fun X EW hx zs ks es h => nof h rfl, pl := fun sc x h => nof h rfl, t := fun X EW hx x h => nof h rfl, w := fun X EW hx op vs p h => nof h rfl, a := fun X EW hx l h => nof h rfl, f := fun X EW hx l h => nof h rfl, v := fun X EW hx l h => nof h rfl, apl := fun sc l h => nof h rfl, k := fun X EW hx l h => nof h rfl, ak := fun X EW hx l kw h => nof h rfl, g := fun X hK hN hnd hc st hst x h => nof h rfl, gs := fun X hK hN hnd hc st hst l h => nof h rfl, i := fun X EW hx tg x h => nof h rfl, p := fun X EW hx o h => nof h rfl, fi := fun X EW hx l h => nof h rfl, s := ?s, b := fun X EW hx hs l h => nof h rfl }
  case s =>
    intro X EW hx hs st h
    simp only [chk] at h
    split at h
    · rename_i tg v pos
      obtain ⟨h, h4⟩ := and2 h
      obtain ⟨h, h3⟩ := and2 h
      obtain ⟨h1, h2⟩ := and2 h
      rcases Bool.or_eq_true_iff.mp h4 with h4 | h7
      rotate_left
      · exact ss_asg (he.e X EW hx _ h3) h1 (ht.g X hx.K hx.N hx.nd hx.calm _ hs _ h2) (cellT_pl h7).1 (stores_pl (by rw [(cellT_pl (l := pos.line) h7).2]; rfl))
      rcases Bool.or_eq_true_iff.mp h4 with h4 | h4
      · obtain ⟨h5, h6⟩ := and2 h4
        exact ss_asg (he.e X EW hx _ h3) h1 (ht.g X hx.K hx.N hx.nd hx.calm _ hs _ h2) (sole_pl h5) (stores_pl (by cases q1 : isTL tg <;> cases q2 : isTL v <;> simp_all))
      · split at h4
        · rename_i y py elt gg scope p g1 g2 g3 g4
          obtain ⟨h5, h6⟩ := and2 h4
          have hk : X.env.scope.kind = .function := by
            split at h5
            · assumption
            · cases h5
          cases e0 : X.env.scope.names.lookup y with
          | none => rw [e0] at h6; cases h6
          | some kd =>
            rw [e0] at h6
            cases kd <;> first | (cases h6; done) | skip
            obtain ⟨h7, h8⟩ := and2 h6
            obtain ⟨tg', iter, ifs, own, e, q1, q2, q3⟩ := he.lc X EW hx _ _ _ _ h3
            cases e
            cases t <;> first | exact nof h2 rfl | skip
            rename_i i
            have hi := of_decide_eq_true (and2 h2).1
            exact ss_asgC hx.calm hx.nd q1 q2 q3 (by rw [hx.N]; exact hi) e0 (sw_true hk e0 h7 (by simpa using h8))
        · cases h4
    · cases h

theorem VOk.off (hV : VOk c base k₀ S V) : VOk c base k₀ S.off V := ⟨hV.call, hV.ref, hV.exc, hV.dic, hV.dcn, hV.glo, hV.cf, hV.mkc, hV.mtd, hV.prp, hV.sta, hV.ins, hV.eqm, hV.blt⟩
theorem snd_tri (hV : VOk c base k₀ S V) {b : M} (hb : Snd c base k₀ S.off V false b) : Snd c base k₀ S V pin (.tri b) := snd_expr (fun _ _ _ _ _ => rfl) rfl rfl fun X EW hx x h => by
  split at h
  · rename_i n p ps body scope lp pos
    obtain ⟨h, h7⟩ := and2 h
    obtain ⟨h, h6⟩ := and2 h
    obtain ⟨h, h5⟩ := and2 h
    obtain ⟨h, h4⟩ := and2 h
    obtain ⟨h, h3⟩ := and2 h
    obtain ⟨h1, h2⟩ := and2 h
    obtain ⟨hr, cc, P, w1, w2, w3, w4⟩ := hx.deep h1
    obtain ⟨act, told, e, xE, g, DE, pg, bg, sg, dV, kV, doc, pm, cdv, ct, oc, an, od, osl, trp, r1, r2, r3, r4, r5, r6, r7, r8⟩ := (hV.ref n (of_decide_eq_true h2)).ex
    unfold noArgs at h5
    split at h5
    · exact so_tri (k := k₀ + 1) (P := P) (cc := cc) hx.K hx.mg (glb_of h3) (by rw [hx.mg]; exact r1) (by rw [hx.K]; exact r2) (by rw [hx.K]; exact r3) (by rw [hx.K]; exact r4) (by rw [hx.K]; exact r5) r6 (by rw [hx.mg]; exact r7) w2 w1 w3 w4 hr (LamX.lamS_by h6) rfl (fun _ _ _ _ _ => rfl) r8 (dbg_of h4).1
        fun A outer s H E f c' hr' => by
          have hx2 : XOk c base k₀ S.off E (LamX.lamCx X A outer s H E scope f c') := XOk.mk (X := LamX.lamCx X A outer s H E scope f c') hx.P hx.w hx.K hx.mg hx.base hx.N hx.nd rfl hr' (takes_of rfl rfl rfl rfl) (passes_of rfl) (fun h => by cases h)
          exact hb.e _ E hx2 body h7
    · cases h5
  · cases h
theorem snd : ∀ (m : M) (S : Sx) (pin : Bool), VOk c base k₀ S V → Snd c base k₀ S V pin m
  | .nop, S, pin, hV => snd_nop
  | .nil, S, pin, hV => snd_nil
  | .cons a r, S, pin, hV => snd_cons (snd a S pin hV) (snd r S pin hV)
  | .var i, S, pin, hV => snd_var
  | .glo g, S, pin, hV => snd_glo hV
  | .int i, S, pin, hV => snd_int
  | .str s, S, pin, hV => snd_str
  | .bl b, S, pin, hV => snd_bl
  | .non, S, pin, hV => snd_non
  | .bin k a b, S, pin, hV => snd_bin (snd a S pin hV) (snd b S pin hV)
  | .neg a, S, pin, hV => snd_neg (snd a S pin hV)
  | .nt a, S, pin, hV => snd_nt (snd a S pin hV)
  | .and a b, S, pin, hV => snd_and (snd a S pin hV) (snd b S pin hV)
  | .or a b, S, pin, hV => snd_or (snd a S pin hV) (snd b S pin hV)
  | .one a, S, pin, hV => snd_one (snd a S pin hV)
  | .cmp k a b, S, pin, hV => snd_cmp (snd a S pin hV) (snd b S pin hV)
  | .ife t a b, S, pin, hV => snd_ife (snd t S pin hV) (snd a S pin hV) (snd b S pin hV)
  | .tup l, S, pin, hV => snd_tup (snd l S pin hV)
  | .lst l, S, pin, hV => snd_lst (snd l S pin hV)
  | .idx a i, S, pin, hV => snd_idx (snd a S pin hV) (snd i S pin hV)
  | .clra t l, S, pin, hV => snd_clra
  | .dsp zs l, S, pin, hV => snd_dsp (snd l S pin hV)
  | .dix a k, S, pin, hV => snd_dix (snd a S pin hV) (snd k S pin hV)
  | .dst i k e, S, pin, hV => snd_dst (snd k S pin hV) (snd e S pin hV)
  | .dgt g k, S, pin, hV => snd_dgt hV (snd k S pin hV)
  | .fz a, S, pin, hV => snd_fz (snd a S pin hV)
  | .dgn g k, S, pin, hV => snd_dgn hV (snd k S pin hV)
  | .slc a lo hi, S, pin, hV => snd_slc (snd a S pin hV) (snd lo S pin hV) (snd hi S pin hV)
  | .call f l perm, S, pin, hV => snd_call hV (snd l S pin hV)
  | .bfc k l, S, pin, hV => snd_bfc hV (snd l S pin hV)
  | .isi k a, S, pin, hV => snd_isi hV (snd a S pin hV)
  | .comp2 own own1 tg it t tg1 a1 t1 el, S, pin, hV => snd_comp2 hV (snd tg S.off pin hV.off) (snd it S pin hV) (snd t S.off pin hV.off) (snd tg1 S.off pin hV.off) (snd a1 S.off pin hV.off) (snd t1 S.off pin hV.off) (snd el S.off pin hV.off)
  | .comp own tg it t el, S, pin, hV => snd_comp (snd tg S.off pin hV.off) (snd it S pin hV) (snd t S.off pin hV.off) (snd el S.off pin hV.off)
  | .tri b, S, pin, hV => snd_tri hV (snd b S.off false hV.off)
  | .tn i, S, pin, hV => snd_tn
  | .tt l, S, pin, hV => snd_tt (snd l S pin hV)
  | .rng1 a, S, pin, hV => snd_rng1 hV (snd a S pin hV)
  | .rng2 a b, S, pin, hV => snd_rng2 hV (snd a S pin hV) (snd b S pin hV)
  | .asg t e, S, pin, hV => snd_asg (snd t S pin hV) (snd e S pin hV)
  | .enu a, S, pin, hV => snd_enu hV (snd a S pin hV)
  | .zp a b, S, pin, hV => snd_zp hV (snd a S pin hV) (snd b S pin hV)
  | .fld a f, S, pin, hV => snd_fld hV (snd a S pin hV)
  | .sfl i f e, S, pin, hV => snd_sfl hV (snd e S pin hV)
  | .mk k g l pm, S, pin, hV => snd_mk hV (snd l S pin hV)
  | .mth m a l pm, S, pin, hV => snd_mth hV (snd a S pin hV) (snd l S pin hV)
  | .prp m a, S, pin, hV => snd_prp hV (snd a S pin hV)
  | .sta k m g l pm, S, pin, hV => snd_sta hV (snd l S pin hV)
  | .isc k a, S, pin, hV => snd_isc hV (snd a S pin hV)
  | .par i j l, S, pin, hV => snd_par (snd l S pin hV)
  | .oeq ne a b, S, pin, hV => snd_oeq hV (snd a S pin hV) (snd b S pin hV)
  | .sti i k e, S, pin, hV => snd_sti (snd k S pin hV) (snd e S pin hV)
  | .app i e, S, pin, hV => snd_app (snd e S pin hV)
  | .pop0 i k, S, pin, hV => snd_pop0 (snd k S pin hV)
  | .clr i, S, pin, hV => snd_clr
  | .iff t a b, S, pin, hV => snd_iff (snd t S pin hV) (snd a S pin hV) (snd b S pin hV)
  | .loop t it b, S, pin, hV => snd_loop (snd t S pin hV) (snd it S pin hV) (snd b S pin hV)
  | .ret e, S, pin, hV => snd_ret (snd e S pin hV)
  | .ret0, S, pin, hV => snd_ret0
  | .ex e, S, pin, hV => snd_ex (snd e S pin hV)
  | .brk, S, pin, hV => snd_brk
  | .cnt, S, pin, hV => snd_cnt
  | .pas, S, pin, hV => snd_pas
  | .rai n l, S, pin, hV => snd_rai hV (snd l S pin hV)
end
end Y

set_option Elab.async false
set_option linter.all false
set_option maxRecDepth 100000
set_option maxHeartbeats 4000000
namespace Y
open PySem PySem.Spec PyProof.Rows L2
/-! ## a function of the text -/
section
variable {c : Cf} {base : Heap} {k₀ : Nat} {S : Sx} {V : Ev c} {pin : Bool}
theorem JG.pick3 {E : Ent} {ρ : Rho c} {σ : L2.St} {H G : Hp} {f : Nat → List Addr} {o o' : c.O} {v v0 : L2.V} (g : JG c E (ρ ++ [some o]) (σ ++ [some v]) H G f) (hl : ρ.length = σ.length) (h0 : ρ[0]? = some (some o')) (hv : σ[0]? = some (some v0)) : JG c E [some o, some o'] [some v, some v0] H G (fun i => if i = 0 then f ρ.length else if i = 1 then f 0 else []) := by
  obtain ⟨w, e3, r⟩ := g.rep ρ.length o (get_last _ _)
  rw [hl, get_last] at e3
  obtain rfl : v = w := Option.some.inj (Option.some.inj e3)
  have hpos : 0 < ρ.length := (List.getElem?_eq_some_iff.mp h0).1
  obtain ⟨w0, e4, r0⟩ := g.rep 0 o' (by rw [List.getElem?_append_left hpos]; exact h0)
  rw [List.getElem?_append_left (by omega), hv] at e4
  obtain rfl : v0 = w0 := Option.some.inj (Option.some.inj e4)
  refine ⟨g.sub, g.sub0, g.old, g.tab, fun i b hb => ?_, fun i b hb => ?_, g.unf, fun i x e => ?_, fun i => ?_, fun i j hij b hb => ?_, fun i hi => ?_, g.a0, g.ntb⟩
  · by_cases h : i = 0
    · rw [if_pos h] at hb; exact g.own _ b hb
    · rw [if_neg h] at hb
      by_cases h1 : i = 1
      · rw [if_pos h1] at hb; exact g.own _ b hb
      · rw [if_neg h1] at hb; simp at hb
  · by_cases h : i = 0
    · rw [if_pos h] at hb; exact g.liv _ b hb
    · rw [if_neg h] at hb
      by_cases h1 : i = 1
      · rw [if_pos h1] at hb; exact g.liv _ b hb
      · rw [if_neg h1] at hb; simp at hb
  · match i, e with
    | 0, e => cases e; exact ⟨v, rfl, r⟩
    | 1, e => cases e; exact ⟨v0, rfl, r0⟩
  · by_cases h : i = 0
    · rw [if_pos h]; exact g.nd _
    · rw [if_neg h]
      by_cases h1 : i = 1
      · rw [if_pos h1]; exact g.nd _
      · rw [if_neg h1]; exact List.nodup_nil
  · by_cases h : i = 0
    · rw [if_pos h] at hb
      rw [if_neg (by omega)]
      by_cases h1 : j = 1
      · rw [if_pos h1]; exact g.dj _ 0 (by omega) b hb
      · rw [if_neg h1]; simp
    · rw [if_neg h] at hb
      by_cases h1 : i = 1
      · rw [if_pos h1] at hb
        by_cases h2 : j = 0
        · rw [if_pos h2]; exact g.dj 0 _ (by omega) b hb
        · rw [if_neg h2, if_neg (by omega)]; simp
      · rw [if_neg h1] at hb; simp at hb
  · simp at hi
    rw [if_neg (by omega), if_neg (by omega)]
/-- what a def computes -/
def runF (V : Ev c) (io : Bool) (n np : Nat) (body : M) (o0 : Option c.O) (ds : List c.D) : FO c :=
  if (ioC o0).length + ds.length = np ∧ o0.isSome = io then
    (match (sem V io body).s (ioC o0 ++ ds.map (fun d => some (.fr d)) ++ List.replicate (n - np) none) with
    | .nx ρ => if io then (match (ρ[0]?).join with | some o => .ok (.fr .non) (some o) | none => .bad) else .ok (.fr .non) none
    | .rt r ρ => if io then (match (ρ[0]?).join with | some o => .ok r (some o) | none => .bad) else .ok r none
    | .exc n fs => .exc n fs
    | _ => .bad)
  else .bad
theorem rep_args {G : Hp} : ∀ {vs : List L2.V} {ds : List c.D}, RepL c G vs ds → ∀ (i : Nat) (o : c.O), ((ds.map (fun d => some (OT.fr d)) : Rho c))[i]? = some (some o) → ∃ v d, (vs.map some)[i]? = some (some v) ∧ o = .fr d ∧ Rep c G v d
  | _, _, .nil, i, o, h => by simp at h
  | _, _, .cons a b, 0, o, h => by cases h; exact ⟨_, _, rfl, rfl, a⟩
  | _, _, .cons a b, i + 1, o, h => rep_args b i o h
theorem rep_none {n : Nat} {A : Rho c} {i : Nat} {o : c.O} (h : (A ++ List.replicate n none)[i]? = some (some o)) : A[i]? = some (some o) := by
  by_cases hi : i < A.length
  · rwa [List.getElem?_append_left hi] at h
  · rw [List.getElem?_append_right (by omega)] at h
    have := List.mem_of_getElem? h
    rw [List.mem_replicate] at this
    cases this.2
theorem ent0 {G H : Hp} {vs : List L2.V} {ds : List c.D} {n : Nat} (hs : Same G H) (ht : LamX.Tabs c.T H) (hn : ∀ b ps, G b ≠ some (.tbl ps)) (r : RepL c G vs ds) : J c ⟨H, G, [], none⟩ (ds.map (fun d => some (.fr d)) ++ List.replicate n none) (vs.map some ++ List.replicate n none) [] H := by
  refine ⟨by simp [r.length], by simp, by simp, G, fun _ => [], ?_⟩
  refine ⟨hs, Same.refl _, fun b o e _ => .inl e, ht, by simp, by simp, fun b h _ _ => h, fun i o e => ?_, by simp, by simp, by simp, by simp, hn⟩
  simp only [cO, cV, List.map_nil, List.append_nil] at e ⊢
  obtain ⟨v, d, q1, q2, q3⟩ := rep_args r i o (rep_none e)
  subst q2
  exact ⟨v, by rw [List.getElem?_append_left (List.getElem?_eq_some_iff.mp q1).1]; exact q1, .fr q3⟩
theorem ent1 {G H : Hp} {v0 : L2.V} {o0 : c.O} {fp : List Addr} {vs : List L2.V} {ds : List c.D} {n : Nat} (hs : Same G H) (ht : LamX.Tabs c.T H) (hn : ∀ b ps, G b ≠ some (.tbl ps)) (r0 : ORep c G H v0 o0 fp) (nd : fp.Nodup) (hliv : ∀ b ∈ fp, G b = none ∧ Lv H b) (r : RepL c G vs ds) :
    J c ⟨H, G, fp, some v0⟩ ([some o0] ++ ds.map (fun d => some (.fr d)) ++ List.replicate n none) ((v0 :: vs).map some ++ List.replicate n none) [] H := by
  refine ⟨by simp [r.length], fun v e => by cases e; rfl, by simp, G, fun i => if i = 0 then fp else [], ?_⟩
  refine ⟨hs, Same.refl _, fun b o e _ => .inl e, ht, fun i b hb => ?_, fun i b hb => ?_, fun b h _ _ => h, fun i o e => ?_, fun i => ?_, fun i j hij b hb => ?_, fun i hi => ?_, fun b hb => ?_, hn⟩
  · by_cases h : i = 0
    · rw [if_pos h] at hb; exact .inl hb
    · rw [if_neg h] at hb; simp at hb
  · by_cases h : i = 0
    · rw [if_pos h] at hb; exact hliv b hb
    · rw [if_neg h] at hb; simp at hb
  · simp only [cO, cV, List.map_nil, List.append_nil] at e ⊢
    have e := rep_none e
    match i, e with
    | 0, e => cases e; exact ⟨v0, rfl, r0⟩
    | i + 1, e =>
      obtain ⟨v, d, q1, q2, q3⟩ := rep_args r i o e
      subst q2
      refine ⟨v, ?_, by rw [if_neg (by omega)]; exact .fr q3⟩
      show (some v0 :: (vs.map some ++ List.replicate n none))[i + 1]? = _
      rw [List.getElem?_cons_succ, List.getElem?_append_left (List.getElem?_eq_some_iff.mp q1).1]; exact q1
  · by_cases h : i = 0
    · rw [if_pos h]; exact nd
    · rw [if_neg h]; exact List.nodup_nil
  · by_cases h : i = 0
    · rw [if_neg (by omega)]; simp
    · rw [if_neg h] at hb; simp at hb
  · simp only [cO, List.map_nil, List.append_nil, List.length_append, List.length_cons] at hi
    rw [if_neg (by omega)]
  · obtain ⟨_, xs, e, _⟩ := hliv b hb
    show H b ≠ none
    rw [e]; simp
theorem stOk_fn {X : Cx} (h : ∀ n, X.fn n = true) : StOk X (storB X.env.scope) := fun n hn => by
  unfold storB at hn
  split at hn
  · rename_i e; exact ⟨.inl e, .inl (h n)⟩
  · rename_i e; exact ⟨.inr e, .inl (h n)⟩
  · cases hn

/-- the length of what a def is told -/
theorem spF_len {io : Bool} {ps : List Str} {body : M} {vs : List L2.V} {H : Hp} {Q : VK} {E : XK} (h : spF c io (runF V io S.N.length ps.length body) vs H Q E) : vs.length = ps.length := by
  obtain ⟨G, _, _, _, h⟩ := h
  rcases h with ⟨rfl, ds, r, h⟩ | ⟨rfl, v0, o0, fp, vs', ds, rfl, _, _, r, h⟩
  · unfold runF at h
    split at h
    · rename_i hc; rw [r.length]; have := hc.1; simpa [ioC] using this
    · exact h.elim
  · unfold runF at h
    split at h
    · rename_i hc; have := hc.1; simp only [ioC, List.length_cons, List.length_nil] at this; rw [List.length_cons, r.length]; omega
    · exact h.elim
/-- a def's body as the core term tells it -/
theorem body_ok {qual : Str} {sc : Scope} {bd : List Stmt} {f : Addr} {ps : List Str} {io : Bool} {body : M} {cdv : Value} {A : Around} {outer : List Env} {s : Shared} {H : Hp} {vs : List L2.V} {Q : VK} {E : XK} (hV : VOk c base k₀ S V) (hb : (chk S body).b sc bd = true)
    (hx : XOk c base k₀ S E (cxOf (L2.CX c.P c.w) c.P c.w c.K c.mg base S.N qual sc f cdv A outer s H E)) (h : spF c io (runF V io S.N.length ps.length body) vs H Q E) :
    ∃ t, PSs (cxOf (L2.CX c.P c.w) c.P c.w c.K c.mg base S.N qual sc f cdv A outer s H E) bd t ∧ t { nx := fun _ H' => Q .non H', rt := Q } (L2.start S.N vs) H := by
  obtain ⟨t, p, k⟩ := ((snd body S io hV).b _ E hx (stOk_fn fun _ => rfl) bd hb).ex
  refine ⟨t, p, ?_⟩
  obtain ⟨G, hs, ht, hn, h⟩ := h
  rcases h with ⟨rfl, ds, r, h⟩ | ⟨rfl, v0, o0, fp, vs', ds, rfl, r0, nd, r, h⟩
  · unfold runF at h
    split at h
    · rename_i hc
      have hlen : vs.length = ps.length := by rw [r.length]; have := hc.1; simpa [ioC] using this
      have j := ent0 (n := S.N.length - ps.length) hs ht hn r
      have es : L2.start S.N vs = vs.map some ++ List.replicate (S.N.length - ps.length) none := by unfold L2.start; rw [hlen]
      rw [es]
      refine k ⟨H, G, [], none⟩ _ _ [] H _ (.inl rfl) (fun t ht => by cases ht) j ?_
      simp only [ioC, List.nil_append, Bool.false_eq_true, if_false] at h
      cases e : (sem V false body).s (ds.map (fun d => some (.fr d)) ++ List.replicate (S.N.length - ps.length) none) with
      | nx ρ =>
        rw [e] at h
        obtain ⟨_, h⟩ := h
        intro σ' H' j'
        have j2 := j'.atom (v := .non) (d := .non) fun G => .non
        obtain ⟨q1, q2, q3, G', f', g⟩ := j2
        rw [List.nil_append] at g
        exact h _ _ _ _ (JG.pick2 (by simpa [cO, cV, Tm.cell] using g) q1)
      | rt o ρ =>
        rw [e] at h
        obtain ⟨_, h⟩ := h
        intro v σ' H' j'
        obtain ⟨q1, q2, q3, G', f', g⟩ := j'
        rw [List.nil_append] at g
        exact h _ _ _ _ (JG.pick2 (by simpa [cO, cV, Tm.cell] using g) q1)
      | exc n fs => rw [e] at h; exact h
      | bk ρ => rw [e] at h; exact h.elim
      | ct ρ => rw [e] at h; exact h.elim
      | bad => rw [e] at h; exact h.elim
    · exact h.elim
  · unfold runF at h
    split at h
    · rename_i hc
      have hlen : (v0 :: vs').length = ps.length := by have := hc.1; simp only [ioC, List.length_cons, List.length_nil] at this; rw [List.length_cons, r.length]; omega
      have j := ent1 (n := S.N.length - ps.length) hs ht hn r0 nd r0.live r
      have es : L2.start S.N (v0 :: vs') = (v0 :: vs').map some ++ List.replicate (S.N.length - ps.length) none := by unfold L2.start; rw [hlen]
      rw [es]
      refine k ⟨H, G, fp, some v0⟩ _ _ [] H _ (.inr rfl) (fun t ht => by cases ht) j ?_
      simp only [ioC, if_true] at h
      cases e : (sem V true body).s ([some o0] ++ ds.map (fun d => some (.fr d)) ++ List.replicate (S.N.length - ps.length) none) with
      | nx ρ =>
        rw [e] at h
        intro σ' H' j'
        cases e2 : (ρ[0]?).join with
        | none => simp only [e2] at h; exact h.elim
        | some o' =>
          simp only [e2] at h
          obtain ⟨_, h⟩ := h
          have j2 := j'.atom (v := .non) (d := .non) fun G => .non
          obtain ⟨q1, q2, q3, G', f', g⟩ := j2
          rw [List.nil_append] at g
          exact h _ _ _ _ (JG.pick3 (by simpa [cO, cV, Tm.cell] using g) q1 (join_some e2) (q2 v0 rfl))
      | rt o ρ =>
        rw [e] at h
        intro v σ' H' j'
        cases e2 : (ρ[0]?).join with
        | none => simp only [e2] at h; exact h.elim
        | some o' =>
          simp only [e2] at h
          obtain ⟨_, h⟩ := h
          obtain ⟨q1, q2, q3, G', f', g⟩ := j'
          rw [List.nil_append] at g
          exact h _ _ _ _ (JG.pick3 (by simpa [cO, cV, Tm.cell] using g) q1 (join_some e2) (q2 v0 rfl))
      | exc n fs => rw [e] at h; exact h
      | bk ρ => rw [e] at h; exact h.elim
      | ct ρ => rw [e] at h; exact h.elim
      | bad => rw [e] at h; exact h.elim
    · exact h.elim
/-- a def's body as the core term tells it keeps its promise -/
theorem fn_ok {x qual : Str} {st : Stmt} {dvs : List L2.V} {kws : List (Str × L2.V)} {f : Addr} {fd : FuncData} {ps : List Str} {io : Bool} {body : M} (F : FunD c.K x qual (defArgs st) (defBody st) (defScope st) dvs kws f fd) (hS : FnScope S.N ps (defScope st)) (hV : VOk c base k₀ S V) (hl : S.lam = false) (hb : (chk S body).b (defScope st) (defBody st) = true) :
    FnOk c.P c.w c.K c.mg base (L2.CX c.P c.w) (k₀ + 2) f fd ps (spF c io (runF V io S.N.length ps.length body)) :=
  FunD.ok (k := k₀ + 1) F hS (fun vs H Q E h => spF_len h) fun cdv A outer s H vs Q E hr h =>
    body_ok hV hb ⟨rfl, rfl, rfl, rfl, rfl, rfl, hS.nd, rfl, hr, takes_of rfl rfl rfl rfl, passes_of rfl, fun z => by rw [hl] at z; cases z⟩ h
/-- .. one that makes lambdas -/
theorem fn_okL {x qual : Str} {st : Stmt} {f cc P : Addr} {ps : List Str} {io : Bool} {body : M} {dV kV doc pm ct oc : Value} {an od : Option Addr} {osl : Array (Option Value)} (lk : c.K.lookup f = some ⟨oc, od, .func (PySem.W.fnOf x qual (defArgs st) (defBody st) (defScope st) dV kV doc pm an (.ref cc) ct), osl⟩) (hcd : PySem.W.codeIn c.K (.ref cc) qual = true)
    (hS : FnScope S.N ps (defScope st)) (hV : VOk c base k₀ S V) (TB : LamX.TabB base c.mg cc P) (hm : (P, qual ++ ".<locals>." ++ "<lambda>") ∈ c.T) (hu : ∀ p ∈ c.T, p.1 = P → p.2 = qual ++ ".<locals>." ++ "<lambda>") (hb : (chk S body).b (defScope st) (defBody st) = true) :
    FnOk c.P c.w c.K c.mg base (L2.CX c.P c.w) (k₀ + 4) f (PySem.W.fnOf x qual (defArgs st) (defBody st) (defScope st) dV kV doc pm an (.ref cc) ct) ps (spF c io (runF V io S.N.length ps.length body)) :=
  fn_of (k := k₀ + 3) lk hcd hS (fun vs H Q E h => spF_len h) fun A outer s H vs Q E hr h =>
    body_ok hV hb ⟨rfl, rfl, rfl, rfl, rfl, rfl, hS.nd, rfl, hr.mono (by omega), takes_of rfl rfl rfl rfl, passes_of rfl, fun _ => ⟨hr, cc, P, rfl, TB, hm, hu⟩⟩ h
/-- an exception's own __init__ with one field -/
theorem init_ok {x qual : Str} {st : Stmt} {f : Addr} {fd : FuncData} {fl : Str} {q1 q2 q3 q4 : Pos} (F : Fun c.K x qual st f fd) (hS : FnScope ["self", fl] ["self", fl] (defScope st)) (hb : defBody st = [.Assign [.Attribute (.Name "self" q1) fl q2] (.Name fl q3) q4]) (h1 : isVis (defScope st) "self" = true) (h2 : isVis (defScope st) fl = true) (h3 : nodbg fl = true) :
    FnOk c.P c.w c.K c.mg base (L2.CX c.P c.w) 1 f fd ["self", fl] (spInit c.K fl) := by
  refine F.okX (k := 0) hS (fun vs H Q E h => ?_) (fun cdv A outer s H vs Q E hr h => ?_)
  · obtain ⟨a, C, y, rfl, _⟩ := h; rfl
  · rw [hb]
    refine ⟨_, pss_one (ps_ost (pe_var (i := 0) rfl (vis_of h1) (by decide) (by decide)) (pe_var (i := 1) rfl (vis_of h2) (dbg_of h3).1 (dbg_of h3).2)), ?_⟩
    obtain ⟨a, C, y, rfl, T, hno, ha, k⟩ := h
    exact ⟨y, rfl, .ref a, rfl, a, C, rfl, T, hno, .inl ⟨ha, fun dx h1 h2 => k dx h1 h2⟩⟩
end
end Y

set_option Elab.async false
set_option linter.all false
set_option maxRecDepth 100000
set_option maxHeartbeats 4000000
namespace Y
open PySem PySem.Spec PyProof.Rows L2
theorem b2 {a b : Bool} (h : (a && b) = true) : a = true ∧ b = true := Bool.and_eq_true_iff.mp h
inductive Lit where
  | non | bl (b : Bool) | int (i : Int) | str (s : Str) | tup (l : List Lit)
mutual
def Lit.d {c : Cf} : Lit → c.D
  | .non => .non
  | .bl b => .bl b
  | .int i => .int (c.nm.lit i)
  | .str s => .str s
  | .tup l => .tup (Lit.ds l)
def Lit.ds {c : Cf} : List Lit → List c.D
  | [] => []
  | x :: r => Lit.d x :: Lit.ds r
end
mutual
def litB (K : PySem.W.Frag) : Lit → Value → Bool
  | .non, u => (match u with | .none => true | _ => false)
  | .bl b, u => (match u with | .bool e => b == e | _ => false)
  | .int i, u => (match u with | .int j _ => decide (i = j) | _ => false)
  | .str x, u => (match u with | .str y _ => decide (x = y) | _ => false)
  | .tup l, u => (match u with
    | .ref a => (match K.lookup a with
      | some ⟨.type t, _, .seq its _, _⟩ => decide (t = "tuple") && (decide (its.size ≤ sizeLine) && litBs K l its.toList)
      | _ => false)
    | _ => false)
def litBs (K : PySem.W.Frag) : List Lit → List Value → Bool
  | [], us => us.isEmpty
  | x :: r, us => (match us with
    | u :: us => litB K x u && litBs K r us
    | [] => false)
end
mutual
theorem litB_ok {c : Cf} : ∀ {l : Lit} {u : Value}, litB c.K l u = true → ∃ v, RelV v u ∧ ∀ G : Hp, Rep c G v l.d
  | .non, u, h => by
    unfold litB at h
    split at h
    · exact ⟨.non, rfl, fun G => .non⟩
    · cases h
  | .bl b, u, h => by
    unfold litB at h
    split at h
    · rename_i e
      obtain rfl : b = e := eq_of_beq h
      exact ⟨.bl b, rfl, fun G => .bl b⟩
    · cases h
  | .int i, u, h => by
    unfold litB at h
    split at h
    · rename_i j t
      obtain rfl : i = j := of_decide_eq_true h
      refine ⟨.int (c.nm.val (c.nm.lit i)), ⟨t, by rw [c.nm.lit_ok]⟩, fun G => .int _⟩
    · cases h
  | .str x, u, h => by
    unfold litB at h
    split at h
    · rename_i y t
      obtain rfl : x = y := of_decide_eq_true h
      exact ⟨.str x, ⟨t, rfl⟩, fun G => .str x⟩
    · cases h
  | .tup l, u, h => by
    unfold litB at h
    split at h
    · rename_i a
      split at h
      · rename_i t od its n sl e
        obtain ⟨h1, h2⟩ := b2 h
        obtain ⟨h3, h4⟩ := b2 h2
        obtain ⟨vs, r1, r2⟩ := litBs_ok h4
        exact ⟨.ref a, rfl, fun G => .tup (.inr ⟨_, its, n, e, congrArg Value.type (of_decide_eq_true h1), rfl, of_decide_eq_true h3, r1⟩) (r2 G)⟩
      · cases h
    · cases h
theorem litBs_ok {c : Cf} : ∀ {l : List Lit} {us : List Value}, litBs c.K l us = true → ∃ vs, Vals vs us ∧ ∀ G : Hp, RepL c G vs (Lit.ds l)
  | [], us, h => by
    unfold litBs at h
    cases us with
    | nil => exact ⟨[], .nil, fun G => .nil⟩
    | cons a b => cases h
  | x :: r, us, h => by
    unfold litBs at h
    cases us with
    | nil => cases h
    | cons u us =>
      obtain ⟨h1, h2⟩ := b2 h
      obtain ⟨v, q1, q2⟩ := litB_ok h1
      obtain ⟨vs, q3, q4⟩ := litBs_ok h2
      exact ⟨v :: vs, .cons q1 q3, fun G => .cons (q2 G) (q4 G)⟩
end

/-! ## a written dict whose keys are tuples of whole numbers, nested -/
mutual
def nkL : Lit → Option NestedKey
  | .int i => some (.num i)
  | .tup l => (nkLs l).map .tup
  | _ => none
def nkLs : List Lit → Option (List NestedKey)
  | [] => some []
  | x :: r => match nkL x, nkLs r with
    | some a, some b => some (a :: b)
    | _, _ => none
end
mutual
def hashK : NestedKey → Int
  | .num i => hashInt i
  | .tup ks => reduceHash (Builtin.Tuple.tupleHashOf (hashKs ks))
  | _ => 0
def hashKs : List NestedKey → List Int
  | [] => []
  | k :: r => hashK k :: hashKs r
end
mutual
theorem nkL_d {c : Cf} : ∀ {l : Lit} {k : NestedKey}, nkL l = some k → nkD (c := c) l.d = some k
  | .int i, k, h => by
    simp only [nkL] at h
    cases h
    show some (NestedKey.num (c.nm.val (c.nm.lit i))) = _
    rw [c.nm.lit_ok]
  | .tup l, k, h => by
    simp only [nkL] at h
    obtain ⟨ks, e1, e2⟩ := Option.map_eq_some_iff.mp h
    subst e2
    show (nkDs (Lit.ds l)).map NestedKey.tup = _
    rw [nkLs_d e1]; rfl
  | .non, _, h => by simp [nkL] at h
  | .bl _, _, h => by simp [nkL] at h
  | .str _, _, h => by simp [nkL] at h
theorem nkLs_d {c : Cf} : ∀ {l : List Lit} {k : List NestedKey}, nkLs l = some k → nkDs (c := c) (Lit.ds l) = some k
  | [], _, h => by simp only [nkLs] at h; cases h; rfl
  | x :: r, _, h => by
    simp only [nkLs] at h
    split at h
    · rename_i a b ea eb
      cases h
      show (match nkD (Lit.d x), nkDs (Lit.ds r) with | some a, some b => some (a :: b) | _, _ => none) = _
      rw [nkL_d ea, nkLs_d eb]
    · cases h
end
mutual
theorem nkL_hash {w : World} : ∀ {l : Lit} {k : NestedKey}, nkL l = some k → k.hash w = hashK k
  | .int i, k, h => by simp only [nkL] at h; cases h; rfl
  | .tup l, k, h => by
    simp only [nkL] at h
    obtain ⟨ks, e1, e2⟩ := Option.map_eq_some_iff.mp h
    subst e2
    simp only [NestedKey.hash, hashK]
    rw [nkLs_hash e1]
  | .non, _, h => by simp [nkL] at h
  | .bl _, _, h => by simp [nkL] at h
  | .str _, _, h => by simp [nkL] at h
theorem nkLs_hash {w : World} : ∀ {l : List Lit} {k : List NestedKey}, nkLs l = some k → NestedKey.hashes w k = hashKs k
  | [], _, h => by simp only [nkLs] at h; cases h; rfl
  | x :: r, _, h => by
    simp only [nkLs] at h
    split at h
    · rename_i a b ea eb
      cases h
      simp only [NestedKey.hashes, hashKs]
      rw [nkL_hash ea, nkLs_hash eb]
    · cases h
end
mutual
def keyB (K : PySem.W.Frag) : NestedKey → Value → Bool
  | .num i, u => (match u with | .int j _ => decide (i = j) | _ => false)
  | .tup l, u => (match u with
    | .ref a => (match K.lookup a with
      | some ⟨.type t, _, .seq its _, _⟩ => decide (t = "tuple") && keyBs K l its.toList
      | _ => false)
    | _ => false)
  | _, _ => false
def keyBs (K : PySem.W.Frag) : List NestedKey → List Value → Bool
  | [], us => us.isEmpty
  | x :: r, us => (match us with
    | u :: us => keyB K x u && keyBs K r us
    | [] => false)
end
mutual
theorem keyB_ok {K : PySem.W.Frag} {h : Heap} (X : K.In h) : ∀ {k : NestedKey} {u : Value}, keyB K k u = true → NestedIs h k u
  | .num i, u, q => by
    unfold keyB at q
    split at q
    · rename_i j t
      obtain rfl : i = j := of_decide_eq_true q
      exact .int i t
    · cases q
  | .tup l, u, q => by
    unfold keyB at q
    split at q
    · rename_i a
      split at q
      · rename_i t od its n sl e
        obtain ⟨q1, q2⟩ := b2 q
        exact .tup (X _ _ e) (congrArg Value.type (of_decide_eq_true q1)) rfl (keyBs_ok X q2)
      · cases q
    · cases q
  | .none, _, q => by simp [keyB] at q
  | .text _, _, q => by simp [keyB] at q
theorem keyBs_ok {K : PySem.W.Frag} {h : Heap} (X : K.In h) : ∀ {k : List NestedKey} {u : List Value}, keyBs K k u = true → NestedAll h k u
  | [], u, q => by
    unfold keyBs at q
    cases u with
    | nil => exact .nil
    | cons a b => cases q
  | x :: r, u, q => by
    unfold keyBs at q
    cases u with
    | nil => cases q
    | cons a b =>
      obtain ⟨q1, q2⟩ := b2 q
      exact .cons (keyB_ok X q1) (keyBs_ok X q2)
end
def entB (K : PySem.W.Frag) : List (Lit × Lit) → List DictEntry → Bool
  | [], es => es.isEmpty
  | p :: t, es => (match nkL p.1, es with
    | some k, e :: es => (match e.key with | .ref a => true | _ => false) && (decide (e.hash = hashK k) && (keyB K k e.key && (decide (k.depth ≤ 8) && (litB K p.2 e.val && entB K t es))))
    | _, _ => false)
def dstK : List NestedKey → Bool
  | [] => true
  | k :: r => !r.contains k && dstK r
instance : LawfulBEq NestedKey := inferInstance
theorem dstK_nd : ∀ {l : List NestedKey}, dstK l = true → l.Nodup
  | [], _ => List.nodup_nil
  | k :: r, h => by
    obtain ⟨h1, h2⟩ := b2 h
    refine List.nodup_cons.mpr ⟨fun m => ?_, dstK_nd h2⟩
    rw [List.contains_iff_mem.mpr m] at h1
    cases h1
theorem entB_ok {c : Cf} : ∀ {t : List (Lit × Lit)} {es : List DictEntry}, entB c.K t es = true → ∃ xs : List (NestedKey × Addr × Value), DcnL c (t.map fun p => (p.1.d, p.2.d)) xs ∧ es = xs.map (entryOfKey (nestedKind c.P c.w)) ∧ (∀ h : Heap, c.K.In h → ∀ x ∈ xs, (nestedKind c.P c.w).is h x.1 x.2.1) ∧ xs.map (·.1) = t.filterMap fun p => nkL p.1
  | [], es, h => by
    cases es with
    | nil => exact ⟨[], .nil, rfl, (fun _ _ x hx => by cases hx), rfl⟩
    | cons a b => cases h
  | p :: t, es, h => by
    unfold entB at h
    split at h
    · rename_i k e es ek
      obtain ⟨h1, h⟩ := b2 h
      obtain ⟨h2, h⟩ := b2 h
      obtain ⟨h3, h⟩ := b2 h
      obtain ⟨h4, h⟩ := b2 h
      obtain ⟨h5, h6⟩ := b2 h
      obtain ⟨xs, q1, q2, q3, q4⟩ := entB_ok h6
      obtain ⟨v, q5, q6⟩ := litB_ok h5
      obtain ⟨eh, eke, ev⟩ := e
      simp only at h1 h2 h3 h5
      cases eke with
      | ref a =>
        refine ⟨(k, a, ev) :: xs, .cons (nkL_d ek) q5 q6 q1, ?_, fun hh hK x hx => ?_, ?_⟩
        · rw [List.map_cons, ← q2]
          refine congrArg (· :: es) ?_
          show DictEntry.mk eh (Value.ref a) ev = DictEntry.mk (k.hash c.w) (Value.ref a) ev
          rw [nkL_hash ek, of_decide_eq_true h2]
        · rcases List.mem_cons.mp hx with rfl | hx
          · exact ⟨keyB_ok hK h3, of_decide_eq_true h4⟩
          · exact q3 hh hK x hx
        · rw [List.map_cons, List.filterMap_cons, ek, q4]
      | _ => cases h1
    · cases h
def dcnB (K : PySem.W.Frag) (a : Addr) (t : List (Lit × Lit)) : Bool := match K.lookup a with
  | some ⟨.type n, none, .dict es _, sl⟩ => decide (n = "dict") && (sl.isEmpty && (entB K t es.toList && dstK (t.filterMap fun p => nkL p.1)))
  | _ => false
theorem dcnB_ok {c : Cf} {a : Addr} {t : List (Lit × Lit)} (h : dcnB c.K a t = true) : KDcn c a (t.map fun p => (p.1.d, p.2.d)) := by
  unfold dcnB at h
  split at h
  · rename_i n es ep sl e
    obtain ⟨h1, h⟩ := b2 h
    obtain ⟨h2, h⟩ := b2 h
    obtain ⟨h3, h4⟩ := b2 h
    obtain ⟨xs, q1, q2, q3, q4⟩ := entB_ok h3
    refine ⟨xs, q1, fun hh hK => ⟨_, es, ep, hK _ _ e, ⟨congrArg Value.type (of_decide_eq_true h1), rfl, Array.isEmpty_iff.mp h2⟩, rfl, q2, q3 hh hK, ?_⟩⟩
    rw [q4]
    exact dstK_nd h4
  · cases h
/-! ## a look at the top that sees the keys of its dicts, too -/
def keyRefs (g : Addr → Option Obj) (as : List Addr) : List Addr := as.flatMap fun a => match g a with
  | some ⟨_, _, .dict es _, _⟩ => es.toList.flatMap fun e => match e.key with
    | .ref b => b :: (match g b with
      | some ⟨_, _, .seq its _, _⟩ => its.toList.flatMap He.refV
      | _ => [])
    | _ => []
  | _ => []
def asK (g : Addr → Option Obj) (n : Nat) : List Addr := He.asD g n ++ keyRefs g (He.asD g n) ++ [cStatics]
def fragK (g : Addr → Option Obj) (n : Nat) : PySem.W.Frag := He.frT g (asK g n)
abbrev AlM : Type := (He.AlT × Bool) × List He5.FnW
def lookK (n : Nat) (fn : List He.DefD) (ts : List He.Tab) (tf : List He.Defn) (fm : List He5.DefA) (ex : PySem.W.Frag → Bool) (g : Addr → Option Obj) : AlM :=
  ((He.obsT [] fn ts (fragK g n), (ex (fragK g n) && fm.all fun d => d.ok (fragK g n)) && He.tabsB g tf (fragK g n)), fm.map fun d => He5.fnA (fragK g n) (d.at_ (fragK g n)))
def valK (fn : List He.DefD) (ts : List He.Tab) (fm : List He5.DefA) (w : World) : AlM := ((He.valT fn ts w, true), fm.map He5.DefA.val)
/-- what the look says -/
structure SaysK (fn : List He.DefD) (ts : List He.Tab) (tf : List He.Defn) (fm : List He5.DefA) (ex : PySem.W.Frag → Bool) (w : World) (h : Heap) (K : PySem.W.Frag) : Prop where
  x : He.SaysX [] fn ts tf ex w h K
  m : ∀ d ∈ fm, ∃ fd, L2.FunD K d.name d.qual d.params d.body d.scope (d.dvs K) (d.kws K) (d.at_ K) fd
theorem lookK_says {n : Nat} {fn : List He.DefD} {ts : List He.Tab} {tf : List He.Defn} {fm : List He5.DefA} {ex : PySem.W.Frag → Bool} {w : World} {h : Heap} (e : lookK n fn ts tf fm ex h.get? = valK fn ts fm w) : SaysK fn ts tf fm ex w h (fragK h.get? n) := by
  have e0 : (lookK n fn ts tf fm ex h.get?).1 = (He.valT fn ts w, true) := congrArg Prod.fst e
  have e3 : (fm.map fun d => He5.fnA (fragK h.get? n) (d.at_ (fragK h.get? n))) = fm.map He5.DefA.val := congrArg Prod.snd e
  have e1 : He.obsT [] fn ts (fragK h.get? n) = He.valT fn ts w := congrArg Prod.fst e0
  have e2 : ((ex (fragK h.get? n) && fm.all fun d => d.ok (fragK h.get? n)) && He.tabsB h.get? tf (fragK h.get? n)) = true := congrArg Prod.snd e0
  obtain ⟨m1, m2⟩ := b2 e2
  obtain ⟨m1, m3⟩ := b2 m1
  have one : ∀ q ∈ tf, PySem.W.codeHdIn (fragK h.get? n) (He.cT (fragK h.get? n) q).1 (He.cT (fragK h.get? n) q).2 = true ∧ ∃ u, h.get? (He.cT (fragK h.get? n) q).2 = some u ∧ He.emptyTab u = true := fun q hq => by
    have z := List.all_eq_true.mp m2 q hq
    obtain ⟨z1, z2⟩ := b2 z
    refine ⟨z1, ?_⟩
    split at z2
    · rename_i u eu
      exact ⟨u, eu, z2⟩
    · cases z2
  refine ⟨{ t := e1, more := m1, hd := fun q hq => (one q hq).1, out := fun q hq => ?_, empty := fun q hq => ?_ }, fun d hd => ?_⟩
  · obtain ⟨-, u, eu, ee⟩ := one q hq
    exact He.frT_none eu ee
  · obtain ⟨-, u, eu, ee⟩ := one q hq
    rw [eu, He.emptyTab_eq ee]
  · exact He5.DefA.funD (List.map_inj_left.mp e3 d hd) (List.all_eq_true.mp m3 d hd)
def hookK (n : Nat) (fn : List He.DefD) (ts : List He.Tab) (tf : List He.Defn) (fm : List He5.DefA) (ex : PySem.W.Frag → Bool) : PySem.W.Hook :=
  { α := AlM
    obs := fun s => lookK n fn ts tf fm ex s.heap.get?
    val := fun w => valK fn ts fm w
    says := fun w h => ∃ K : PySem.W.Frag, K.In h ∧ SaysK fn ts tf fm ex w h K
    of := fun w s e => ⟨fragK s.heap.get? n, He.frT_in, lookK_says e⟩
    keeps := fun w h h' hs k => by
      obtain ⟨K, i, c⟩ := hs
      exact ⟨K, PySem.W.Frag.In.keeps i k, { x := { t := c.x.t, more := c.x.more, hd := c.x.hd, out := c.x.out, empty := fun q hq => k _ _ (c.x.empty q hq) }, m := c.m }⟩ }
theorem lookK_eq {n : Nat} {fn : List He.DefD} {ts : List He.Tab} {tf : List He.Defn} {fm : List He5.DefA} {ex : PySem.W.Frag → Bool} {g : Addr → Option Obj} {s : Shared} (h : ∀ a, g a = s.heap.get? a) : lookK n fn ts tf fm ex g = (hookK n fn ts tf fm ex).obs s := by
  obtain rfl : g = s.heap.get? := funext h
  rfl
end Y

set_option Elab.async false
set_option linter.all false
set_option maxRecDepth 100000
set_option maxHeartbeats 4000000
namespace Y
open PySem PySem.Spec PyProof.Rows L2
/-! ## a whole text: what is known of it, as Bools of what the top leaves -/
/-- one def, one exception, the def that tells refusals -/
structure PD where
  st : Stmt
  nm : Str
  N : List Str
  ps : List Str
  io : Bool
  lam : Bool
  body : M
  pats : List (Nat × List Str × List Nat)
  /-- the class it stands in; how: 0 as it is, 1 a property, 2 a static method -/
  cls : Option Str := none
  wrap : Nat := 0
  dfl : List He.Dv := []
  kwd : List (Str × He.Dv) := []
/-- an own class -/
structure CD where
  nm : Str
  flds : List Str
  ini : Nat
  mth : List (Str × Nat) := []
  prp : List (Str × Nat) := []
  sta : List (Str × Nat) := []
  eqm : Option Nat := none
structure XD where
  nm : Str
  fl : Str
  qual : Str
  st : Stmt
structure RD where
  nm : Str
  st : Stmt
  act : Str
  told : Str
  e : Str
  xE : Str
  trp : List (Str × Str × Str)
structure PT where
  ds : List PD
  gls : List (Str × Lit)
  dics : List (Str × List (Str × Lit))
  dcns : List (Str × List (Lit × Lit))
  xs : List XD
  ref : Option RD
  cs : List CD := []
  mths : List (Str × List Nat) := []
  stas : List (Str × Str × Nat × Nat) := []
def PD.qual (d : PD) : Str := match d.cls with
  | some C => C ++ "." ++ d.nm
  | none => d.nm
def PD.ad (d : PD) (K : PySem.W.Frag) : Addr := match d.cls with
  | none => He.ga K d.nm
  | some C => if d.wrap = 1 then He5.wf K (He.ga K C) "property" d.nm else if d.wrap = 2 then He5.wf K (He.ga K C) "staticmethod" d.nm else He.ma K (He.ga K C) d.nm
def PD.dvs (d : PD) (K : PySem.W.Frag) : List L2.V := d.dfl.map (He.Dv.v K)
def PD.kws (d : PD) (K : PySem.W.Frag) : List (Str × L2.V) := d.kwd.map fun q => (q.1, q.2.v K)
/-- all its defaults -/
def PD.dva (d : PD) (K : PySem.W.Frag) : List L2.V := d.dvs K ++ (d.kws K).map (·.2)
abbrev PD.fnD (d : PD) (K : PySem.W.Frag) (f : Addr) (fd : FuncData) : Prop := FunD K d.nm d.qual (defArgs d.st) (defBody d.st) (defScope d.st) (d.dvs K) (d.kws K) f fd
def dvB : He.Dv → Bool
  | .non => true | .bl _ => true | .int _ => true | .str _ => true | _ => false
def dvD {c : Cf} : He.Dv → c.D
  | .bl b => .bl b
  | .int i => .int (c.nm.lit i)
  | .str x => .str x
  | _ => .non
theorem dv_rep {c : Cf} {G : Hp} {v : He.Dv} (h : dvB v = true) : Rep c G (v.v c.K) (dvD v) := by
  cases v <;> first | (cases h; done) | skip
  · exact .non
  · exact .bl _
  · rename_i i
    have := Rep.int (c := c) (G := G) (c.nm.lit i)
    rw [c.nm.lit_ok] at this
    exact this
  · exact .str _
theorem dvs_rep {c : Cf} {G : Hp} : ∀ {l : List He.Dv}, l.all dvB = true → RepL c G (l.map (He.Dv.v c.K)) (l.map dvD)
  | [], _ => .nil
  | v :: r, h => by
    rw [List.all_cons, Bool.and_eq_true] at h
    exact .cons (dv_rep h.1) (dvs_rep h.2)
def PD.dda {c : Cf} (d : PD) : List c.D := (d.dfl ++ d.kwd.map (·.2)).map dvD
theorem PD.dva_rep {c : Cf} {G : Hp} {d : PD} (h : (d.dfl ++ d.kwd.map (·.2)).all dvB = true) : RepL c G (d.dva c.K) d.dda := by
  have := dvs_rep (c := c) (G := G) h
  unfold PD.dva PD.dvs PD.kws PD.dda
  rw [List.map_map]
  rw [List.map_append, List.map_map] at this
  exact this
def PT.sx (T : PT) (d : PD) : Sx := { mps := T.ds.map (·.pats), cls := T.cs.map fun e => (e.nm, e.ini), mths := T.mths, stas := T.stas, N := d.N, fns := T.ds.map fun e => (e.nm, (if e.cls.isNone then e.pats else []), e.io), gls := T.gls.map (·.1), exs := T.xs.map (·.nm), dics := T.dics.map (·.1), dcns := T.dcns.map (·.1), ref := T.ref.map (·.nm), lam := d.lam }
def tagIn (t : List (Str × Str × Str)) (x : Str) : Option Str := match t with
  | [] => none
  | q :: r => if q.1 = x then some q.2.1 else tagIn r x
def PT.tag (T : PT) (n : Nat) : Option Str := match T.xs[n]?, T.ref with
  | some x, some r => tagIn r.trp x.nm
  | _, _ => none
section
variable {c : Cf}
def evV (T : PT) (c : Cf) (call : Nat → Option c.O → List c.D → FO c) : Ev c :=
  { call := call
    io := fun f => match T.ds[f]? with | some d => d.io | none => false
    glo := fun g => match T.gls[g]? with | some p => p.2.d | none => .non
    dic := fun g => match T.dics[g]? with | some p => p.2.map fun q => (q.1, q.2.d) | none => []
    dcn := fun g => match T.dcns[g]? with | some p => p.2.map fun q => (q.1.d, q.2.d) | none => []
    tag := T.tag
    inf := fun _ => ⟨"", 0, default, [], []⟩
    dfl := fun f => match T.ds[f]? with | some d => d.dda | none => []
    mth := fun m k => (T.cs[k]?).bind fun e => e.mth.lookup m
    prp := fun m k => (T.cs[k]?).bind fun e => e.prp.lookup m
    eqm := fun k => (T.cs[k]?).bind (·.eqm)
    ncl := T.cs.length }
def evD (T : PT) (c : Cf) (call : Nat → Option c.O → List c.D → FO c) (d : PD) : Option c.O → List c.D → FO c := runF (evV T c call) d.io d.N.length d.ps.length d.body
def evF (T : PT) (c : Cf) : Nat → Nat → Option c.O → List c.D → FO c
  | 0, _ => fun _ _ => .bad
  | k + 1, f => match T.ds[f]? with
    | some d => evD T c (evF T c k) d
    | none => fun _ _ => .bad
end
/-! ### the text's part of it -/
structure CkOk (T : PT) (d : PD) : Prop where
  sc : FnScope d.N d.ps (defScope d.st)
  ck : (chk (T.sx d) d.body).b (defScope d.st) (defBody d.st) = true
  kb : ∀ (K : PySem.W.Frag) (f : Addr) (fd : FuncData), d.fnD K f fd → ∀ q ∈ d.pats, KB K fd d.ps (d.dva K) q.1 q.2.1 q.2.2
structure CkX (x : XD) : Prop where
  sc : FnScope ["self", x.fl] ["self", x.fl] (defScope x.st)
  b : ∃ q1 q2 q3 q4, defBody x.st = [.Assign [.Attribute (.Name "self" q1) x.fl q2] (.Name x.fl q3) q4]
  v1 : isVis (defScope x.st) "self" = true
  v2 : isVis (defScope x.st) x.fl = true
  db : nodbg x.fl = true
  bd : ∀ (K : PySem.W.Frag) (f : Addr) (fd : FuncData), Fun K "__init__" x.qual x.st f fd → Binds K fd ["self", x.fl] []
structure CkR (r : RD) : Prop where
  sc : FnScope [r.act, r.told, r.e] [r.act] (defScope r.st)
  bd : ∀ (K : PySem.W.Frag) (f : Addr) (fd : FuncData), Fun K r.nm r.nm r.st f fd → Binds K fd [r.act] []
  va : isVis (defScope r.st) r.act = true
  vt : isVis (defScope r.st) r.told = true
  lt : (defScope r.st).names.lookup r.told = some .local
  le : (defScope r.st).names.lookup r.e = some .local
  da : nodbg r.act = true
  dt : nodbg r.told = true
  de : nodbg r.e = true
  gx : (defScope r.st).names.lookup r.xE = some .globalImplicit
  dx : nodbg r.xE = true
  gI : isGlb (defScope r.st) "isinstance" = true
  gV : isGlb (defScope r.st) "ValueError" = true
  bg : ∃ (ss : List Stmt) (z : Str) (q1 q2 q3 q4 q5 q6 q7 q8 q9 q10 q11 q12 q13 q14 q15 q16 q17 q18 q19 q20 : Pos) (jj : Nat), Ifs (defScope r.st) r.told r.e r.trp ss ∧
    defBody r.st = [.Assign [.Name r.told q1] (.List [] q2) q3, .Try [.Expr (.Call (.Name r.act q4) [] [] q5) q6] [.ExceptHandler (some (.Name r.xE q7)) (some r.e) (.If (.UnaryOp .Not (.Call (.Name "isinstance" q8) [.Name r.e q9, .Name "ValueError" q10] [] q11) q12) [.Return (some (.List [.Constant (.str z) jj q13] q14)) q15] [] q16 :: ss) q17] [] [] q18, .Return (some (.Name r.told q19)) q20]
/-- the class tables fit -/
def isD (T : PT) (C : Str) (w : Nat) (m : Str) (g : Nat) (io : Bool) : Bool := match T.ds[g]? with
  | some d => decide (d.cls = some C) && (decide (d.wrap = w) && (decide (d.nm = m) && decide (d.io = io)))
  | none => false
/-- no defaults, called with self alone (n = 1), with one more (n = 2) -/
def bare (T : PT) (n g : Nat) : Bool := match T.ds[g]? with
  | some d => d.dfl.isEmpty && (d.kwd.isEmpty && (d.pats.contains (n, [], List.range n) && decide (d.ps.length = n)))
  | none => false
def csB (T : PT) (e : CD) : Bool := isD T e.nm 0 "__init__" e.ini true && ((e.mth.all fun p => isD T e.nm 0 p.1 p.2 false && ((T.mths.lookup p.1).getD []).contains p.2) && ((e.prp.all fun p => isD T e.nm 1 p.1 p.2 false && bare T 1 p.2) && ((e.sta.all fun p => isD T e.nm 2 p.1 p.2 false) && (match e.eqm with
  | some g => isD T e.nm 0 "__eq__" g false && bare T 2 g
  | none => true))))
def stB (T : PT) (q : Str × Str × Nat × Nat) : Bool := match T.cs[q.2.2.1]? with
  | some e => decide (e.nm = q.1) && e.sta.contains (q.2.1, q.2.2.2)
  | none => false
def csAll (T : PT) : Bool := T.cs.all (csB T) && (T.stas.all (stB T) && T.ds.all fun d => (d.dfl ++ d.kwd.map (·.2)).all dvB && (!d.lam || d.cls.isNone))
structure CkT (T : PT) : Prop where
  cs : csAll T = true
  ds : ∀ d ∈ T.ds, CkOk T d
  xs : ∀ x ∈ T.xs, CkX x
  ref : ∀ r, T.ref = some r → CkR r
/-! ### what the top's objects say, as a Bool -/
def gloB (K : PySem.W.Frag) (x : Str) : Bool := decide (PySem.W.nsIn K mainGlobals x = some (some (.ref (He.ga K x))))
def glLitB (K : PySem.W.Frag) (p : Str × Lit) : Bool := match PySem.W.nsIn K mainGlobals p.1 with
  | some (some u) => litB K p.2 u
  | _ => false
def dicLitB (K : PySem.W.Frag) (p : Str × List (Str × Lit)) : Bool := gloB K p.1 && p.2.all fun q => match PySem.W.nsIn K (He.ga K p.1) q.1 with
  | some (some u) => litB K q.2 u
  | _ => false
def oexB (K : PySem.W.Frag) (C : Addr) : Bool := (match K.lookup C with
  | some ⟨.type t, _, .cls cd, sl⟩ => (match cd.mro, sl.toList with
    | .ref C' :: bm, [_, _, _, _, some (.builtin n), _] => decide (t = "type") && (decide (C' = C) && (decide (n = "ValueError.__new__") && (!cd.hasDel && (cd.hasDict && PySem.HandSPX.refsVE bm))))
    | _, _ => false)
  | _ => false) && (He.eqO (PySem.W.findIn K (.ref C) "__setattr__") (some (some (.builtin "object.__setattr__"))) && (decide (PySem.W.subIn K (.ref C) (.type "BaseException") = some true) && (decide (PySem.W.typeIn K (.ref C) = some (.type "type")) && PySem.W.keepIn K (.ref C))))
def xdB (K : PySem.W.Frag) (x : XD) : Bool := gloB K x.nm && (oexB K (He.ga K x.nm) && (He.eqO (PySem.W.findIn K (.ref (He.ga K x.nm)) "__init__") (some (some (.ref (He.ma K (He.ga K x.nm) "__init__")))) &&
  (decide (PySem.W.typeIn K (.ref (He.ma K (He.ga K x.nm) "__init__")) = some (.type "function")) && He.eqO (PySem.W.findIn K (.ref (He.ga K x.nm)) x.fl) (some none))))
def xcfB (K : PySem.W.Frag) (D : Addr) : Bool := (PySem.W.clsIn K D).isSome && (He.eqO (PySem.W.findIn K (.ref D) "__getattribute__") (some (some (.builtin "BaseException.__getattribute__"))) && (He.eqO (PySem.W.findIn K (.ref D) "__getattr__") (some none) &&
  (decide (PySem.W.subIn K (.ref D) (.type "BaseException") = some true) && (PySem.W.hasDictIn K D && (He.eqO (PySem.W.findIn K (.ref D) "__class__") (some (some (.builtin "object.__class__"))) && (He.eqO (PySem.W.specialIn K (.builtin "object.__class__") "__get__") (some (some (.builtin "getset_descriptor.__get__"))) &&
  (decide (PySem.W.takesIn K (.builtin "object.__class__") = some true) && decide (PySem.W.mroIn K D (.type "object") = some true))))))))
def tellB (K : PySem.W.Frag) (r : RD) (x : XD) : Bool := match tagIn r.trp x.nm with
  | none => true
  | some z => xcfB K (He.ga K x.nm) && (decide (PySem.W.exmOne K (.ref (He.ga K x.nm)) (.ref (He.ga K r.xE)) = some true) && (decide (PySem.W.kitOne K (.ref (He.ga K x.nm)) (.type "ValueError") = some true) && (r.trp.contains (x.nm, z, x.fl) && (decide (x.fl ≠ "") && (decide (r.trp.map (·.1)).Nodup &&
    r.trp.all fun t => decide (PySem.W.kitOne K (.ref (He.ga K x.nm)) (.ref (He.ga K t.1)) = some (decide (t.1 = x.nm))))))))
def refB (K : PySem.W.Frag) (T : PT) : Bool := match T.ref with
  | none => true
  | some r => gloB K r.nm && (gloB K r.xE && (He.eqO (PySem.W.nsIn K mainGlobals "isinstance") (some none) && (He.eqO (PySem.W.nsIn K mainGlobals "ValueError") (some none) && ((r.trp.all fun t => gloB K t.1) && T.xs.all (tellB K r)))))
def bltL : List Str := ["len", "int", "all", "any", "isinstance", "range", "bool", "str", "tuple", "list", "sorted", "min", "max", "sum", "abs", "dict", "set", "enumerate", "zip"]
def factB0 (T : PT) (K : PySem.W.Frag) : Bool := (T.ds.all fun d => d.cls.isSome || gloB K d.nm) && (T.gls.all (glLitB K) && (T.dics.all (dicLitB K) && ((T.dcns.all fun p => gloB K p.1 && dcnB K (He.ga K p.1) p.2) && (T.xs.all (xdB K) && (refB K T && bltL.all fun x => He.eqO (PySem.W.nsIn K mainGlobals x) (some none))))))
/-- the class's objects -/
def clsB (K : PySem.W.Frag) (C : Addr) : Bool := PySem.W.plainGet K C Str.empty && (PySem.W.hasDictIn K C && (PySem.W.plainOver K C && He.eqO (PySem.W.findIn K (.ref C) "__setattr__") (some (some (.builtin "object.__setattr__")))))
theorem clsB_ok {K : PySem.W.Frag} {C : Addr} (h : clsB K C = true) : Cls K C := by
  obtain ⟨h1, h⟩ := b2 h
  obtain ⟨h2, h⟩ := b2 h
  obtain ⟨h3, h4⟩ := b2 h
  exact ⟨h1, h2, h3, He.eqO_ok h4⟩
def methB (K : PySem.W.Frag) (C : Addr) (m : Str) : Bool := He.eqO (PySem.W.findIn K (.ref C) m) (some (some (.ref (He.ma K C m)))) && (PySem.W.isFn K (.ref (He.ma K C m)) && PySem.W.keepIn K (.ref (He.ma K C m)))
theorem methB_ok {K : PySem.W.Frag} {C : Addr} {m : Str} (h : methB K C m = true) : Meth K C m (He.ma K C m) := by
  obtain ⟨h1, h⟩ := b2 h
  obtain ⟨h2, h3⟩ := b2 h
  exact ⟨He.eqO_ok h1, h2, h3⟩
def propB (K : PySem.W.Frag) (C : Addr) (m : Str) : Bool := He.eqO (PySem.W.findIn K (.ref C) m) (some (some (.ref (He.ma K C m)))) && (He.eqO (PySem.W.specialIn K (.ref (He.ma K C m)) "__get__") (some (some (.builtin "property.__get__"))) && (decide (PySem.W.takesIn K (.ref (He.ma K C m)) = some true) && (match PySem.W.recIn K (He.ma K C m) "property" with
  | some (.ref _ :: _) => true
  | _ => false)))
theorem propB_ok {K : PySem.W.Frag} {C : Addr} {m : Str} (h : propB K C m = true) : PropOf K C m (He.ma K C m) (He5.wf K C "property" m) := by
  obtain ⟨h1, h⟩ := b2 h
  obtain ⟨h2, h⟩ := b2 h
  obtain ⟨h3, h4⟩ := b2 h
  refine ⟨He.eqO_ok h1, He.eqO_ok h2, of_decide_eq_true h3, ?_⟩
  unfold He5.wf
  split at h4
  · rename_i f r e
    exact ⟨r, by rw [e]⟩
  · cases h4
def staB (K : PySem.W.Frag) (C : Addr) (m : Str) : Bool := PySem.W.readsIn K C (.type "type") && (He.eqO (PySem.W.specialIn K (.ref C) "__getattribute__") (some (some (.builtin "type.__getattribute__"))) && (He5.wrapB K C "staticmethod" "staticmethod.__get__" m && PySem.W.keepIn K (.ref (He5.wf K C "staticmethod" m))))
theorem staB_ok {K : PySem.W.Frag} {C : Addr} {m : Str} (h : staB K C m = true) : StaF K C m (He.ma K C m) (He5.wf K C "staticmethod" m) := by
  obtain ⟨h1, h⟩ := b2 h
  obtain ⟨h2, h⟩ := b2 h
  obtain ⟨h3, h4⟩ := b2 h
  obtain ⟨h5, h6⟩ := He5.wrapB_ok h3
  exact ⟨⟨h1, He.eqO_ok h2⟩, h5, h6, h4⟩
def eqB (T : PT) (K : PySem.W.Frag) (C : Addr) : Bool := methB K C "__eq__" && (He.eqO (PySem.W.findIn K (.ref C) "__ne__") (some (some (.builtin "object.__ne__"))) && (tyL.all (fun t => PySem.W.notFirst K C (.type t)) && T.cs.all fun e => PySem.W.notFirst K C (.ref (He.ga K e.nm))))
def cdB (T : PT) (K : PySem.W.Frag) (e : CD) : Bool := gloB K e.nm && (clsB K (He.ga K e.nm) && (PySem.W.makesIn K (He.ga K e.nm) && (methB K (He.ga K e.nm) "__init__" && (PySem.W.keepIn K (.ref (He.ga K e.nm)) && (e.flds.all (fun f => He.eqO (PySem.W.findIn K (.ref (He.ga K e.nm)) f) (some none)) &&
  ((e.mth.all fun p => methB K (He.ga K e.nm) p.1) && ((e.prp.all fun p => propB K (He.ga K e.nm) p.1) && ((e.sta.all fun p => staB K (He.ga K e.nm) p.1) && (match e.eqm with
    | some _ => eqB T K (He.ga K e.nm)
    | none => true)))))))))
/-- isinstance of the own classes -/
def insB (T : PT) (K : PySem.W.Frag) : Bool := T.cs.isEmpty || (He.eqO (PySem.W.specialIn K (.builtin "object.__class__") "__get__") (some (some (.builtin "getset_descriptor.__get__"))) && (decide (PySem.W.takesIn K (.builtin "object.__class__") = some true) &&
  T.cs.all fun e => He.eqO (PySem.W.findIn K (.ref (He.ga K e.nm)) "__class__") (some (some (.builtin "object.__class__"))) && (decide (PySem.W.mroIn K (He.ga K e.nm) (.type "object") = some true) && tyL.all fun t => decide (PySem.W.kitOne K (.type t) (.ref (He.ga K e.nm)) = some false))))
def kitB (T : PT) (K : PySem.W.Frag) : Bool := (List.range T.cs.length).all fun j => (List.range T.cs.length).all fun k => match T.cs[j]?, T.cs[k]? with
  | some a, some b => decide (PySem.W.kitOne K (.ref (He.ga K a.nm)) (.ref (He.ga K b.nm)) = some (j == k))
  | _, _ => true
def factB (T : PT) (K : PySem.W.Frag) : Bool := T.cs.all (cdB T K) && (insB T K && (kitB T K && factB0 T K))
def defM (d : PD) : He5.DefA := ⟨d.ad, d.nm, d.qual, defArgs d.st, defBody d.st, defScope d.st, d.dfl, d.kwd⟩
def PT.fms (T : PT) : List He5.DefA := T.ds.map defM
def defD (st : Stmt) (at_ : Str × Option Str) (nm qual : Str) : He.DefD := ⟨at_, nm, qual, defArgs st, defBody st, defScope st, [], []⟩
def PT.fns (T : PT) (law : PD) : List He.DefD := ((T.xs.map fun x => defD x.st (x.nm, some "__init__") "__init__" x.qual) ++ ((match T.ref with
  | some r => [defD r.st (r.nm, none) r.nm r.nm]
  | none => []) ++ [defD law.st (law.nm, none) law.nm law.nm]))
def PT.tabs (T : PT) : List He.Tab := T.dics.map fun p => ((fun K => He.ga K p.1), p.2.map (·.1))
def PT.lams (T : PT) (law : PD) : List PD := (T.ds ++ [law]).filter (·.lam)
def nodA : List Addr → Bool
  | [] => true
  | a :: r => !r.contains a && nodA r
theorem nodA_ok : ∀ {l : List Addr}, nodA l = true → l.Nodup
  | [], _ => List.nodup_nil
  | k :: r, h => by
    obtain ⟨h1, h2⟩ := b2 h
    refine List.nodup_cons.mpr ⟨fun m => ?_, nodA_ok h2⟩
    rw [List.contains_iff_mem.mpr m] at h1
    cases h1
/-- the table of a def's lambdas, its name -/
def lamP (K : PySem.W.Frag) (d : PD) : Addr := (He.cT K (d.nm, none)).2
def lamQ (d : PD) : Str := d.nm ++ ".<locals>." ++ "<lambda>"
def PT.tb (T : PT) (law : PD) (K : PySem.W.Frag) : List (Addr × Str) := (T.lams law).map fun d => (lamP K d, lamQ d)
def PT.hook (T : PT) (law : PD) (n : Nat) : PySem.W.Hook := hookK n (T.fns law) T.tabs ((T.lams law).map fun d => (d.nm, none)) T.fms (fun K => factB T K && (gloB K law.nm && nodA ((T.lams law).map (lamP K))))
/-! ### .. and what follows -/
structure KOk (T : PT) (P : Program) (w : World) (K : PySem.W.Frag) (mg : Str → Option Value) : Prop where
  fn : ∀ d ∈ T.ds, ∃ fd, d.fnD K (d.ad K) fd
  fm : ∀ d ∈ T.ds, d.cls = none → mg d.nm = some (.ref (He.ga K d.nm))
  cd : ∀ e ∈ T.cs, mg e.nm = some (.ref (He.ga K e.nm)) ∧ cdB T K e = true
  ins : insB T K = true
  kit : kitB T K = true
  gl : ∀ p ∈ T.gls, ∃ u, mg p.1 = some u ∧ litB K p.2 u = true
  dic : ∀ p ∈ T.dics, mg p.1 = some (.ref (He.ga K p.1)) ∧ (∃ es n, KDict K w (He.ga K p.1) es n) ∧ ∀ q ∈ p.2, ∃ u, PySem.W.nsIn K (He.ga K p.1) q.1 = some (some u) ∧ litB K q.2 u = true
  dcn : ∀ p ∈ T.dcns, mg p.1 = some (.ref (He.ga K p.1)) ∧ dcnB K (He.ga K p.1) p.2 = true
  ex : ∀ x ∈ T.xs, mg x.nm = some (.ref (He.ga K x.nm)) ∧ OexC K (He.ga K x.nm) ∧ PySem.W.findIn K (.ref (He.ga K x.nm)) x.fl = some none ∧
    ∃ fI fd, PySem.W.findIn K (.ref (He.ga K x.nm)) "__init__" = some (some (.ref fI)) ∧ PySem.W.typeIn K (.ref fI) = some (.type "function") ∧ Fun K "__init__" x.qual x.st fI fd
  ref : ∀ r, T.ref = some r → (∃ fd, Fun K r.nm r.nm r.st (He.ga K r.nm) fd) ∧ mg r.nm = some (.ref (He.ga K r.nm)) ∧ mg r.xE = some (.ref (He.ga K r.xE)) ∧ mg "isinstance" = none ∧ mg "ValueError" = none ∧ (∀ t ∈ r.trp, mg t.1 = some (.ref (He.ga K t.1))) ∧ ∀ x ∈ T.xs, tellB K r x = true
  blt : ∀ x ∈ bltL, mg x = none
theorem oexB_ok {K : PySem.W.Frag} {C : Addr} (h : oexB K C = true) : OexC K C := by
  unfold oexB at h
  obtain ⟨h1, h2⟩ := b2 h
  obtain ⟨h3, h4⟩ := b2 h2
  obtain ⟨h5, h6⟩ := b2 h4
  obtain ⟨h7, h8⟩ := b2 h6
  refine ⟨?_, He.eqO_ok h3, of_decide_eq_true h5, of_decide_eq_true h7, h8⟩
  split at h1
  · rename_i t dd cd sl lk
    split at h1
    · rename_i C' bm k0 k1 k2 k3 n k5 hm hs
      obtain ⟨g0, h1⟩ := b2 h1
      obtain ⟨g1, h1⟩ := b2 h1
      obtain ⟨g2, h1⟩ := b2 h1
      obtain ⟨g3, h1⟩ := b2 h1
      obtain ⟨g4, g5⟩ := b2 h1
      have g0 := of_decide_eq_true g0
      have g1 := of_decide_eq_true g1
      have g2 := of_decide_eq_true g2
      subst g0 g1 g2
      obtain ⟨nm, bs, mro, ns, qn, hd, sn, sub, ab, col, del⟩ := cd
      dsimp only at hm g3 g4
      subst hm
      obtain rfl : del = false := by cases del <;> simp_all
      obtain rfl : hd = true := g4
      have hsl : sl = #[k0, k1, k2, k3, some (.builtin "ValueError.__new__"), k5] := by
        obtain ⟨l⟩ := sl
        simp only at hs
        rw [hs]
      subst hsl
      exact ⟨nm, qn, ns, bs, bm, sn, sub, ab, col, dd, k0, k1, k2, k3, k5, lk, g5⟩
    · cases h1
  · cases h1
theorem fun_of {K : PySem.W.Frag} {x qual : Str} {st : Stmt} {f : Addr} {fd : FuncData} (F : FunD K x qual (defArgs st) (defBody st) (defScope st) [] [] f fd) : Fun K x qual st f fd := by
  obtain ⟨oc, od, dV, kV, doc, pm, an, cdv, ct, osl, e, lk, hcd, hD, hK⟩ := F.ex
  rcases hD with ⟨_, rfl⟩ | ⟨n, _⟩
  · exact ⟨⟨oc, od, kV, doc, pm, an, cdv, ct, osl, e, lk, hcd⟩, F.kp⟩
  · exact absurd rfl n
theorem all_mem {α : Type} {p : α → Bool} {l : List α} (h : l.all p = true) {a : α} (ha : a ∈ l) : p a = true := List.all_eq_true.mp h a ha
theorem kok {T : PT} {law : PD} {tf : List He.Defn} {P : Program} {w : World} {h : Heap} {K : PySem.W.Frag} {mg : Str → Option Value} (X : K.In h) (G : h.Ns mainGlobals mg) (S : SaysK (T.fns law) T.tabs tf T.fms (fun K => factB T K && (gloB K law.nm && nodA ((T.lams law).map (lamP K)))) w h K) : KOk T P w K mg ∧ ((T.lams law).map (lamP K)).Nodup ∧ mg law.nm = some (.ref (He.ga K law.nm)) ∧ ∃ fd, Fun K law.nm law.nm law.st (He.ga K law.nm) fd := by
  obtain ⟨hf, hlw⟩ := b2 (show (factB T K && (gloB K law.nm && nodA ((T.lams law).map (lamP K)))) = true from S.x.more)
  obtain ⟨hlw, hnd⟩ := b2 hlw
  obtain ⟨c1, hf⟩ := b2 hf
  obtain ⟨c2, hf⟩ := b2 hf
  obtain ⟨c3, hf⟩ := b2 hf
  obtain ⟨f1, hf⟩ := b2 hf
  obtain ⟨f2, hf⟩ := b2 hf
  obtain ⟨f3, hf⟩ := b2 hf
  obtain ⟨f3n, hf⟩ := b2 hf
  obtain ⟨f4, hf⟩ := b2 hf
  obtain ⟨f5, f6⟩ := b2 hf
  have hm : ∀ {x : Str}, gloB K x = true → mg x = some (.ref (He.ga K x)) := fun {x} e => PySem.W.mg_of X G (of_decide_eq_true e)
  have D := S.x.t.d
  refine ⟨⟨fun d hd => S.m (defM d) (List.mem_map_of_mem hd), fun d hd hc => hm (by have := all_mem f1 hd; rw [hc] at this; exact this), fun e he => ⟨hm (b2 (show (gloB K e.nm && _) = true from all_mem c1 he)).1, all_mem c1 he⟩, c2, c3, fun p hp => ?_, fun p hp => ?_, fun p hp => ?_, fun x hx => ?_, fun r hr => ?_, fun x hx => PySem.W.mg_none_of X G (He.eqO_ok (all_mem f6 hx))⟩, nodA_ok hnd, hm hlw, ?_⟩
  · have e := all_mem f2 hp
    unfold glLitB at e
    split at e
    · rename_i u q
      exact ⟨u, PySem.W.mg_of X G q, e⟩
    · cases e
  · obtain ⟨e1, e2⟩ := b2 (all_mem f3 hp)
    refine ⟨hm e1, ?_, fun q hq => ?_⟩
    · obtain ⟨i, hi, ei⟩ := List.mem_iff_getElem.mp hp
      exact S.x.t.tab i (t := ((fun K => He.ga K p.1), p.2.map (·.1))) (by
        unfold PT.tabs
        rw [List.getElem?_map, List.getElem?_eq_getElem hi, ei]
        rfl)
    · have e : (match PySem.W.nsIn K (He.ga K p.1) q.1 with
        | some (some u) => litB K q.2 u
        | _ => false) = true := all_mem e2 hq
      split at e
      · rename_i u z
        exact ⟨u, z, e⟩
      · cases e
  · obtain ⟨e1, e2⟩ := b2 (all_mem f3n hp)
    exact ⟨hm e1, e2⟩
  · obtain ⟨e1, e⟩ := b2 (all_mem f4 hx)
    obtain ⟨e2, e⟩ := b2 e
    obtain ⟨e3, e⟩ := b2 e
    obtain ⟨e4, e5⟩ := b2 e
    obtain ⟨fd, F⟩ := D.defs (d := defD x.st (x.nm, some "__init__") "__init__" x.qual) (List.mem_append_left _ (List.mem_map_of_mem hx))
    exact ⟨hm e1, oexB_ok e2, He.eqO_ok e5, _, fd, He.eqO_ok e3, of_decide_eq_true e4, fun_of F⟩
  · have f5 : refB K T = true := f5
    unfold refB at f5
    rw [hr] at f5
    obtain ⟨e1, e⟩ := b2 f5
    obtain ⟨e2, e⟩ := b2 e
    obtain ⟨e3, e⟩ := b2 e
    obtain ⟨e4, e⟩ := b2 e
    obtain ⟨e5, e6⟩ := b2 e
    obtain ⟨fd, F⟩ := D.defs (d := defD r.st (r.nm, none) r.nm r.nm) (by
      unfold PT.fns
      rw [hr]
      exact List.mem_append_right _ (List.mem_append_left _ (List.mem_singleton.mpr rfl)))
    exact ⟨⟨fd, fun_of F⟩, hm e1, hm e2, PySem.W.mg_none_of X G (He.eqO_ok e3), PySem.W.mg_none_of X G (He.eqO_ok e4), fun t ht => hm (all_mem e5 ht), fun x hx => all_mem e6 hx⟩
  · obtain ⟨fd, F⟩ := D.defs (d := defD law.st (law.nm, none) law.nm law.nm) (List.mem_append_right _ (List.mem_append_right _ (List.mem_singleton.mpr rfl)))
    exact ⟨fd, fun_of F⟩
/-! ### contexts made of it -/
def mkC (T : PT) (nm : Num) (P : Program) (w : World) (K : PySem.W.Frag) (mg : Str → Option Value) (tb : List (Addr × Str)) : Cf :=
  { nm := nm, P := P, w := w, K := K, mg := mg, T := tb, cls := fun n => match T.cs[n]? with | some e => He.ga K e.nm | none => 0, fld := fun n => match T.cs[n]? with | some e => e.flds | none => [], exa := fun n => match T.xs[n]? with | some x => He.ga K x.nm | none => 0, exf := fun n => match T.xs[n]? with | some x => [x.fl] | none => [] }
theorem split_mem {α : Type} {a : α} {l : List α} (h : a ∈ l) : ∃ s t, l = s ++ a :: t := List.append_of_mem h
theorem tells_of {T : PT} {nm : Num} {P : Program} {w : World} {K : PySem.W.Frag} {mg : Str → Option Value} {tb : List (Addr × Str)} {r : RD} (hr : T.ref = some r) (hk : KOk T P w K mg) : ∀ n z, T.tag n = some z → Tells (mkC T nm P w K mg tb) (He.ga K r.xE) r.trp n z := by
  intro n z hz
  unfold PT.tag at hz
  cases hx : T.xs[n]? with
  | none => rw [hx] at hz; cases hz
  | some x =>
    rw [hx, hr] at hz
    simp only at hz
    obtain ⟨hfd, hmn, hmx, hI, hV, hmt, hte⟩ := hk.ref r hr
    have xm : x ∈ T.xs := List.mem_of_getElem? hx
    have e := hte x xm
    unfold tellB at e
    rw [hz] at e
    obtain ⟨e1, e⟩ := b2 e
    obtain ⟨e2, e⟩ := b2 e
    obtain ⟨e3, e⟩ := b2 e
    obtain ⟨e4, e⟩ := b2 e
    obtain ⟨e0, e⟩ := b2 e
    obtain ⟨e5, e6⟩ := b2 e
    have ea : (mkC T nm P w K mg tb).exa n = He.ga K x.nm := by show (match T.xs[n]? with | some x => He.ga K x.nm | none => 0) = _; rw [hx]
    have ef : (mkC T nm P w K mg tb).exf n = [x.fl] := by show (match T.xs[n]? with | some x => [x.fl] | none => []) = _; rw [hx]
    have e4 : (x.nm, z, x.fl) ∈ r.trp := List.contains_iff_mem.mp e4
    obtain ⟨pre, post, hs⟩ := split_mem e4
    have nd : (r.trp.map (·.1)).Nodup := of_decide_eq_true e5
    have kk : ∀ t ∈ r.trp, PySem.W.kitOne K (.ref (He.ga K x.nm)) (.ref (He.ga K t.1)) = some (decide (t.1 = x.nm)) := fun t ht => of_decide_eq_true (all_mem e6 ht)
    obtain ⟨c1, e1⟩ := b2 e1
    obtain ⟨c2, e1⟩ := b2 e1
    obtain ⟨c3, e1⟩ := b2 e1
    obtain ⟨c4, e1⟩ := b2 e1
    obtain ⟨c5, e1⟩ := b2 e1
    obtain ⟨c6, e1⟩ := b2 e1
    obtain ⟨c7, e1⟩ := b2 e1
    obtain ⟨c8, c9⟩ := b2 e1
    refine ⟨?_, ?_, ?_, pre, post, x.nm, x.fl, of_decide_eq_true e0, ef, hs, ?_, ⟨_, hmt _ e4, ?_⟩, fun t ht => ?_⟩
    · rw [ea]
      exact ⟨c1, He.eqO_ok c2, He.eqO_ok c3, of_decide_eq_true c4, c5, He.eqO_ok c6, He.eqO_ok c7, of_decide_eq_true c8, of_decide_eq_true c9⟩
    · rw [ea]; exact of_decide_eq_true e2
    · rw [ea]; exact of_decide_eq_true e3
    · rw [ea]; exact (hk.ex x xm).2.2.1
    · rw [ea]; exact (kk _ e4).trans (by simp)
    · have ht2 : t ∈ r.trp := by
        rw [hs]
        rcases List.mem_append.mp ht with h | h
        · exact List.mem_append_left _ h
        · exact List.mem_append_right _ (List.mem_cons_of_mem _ h)
      refine ⟨_, hmt _ ht2, ?_⟩
      rw [ea]
      refine (kk _ ht2).trans ?_
      have : t.1 ≠ x.nm := fun q => by
        rw [hs, List.map_append, List.map_cons] at nd
        obtain ⟨_, n2, n3⟩ := List.nodup_append.mp nd
        rcases List.mem_append.mp ht with h | h
        · exact n3 t.1 (List.mem_map_of_mem h) x.nm (List.mem_cons_self ..) q
        · have hm := List.mem_map_of_mem (f := fun t : Str × Str × Str => t.1) h
          exact (List.nodup_cons.mp n2).1 (by rw [← q]; exact hm)
      simp [this]
section
variable {T : PT} {nm : Num} {P : Program} {w : World} {K : PySem.W.Frag} {mg : Str → Option Value} {tb : List (Addr × Str)} {base : Heap}
/-- a def's promise -/
def Good (T : PT) (c : Cf) (base : Heap) (k f : Nat) (F : Option c.O → List c.D → FO c) : Prop := ∀ d, T.ds[f]? = some d → ∃ fd, d.fnD c.K (d.ad c.K) fd ∧ FnOk c.P c.w c.K c.mg base (L2.CX c.P c.w) k (d.ad c.K) fd d.ps (spF c d.io F)
theorem look_mem {z : Str} {d : (mkC T nm P w K mg tb).D} : ∀ {l : List (Str × Lit)}, (l.map fun q : Str × Lit => (q.1, (q.2.d : (mkC T nm P w K mg tb).D))).lookup z = some d → ∃ q ∈ l, q.1 = z ∧ q.2.d = d
  | [], h => by cases h
  | q :: r, h => by
    rw [List.map_cons, List.lookup_cons] at h
    split at h
    · rename_i e
      exact ⟨q, List.mem_cons_self .., (eq_of_beq e).symm, Option.some.inj h⟩
    · obtain ⟨q2, h1, h2⟩ := look_mem h
      exact ⟨q2, List.mem_cons_of_mem _ h1, h2⟩
theorem mps_get {d0 d : PD} {g : Nat} (hd : T.ds[g]? = some d) : (T.sx d0).mps.getD g [] = d.pats := by
  show (T.ds.map (·.pats)).getD g [] = _
  rw [List.getD_eq_getElem?_getD, List.getElem?_map, hd]; rfl
theorem isD_ok {C m : Str} {v g : Nat} {io : Bool} (h : isD T C v m g io = true) : ∃ d, T.ds[g]? = some d ∧ d.cls = some C ∧ d.wrap = v ∧ d.nm = m ∧ d.io = io := by
  unfold isD at h
  split at h
  · rename_i d e
    obtain ⟨h1, h⟩ := b2 h
    obtain ⟨h2, h⟩ := b2 h
    obtain ⟨h3, h4⟩ := b2 h
    exact ⟨d, e, of_decide_eq_true h1, of_decide_eq_true h2, of_decide_eq_true h3, of_decide_eq_true h4⟩
  · cases h
theorem bare_ok {n g : Nat} {d : PD} (h : bare T n g = true) (hd : T.ds[g]? = some d) (hck : CkOk T d) {f : Addr} {fd : FuncData} (F : d.fnD K f fd) : L2.Binds K fd d.ps [] := by
  unfold bare at h
  rw [hd] at h
  obtain ⟨h1, h⟩ := b2 h
  obtain ⟨h2, h⟩ := b2 h
  obtain ⟨h3, h4⟩ := b2 h
  have e1 := List.isEmpty_iff.mp h1
  have e2 := List.isEmpty_iff.mp h2
  have e4 : d.ps.length = n := of_decide_eq_true h4
  obtain ⟨its, r, hb⟩ := hck.kb K f fd F _ (List.contains_iff_mem.mp h3)
  intro s us X hl
  rw [List.append_nil] at hl ⊢
  have ev : d.dva K = [] := by unfold PD.dva PD.dvs PD.kws; rw [e1, e2]; rfl
  rw [ev] at r
  cases r
  have := hb s us [] X (hl.trans e4) rfl
  rw [List.append_nil, List.append_nil] at this
  have e5 : pick us (List.range n) = us := by rw [← e4, ← hl]; exact pick_range us
  rw [e5] at this
  exact this
theorem look_in {α : Type} {m : Str} {g : α} : ∀ {l : List (Str × α)}, l.lookup m = some g → (m, g) ∈ l
  | [], h => by cases h
  | q :: r, h => by
    rw [List.lookup_cons] at h
    split at h
    · rename_i e
      cases h
      rw [eq_of_beq e]
      exact List.mem_cons_self ..
    · exact List.mem_cons_of_mem _ (look_in h)
theorem cls_at {C : Nat} {e : CD} (h : T.cs[C]? = some e) : (mkC T nm P w K mg tb).cls C = He.ga K e.nm := by
  show (match T.cs[C]? with | some e => He.ga K e.nm | none => 0) = _
  rw [h]
structure CdOk (T : PT) (K : PySem.W.Frag) (e : CD) : Prop where
  cls : Cls K (He.ga K e.nm)
  mks : PySem.W.makesIn K (He.ga K e.nm) = true
  ini : Meth K (He.ga K e.nm) "__init__" (He.ma K (He.ga K e.nm) "__init__")
  kp : PySem.W.keepIn K (.ref (He.ga K e.nm)) = true
  fl : ∀ f ∈ e.flds, NoAttr K (He.ga K e.nm) f
  mth : ∀ p ∈ e.mth, Meth K (He.ga K e.nm) p.1 (He.ma K (He.ga K e.nm) p.1)
  prp : ∀ p ∈ e.prp, PropOf K (He.ga K e.nm) p.1 (He.ma K (He.ga K e.nm) p.1) (He5.wf K (He.ga K e.nm) "property" p.1)
  sta : ∀ p ∈ e.sta, StaF K (He.ga K e.nm) p.1 (He.ma K (He.ga K e.nm) p.1) (He5.wf K (He.ga K e.nm) "staticmethod" p.1)
  eqm : ∀ g, e.eqm = some g → eqB T K (He.ga K e.nm) = true
theorem cdB_ok {e : CD} (h : cdB T K e = true) : CdOk T K e := by
  obtain ⟨h0, h⟩ := b2 h
  obtain ⟨h1, h⟩ := b2 h
  obtain ⟨h2, h⟩ := b2 h
  obtain ⟨h3, h⟩ := b2 h
  obtain ⟨h4, h⟩ := b2 h
  obtain ⟨h5, h⟩ := b2 h
  obtain ⟨h6, h⟩ := b2 h
  obtain ⟨h7, h⟩ := b2 h
  obtain ⟨h8, h9⟩ := b2 h
  exact ⟨clsB_ok h1, h2, methB_ok h3, h4, fun f hf => He.eqO_ok (all_mem h5 hf), fun p hp => methB_ok (all_mem h6 hp), fun p hp => propB_ok (all_mem h7 hp), fun p hp => staB_ok (all_mem h8 hp), fun g hg => by rw [hg] at h9; exact h9⟩
theorem cs_at (hT : CkT T) (hk : KOk T P w K mg) {e : CD} (he : e ∈ T.cs) : csB T e = true ∧ CdOk T K e ∧ mg e.nm = some (.ref (He.ga K e.nm)) := ⟨all_mem (b2 hT.cs).1 he, cdB_ok (hk.cd e he).2, (hk.cd e he).1⟩
theorem cls_inv {C : Nat} {f : Str} (h : f ∈ (mkC T nm P w K mg tb).fld C) : ∃ e, T.cs[C]? = some e ∧ f ∈ e.flds := by
  have h : f ∈ (match T.cs[C]? with | some e => e.flds | none => []) := h
  split at h
  · rename_i e q
    exact ⟨e, q, h⟩
  · cases h
theorem ins_of (hk : KOk T P w K mg) : InsK (mkC T nm P w K mg tb) T.cs.length := by
  have at_ : ∀ j, j < T.cs.length → ∃ e, T.cs[j]? = some e ∧ e ∈ T.cs := fun j hj => ⟨T.cs[j], List.getElem?_eq_getElem hj, List.getElem_mem hj⟩
  have hi := hk.ins
  unfold insB at hi
  rcases Bool.or_eq_true_iff.mp hi with hi | hi
  · have : T.cs.length = 0 := by rw [List.isEmpty_iff.mp hi]; rfl
    exact ⟨fun j hj => by omega, fun j k hj => by omega, fun k hk => by omega⟩
  · obtain ⟨i1, hi⟩ := b2 hi
    obtain ⟨i2, i3⟩ := b2 hi
    refine ⟨fun j hj => ?_, fun j k hj hk' => ?_, fun k hk' t ht => ?_⟩
    · obtain ⟨e, q, m⟩ := at_ j hj
      rw [cls_at q]
      obtain ⟨w1, w2⟩ := b2 (all_mem i3 m)
      obtain ⟨w2, w3⟩ := b2 w2
      exact ⟨(cdB_ok (hk.cd e m).2).cls, He.eqO_ok w1, He.eqO_ok i1, of_decide_eq_true i2, of_decide_eq_true w2⟩
    · obtain ⟨e, q, m⟩ := at_ j hj
      obtain ⟨e2, q2, m2⟩ := at_ k hk'
      rw [cls_at q, cls_at q2]
      have h1 := all_mem (all_mem hk.kit (List.mem_range.mpr hj)) (List.mem_range.mpr hk')
      rw [q, q2] at h1
      exact of_decide_eq_true h1
    · obtain ⟨e, q, m⟩ := at_ k hk'
      rw [cls_at q]
      obtain ⟨w1, w2⟩ := b2 (all_mem i3 m)
      obtain ⟨w2, w3⟩ := b2 w2
      exact of_decide_eq_true (all_mem w3 ht)
theorem dda_rep (hT : CkT T) {g : Nat} {d : PD} (hd : T.ds[g]? = some d) {call : Nat → Option (mkC T nm P w K mg tb).O → List (mkC T nm P w K mg tb).D → FO (mkC T nm P w K mg tb)} (G : Hp) : RepL (mkC T nm P w K mg tb) G (d.dva K) ((evV T (mkC T nm P w K mg tb) call).dfl g) := by
  show RepL _ G _ (match T.ds[g]? with | some d => d.dda | none => [])
  rw [hd]
  exact PD.dva_rep (c := mkC T nm P w K mg tb) (b2 (all_mem (b2 (b2 hT.cs).2).2 (List.mem_of_getElem? hd))).1
theorem vok (hT : CkT T) (hk : KOk T P w K mg) {k : Nat} (h2 : 2 ≤ k) {d : PD} {call : Nat → Option (mkC T nm P w K mg tb).O → List (mkC T nm P w K mg tb).D → FO (mkC T nm P w K mg tb)} (hc : ∀ f, Good T (mkC T nm P w K mg tb) base k f (call f)) : VOk (mkC T nm P w K mg tb) base k (T.sx d) (evV T (mkC T nm P w K mg tb) call) := by
  refine ⟨fun f n pats io e => ?_, fun n e => ?_, fun n x e => ?_, fun g n e => ?_, fun g n e => ?_, fun g n e => ?_, ⟨fun k f hf => ?_⟩, fun C n g e => ?_, fun m C g e => ?_, fun m C g e => ?_, fun n m C g e => ?_, ins_of hk, fun C g e => ?_, hk.blt⟩
  · have e : (T.ds.map fun e => (e.nm, (if e.cls.isNone then e.pats else []), e.io))[f]? = some (n, pats, io) := e
    rw [List.getElem?_map] at e
    cases hd : T.ds[f]? with
    | none => rw [hd] at e; cases e
    | some d =>
      rw [hd] at e
      have e : (d.nm, (if d.cls.isNone then d.pats else []), d.io) = (n, pats, io) := Option.some.inj e
      injection e with e1 e2
      injection e2 with e2 e3
      subst e1 e2 e3
      have dm : d ∈ T.ds := List.mem_of_getElem? hd
      obtain ⟨fd, F, G⟩ := hc f d hd
      intro hne
      have hcn : d.cls = none := by
        cases hq : d.cls with
        | none => rfl
        | some z => rw [hq] at hne; exact absurd rfl hne
      have had : d.ad K = He.ga K d.nm := by unfold PD.ad; rw [hcn]
      refine ⟨?_, ⟨d.nm, d.ad K, fd, d.ps, d.dva K⟩, rfl, G, by rw [had]; exact hk.fm d dm hcn, F.kp, fun G => dda_rep hT hd G, fun q hq => (hT.ds d dm).kb K _ fd F q (by rw [hcn] at hq; exact hq)⟩
      show (match T.ds[f]? with | some d => d.io | none => false) = _
      rw [hd]
  · have e : T.ref.map (·.nm) = some n := e
    cases hr : T.ref with
    | none => rw [hr] at e; cases e
    | some r =>
      rw [hr] at e
      obtain rfl : r.nm = n := Option.some.inj e
      obtain ⟨⟨fd, F⟩, hmn, hmx, hI, hV, hmt, hte⟩ := hk.ref r hr
      have R := hT.ref r hr
      obtain ⟨oc, od, kV, doc, pm, an, cdv, ct, osl, rfl, lk, hcd⟩ := F.ex
      refine ⟨r.act, r.told, r.e, r.xE, He.ga K r.nm, He.ga K r.xE, defArgs r.st, defBody r.st, defScope r.st, .none, kV, doc, pm, cdv, ct, oc, an, od, osl, r.trp, hmn, F.kp, lk, hcd, R.bd K _ _ F, R.sc, ?_, tells_of hr hk⟩
      exact ⟨R.sc.nd, R.va, R.vt, R.lt, R.le, R.da, R.dt, R.de, R.gx, R.dx, hmx, R.gI, R.gV, hI, hV, fun t ht => ⟨_, hmt t ht⟩, R.bg⟩
  · have e : (T.xs.map (·.nm))[n]? = some x := e
    rw [List.getElem?_map] at e
    cases hx : T.xs[n]? with
    | none => rw [hx] at e; cases e
    | some xd =>
      rw [hx] at e
      obtain rfl : xd.nm = x := Option.some.inj e
      have xm : xd ∈ T.xs := List.mem_of_getElem? hx
      obtain ⟨m1, m2, m3, fI, fd, m4, m5, F⟩ := hk.ex xd xm
      have C := hT.xs xd xm
      obtain ⟨q1, q2, q3, q4, hb⟩ := C.b
      have ea : (mkC T nm P w K mg tb).exa n = He.ga K xd.nm := by show (match T.xs[n]? with | some x => He.ga K x.nm | none => 0) = _; rw [hx]
      have ef : (mkC T nm P w K mg tb).exf n = [xd.fl] := by show (match T.xs[n]? with | some x => [x.fl] | none => []) = _; rw [hx]
      refine ⟨h2, fI, fd, xd.fl, ef, ?_, ?_, m5, init_ok (c := mkC T nm P w K mg tb) F C.sc hb C.v1 C.v2 C.db, C.bd K _ _ F, ?_, ?_⟩
      · rw [ea]; exact m2
      · rw [ea]; exact m4
      · rw [ea]; exact m1
      · rw [ea]; exact m3
  · have e : (T.dics.map (·.1))[g]? = some n := e
    rw [List.getElem?_map] at e
    cases hx : T.dics[g]? with
    | none => rw [hx] at e; cases e
    | some p =>
      rw [hx] at e
      obtain rfl : p.1 = n := Option.some.inj e
      obtain ⟨m1, ⟨es, nn, KD⟩, m3⟩ := hk.dic p (List.mem_of_getElem? hx)
      refine ⟨_, m1, fun z d hz => ?_⟩
      have hz : (match T.dics[g]? with | some p => p.2.map fun q : Str × Lit => (q.1, (q.2.d : (mkC T nm P w K mg tb).D)) | none => []).lookup z = some d := hz
      rw [hx] at hz
      obtain ⟨q, hq, rfl, rfl⟩ := look_mem hz
      obtain ⟨u, hu, hl⟩ := m3 q hq
      obtain ⟨v, r1, r2⟩ := litB_ok (c := mkC T nm P w K mg tb) hl
      exact ⟨v, ⟨es, nn, u, KD.at_, KD.lit, hu, r1⟩, r2⟩
  · have e : (T.dcns.map (·.1))[g]? = some n := e
    rw [List.getElem?_map] at e
    cases hx : T.dcns[g]? with
    | none => rw [hx] at e; cases e
    | some p =>
      rw [hx] at e
      obtain rfl : p.1 = n := Option.some.inj e
      obtain ⟨m1, m2⟩ := hk.dcn p (List.mem_of_getElem? hx)
      refine ⟨_, m1, ?_⟩
      have q := dcnB_ok (c := mkC T nm P w K mg tb) m2
      show KDcn _ _ (match T.dcns[g]? with | some p => p.2.map fun q : Lit × Lit => ((q.1.d : (mkC T nm P w K mg tb).D), (q.2.d : (mkC T nm P w K mg tb).D)) | none => [])
      rw [hx]
      exact q
  · have e : (T.gls.map (·.1))[g]? = some n := e
    rw [List.getElem?_map] at e
    cases hx : T.gls[g]? with
    | none => rw [hx] at e; cases e
    | some p =>
      rw [hx] at e
      obtain rfl : p.1 = n := Option.some.inj e
      obtain ⟨u, hu, hl⟩ := hk.gl p (List.mem_of_getElem? hx)
      obtain ⟨v, r1, r2⟩ := litB_ok (c := mkC T nm P w K mg tb) hl
      refine ⟨v, u, hu, r1, fun G => ?_⟩
      show Rep _ G v (match T.gls[g]? with | some p => p.2.d | none => .non)
      rw [hx]; exact r2 G
  · obtain ⟨e, q, m⟩ := cls_inv hf
    obtain ⟨_, c, _⟩ := cs_at hT hk (List.mem_of_getElem? q)
    rw [cls_at q]
    exact ⟨c.cls, c.fl f m⟩
  · have e : (T.cs.map fun e => (e.nm, e.ini))[C]? = some (n, g) := e
    rw [List.getElem?_map] at e
    cases hx : T.cs[C]? with
    | none => rw [hx] at e; cases e
    | some q =>
      rw [hx] at e
      have e : (q.nm, q.ini) = (n, g) := Option.some.inj e
      injection e with e1 e2
      subst e1 e2
      obtain ⟨b, c, mm⟩ := cs_at hT hk (List.mem_of_getElem? hx)
      obtain ⟨d, hd, d1, d2, d3, d4⟩ := isD_ok (b2 b).1
      obtain ⟨fd, F, G⟩ := hc _ d hd
      have dm : d ∈ T.ds := List.mem_of_getElem? hd
      have had : d.ad K = He.ma K (He.ga K q.nm) "__init__" := by
        unfold PD.ad
        rw [d1, d2, d3]
        rfl
      rw [d4] at G
      have hlt : C < T.cs.length := (List.getElem?_eq_some_iff.mp hx).1
      refine ⟨hlt, ⟨q.nm, d.ad K, fd, d.ps, d.dva K⟩, G, ?_, ?_, fun G => dda_rep hT hd G, fun p hp => ?_⟩
      · rw [cls_at hx, had]
        exact ⟨c.mks, c.ini.at_, c.ini.fn, c.kp⟩
      · rw [cls_at hx]; exact mm
      · rw [mps_get hd] at hp
        exact (hT.ds d dm).kb K _ fd F p hp
  · obtain ⟨q, hx, e⟩ := Option.bind_eq_some_iff.mp (show ((T.cs[C]?).bind fun e => e.mth.lookup m) = some g from e)
    obtain ⟨b, c, mm⟩ := cs_at hT hk (List.mem_of_getElem? hx)
    have pm := look_in e
    obtain ⟨w1, w2⟩ := b2 (all_mem (b2 (b2 b).2).1 pm)
    obtain ⟨d, hd, d1, d2, d3, d4⟩ := isD_ok w1
    obtain ⟨fd, F, G⟩ := hc _ d hd
    have dm : d ∈ T.ds := List.mem_of_getElem? hd
    have had : d.ad K = He.ma K (He.ga K q.nm) m := by
      unfold PD.ad
      rw [d1, d2, d3]
      rfl
    rw [d4] at G
    refine ⟨List.contains_iff_mem.mp w2, d.ad K, fd, d.ps, d.dva K, by rw [cls_at hx]; exact c.cls, by rw [cls_at hx, had]; exact c.mth _ pm, G, fun G => dda_rep hT hd G, fun p hp => ?_⟩
    rw [mps_get hd] at hp
    exact (hT.ds d dm).kb K _ fd F p hp
  · obtain ⟨q, hx, e⟩ := Option.bind_eq_some_iff.mp (show ((T.cs[C]?).bind fun e => e.prp.lookup m) = some g from e)
    obtain ⟨b, c, mm⟩ := cs_at hT hk (List.mem_of_getElem? hx)
    have pm := look_in e
    obtain ⟨w1, w2⟩ := b2 (all_mem (b2 (b2 (b2 b).2).2).1 pm)
    obtain ⟨d, hd, d1, d2, d3, d4⟩ := isD_ok w1
    obtain ⟨fd, F, G⟩ := hc _ d hd
    have dm : d ∈ T.ds := List.mem_of_getElem? hd
    have had : d.ad K = He5.wf K (He.ga K q.nm) "property" m := by
      unfold PD.ad
      rw [d1, d2, d3]
      rfl
    rw [d4] at G
    exact ⟨He.ma K (He.ga K q.nm) m, d.ad K, fd, d.ps, by rw [cls_at hx]; exact c.cls, by rw [cls_at hx, had]; exact c.prp _ pm, G, bare_ok w2 hd (hT.ds d dm) F⟩
  · have hq : stB T (n, m, C, g) = true := all_mem (b2 (b2 hT.cs).2).1 e
    unfold stB at hq
    split at hq
    · rename_i q hx
      obtain ⟨q1, q2⟩ := b2 hq
      obtain rfl : q.nm = n := of_decide_eq_true q1
      obtain ⟨b, c, mm⟩ := cs_at hT hk (List.mem_of_getElem? hx)
      have pm : (m, g) ∈ q.sta := List.contains_iff_mem.mp q2
      obtain ⟨d, hd, d1, d2, d3, d4⟩ := isD_ok (all_mem (b2 (b2 (b2 (b2 b).2).2).2).1 pm)
      obtain ⟨fd, F, G⟩ := hc _ d hd
      have dm : d ∈ T.ds := List.mem_of_getElem? hd
      have had : d.ad K = He5.wf K (He.ga K q.nm) "staticmethod" m := by
        unfold PD.ad
        rw [d1, d2, d3]
        rfl
      rw [d4] at G
      have hx : T.cs[C]? = some q := hx
      refine ⟨⟨m, d.ad K, fd, d.ps, d.dva K⟩, G, by rw [cls_at hx]; exact mm, ⟨_, by rw [cls_at hx]; show StaF K _ m _ (d.ad K); rw [had]; exact c.sta _ pm⟩, fun G => dda_rep hT hd G, fun p hp => ?_⟩
      rw [mps_get hd] at hp
      exact (hT.ds d dm).kb K _ fd F p hp
    · cases hq
  · obtain ⟨q, hx, e⟩ := Option.bind_eq_some_iff.mp (show ((T.cs[C]?).bind (·.eqm)) = some g from e)
    obtain ⟨b, c, mm⟩ := cs_at hT hk (List.mem_of_getElem? hx)
    have b5 := (b2 (b2 (b2 (b2 b).2).2).2).2
    rw [e] at b5
    obtain ⟨w1, w2⟩ := b2 b5
    obtain ⟨d, hd, d1, d2, d3, d4⟩ := isD_ok w1
    obtain ⟨fd, F, G⟩ := hc _ d hd
    have dm : d ∈ T.ds := List.mem_of_getElem? hd
    have had : d.ad K = He.ma K (He.ga K q.nm) "__eq__" := by
      unfold PD.ad
      rw [d1, d2, d3]
      rfl
    rw [d4] at G
    have eb := c.eqm g e
    obtain ⟨u1, eb⟩ := b2 eb
    obtain ⟨u2, eb⟩ := b2 eb
    obtain ⟨u3, u4⟩ := b2 eb
    have hlt : C < T.cs.length := (List.getElem?_eq_some_iff.mp hx).1
    have M := methB_ok u1
    refine ⟨d.ad K, fd, d.ps, ?_, G, bare_ok w2 hd (hT.ds d dm) F⟩
    rw [had]
    refine ⟨by rw [cls_at hx]; exact M.at_, M.fn, by rw [cls_at hx]; exact He.eqO_ok u2, ((ins_of hk).own C hlt).2.2.2.2, fun t ht => by rw [cls_at hx]; exact all_mem u3 ht, fun j hj => ?_⟩
    rw [cls_at hx]
    have hj : j < T.cs.length := hj
    have : T.cs[j]? = some T.cs[j] := List.getElem?_eq_getElem hj
    rw [cls_at this]
    exact all_mem u4 (List.getElem_mem hj)
theorem spF_bad {c : Cf} {io : Bool} {vs : List L2.V} {H : Hp} {Q : VK} {E : XK} : ¬ spF c io (fun _ _ => FO.bad) vs H Q E := by
  rintro ⟨G, _, _, _, ⟨_, ds, _, h⟩ | ⟨_, v0, o0, fp, vs', ds, _, _, _, _, h⟩⟩ <;> exact h.elim
theorem good_bad (hk : KOk T P w K mg) {k f : Nat} : Good T (mkC T nm P w K mg tb) base k f (fun _ _ => .bad) := fun d hd => by
  obtain ⟨fd, F⟩ := hk.fn d (List.mem_of_getElem? hd)
  exact ⟨fd, F, ⟨fun vs H Q E h => (spF_bad h).elim, fun A outer s H args us vs Q E hr e0 hb r h => (spF_bad h).elim⟩⟩
theorem Good.mono {c : Cf} {j k f : Nat} {F : Option c.O → List c.D → FO c} (h : Good T c base j f F) (hjk : j ≤ k) : Good T c base k f F := fun d hd => by
  obtain ⟨fd, F, G⟩ := h d hd
  exact ⟨fd, F, G.mono hjk⟩
theorem Good.imp {c : Cf} {k f : Nat} {F F' : Option c.O → List c.D → FO c} (h : Good T c base k f F) (hi : ∀ io vs H Q E, spF c io F' vs H Q E → spF c io F vs H Q E) : Good T c base k f F' := fun d hd => by
  obtain ⟨fd, F, G⟩ := h d hd
  exact ⟨fd, F, G.imp fun vs H Q E q => hi _ _ _ _ _ q⟩
/-- what stands at a def that makes lambdas -/
def LamAt (K : PySem.W.Frag) (mg : Str → Option Value) (base : Heap) (tb : List (Addr × Str)) (d : PD) : Prop := LamX.TabB base mg (He.codeOf K (d.nm, none)) (lamP K d) ∧ (lamP K d, lamQ d) ∈ tb ∧ ∀ p ∈ tb, p.1 = lamP K d → p.2 = lamQ d
def LamOk (T : PT) (K : PySem.W.Frag) (mg : Str → Option Value) (base : Heap) (tb : List (Addr × Str)) : Prop := ∀ d ∈ T.ds, d.lam = true → LamAt K mg base tb d
theorem fn_okA {k : Nat} {law d : PD} {call : Nat → Option (mkC T nm P w K mg tb).O → List (mkC T nm P w K mg tb).D → FO (mkC T nm P w K mg tb)} {fd : FuncData} (hcn : d.lam = true → d.cls = none) (F : d.fnD K (d.ad K) fd) (hL : d.lam = true → LamAt K mg base tb d) (hV : VOk (mkC T nm P w K mg tb) base k (T.sx d) (evV T (mkC T nm P w K mg tb) call)) (hsc : FnScope d.N d.ps (defScope d.st)) (hck : (chk (T.sx d) d.body).b (defScope d.st) (defBody d.st) = true) :
    FnOk P w K mg base (L2.CX P w) (if d.lam then k + 4 else k + 2) (d.ad K) fd d.ps (spF (mkC T nm P w K mg tb) d.io (evD T (mkC T nm P w K mg tb) call d)) := by
  cases hl : d.lam with
  | false => exact fn_ok (c := mkC T nm P w K mg tb) (S := T.sx d) F hsc hV hl hck
  | true =>
    obtain ⟨TB, hm, hu⟩ := hL hl
    have hcn := hcn hl
    have hq : d.qual = d.nm := by unfold PD.qual; rw [hcn]
    have had : d.ad K = He.ga K d.nm := by unfold PD.ad; rw [hcn]
    obtain ⟨oc, od, dV, kV, doc, pm, an, cdv, ct, osl, rfl, lk, hcd, _, _⟩ := F.ex
    obtain ⟨cc, rfl⟩ := He.codeIn_ref hcd
    rw [hq, had] at lk
    rw [hq] at hcd
    rw [hq, had]
    have ecc : He.codeOf K (d.nm, none) = cc := He.codeOf_eq (p := (d.nm, none)) lk rfl
    rw [ecc] at TB
    exact fn_okL (c := mkC T nm P w K mg tb) (S := T.sx d) lk hcd hsc hV TB hm hu hck
/-- a def whose calls keep their promises keeps its own -/
theorem good_def (hT : CkT T) (hl : LamOk T K mg base tb) (hk : KOk T P w K mg) {k f : Nat} (h2 : 2 ≤ k) {call : Nat → Option (mkC T nm P w K mg tb).O → List (mkC T nm P w K mg tb).D → FO (mkC T nm P w K mg tb)} (hc : ∀ f, Good T (mkC T nm P w K mg tb) base k f (call f)) {d : PD} (hd : T.ds[f]? = some d) :
    Good T (mkC T nm P w K mg tb) base (if d.lam then k + 4 else k + 2) f (evD T (mkC T nm P w K mg tb) call d) := fun d' hd' => by
  rw [hd] at hd'
  cases hd'
  have dm : d ∈ T.ds := List.mem_of_getElem? hd
  obtain ⟨fd, F⟩ := hk.fn d dm
  exact ⟨fd, F, fn_okA (law := d) (fun z => by have := all_mem (b2 (b2 hT.cs).2).2 dm; rw [z] at this; exact Option.isNone_iff_eq_none.mp (b2 this).2) F (hl d dm) (vok hT hk h2 hc) (hT.ds d dm).sc (hT.ds d dm).ck⟩
/-- the levels that a call takes -/
def PT.lv (T : PT) : Nat := if T.ds.any (·.lam) then 4 else 2
theorem lv_le {d : PD} (hd : d ∈ T.ds) {k : Nat} : (if d.lam then k + 4 else k + 2) ≤ k + T.lv := by
  unfold PT.lv
  cases h : d.lam with
  | false => simp only [Bool.false_eq_true, if_false]; split <;> omega
  | true =>
    have : T.ds.any (·.lam) = true := List.any_eq_true.mpr ⟨d, hd, h⟩
    rw [this]; exact Nat.le_refl _
theorem good_ev (hT : CkT T) (hl : LamOk T K mg base tb) (hk : KOk T P w K mg) : ∀ k f, Good T (mkC T nm P w K mg tb) base (2 + k * T.lv) f (evF T (mkC T nm P w K mg tb) k f)
  | 0, f => good_bad hk
  | k + 1, f => by
    cases hd : T.ds[f]? with
    | none => exact fun d e => by rw [hd] at e; cases e
    | some d =>
      have e : evF T (mkC T nm P w K mg tb) (k + 1) f = evD T (mkC T nm P w K mg tb) (evF T (mkC T nm P w K mg tb) k) d := by
        show (match T.ds[f]? with | some d => evD T (mkC T nm P w K mg tb) (evF T (mkC T nm P w K mg tb) k) d | none => fun _ _ => .bad) = _
        rw [hd]
      rw [e]
      refine (good_def hT hl hk (by omega) (fun f => good_ev hT hl hk k f) hd).mono (Nat.le_trans (lv_le (List.mem_of_getElem? hd)) ?_)
      rw [Nat.succ_mul]; omega
end
/-! ### the law's walk -/
theorem sql_cut {K : PySem.W.Frag} {H : Hp} {a : Addr} {xs : List L2.V} (h : SqL K H a xs) : SqL K (fun b => match H b with | some (.tbl _) => none | o => o) a xs := by
  rcases h with (h | ⟨o, h⟩) | h
  · exact .inl (.inl (by show (match H a with | some (.tbl _) => none | o => o) = _; rw [h]))
  · exact .inl (.inr ⟨o, by show (match H a with | some (.tbl _) => none | o => o) = _; rw [h]⟩)
  · exact .inr h
theorem repL_ints {c : Cf} {G : Hp} (f : Int → c.nm.T) (hf : ∀ i, c.nm.val (f i) = i) : ∀ ns : List Int, RepL c G (ns.map V.int) (ns.map fun i => .int (f i))
  | [] => .nil
  | n :: r => .cons (by rw [show V.int n = V.int (c.nm.val (f n)) by rw [hf]]; exact .int _) (repL_ints f hf r)
/-- the law's own def: q what is drawn of the view, hov the calls that it leans on -/
theorem law_walk {l : PySem.W.OpenLaw} {n k m : Nat} {q : Program} {loose : List Str} {XP : (Str → Option Value) → Heap → Prop} {d : DefRec} {T : PT} {law : PD} {x : Str} (hn : l.most = some n) (hn2 : n ≤ sizeLine) (hdf : d.params.defaults = []) (hr : Room (k + 4) callerA) (hlc : law.cls = none) (hld : law.dfl = []) (hlk : law.kwd = []) (h2 : 2 ≤ k)
    (hT : CkT T) (hsc : FnScope law.N [x] (defScope law.st)) (hps : law.ps = [x]) (hio : law.io = false) (hck : (chk (T.sx law) law.body).b (defScope law.st) (defBody law.st) = true) (hdn : d.name = law.nm)
    (hbd : ∀ (K : PySem.W.Frag) (f : Addr) (fd : FuncData), Fun K law.nm law.nm law.st f fd → ∀ (s : Shared) (u : Value), BindsTo s fd ⟨[u], []⟩ [(x, u)])
    (call : ∀ (w : World) (K : PySem.W.Frag) (mg : Str → Option Value) (tb : List (Addr × Str)), Nat → Option (mkC T IntN l.prog w K mg tb).O → List (mkC T IntN l.prog w K mg tb).D → FO (mkC T IntN l.prog w K mg tb))
    (hcall : ∀ (w : World) (K : PySem.W.Frag) (mg : Str → Option Value) (tb : List (Addr × Str)) (base : Heap), KOk T l.prog w K mg → LamOk T K mg base tb → ∀ f, Good T (mkC T IntN l.prog w K mg tb) base k f (call w K mg tb f))
    (hlaw : ∀ (w : World) (K : PySem.W.Frag) (mg : Str → Option Value) (tb : List (Addr × Str)) (ns : List Int), ns.length ≤ n → evD T (mkC T IntN l.prog w K mg tb) (call w K mg tb) law none [.scr (ns.map fun i => .int i)] = .ok (.fr (.bl true)) none) :
    PySem.W.WalkO q loose XP (T.hook law m).says l.row.toRowW d [] (fun f vs => PySem.call f vs) := by
  refine LamX.walk_ofTsE (l := l) (n := n) (k := k + 4) (x := x) (CX := fun w => L2.CX l.prog w) hn hn2 hdf hr (fun w mg fa h Y G hmg => ?_) (fun w H s e s' z => by
    obtain ⟨_, _, _, _, _, _, _, _, _, _, _, _, z⟩ := z
    exact z.elim)
  obtain ⟨K, KX, S⟩ := Y
  obtain ⟨hk, hnd, hga, fd, F⟩ := kok (P := l.prog) KX G S
  have hfa : mg law.nm = some (.ref fa) := by rw [← hdn]; exact hmg
  obtain rfl : fa = He.ga K law.nm := by rw [hfa] at hga; exact Value.ref.inj (Option.some.inj hga)
  have spok : ∀ (tb : List (Addr × Str)) (H : Hp) (a : Addr) (ns : List Int), ns.length ≤ n → LamX.Tabs tb H → SqL K H a (ns.map V.int) → spF (mkC T IntN l.prog w K mg tb) false (evD T (mkC T IntN l.prog w K mg tb) (call w K mg tb) law) [.ref a] H (fun v _ => v = .bl true) fun _ _ _ => False := fun tb H a ns hlen hTb hS => by
    refine ⟨fun b => match H b with | some (.tbl _) => none | o => o, fun b o e => ?_, hTb, fun b ps e => ?_, .inl ⟨rfl, [.scr (ns.map fun i => .int i)], .cons (.scr (sql_cut hS) (repL_ints (c := mkC T IntN l.prog w K mg tb) (fun i => i) (fun i => rfl) ns)) .nil, ?_⟩⟩
    · have e : (match H b with | some (.tbl _) => none | o => o) = some o := e
      split at e
      · cases e
      · exact e
    · have e : (match H b with | some (.tbl _) => none | o => o) = some (.tbl ps) := e
      split at e
      · cases e
      · rename_i h1 h2; exact h2 ps e
    · rw [hlaw w K mg tb ns hlen]
      refine ⟨rfl, fun v H' G' f j => ?_⟩
      obtain ⟨u, e1, r⟩ := j.rep 0 _ rfl
      obtain rfl : v = u := Option.some.inj (Option.some.inj e1)
      have r := r.unfr
      cases r; rfl
  have hmem : ∀ q ∈ (T.lams law).map (fun d => ((d.nm, none) : He.Defn)), q ∈ (T.lams law).map fun d => ((d.nm, none) : He.Defn) := fun q h => h
  have uniq : ∀ {ls : List PD}, (ls.map (lamP K)).Nodup → ∀ d ∈ ls, ∀ p ∈ ls.map (fun d => (lamP K d, lamQ d)), p.1 = lamP K d → p.2 = lamQ d := by
    intro ls
    induction ls with
    | nil => intro _ d hd; cases hd
    | cons a r ih =>
      intro nd d hd p hp e
      rw [List.map_cons] at nd
      obtain ⟨n1, n2⟩ := List.nodup_cons.mp nd
      rw [List.map_cons] at hp
      rcases List.mem_cons.mp hd with rfl | hd
      · rcases List.mem_cons.mp hp with rfl | hp
        · rfl
        · obtain ⟨b, hb, rfl⟩ := List.mem_map.mp hp
          exact absurd (e ▸ List.mem_map_of_mem hb) n1
      · rcases List.mem_cons.mp hp with rfl | hp
        · have e : lamP K a = lamP K d := e
          exact absurd (e ▸ List.mem_map_of_mem hd) n1
        · exact ih n2 d hd p hp e
  refine ⟨K, KX, fd, (T.lams law).map (fun d => (He.codeOf K (d.nm, none), lamP K d)), spF (mkC T IntN l.prog w K mg (T.tb law K)) false (evD T (mkC T IntN l.prog w K mg (T.tb law K)) (call w K mg (T.tb law K)) law), fun p hp => ?_, fun p hp => ?_, fun p hp => ?_, hbd K _ fd F, fun H a ns hlen _ hH hS => spok _ H a ns hlen (fun p hp => ?_) hS, fun base hb1 hb2 TB => ?_⟩
  · obtain ⟨d, hd, rfl⟩ := List.mem_map.mp hp
    exact S.x.empty _ (List.mem_map_of_mem hd)
  · obtain ⟨d, hd, rfl⟩ := List.mem_map.mp hp
    exact S.x.out _ (List.mem_map_of_mem hd)
  · obtain ⟨d, hd, rfl⟩ := List.mem_map.mp hp
    exact PySem.W.codeHd_of_K KX (S.x.hd _ (List.mem_map_of_mem hd))
  · obtain ⟨d, hd, rfl⟩ := List.mem_map.mp hp
    exact ⟨#[], hH (He.codeOf K (d.nm, none), lamP K d) (List.mem_map_of_mem hd), by trivial, fun pos cv hc => by cases hc⟩
  · have at_ : ∀ d ∈ T.lams law, LamAt K mg base (T.tb law K) d := fun d hd => ⟨TB _ (List.mem_map_of_mem hd), List.mem_map_of_mem hd, uniq hnd d hd⟩
    have hLam : LamOk T K mg base (T.tb law K) := fun d hd hl => at_ d (List.mem_filter.mpr ⟨List.mem_append_left _ hd, hl⟩)
    have hq : law.qual = law.nm := by unfold PD.qual; rw [hlc]
    have had : law.ad K = He.ga K law.nm := by unfold PD.ad; rw [hlc]
    have F2 : law.fnD K (law.ad K) fd := by
      obtain ⟨oc, od, kV, doc, pm, an, cdv, ct, osl, e, lk, hcd⟩ := F.ex
      have e1 : law.dvs K = [] := by unfold PD.dvs; rw [hld]; rfl
      have e2 : law.kws K = [] := by unfold PD.kws; rw [hlk]; rfl
      unfold PD.fnD
      rw [hq, had, e1, e2]
      exact ⟨⟨oc, od, .none, kV, doc, pm, an, cdv, ct, osl, e, lk, hcd, .inl ⟨rfl, rfl⟩, .inl rfl⟩, F.kp⟩
    have ok := fn_okA (T := T) (nm := IntN) (P := l.prog) (w := w) (tb := T.tb law K) (base := base) (law := law) (fun _ => hlc) F2 (fun hl => at_ law (List.mem_filter.mpr ⟨List.mem_append_right _ (List.mem_singleton.mpr rfl), hl⟩)) (vok hT hk h2 (d := law) (hcall w K mg _ base hk hLam)) (by rw [hps]; exact hsc) hck
    rw [hps, hio, had] at ok
    exact ok.mono (by split <;> omega)
end Y

set_option Elab.async false
set_option linter.all false
set_option maxRecDepth 100000
set_option maxHeartbeats 4000000
namespace Y
open PySem PySem.Spec PyProof.Rows L2
/-! ## calls of defs with defaults -/
theorem dflV_nil {K : PySem.W.Frag} {dV : Value} (h : DflV K dV []) : dV = .none := by
  rcases h with ⟨_, e⟩ | ⟨n, _⟩
  · exact e
  · exact absurd rfl n
section
variable {K : PySem.W.Frag} {x qual : Str} {pa : Arguments} {bd : List Stmt} {sc : Scope} {dvs : List L2.V} {kws : List (Str × L2.V)} {f : Addr} {fd : FuncData} {ps ks : List Str} {np : Nat} {perm : List Nat}
theorem kb_dk (F : FunD K x qual pa bd sc dvs kws f fd) (hd : dvs ≠ []) (hk : kws ≠ [])
    (h : ∀ (T D : Addr) (doc pm : Value) (an : Option Addr) (cdv ct : Value) (us ws its mv : List Value), us.length = np → ws.length = ks.length → its.length = dvs.length → mv.length = kws.length →
      ∃ k, bindArgs (PySem.W.fnOf x qual pa bd sc (.ref T) (.ref D) doc pm an cdv ct) ⟨us, ks.zip ws⟩ = seqItems? (.ref T) >>= k ∧ KwChain D (((kws.map (·.1)).zip mv).filter fun q => !ks.contains q.1) (k (some its.toArray)) (ps.zip (pick (us ++ ws ++ (its ++ mv)) perm))) :
    KB K fd ps (dvs ++ kws.map (·.2)) np ks perm := by
  obtain ⟨oc, od, dV, kV, doc, pm, an, cdv, ct, osl, rfl, lk, hcd, hD, hK⟩ := F.ex
  rcases hD with ⟨e, _⟩ | ⟨_, T, o, its, m, rfl, lT, oT, rT⟩
  · exact absurd e hd
  rcases hK with e | ⟨D, rfl, hq⟩
  · exact absurd e hk
  obtain ⟨mv, hl, rk, hks⟩ := kwd_vals hq
  refine ⟨its ++ mv, rT.append rk, fun s us ws X l1 l2 => ?_⟩
  obtain ⟨k, e1, e2⟩ := h T D doc pm an cdv ct us ws its mv l1 l2 rT.length.symm hl
  refine BindsTo.of_looks fun M => ?_
  rw [e1]
  exact looks_items X lT oT (KwChain.looks X (fun q hq => hks q (List.mem_filter.mp hq).1) e2)
theorem kb_d (F : FunD K x qual pa bd sc dvs kws f fd) (hd : dvs ≠ []) (hk : kws = [])
    (h : ∀ (T : Addr) (kV doc pm : Value) (an : Option Addr) (cdv ct : Value) (us ws its : List Value), us.length = np → ws.length = ks.length → its.length = dvs.length →
      ∃ k, bindArgs (PySem.W.fnOf x qual pa bd sc (.ref T) kV doc pm an cdv ct) ⟨us, ks.zip ws⟩ = seqItems? (.ref T) >>= k ∧ k (some its.toArray) = pure (ps.zip (pick (us ++ ws ++ its) perm))) :
    KB K fd ps (dvs ++ kws.map (·.2)) np ks perm := by
  subst hk
  obtain ⟨oc, od, dV, kV, doc, pm, an, cdv, ct, osl, rfl, lk, hcd, hD, hK⟩ := F.ex
  rcases hD with ⟨e, _⟩ | ⟨_, T, o, its, m, rfl, lT, oT, rT⟩
  · exact absurd e hd
  refine ⟨its, by simpa using rT, fun s us ws X l1 l2 => ?_⟩
  obtain ⟨k, e1, e2⟩ := h T kV doc pm an cdv ct us ws its l1 l2 rT.length.symm
  refine BindsTo.of_looks fun M => ?_
  rw [e1]
  exact looks_items X lT oT (PySem.W.Looks.of_pure e2)
theorem kb_k (F : FunD K x qual pa bd sc dvs kws f fd) (hd : dvs = []) (hk : kws ≠ [])
    (h : ∀ (D : Addr) (doc pm : Value) (an : Option Addr) (cdv ct : Value) (us ws mv : List Value), us.length = np → ws.length = ks.length → mv.length = kws.length →
      KwChain D (((kws.map (·.1)).zip mv).filter fun q => !ks.contains q.1) (bindArgs (PySem.W.fnOf x qual pa bd sc .none (.ref D) doc pm an cdv ct) ⟨us, ks.zip ws⟩) (ps.zip (pick (us ++ ws ++ mv) perm))) :
    KB K fd ps (dvs ++ kws.map (·.2)) np ks perm := by
  subst hd
  obtain ⟨oc, od, dV, kV, doc, pm, an, cdv, ct, osl, rfl, lk, hcd, hD, hK⟩ := F.ex
  obtain rfl := dflV_nil hD
  rcases hK with e | ⟨D, rfl, hq⟩
  · exact absurd e hk
  obtain ⟨mv, hl, rk, hks⟩ := kwd_vals hq
  refine ⟨mv, by simpa using rk, fun s us ws X l1 l2 => ?_⟩
  refine BindsTo.of_looks fun M => ?_
  exact KwChain.looks X (fun q hq => hks q (List.mem_filter.mp hq).1) (h D doc pm an cdv ct us ws mv l1 l2 hl)
end
end Y

set_option Elab.async false
set_option linter.all false
set_option maxRecDepth 100000
set_option maxHeartbeats 4000000
namespace Y
open PySem PySem.Spec PyProof.Rows L2
/-! ## from one kind of numbers to another -/
mutual
def D.map {A B : Type} (g : A → B) : D A → D B
  | .non => .non
  | .bl b => .bl b
  | .int n => .int (g n)
  | .str s => .str s
  | .tup l => .tup (D.maps g l)
  | .lst l => .lst (D.maps g l)
  | .obj c l => .obj c (D.maps g l)
  | .dct ks vs => .dct (D.maps g ks) (D.maps g vs)
  | .scr l => .scr (D.maps g l)
def D.maps {A B : Type} (g : A → B) : List (D A) → List (D B)
  | [] => []
  | d :: r => D.map g d :: D.maps g r
end
mutual
def OT.map {A B : Type} (g : A → B) : OT A → OT B
  | .fr d => .fr (D.map g d)
  | .lst l => .lst (OT.maps g l)
  | .dct ks vs => .dct (D.maps g ks) (D.maps g vs)
  | .obj c l => .obj c (D.maps g l)
def OT.maps {A B : Type} (g : A → B) : List (OT A) → List (OT B)
  | [] => []
  | d :: r => OT.map g d :: OT.maps g r
end
theorem D.maps_len {A B : Type} (g : A → B) : ∀ l : List (D A), (D.maps g l).length = l.length
  | [] => rfl
  | d :: r => congrArg Nat.succ (D.maps_len g r)
def FO.mapG {c c' : Cf} (g : c.nm.T → c'.nm.T) : FO c → FO c'
  | .ok o io => .ok (OT.map g o) (io.map (OT.map g))
  | .exc n fs => .exc n (D.maps g fs)
  | .bad => .bad
section
variable {T : PT} {nm nm' : Num} {P : Program} {w : World} {K : PySem.W.Frag} {mg : Str → Option Value} {tb : List (Addr × Str)} {base : Heap} {g : nm.T → nm'.T}
mutual
theorem rep_map (hg : ∀ n, nm'.val (g n) = nm.val n) {G : Hp} : ∀ {v : V} {d : D nm.T}, Rep (mkC T nm P w K mg tb) G v d → Rep (mkC T nm' P w K mg tb) G v (D.map g d)
  | _, _, .non => .non
  | _, _, .bl b => .bl b
  | _, _, .int n => by
    have e : V.int (nm.val n) = V.int (nm'.val (g n)) := congrArg V.int (hg n).symm
    show Rep (mkC T nm' P w K mg tb) G (V.int (nm.val n)) (.int (g n))
    rw [e]; exact .int (c := mkC T nm' P w K mg tb) (g n)
  | _, _, .str s => .str s
  | _, _, .tup s r => .tup s (rep_maps hg r)
  | _, _, .lst s r => .lst s (rep_maps hg r)
  | _, _, .dct s r1 r2 => .dct s (rep_maps hg r1) (rep_maps hg r2)
  | _, _, .scr s r => .scr s (rep_maps hg r)
  | _, _, .obj s e r => .obj (c := mkC T nm' P w K mg tb) s (e.trans (congrArg (fun n => List.take n _) (D.maps_len g _).symm)) (rep_maps hg r)
theorem rep_maps (hg : ∀ n, nm'.val (g n) = nm.val n) {G : Hp} : ∀ {v : List V} {d : List (D nm.T)}, RepL (mkC T nm P w K mg tb) G v d → RepL (mkC T nm' P w K mg tb) G v (D.maps g d)
  | _, _, .nil => .nil
  | _, _, .cons a b => .cons (rep_map hg a) (rep_maps hg b)
end
mutual
theorem rep_unmap (hg : ∀ n, nm'.val (g n) = nm.val n) {G : Hp} : ∀ {v : V} {d : D nm.T}, Rep (mkC T nm' P w K mg tb) G v (D.map g d) → Rep (mkC T nm P w K mg tb) G v d
  | _, .non, .non => .non
  | _, .bl _, .bl b => .bl b
  | _, .int n, h => by
    have e : V.int (nm.val n) = V.int (nm'.val (g n)) := congrArg V.int (hg n).symm
    cases h
    show Rep (mkC T nm P w K mg tb) G (V.int (nm'.val (g n))) (.int n)
    rw [← e]; exact .int (c := mkC T nm P w K mg tb) n
  | _, .str _, .str s => .str s
  | _, .tup _, .tup s r => .tup s (rep_unmaps hg r)
  | _, .lst _, .lst s r => .lst s (rep_unmaps hg r)
  | _, .dct _ _, .dct s r1 r2 => .dct s (rep_unmaps hg r1) (rep_unmaps hg r2)
  | _, .scr _, .scr s r => .scr s (rep_unmaps hg r)
  | _, .obj _ _, .obj s e r => .obj (c := mkC T nm P w K mg tb) s (e.trans (congrArg (fun n => List.take n _) (D.maps_len g _))) (rep_unmaps hg r)
theorem rep_unmaps (hg : ∀ n, nm'.val (g n) = nm.val n) {G : Hp} : ∀ {v : List V} {d : List (D nm.T)}, RepL (mkC T nm' P w K mg tb) G v (D.maps g d) → RepL (mkC T nm P w K mg tb) G v d
  | _, [], .nil => .nil
  | _, _ :: _, .cons a b => .cons (rep_unmap hg a) (rep_unmaps hg b)
end
mutual
theorem orep_map (hg : ∀ n, nm'.val (g n) = nm.val n) {G H : Hp} : ∀ {v : V} {d : OT nm.T} {f : List Addr}, ORep (mkC T nm P w K mg tb) G H v d f → ORep (mkC T nm' P w K mg tb) G H v (OT.map g d) f
  | _, _, _, .fr r => .fr (rep_map hg r)
  | _, _, _, .lst h1 h2 r => .lst h1 h2 (orep_maps hg r)
  | _, _, _, .dct h1 h2 r1 r2 => .dct h1 h2 (rep_maps hg r1) (rep_maps hg r2)
  | _, _, _, .obj h1 h2 e r => .obj (c := mkC T nm' P w K mg tb) h1 h2 (e.trans (congrArg (fun n => List.take n _) (D.maps_len g _).symm)) (rep_maps hg r)
theorem orep_maps (hg : ∀ n, nm'.val (g n) = nm.val n) {G H : Hp} : ∀ {v : List V} {d : List (OT nm.T)} {f : List Addr}, ORepL (mkC T nm P w K mg tb) G H v d f → ORepL (mkC T nm' P w K mg tb) G H v (OT.maps g d) f
  | _, _, _, .nil => .nil
  | _, _, _, .cons a b => .cons (orep_map hg a) (orep_maps hg b)
end
theorem fq_back (hg : ∀ n, nm'.val (g n) = nm.val n) {E : Ent} {Q : VK} {EW : XK} {r : FO (mkC T nm P w K mg tb)} (hp : E.pin = none) (h : FQ (mkC T nm' P w K mg tb) E Q EW (FO.mapG g r)) : FQ (mkC T nm P w K mg tb) E Q EW r := by
  cases r with
  | bad => exact h
  | exc n fs =>
    intro d H' jx
    obtain ⟨G, f, vs, j, e, r⟩ := jx
    exact h d H' ⟨G, f, vs, ⟨j.sub, j.sub0, j.old, j.tab, j.own, j.liv, j.unf, fun i o e => by simp at e, j.nd, j.dj, j.out, j.a0, j.ntb⟩, e, rep_maps hg r⟩
  | ok o io =>
    obtain ⟨h1, h2⟩ := h
    cases io with
    | some o' => rw [hp] at h1; cases h1
    | none =>
      refine ⟨by rw [hp]; rfl, fun v H' G' f j => h2 v H' G' f ?_⟩
      refine ⟨j.sub, j.sub0, j.old, j.tab, j.own, j.liv, j.unf, fun i x e => ?_, j.nd, j.dj, j.out, j.a0, j.ntb⟩
      match i, e with
      | 0, e =>
        cases e
        obtain ⟨u, e1, r⟩ := j.rep 0 o rfl
        exact ⟨u, e1, orep_map hg r⟩
      | i + 1, e => simp [ioC] at e
theorem fun_uniq {d : PD} {f : Addr} {fd fd' : FuncData} (F : d.fnD K f fd) (F' : d.fnD K f fd') : fd = fd' := by
  obtain ⟨oc, od, dV, kV, doc, pm, an, cdv, ct, osl, e, lk, _⟩ := F.ex
  obtain ⟨oc', od', dV', kV', doc', pm', an', cdv', ct', osl', e', lk', _⟩ := F'.ex
  rw [lk] at lk'
  have z := Option.some.inj lk'
  injection z with z1 z2 z3 z4
  injection z3
/-- what holds of numbers of one kind, asked at others -/
theorem good_tr {ι : Type} (nmOf : ι → Num) {k f : Nat} {F' : Option (OT nm'.T) → List (D nm'.T) → FO (mkC T nm' P w K mg tb)} (F : ∀ i : ι, Option (OT (nmOf i).T) → List (D (nmOf i).T) → FO (mkC T (nmOf i) P w K mg tb)) (hk : KOk T P w K mg) (hio : ∀ d, T.ds[f]? = some d → d.io = false) (hF : ∀ i, Good T (mkC T (nmOf i) P w K mg tb) base k f (F i))
    (h : ∀ ds, F' none ds = .bad ∨ ∃ (i : ι) (g : (nmOf i).T → nm'.T) (ds0 : List (D (nmOf i).T)), (∀ n, nm'.val (g n) = (nmOf i).val n) ∧ ds = D.maps g ds0 ∧ F' none ds = FO.mapG (c := mkC T (nmOf i) P w K mg tb) (c' := mkC T nm' P w K mg tb) g (F i none ds0)) : Good T (mkC T nm' P w K mg tb) base k f F' := fun d hd => by
  obtain ⟨fd, F0⟩ := hk.fn d (List.mem_of_getElem? hd)
  have key : ∀ vs H Q E, spF (mkC T nm' P w K mg tb) d.io F' vs H Q E → ∃ i : ι, spF (mkC T (nmOf i) P w K mg tb) d.io (F i) vs H Q E := fun vs H Q E hs => by
    obtain ⟨G, s1, s2, s3, ⟨e, ds, r, hq⟩ | ⟨e, _⟩⟩ := hs
    · rcases h ds with z | ⟨i, g, ds0, hg, rfl, z⟩
      · have hq : FQ (mkC T nm' P w K mg tb) ⟨H, G, [], none⟩ Q E .bad := z ▸ hq
        exact hq.elim
      · have hq : FQ (mkC T nm' P w K mg tb) ⟨H, G, [], none⟩ Q E (FO.mapG (c := mkC T (nmOf i) P w K mg tb) (c' := mkC T nm' P w K mg tb) g (F i none ds0)) := z ▸ hq
        exact ⟨i, G, s1, s2, s3, .inl ⟨e, ds0, rep_unmaps hg r, fq_back hg rfl hq⟩⟩
    · rw [hio d hd] at e; cases e
  refine ⟨fd, F0, ⟨fun vs H Q E hs => ?_, fun A outer s H args us vs Q E hr e0 hb r hs => ?_⟩⟩
  · obtain ⟨i, q⟩ := key vs H Q E hs
    obtain ⟨fd1, F1, G1⟩ := hF i d hd
    exact G1.len _ _ _ _ q
  · obtain ⟨i, q⟩ := key vs H Q E hs
    obtain ⟨fd1, F1, G1⟩ := hF i d hd
    obtain rfl := fun_uniq F0 F1
    exact G1.run A outer s H args us vs Q E hr e0 hb r q
end
/-- sums of unknown numbers, at their values -/
theorem lin_val {xs : List Int} {hx : ∀ x ∈ xs, x.natAbs < 2 ^ 200} (n : LT) : IntN.val ((LinN xs hx).val n) = (LinN xs hx).val n := rfl
end Y

set_option Elab.async false
set_option linter.all false
set_option maxRecDepth 100000
set_option maxHeartbeats 4000000
namespace Y
open PySem PySem.Spec PyProof.Rows L2
/-! ## stepping through a core term by rewriting -/
section
variable {c : Cf}
@[simp] theorem bind_ok {α β : Type} (a : α) (ρ : Rho c) (f : α → Rho c → Out c β) : Out.bind (.ok a ρ) f = f a ρ := rfl
@[simp] theorem bind_exc {α β : Type} (n : Nat) (fs : List c.D) (f : α → Rho c → Out c β) : Out.bind (.exc n fs) f = .exc n fs := rfl
@[simp] theorem bind_bad {α β : Type} (f : α → Rho c → Out c β) : Out.bind .bad f = .bad := rfl
@[simp] theorem ofOut_ok {α : Type} (a : α) (ρ : Rho c) (f : α → Rho c → SO c) : ofOut (.ok a ρ) f = f a ρ := rfl
@[simp] theorem ofOut_exc {α : Type} (n : Nat) (fs : List c.D) (f : α → Rho c → SO c) : ofOut (.exc n fs) f = .exc n fs := rfl
@[simp] theorem tO_o (ρ : Rho c) (x : c.O) : tO ρ (.o x) = some x := rfl
theorem tO_sl (ρ : Rho c) (i : Nat) : tO ρ (.sl i) = (ρ[i]?).join := rfl
/-- reading and setting a place -/
def gt (ρ : Rho c) (i : Nat) : Option c.O := (ρ[i]?).join
@[simp] theorem gt_0 (a : Option c.O) (r : Rho c) : gt (a :: r) 0 = a := by cases a <;> rfl
@[simp] theorem gt_s (a : Option c.O) (r : Rho c) (i : Nat) : gt (a :: r) (i + 1) = gt r i := rfl
@[simp] theorem tO_gt (ρ : Rho c) (i : Nat) : tO ρ (.sl i) = gt ρ i := rfl
@[simp] theorem join_gt (ρ : Rho c) (i : Nat) : (ρ[i]?).join = gt ρ i := rfl
@[simp] theorem set_0 (a b : Option c.O) (r : Rho c) : List.set (a :: r) 0 b = b :: r := rfl
@[simp] theorem set_s (a b : Option c.O) (r : Rho c) (i : Nat) : List.set (a :: r) (i + 1) b = a :: List.set r i b := rfl
def bi (f : c.O → c.O → Option c.O) (ρ : Rho c) (x y : Option c.O) : Out c (Tm c) := match x, y with
  | some x, some y => match f x y with
    | some r => .ok (.o r) ρ
    | none => .bad
  | _, _ => .bad
def un (f : c.O → Option c.O) (ρ : Rho c) (x : Option c.O) : Out c (Tm c) := match x with
  | some x => match f x with
    | some r => .ok (.o r) ρ
    | none => .bad
  | none => .bad
@[simp] theorem bi_some (f : c.O → c.O → Option c.O) (ρ : Rho c) (x y : c.O) : bi f ρ (some x) (some y) = match f x y with | some r => .ok (.o r) ρ | none => .bad := rfl
@[simp] theorem un_some (f : c.O → Option c.O) (ρ : Rho c) (x : c.O) : un f ρ (some x) = match f x with | some r => .ok (.o r) ρ | none => .bad := rfl
def tru (ρ : Rho c) (x : Option c.O) : Out c Bool := match x with
  | some x => match truD x.d with
    | some b => .ok b ρ
    | none => .bad
  | none => .bad
def fr1 (ρ : Rho c) (t : Tm c) (x : Option c.O) : Out c c.D := match x with
  | some x => .ok x.d (fzR ρ t x.d)
  | none => .bad
@[simp] theorem tru_some (ρ : Rho c) (x : c.O) : tru ρ (some x) = match truD x.d with | some b => .ok b ρ | none => .bad := rfl
@[simp] theorem fr1_some (ρ : Rho c) (t : Tm c) (x : c.O) : fr1 ρ t (some x) = .ok x.d (fzR ρ t x.d) := rfl
@[simp] theorem fzR_o (ρ : Rho c) (x : c.O) (d : c.D) : fzR ρ (.o x) d = ρ := rfl
@[simp] theorem fzR_sl (ρ : Rho c) (i : Nat) (d : c.D) : fzR ρ (.sl i) d = ρ.set i (some (.fr d)) := rfl
@[simp] theorem d_fr (d : c.D) : OT.d (OT.fr d) = d := rfl
@[simp] theorem d_lst (l : List c.O) : OT.d (OT.lst l) = .lst (OT.ds l) := rfl
@[simp] theorem ds_nil : OT.ds ([] : List c.O) = [] := rfl
@[simp] theorem ds_cons (o : c.O) (l : List c.O) : OT.ds (o :: l) = o.d :: OT.ds l := rfl
theorem frS_eq (a : Rho c → Out c (Tm c)) (ρ : Rho c) : frS a ρ = (a ρ).bind fun t1 ρ1 => fr1 ρ1 t1 (tO ρ1 t1) := by
  unfold frS fr1; rfl
def vl1 (ρ : Rho c) (t : Tm c) : Out c c.O := match t with
  | .o x => .ok x ρ
  | .sl i => match gt ρ i with
    | some x => .ok (.fr x.d) (fzR ρ t x.d)
    | none => .bad
@[simp] theorem vl1_o (ρ : Rho c) (x : c.O) : vl1 ρ (.o x) = .ok x ρ := rfl
@[simp] theorem vl1_sl (ρ : Rho c) (i : Nat) : vl1 ρ (.sl i) = match gt ρ i with | some x => .ok (.fr x.d) (ρ.set i (some (.fr x.d))) | none => .bad := rfl
def ag1 (ρ : Rho c) (t : Tm c) : Out c (Tm c) := match t with
  | .o x => .ok (.o (.fr x.d)) ρ
  | .sl i => .ok (.sl i) ρ
@[simp] theorem ag1_o (ρ : Rho c) (x : c.O) : ag1 ρ (.o x) = .ok (.o (.fr x.d)) ρ := rfl
@[simp] theorem ag1_sl (ρ : Rho c) (i : Nat) : ag1 ρ (.sl i) = .ok (.sl i) ρ := rfl
def tst1 (ρ : Rho c) (x : Option c.O) : Out c Bool := match x.bind boolO with
  | some b => .ok b ρ
  | none => .bad
@[simp] theorem tst1_bl (ρ : Rho c) (b : Bool) : tst1 ρ (some (.fr (.bl b))) = .ok b ρ := rfl
variable {V : Ev c} {p : Bool} {ρ : Rho c}
@[simp] theorem o_var (i : Nat) : (sem V p (.var i)).o ρ = match gt ρ i with | some _ => .ok (.sl i) ρ | none => .bad := rfl
@[simp] theorem o_glo (g : Nat) : (sem V p (.glo g)).o ρ = .ok (.o (.fr (V.glo g))) ρ := rfl
@[simp] theorem o_int (i : Int) : (sem V p (.int i)).o ρ = .ok (.o (.fr (.int (c.nm.lit i)))) ρ := rfl
@[simp] theorem o_str (s : Str) : (sem V p (.str s)).o ρ = .ok (.o (.fr (.str s))) ρ := rfl
@[simp] theorem o_bl (b : Bool) : (sem V p (.bl b)).o ρ = .ok (.o (.fr (.bl b))) ρ := rfl
@[simp] theorem o_non : (sem V p .non).o ρ = .ok (.o (.fr .non)) ρ := rfl
@[simp] theorem o_bin (k : Nat) (a b : M) : (sem V p (.bin k a b)).o ρ = ((sem V p a).o ρ).bind fun t1 ρ1 => ((sem V p b).o ρ1).bind fun t2 ρ2 => bi (binK k) ρ2 (tO ρ2 t1) (tO ρ2 t2) := rfl
@[simp] theorem o_cmp (k : Nat) (a b : M) : (sem V p (.cmp k a b)).o ρ = ((sem V p a).o ρ).bind fun t1 ρ1 => ((sem V p b).o ρ1).bind fun t2 ρ2 => bi (cmpK k) ρ2 (tO ρ2 t1) (tO ρ2 t2) := rfl
@[simp] theorem t_cmp (k : Nat) (a b : M) : (sem V p (.cmp k a b)).t ρ = ((sem V p (.cmp k a b)).o ρ).bind fun t1 ρ1 => tst1 ρ1 (tO ρ1 t1) := rfl
@[simp] theorem o_idx (a b : M) : (sem V p (.idx a b)).o ρ = ((sem V p a).o ρ).bind fun t1 ρ1 => ((sem V p b).o ρ1).bind fun t2 ρ2 => bi idxO ρ2 (tO ρ2 t1) (tO ρ2 t2) := rfl
@[simp] theorem o_dix (a b : M) : (sem V p (.dix a b)).o ρ = ((sem V p a).o ρ).bind fun t1 ρ1 => ((sem V p b).o ρ1).bind fun t2 ρ2 => bi dgetO ρ2 (tO ρ2 t1) (tO ρ2 t2) := rfl
@[simp] theorem o_neg (a : M) : (sem V p (.neg a)).o ρ = ((sem V p a).o ρ).bind fun t1 ρ1 => un negO ρ1 (tO ρ1 t1) := rfl
@[simp] theorem o_dgt (g : Nat) (a : M) : (sem V p (.dgt g a)).o ρ = ((sem V p a).o ρ).bind fun t1 ρ1 => un (dgtO (V.dic g)) ρ1 (tO ρ1 t1) := rfl
@[simp] theorem o_isi (k : Nat) (a : M) : (sem V p (.isi k a)).o ρ = ((sem V p a).o ρ).bind fun t1 ρ1 => un (fun x => (kindOf k x.d).map fun b => .fr (.bl b)) ρ1 (tO ρ1 t1) := rfl
@[simp] theorem t_isi (k : Nat) (a : M) : (sem V p (.isi k a)).t ρ = ((sem V p (.isi k a)).o ρ).bind fun t1 ρ1 => tru ρ1 (tO ρ1 t1) := rfl
@[simp] theorem t_var (i : Nat) : (sem V p (.var i)).t ρ = ((sem V p (.var i)).o ρ).bind fun t1 ρ1 => tru ρ1 (tO ρ1 t1) := rfl
@[simp] theorem t_call (f : Nat) (l : M) (pm : List Nat) : (sem V p (.call f l pm)).t ρ = ((sem V p (.call f l pm)).o ρ).bind fun t1 ρ1 => tru ρ1 (tO ρ1 t1) := rfl
@[simp] theorem t_nt (a : M) : (sem V p (.nt a)).t ρ = ((sem V p a).t ρ).bind fun b ρ1 => .ok (!b) ρ1 := rfl
@[simp] theorem t_and (a b : M) : (sem V p (.and a b)).t ρ = ((sem V p a).t ρ).bind fun b1 ρ1 => if b1 then (sem V p b).t ρ1 else .ok false ρ1 := rfl
@[simp] theorem t_or (a b : M) : (sem V p (.or a b)).t ρ = ((sem V p a).t ρ).bind fun b1 ρ1 => if b1 then .ok true ρ1 else (sem V p b).t ρ1 := rfl
@[simp] theorem t_one (a : M) : (sem V p (.one a)).t ρ = (sem V p a).t ρ := rfl
@[simp] theorem t_nop : (sem V p .nop).t ρ = .ok true ρ := rfl
@[simp] theorem o_one (a : M) : (sem V p (.one a)).o ρ = (sem V p a).o ρ := rfl
@[simp] theorem o_ife (t a b : M) : (sem V p (.ife t a b)).o ρ = ((sem V p t).t ρ).bind fun b1 ρ1 => if b1 then (sem V p a).o ρ1 else (sem V p b).o ρ1 := rfl
@[simp] theorem o_tup (l : M) : (sem V p (.tup l)).o ρ = ((sem V p l).f ρ).bind fun ds ρ1 => if 1000000 < ds.length then .bad else .ok (.o (.fr (.tup ds))) ρ1 := rfl
@[simp] theorem o_lst (l : M) : (sem V p (.lst l)).o ρ = ((sem V p l).v ρ).bind fun os ρ1 => if 1000000 < os.length then .bad else .ok (.o (.lst os)) ρ1 := rfl
@[simp] theorem o_call (f : Nat) (l : M) (pm : List Nat) : (sem V p (.call f l pm)).o ρ = (if V.io f then callI (V.call f) (sem V p l).a pm.length else callP (V.call f) (V.dfl f) (sem V p l).a pm) ρ := rfl
@[simp] theorem o_bfc (k : Nat) (l : M) : (sem V p (.bfc k l)).o ρ = ((sem V p l).a ρ).bind fun tms ρ1 => match (tOs ρ1 tms).bind (bfn k) with | some r => .ok (.o r) ρ1 | none => .bad := rfl
@[simp] theorem t_bfc (k : Nat) (l : M) : (sem V p (.bfc k l)).t ρ = ((sem V p (.bfc k l)).o ρ).bind fun t1 ρ1 => tru ρ1 (tO ρ1 t1) := rfl
@[simp] theorem a_nil : (sem V p .nil).a ρ = .ok [] ρ := rfl
@[simp] theorem f_nil : (sem V p .nil).f ρ = .ok [] ρ := rfl
@[simp] theorem v_nil : (sem V p .nil).v ρ = .ok [] ρ := rfl
@[simp] theorem s_nil : (sem V p .nil).s ρ = .nx ρ := rfl
@[simp] theorem a_cons (a r : M) : (sem V p (.cons a r)).a ρ = ((sem V p a).o ρ).bind fun t ρ0 => (ag1 ρ0 t).bind fun x ρ1 => ((sem V p r).a ρ1).bind fun xs ρ2 => .ok (x :: xs) ρ2 := by
  show (agS (sem V p a).o ρ).bind _ = _
  unfold agS
  cases h : (sem V p a).o ρ with
  | ok t ρ0 => cases t <;> rfl
  | _ => rfl
@[simp] theorem f_cons (a r : M) : (sem V p (.cons a r)).f ρ = ((sem V p a).o ρ).bind fun t ρ0 => (fr1 ρ0 t (tO ρ0 t)).bind fun x ρ1 => ((sem V p r).f ρ1).bind fun xs ρ2 => .ok (x :: xs) ρ2 := by
  show (frS (sem V p a).o ρ).bind _ = _
  rw [frS_eq]
  cases h : (sem V p a).o ρ <;> rfl
@[simp] theorem v_cons (a r : M) : (sem V p (.cons a r)).v ρ = ((sem V p a).o ρ).bind fun t ρ0 => (vl1 ρ0 t).bind fun x ρ1 => ((sem V p r).v ρ1).bind fun xs ρ2 => .ok (x :: xs) ρ2 := by
  show (vlS (sem V p a).o ρ).bind _ = _
  unfold vlS
  cases h : (sem V p a).o ρ with
  | ok t ρ0 => cases t <;> rfl
  | _ => rfl
def sq (x : SO c) (f : Rho c → SO c) : SO c := match x with
  | .nx ρ => f ρ
  | y => y
@[simp] theorem sq_nx (ρ : Rho c) (f : Rho c → SO c) : sq (.nx ρ) f = f ρ := rfl
@[simp] theorem sq_rt (o : c.O) (ρ : Rho c) (f : Rho c → SO c) : sq (.rt o ρ) f = .rt o ρ := rfl
@[simp] theorem sq_bk (ρ : Rho c) (f : Rho c → SO c) : sq (.bk ρ) f = .bk ρ := rfl
@[simp] theorem sq_ct (ρ : Rho c) (f : Rho c → SO c) : sq (.ct ρ) f = .ct ρ := rfl
@[simp] theorem sq_exc (n : Nat) (fs : List c.D) (f : Rho c → SO c) : sq (.exc n fs) f = .exc n fs := rfl
@[simp] theorem s_cons (a r : M) : (sem V p (.cons a r)).s ρ = sq ((sem V p a).s ρ) fun ρ1 => (sem V p r).s ρ1 := by
  show (match (sem V p a).s ρ with | .nx ρ1 => (sem V p r).s ρ1 | x => x) = _
  unfold sq
  cases (sem V p a).s ρ <;> rfl
@[simp] theorem g_tn (i : Nat) (o : c.O) : (sem V p (.tn i)).g o ρ = if (p && i == 0) || decide (ρ.length ≤ i) then none else some (ρ.set i (some o)) := rfl
@[simp] theorem g_tt (l : M) (ds : List c.D) : (sem V p (.tt l)).g (.fr (.tup ds)) ρ = (sem V p l).gs ds ρ := rfl
@[simp] theorem gs_nil : (sem V p .nil).gs [] ρ = some ρ := rfl
@[simp] theorem gs_cons (a r : M) (d : c.D) (ds : List c.D) : (sem V p (.cons a r)).gs (d :: ds) ρ = ((sem V p a).g (.fr d) ρ).bind fun ρ1 => (sem V p r).gs ds ρ1 := rfl
@[simp] theorem s_asg (t e : M) : (sem V p (.asg t e)).s ρ = ofOut (((sem V p e).o ρ).bind fun t ρ0 => vl1 ρ0 t) fun o ρ1 => match (sem V p t).g o ρ1 with | some ρ2 => .nx ρ2 | none => .bad := by
  show ofOut (vlS (sem V p e).o ρ) _ = _
  unfold vlS
  cases h : (sem V p e).o ρ with
  | ok t ρ0 => cases t <;> rfl
  | _ => rfl
@[simp] theorem s_iff (t a b : M) : (sem V p (.iff t a b)).s ρ = ofOut ((sem V p t).t ρ) fun b1 ρ1 => if b1 then (sem V p a).s ρ1 else (sem V p b).s ρ1 := rfl
@[simp] theorem s_loop (t it b : M) : (sem V p (.loop t it b)).s ρ = ofOut ((sem V p it).i ρ) fun ds ρ1 => loopS (sem V p t).g (sem V p b).s ds ρ1 := rfl
@[simp] theorem s_brk : (sem V p .brk).s ρ = .bk ρ := rfl
@[simp] theorem s_cnt : (sem V p .cnt).s ρ = .ct ρ := rfl
@[simp] theorem s_pas : (sem V p .pas).s ρ = .nx ρ := rfl
@[simp] theorem s_ret0 : (sem V p .ret0).s ρ = .rt (.fr .non) ρ := rfl
@[simp] theorem s_ex (e : M) : (sem V p (.ex e)).s ρ = ofOut ((sem V p e).o ρ) fun _ ρ1 => .nx ρ1 := rfl
def rt1 (p : Bool) (ρ : Rho c) (t : Tm c) : SO c := match t with
  | .o x => .rt x ρ
  | .sl i => match gt ρ i with
    | some x => if p && i == 0 then .rt (.fr x.d) (ρ.set i (some (.fr x.d))) else .rt x (ρ.set i none)
    | none => .bad
@[simp] theorem rt1_o (ρ : Rho c) (x : c.O) : rt1 p ρ (.o x) = .rt x ρ := rfl
@[simp] theorem rt1_sl (ρ : Rho c) (i : Nat) : rt1 p ρ (.sl i) = match gt ρ i with | some x => if p && i == 0 then .rt (.fr x.d) (ρ.set i (some (.fr x.d))) else .rt x (ρ.set i none) | none => .bad := rfl
@[simp] theorem s_ret (e : M) : (sem V p (.ret e)).s ρ = ofOut ((sem V p e).o ρ) fun t1 ρ1 => rt1 p ρ1 t1 := rfl
@[simp] theorem s_rai (n : Nat) (l : M) : (sem V p (.rai n l)).s ρ = ofOut ((sem V p l).f ρ) fun fs _ => if fs.length = (c.exf n).length then .exc n fs else .bad := rfl
def app1 (ρ : Rho c) (i : Nat) (o : c.O) (x : Option c.O) : SO c := match x with
  | some (.lst os) => if 1000000 < os.length then .bad else .nx (ρ.set i (some (.lst (os ++ [o]))))
  | _ => .bad
@[simp] theorem app1_lst (ρ : Rho c) (i : Nat) (o : c.O) (os : List c.O) : app1 ρ i o (some (.lst os)) = if 1000000 < os.length then .bad else .nx (ρ.set i (some (.lst (os ++ [o])))) := rfl
def isL (x : Option c.O) : Bool := match x with
  | some (.lst _) => true
  | _ => false
@[simp] theorem isL_lst (os : List c.O) : isL (some (.lst os)) = true := rfl
@[simp] theorem s_app (i : Nat) (e : M) : (sem V p (.app i e)).s ρ = if isL (gt ρ i) then ofOut (((sem V p e).o ρ).bind fun t ρ0 => vl1 ρ0 t) fun o ρ1 => app1 ρ1 i o (gt ρ1 i) else .bad := by
  have e0 : (sem V p (.app i e)).s ρ = match gt ρ i with
      | some (.lst _) => ofOut (vlS (sem V p e).o ρ) fun o ρ1 => app1 ρ1 i o (gt ρ1 i)
      | _ => .bad := by
    show (match (ρ[i]?).join with | some (.lst _) => _ | _ => _) = _
    rfl
  rw [e0]
  have e1 : vlS (sem V p e).o ρ = ((sem V p e).o ρ).bind fun t ρ0 => vl1 ρ0 t := by
    unfold vlS
    cases h : (sem V p e).o ρ with
    | ok t ρ0 => cases t <;> rfl
    | _ => rfl
  rw [e1]
  unfold isL
  split <;> simp_all
def pop1 (ρ : Rho c) (i : Nat) (x : Option c.O) (j : Option Int) : SO c := match x, j with
  | some (.lst os), some j => match allFr os with
    | some ds => if j = 0 then match ds with | [] => .bad | _ :: r => .nx (ρ.set i (some (.lst (r.map .fr)))) else .bad
    | none => .bad
  | _, _ => .bad
@[simp] theorem pop1_lst (ρ : Rho c) (i : Nat) (os : List c.O) (j : Int) : pop1 ρ i (some (.lst os)) (some j) = match allFr os with | some ds => if j = 0 then match ds with | [] => .bad | _ :: r => .nx (ρ.set i (some (.lst (r.map .fr)))) else .bad | none => .bad := rfl
@[simp] theorem s_pop0 (i : Nat) (k : M) : (sem V p (.pop0 i k)).s ρ = if isL (gt ρ i) then ofOut ((sem V p k).o ρ) fun t2 ρ1 => pop1 ρ1 i (gt ρ1 i) ((tO ρ1 t2).bind conOf) else .bad := by
  have e0 : (sem V p (.pop0 i k)).s ρ = match gt ρ i with
      | some (.lst _) => ofOut ((sem V p k).o ρ) fun t2 ρ1 => pop1 ρ1 i (gt ρ1 i) ((tO ρ1 t2).bind conOf)
      | _ => .bad := by
    show (match (ρ[i]?).join with | some (.lst _) => _ | _ => _) = _
    rfl
  rw [e0]
  unfold isL
  split <;> simp_all
def sti1 (ρ : Rho c) (i : Nat) (d : c.D) (x : Option c.O) (j : Option Int) : SO c := match x, j with
  | some (.lst os), some j => match allFr os, ixN os.length j with
    | some ds, some n => .nx (ρ.set i (some (.lst ((ds.set n d).map .fr))))
    | _, _ => .bad
  | _, _ => .bad
@[simp] theorem sti1_lst (ρ : Rho c) (i : Nat) (d : c.D) (os : List c.O) (j : Int) : sti1 ρ i d (some (.lst os)) (some j) = match allFr os, ixN os.length j with | some ds, some n => .nx (ρ.set i (some (.lst ((ds.set n d).map .fr)))) | _, _ => .bad := rfl
@[simp] theorem s_sti (i : Nat) (k e : M) : (sem V p (.sti i k e)).s ρ = ofOut (((sem V p e).o ρ).bind fun t ρ0 => fr1 ρ0 t (tO ρ0 t)) fun d ρ1 => if isL (gt ρ1 i) then ofOut ((sem V p k).o ρ1) fun t2 ρ2 => sti1 ρ2 i d (gt ρ2 i) ((tO ρ2 t2).bind conOf) else .bad := by
  have e0 : (sem V p (.sti i k e)).s ρ = ofOut (frS (sem V p e).o ρ) fun d ρ1 => match gt ρ1 i with
      | some (.lst _) => ofOut ((sem V p k).o ρ1) fun t2 ρ2 => sti1 ρ2 i d (gt ρ2 i) ((tO ρ2 t2).bind conOf)
      | _ => .bad := rfl
  rw [e0, frS_eq]
  congr 1
  funext d ρ1
  unfold isL
  split <;> simp_all
@[simp] theorem o_fz (a : M) : (sem V p (.fz a)).o ρ = ((sem V p a).o ρ).bind fun t ρ0 => (fr1 ρ0 t (tO ρ0 t)).bind fun d ρ1 => .ok (.o (.fr d)) ρ1 := by
  show (frS (sem V p a).o ρ).bind _ = _
  rw [frS_eq]
  cases (sem V p a).o ρ <;> rfl
@[simp] theorem o_dgn (g : Nat) (a : M) : (sem V p (.dgn g a)).o ρ = ((sem V p a).o ρ).bind fun t1 ρ1 => un (dgnO (V.dcn g)) ρ1 (tO ρ1 t1) := rfl
@[simp] theorem i_enu (a : M) : (sem V p (.enu a)).i ρ = ((sem V p a).o ρ).bind fun t ρ0 => (fr1 ρ0 t (tO ρ0 t)).bind fun d ρ1 => match seqD d with | some ds => .ok (enuD 0 ds) ρ1 | none => .bad := by
  show (frS (sem V p a).o ρ).bind _ = _
  rw [frS_eq]
  cases (sem V p a).o ρ <;> rfl
@[simp] theorem i_zp (a b : M) : (sem V p (.zp a b)).i ρ = (frS (sem V p a).o ρ).bind fun d ρ1 => (frS (sem V p b).o ρ1).bind fun e ρ2 => match twoD d e with | some q => .ok (zipD q.1 q.2) ρ2 | none => .bad := rfl
@[simp] theorem i_rng1 (a : M) : (sem V p (.rng1 a)).i ρ = ((sem V p a).o ρ).bind fun t1 ρ1 => match (tO ρ1 t1).bind conOf with | some j => if -1000000000 ≤ j ∧ j ≤ 1000000000 then .ok (rngD 0 j.toNat) ρ1 else .bad | none => .bad := rfl
theorem i_expr (a : M) (h : (sem V p a).i = iteS (sem V p a).o) : (sem V p a).i ρ = ((sem V p a).o ρ).bind fun t ρ0 => (fr1 ρ0 t (tO ρ0 t)).bind fun d ρ1 => match seqD d with | some ds => .ok ds ρ1 | none => .bad := by
  rw [h]
  unfold iteS
  rw [frS_eq]
  cases (sem V p a).o ρ <;> rfl
@[simp] theorem i_slc (a lo hi : M) : (sem V p (.slc a lo hi)).i ρ = ((sem V p (.slc a lo hi)).o ρ).bind fun t ρ0 => (fr1 ρ0 t (tO ρ0 t)).bind fun d ρ1 => match seqD d with | some ds => .ok ds ρ1 | none => .bad := i_expr _ rfl
@[simp] theorem i_var (i : Nat) : (sem V p (.var i)).i ρ = ((sem V p (.var i)).o ρ).bind fun t ρ0 => (fr1 ρ0 t (tO ρ0 t)).bind fun d ρ1 => match seqD d with | some ds => .ok ds ρ1 | none => .bad := i_expr _ rfl
@[simp] theorem p_nop : (sem V p .nop).p ρ = .ok none ρ := rfl
@[simp] theorem p_int (i : Int) : (sem V p (.int i)).p ρ = match c.nm.con (c.nm.lit i) with | some j => .ok (some j) ρ | none => .bad := rfl
@[simp] theorem o_slc (a lo hi : M) : (sem V p (.slc a lo hi)).o ρ = ((sem V p a).o ρ).bind fun t1 ρ1 => ((sem V p lo).p ρ1).bind fun i ρ2 => ((sem V p hi).p ρ2).bind fun j ρ3 => match (tO ρ3 t1).bind fun x => slcO x i j with | some r => .ok (.o r) ρ3 | none => .bad := rfl
@[simp] theorem o_tri (b : M) : (sem V p (.tri b)).o ρ = triS V.tag (sem V false b).o ρ := rfl
@[simp] theorem t_tri (b : M) : (sem V p (.tri b)).t ρ = ((sem V p (.tri b)).o ρ).bind fun t1 ρ1 => tru ρ1 (tO ρ1 t1) := rfl
@[simp] theorem o_comp2 (own own1 : List Nat) (tg it t tg1 a1 t1 el : M) : (sem V p (.comp2 own own1 tg it t tg1 a1 t1 el)).o ρ = ((sem V p it).i ρ).bind fun ds ρ1 => if own.any fun k => (gt ρ1 k).isSome || k == 0 then .bad else match compS2 own own1 (sem V p tg).g (sem V p t).t (rg1S (sem V p a1).o) (sem V p tg1).g (sem V p t1).t (sem V p el).o ds [] (wipeR ρ1 own) with | .ok acc ρ2 => .ok (.o (.lst (acc.map .fr))) ρ2 | _ => .bad := rfl
@[simp] theorem o_comp (own : List Nat) (tg it t el : M) : (sem V p (.comp own tg it t el)).o ρ = ((sem V p it).i ρ).bind fun ds ρ1 => if own.any fun k => (gt ρ1 k).isSome || k == 0 then .bad else match compS own (sem V p tg).g (sem V p t).t (sem V p el).o ds [] (wipeR ρ1 own) with | .ok acc ρ2 => .ok (.o (.lst (acc.map .fr))) ρ2 | _ => .bad := rfl
/-- a call that lends nothing that it changes -/
def cp (F : Option c.O → List c.D → FO c) (dfl : List c.D) (pm : List Nat) (tms : List (Tm c)) (ρ : Rho c) : Out c (Tm c) := match (datas ρ tms).bind (fun ds => permute (ds ++ dfl) pm) with
  | some ds => (match F none ds with | .ok r none => if atomO r then .ok (.o r) ρ else .ok (.o r) (fzAll ρ tms) | .exc n fs => .exc n fs | _ => .bad)
  | none => .bad
@[simp] theorem callP_eq (F : Option c.O → List c.D → FO c) (dfl : List c.D) (f : Rho c → Out c (List (Tm c))) (pm : List Nat) : callP F dfl f pm ρ = (f ρ).bind fun tms ρ1 => cp F dfl pm tms ρ1 := rfl
theorem dfl_evV {T : PT} {call : Nat → Option c.O → List c.D → FO c} {f : Nat} {d : PD} (h : T.ds[f]? = some d) (h2 : d.dfl = [] := by rfl) (h3 : d.kwd = [] := by rfl) : (evV T c call).dfl f = [] := by
  show (match T.ds[f]? with | some d => d.dda | none => []) = _
  rw [h]
  show (d.dfl ++ d.kwd.map (·.2)).map dvD = _
  rw [h2, h3]; rfl
def ci (F : Option c.O → List c.D → FO c) (n : Nat) (tms : List (Tm c)) (ρ1 : Rho c) : Out c (Tm c) := match tms with
  | .sl i :: rest => (match gt ρ1 i, datas ρ1 rest with
    | some o, some ds => if decide (rest.length + 1 = n) && rest.all (okIo ρ1 i) then (match F (some o) ds with
      | .ok r (some o') => .ok (.o r) (ρ1.set i (some o'))
      | .exc n fs => .exc n fs
      | _ => .bad) else .bad
    | _, _ => .bad)
  | _ => .bad
@[simp] theorem callI_eq (F : Option c.O → List c.D → FO c) (f : Rho c → Out c (List (Tm c))) (n : Nat) : callI F f n ρ = (f ρ).bind fun tms ρ1 => ci F n tms ρ1 := rfl
end
end Y

set_option Elab.async false
set_option linter.all false
set_option maxRecDepth 100000
set_option maxHeartbeats 4000000
namespace Y
open PySem PySem.Spec PyProof.Rows L2
/-! ## calls told by closed forms -/
def evO (T : PT) (c : Cf) (ov : Nat → Option (Option c.O → List c.D → FO c)) : Nat → Nat → Option c.O → List c.D → FO c
  | 0, _ => fun _ _ => .bad
  | k + 1, f => match ov f with
    | some F => F
    | none => match T.ds[f]? with
      | some d => evD T c (evO T c ov k) d
      | none => fun _ _ => .bad
section
variable {T : PT} {nm : Num} {P : Program} {w : World} {K : PySem.W.Frag} {mg : Str → Option Value} {tb : List (Addr × Str)} {base : Heap}
theorem good_evO (hT : CkT T) (hl : LamOk T K mg base tb) (hk : KOk T P w K mg) {j : Nat} (hj : 2 ≤ j) {ov : Nat → Option (Option (mkC T nm P w K mg tb).O → List (mkC T nm P w K mg tb).D → FO (mkC T nm P w K mg tb))} (ho : ∀ f F, ov f = some F → Good T (mkC T nm P w K mg tb) base j f F) :
    ∀ k f, Good T (mkC T nm P w K mg tb) base (j + k * T.lv) f (evO T (mkC T nm P w K mg tb) ov k f)
  | 0, f => good_bad hk
  | k + 1, f => by
    cases ho' : ov f with
    | some F =>
      have e : evO T (mkC T nm P w K mg tb) ov (k + 1) f = F := by unfold evO; rw [ho']
      rw [e]
      exact (ho f F ho').mono (Nat.le_add_right _ _)
    | none =>
      cases hd : T.ds[f]? with
      | none => exact fun d e => by rw [hd] at e; cases e
      | some d =>
        have e : evO T (mkC T nm P w K mg tb) ov (k + 1) f = evD T (mkC T nm P w K mg tb) (evO T (mkC T nm P w K mg tb) ov k) d := by rw [evO, ho', hd]
        rw [e]
        refine (good_def hT hl hk (by omega) (fun f => good_evO hT hl hk hj ho k f) hd).mono (Nat.le_trans (lv_le (List.mem_of_getElem? hd)) ?_)
        rw [Nat.succ_mul]; omega
/-- a closed form: what it tells is what is computed -/
theorem good_or {k f : Nat} {F F' : Option (mkC T nm P w K mg tb).O → List (mkC T nm P w K mg tb).D → FO (mkC T nm P w K mg tb)} (hF : Good T (mkC T nm P w K mg tb) base k f F) (h : ∀ o ds, F' o ds = .bad ∨ F' o ds = F o ds) : Good T (mkC T nm P w K mg tb) base k f F' :=
  hF.imp fun io vs H Q E hs => by
    obtain ⟨G, h1, h2, h3, hh⟩ := hs
    refine ⟨G, h1, h2, h3, ?_⟩
    rcases hh with ⟨e, ds, r, q⟩ | ⟨e, v0, o0, fp, vs', ds, e2, r0, nd, r, q⟩
    · refine .inl ⟨e, ds, r, ?_⟩
      rcases h none ds with z | z
      · rw [z] at q; exact q.elim
      · rw [z] at q; exact q
    · refine .inr ⟨e, v0, o0, fp, vs', ds, e2, r0, nd, r, ?_⟩
      rcases h (some o0) ds with z | z
      · rw [z] at q; exact q.elim
      · rw [z] at q; exact q
end
end Y

set_option Elab.async false
set_option linter.all false
set_option maxRecDepth 100000
set_option maxHeartbeats 4000000
namespace Y
open PySem PySem.Spec PyProof.Rows L2
/-! ## what each law draws from its pot -/
structure Exact (n : Num) : Prop where
  cmp : ∀ a b, n.cmp a b = some (compare (n.val a) (n.val b))
  mod : ∀ a b, 0 < n.val b → ∃ c, n.mod a b = some c
  div : ∀ a b, 0 < n.val b → (n.val b).natAbs.log2 < 9000 → ∃ c, n.div a b = some c
  add : ∀ a b, ∃ c, n.add a b = some c
  sub : ∀ a b, ∃ c, n.sub a b = some c
  con : ∀ a, n.con a = some (n.val a)
theorem exInt : Exact IntN := ⟨fun _ _ => rfl, fun a b h => ⟨_, if_pos h⟩, fun a b h h2 => ⟨_, if_pos ⟨h, h2⟩⟩, fun a b => ⟨_, rfl⟩, fun a b => ⟨_, rfl⟩, fun a => rfl⟩
section
variable {c : Cf}
def pot (os : List c.nm.T) : c.O := .lst (os.map fun i => .fr (.int i))
theorem ds_pot : ∀ os : List c.nm.T, OT.ds (os.map fun i => OT.fr (D.int i)) = os.map fun i => D.int i
  | [] => rfl
  | a :: r => by rw [List.map_cons, List.map_cons]; show _ :: OT.ds _ = _; rw [ds_pot r]; rfl
theorem allFr_pot : ∀ os : List c.nm.T, allFr (c := c) (os.map fun i => OT.fr (D.int i)) = some (os.map fun i => D.int i)
  | [] => rfl
  | a :: r => by
    show (allFr (c := c) (r.map fun i => OT.fr (D.int i))).map (D.int a :: ·) = _
    rw [allFr_pot r]; rfl
theorem deps_pot : ∀ os : List c.nm.T, deps (c := c) (os.map fun i => D.int i) = some 0
  | [] => rfl
  | a :: r => by
    show (match dep (c := c) (D.int a), deps (c := c) (r.map fun i => D.int i) with | some a, some b => some (max a b) | _, _ => none) = _
    rw [deps_pot r]; rfl
theorem shp_pot (os : List c.nm.T) : shp (c := c) (OT.d (pot os)) = true := by
  show (match (deps (c := c) (OT.ds (os.map fun i => OT.fr (D.int i)))).map (· + 1) with | some n => decide (n ≤ 30) | none => false) = true
  rw [ds_pot, deps_pot]; rfl
theorem eq_pot_nil (os : List c.nm.T) : eqO (c := c) (pot os) (.lst []) = some (.fr (.bl os.isEmpty)) := by
  unfold eqO
  rw [shp_pot]
  cases os with
  | nil => rfl
  | cons a r => rfl
theorem at_pot (a : c.nm.T) (r : List c.nm.T) : atI ((a :: r).map fun i => (OT.fr (D.int i) : c.O)) 0 = some (.fr (.int a)) := by
  have : ixN ((a :: r).map fun i => (OT.fr (D.int i) : c.O)).length 0 = some 0 := by
    unfold ixN
    simp
  unfold atI
  rw [this]; rfl
theorem idx_pot (a z : c.nm.T) (r : List c.nm.T) (hz : c.nm.con z = some 0) : idxO (c := c) (pot (a :: r)) (.fr (.int z)) = some (.fr (.int a)) := by
  unfold idxO
  show (match c.nm.con z with | some i => (match atI ((a :: r).map fun i => (OT.fr (D.int i) : c.O)) i with | some (OT.fr d) => some (OT.fr d) | _ => none) | none => none) = _
  rw [hz]
  show (match atI ((a :: r).map fun i => (OT.fr (D.int i) : c.O)) 0 with | some (OT.fr d) => some (OT.fr d) | _ => none) = _
  rw [at_pot]
def drawB : M := (.cons (.iff (.or (.cmp 4 (.var 0) (.lst .nil)) (.one (.cmp 5 (.idx (.var 0) (.int 0)) (.int 0)))) (.cons .brk .nil) .nil) (.cons (.pop0 0 (.int 0)) .nil))
def drawM : M := (.cons (.loop (.tn 2) (.rng1 (.int 64)) drawB) (.cons (.iff (.cmp 4 (.var 0) (.lst .nil)) (.cons (.ret (.int 0)) .nil) .nil) (.cons (.asg (.tn 3) (.bin 4 (.bfc 1 (.cons (.idx (.var 0) (.int 0)) .nil)) (.var 1))) (.cons (.sti 0 (.int 0) (.bin 3 (.idx (.var 0) (.int 0)) (.var 1))) (.cons (.ret (.var 3)) .nil)))))
variable {V : Ev c}
def r4 (os : List c.nm.T) (m : c.nm.T) (t u : Option c.O) : Rho c := [some (pot os), some (.fr (.int m)), t, u]
theorem con_lit (hE : Exact c.nm) (i : Int) : c.nm.con (c.nm.lit i) = some i := by rw [hE.con, c.nm.lit_ok]
theorem isL_pot (os : List c.nm.T) : isL (some (pot os)) = true := rfl
theorem conOf_lit (hE : Exact c.nm) (i : Int) : conOf (c := c) (.fr (.int (c.nm.lit i))) = some i := con_lit hE i
theorem ne_int (hE : Exact c.nm) (a b : c.nm.T) : neO (c := c) (.fr (.int a)) (.fr (.int b)) = some (.fr (.bl (!(compare (c.nm.val a) (c.nm.val b) == .eq)))) := by
  show (if shp (c := c) (.int a) && shp (c := c) (.int b) then (eqD (c := c) (.int a) (.int b)).map (fun b => (OT.fr (D.bl (!b)) : c.O)) else none) = _
  have h1 : ∀ x : c.nm.T, shp (c := c) (.int x) = true := fun x => rfl
  rw [h1, h1]
  show ((c.nm.cmp a b).map (· == .eq)).map (fun b => (OT.fr (D.bl (!b)) : c.O)) = _
  rw [hE.cmp]; rfl
theorem pop_pot (ρ : Rho c) (i : Nat) (a : c.nm.T) (r : List c.nm.T) : pop1 ρ i (some (pot (a :: r))) (some 0) = .nx (ρ.set i (some (pot r))) := by
  unfold pot
  rw [pop1_lst, allFr_pot]
  simp only [List.map_cons, if_true, List.map_map]
  rfl
theorem drawB_nil (m : c.nm.T) (t u : Option c.O) : (sem V true drawB).s (r4 [] m t u) = .bk (r4 [] m t u) := by
  simp [drawB, r4, cmpK, eq_pot_nil]
theorem drawB_ne (hE : Exact c.nm) (a : c.nm.T) (r : List c.nm.T) (m : c.nm.T) (t u : Option c.O) (h : c.nm.val a ≠ 0) : (sem V true drawB).s (r4 (a :: r) m t u) = .bk (r4 (a :: r) m t u) := by
  simp [drawB, r4, cmpK, eq_pot_nil, idx_pot _ _ _ (con_lit hE 0), ne_int hE, c.nm.lit_ok, h]
theorem drawB_z (hE : Exact c.nm) (a : c.nm.T) (r : List c.nm.T) (m : c.nm.T) (t u : Option c.O) (h : c.nm.val a = 0) : (sem V true drawB).s (r4 (a :: r) m t u) = .nx (r4 r m t u) := by
  simp [drawB, r4, cmpK, eq_pot_nil, idx_pot _ _ _ (con_lit hE 0), ne_int hE, c.nm.lit_ok, h, isL_pot, conOf_lit hE, pop_pot]
theorem draw_loop (hE : Exact c.nm) (m : c.nm.T) (u : Option c.O) : ∀ (ds : List c.D) (os : List c.nm.T) (t : Option c.O), ∃ os' t', loopS (sem V true (.tn 2)).g (sem V true drawB).s ds (r4 os m t u) = .nx (r4 os' m t' u)
  | [], os, t => ⟨os, t, rfl⟩
  | d :: ds, os, t => by
    have e : loopS (sem V true (.tn 2)).g (sem V true drawB).s (d :: ds) (r4 os m t u) = match (sem V true drawB).s (r4 os m (some (.fr d)) u) with
      | .nx ρ2 => loopS (sem V true (.tn 2)).g (sem V true drawB).s ds ρ2
      | .ct ρ2 => loopS (sem V true (.tn 2)).g (sem V true drawB).s ds ρ2
      | .bk ρ2 => .nx ρ2
      | .rt o ρ2 => .rt o ρ2
      | .exc n fs => .exc n fs
      | .bad => .bad := rfl
    rw [e]
    cases os with
    | nil => rw [drawB_nil]; exact ⟨[], _, rfl⟩
    | cons a r =>
      by_cases h : c.nm.val a = 0
      · rw [drawB_z hE a r m _ u h]
        exact draw_loop hE m u ds r (some (.fr d))
      · rw [drawB_ne hE a r m _ u h]; exact ⟨_, _, rfl⟩
theorem sti_pot (ρ : Rho c) (i : Nat) (a b : c.nm.T) (r : List c.nm.T) : sti1 ρ i (.int b) (some (pot (a :: r))) (some 0) = .nx (ρ.set i (some (pot (b :: r)))) := by
  unfold pot
  rw [sti1_lst, allFr_pot]
  have : ixN ((a :: r).map fun i => (OT.fr (D.int i) : c.O)).length 0 = some 0 := by
    unfold ixN
    simp
  rw [this]
  simp only [List.map_cons, List.set_cons_zero, List.map_map]
  rfl
theorem mod_val {a b r : c.nm.T} (h : c.nm.mod a b = some r) : 0 ≤ c.nm.val r ∧ c.nm.val r < c.nm.val b := by
  obtain ⟨h1, h2⟩ := c.nm.mod_ok h
  rw [h2]
  exact ⟨Int.emod_nonneg _ (by omega), Int.emod_lt_of_pos _ h1⟩
/-- a draw: some number from 0 to m - 1, and a pot that is left -/
theorem draw_ok (hE : Exact c.nm) (os : List c.nm.T) (m : c.nm.T) (h1 : 0 < c.nm.val m) (h2 : (c.nm.val m).natAbs.log2 < 9000) : ∃ r os', 0 ≤ c.nm.val r ∧ c.nm.val r < c.nm.val m ∧ runF V true 4 2 drawM (some (pot os)) [.int m] = .ok (.fr (.int r)) (some (pot os')) := by
  obtain ⟨os', t', hl⟩ := draw_loop (V := V) hE m none (rngD 0 64) os none
  have e0 : (sem V true drawM).s (r4 os m none none) = match (sem V true (.loop (.tn 2) (.rng1 (.int 64)) drawB)).s (r4 os m none none) with
    | .nx ρ1 => (sem V true (.cons (.iff (.cmp 4 (.var 0) (.lst .nil)) (.cons (.ret (.int 0)) .nil) .nil) (.cons (.asg (.tn 3) (.bin 4 (.bfc 1 (.cons (.idx (.var 0) (.int 0)) .nil)) (.var 1))) (.cons (.sti 0 (.int 0) (.bin 3 (.idx (.var 0) (.int 0)) (.var 1))) (.cons (.ret (.var 3)) .nil))))).s ρ1
    | x => x := rfl
  have e1 : (sem V true (.loop (.tn 2) (.rng1 (.int 64)) drawB)).s (r4 os m none none) = .nx (r4 os' m t' none) := by
    rw [s_loop, i_rng1]
    simp [conOf_lit hE, hl]
  rw [e1] at e0
  have e2 : runF V true 4 2 drawM (some (pot os)) [.int m] = (match (sem V true drawM).s (r4 os m none none) with
    | .nx ρ => if true then (match (ρ[0]?).join with | some o => .ok (.fr .non) (some o) | none => .bad) else .ok (.fr .non) none
    | .rt r ρ => if true then (match (ρ[0]?).join with | some o => .ok r (some o) | none => .bad) else .ok r none
    | .exc n fs => .exc n fs
    | _ => .bad) := rfl
  rw [e2, e0]
  cases os' with
  | nil =>
    refine ⟨c.nm.lit 0, [], by rw [c.nm.lit_ok]; omega, by rw [c.nm.lit_ok]; exact h1, ?_⟩
    simp [r4, cmpK, eq_pot_nil]
  | cons a r =>
    obtain ⟨q, hq⟩ := hE.mod a m h1
    obtain ⟨d, hd⟩ := hE.div a m h1 h2
    obtain ⟨v1, v2⟩ := mod_val hq
    refine ⟨q, d :: r, v1, v2, ?_⟩
    simp [r4, cmpK, eq_pot_nil, idx_pot _ _ _ (con_lit hE 0), tOs, bfn, one1, intO, binK, modO, divO, int2, hq, hd, isL_pot, conOf_lit hE, sti_pot]
/-! comparisons of numbers -/
theorem cmpd_eq (a b : Int) : (compare a b == Ordering.eq) = decide (a = b) := by
  rw [cmp_int]
  by_cases h : a < b
  · rw [if_pos h]
    have : a ≠ b := by omega
    simp [this]
  · rw [if_neg h]
    by_cases h2 : a = b
    · simp [h2]
    · simp [h2]
theorem cmpd_lt (a b : Int) : (compare a b == Ordering.lt) = decide (a < b) := by
  rw [cmp_int]
  by_cases h : a < b
  · simp [h]
  · rw [if_neg h]
    by_cases h2 : a = b
    · simp [h2]
    · simp [h2, h]
theorem cmpd_gt (a b : Int) : (compare a b == Ordering.gt) = decide (b < a) := by
  rw [cmp_int]
  by_cases h : a < b
  · have : ¬ b < a := by omega
    simp [h, this]
  · rw [if_neg h]
    by_cases h2 : a = b
    · simp [h2]
    · have : b < a := by omega
      simp [h2, this]
theorem eq_int (hE : Exact c.nm) (a b : c.nm.T) : eqO (c := c) (.fr (.int a)) (.fr (.int b)) = some (.fr (.bl (decide (c.nm.val a = c.nm.val b)))) := by
  show (if shp (c := c) (.int a) && shp (c := c) (.int b) then (eqD (c := c) (.int a) (.int b)).map (fun b => (OT.fr (D.bl b) : c.O)) else none) = _
  have h1 : ∀ x : c.nm.T, shp (c := c) (.int x) = true := fun x => rfl
  rw [h1, h1]
  show ((c.nm.cmp a b).map (· == .eq)).map (fun b => (OT.fr (D.bl b) : c.O)) = _
  rw [hE.cmp, ← cmpd_eq]; rfl
theorem lt_int (hE : Exact c.nm) (a b : c.nm.T) : cmpI (c := c) (· == .lt) (.fr (.int a)) (.fr (.int b)) = some (.fr (.bl (decide (c.nm.val a < c.nm.val b)))) := by
  show (c.nm.cmp a b).map (fun o => (OT.fr (D.bl (o == .lt)) : c.O)) = _
  rw [hE.cmp, ← cmpd_lt]; rfl
theorem gt_int (hE : Exact c.nm) (a b : c.nm.T) : cmpI (c := c) (· == .gt) (.fr (.int a)) (.fr (.int b)) = some (.fr (.bl (decide (c.nm.val b < c.nm.val a)))) := by
  show (c.nm.cmp a b).map (fun o => (OT.fr (D.bl (o == .gt)) : c.O)) = _
  rw [hE.cmp, ← cmpd_gt]; rfl
theorem ge_int (hE : Exact c.nm) (a b : c.nm.T) : cmpI (c := c) (fun o => !(o == .lt)) (.fr (.int a)) (.fr (.int b)) = some (.fr (.bl (!decide (c.nm.val a < c.nm.val b)))) := by
  show (c.nm.cmp a b).map (fun o => (OT.fr (D.bl (!(o == .lt))) : c.O)) = _
  rw [hE.cmp, ← cmpd_lt]; rfl
theorem le_int (hE : Exact c.nm) (a b : c.nm.T) : cmpI (c := c) (fun o => !(o == .gt)) (.fr (.int a)) (.fr (.int b)) = some (.fr (.bl (!decide (c.nm.val b < c.nm.val a)))) := by
  show (c.nm.cmp a b).map (fun o => (OT.fr (D.bl (!(o == .gt))) : c.O)) = _
  rw [hE.cmp, ← cmpd_gt]; rfl
/-! the pot itself -/
def potM : M := (.asg (.tn 1) (.comp [2] (.tn 2) (.slc (.var 0) .nop (.int 63)) .nop (.ife (.cmp 3 (.var 2) (.int 0)) (.var 2) (.bin 1 (.neg (.var 2)) (.int 1)))))
def potE : M := (.ife (.cmp 3 (.var 2) (.int 0)) (.var 2) (.bin 1 (.neg (.var 2)) (.int 1)))
theorem ds_fr : ∀ l : List c.D, OT.ds (l.map OT.fr) = l
  | [] => rfl
  | a :: r => by rw [List.map_cons]; show _ :: OT.ds _ = _; rw [ds_fr r]; rfl
theorem potE_ok (hE : Exact c.nm) (x y : Option c.O) (a : c.nm.T) (r : Rho c) : ∃ b r', frS (sem V false potE).o (x :: y :: some (.fr (.int a)) :: r) = .ok (.int b) (x :: y :: r' :: r) := by
  rw [frS_eq]
  by_cases h : c.nm.val a < 0
  · obtain ⟨s, hs⟩ := hE.sub (c.nm.neg a) (c.nm.lit 1)
    refine ⟨s, some (.fr (.int a)), ?_⟩
    simp [potE, cmpK, ge_int hE, c.nm.lit_ok, h, negO, binK, subO, int2, hs]
  · refine ⟨a, some (.fr (.int a)), ?_⟩
    simp [potE, cmpK, ge_int hE, c.nm.lit_ok, h]
theorem pot_comp (hE : Exact c.nm) (x y : Option c.O) (r : Rho c) : ∀ (ns acc : List c.nm.T), ns.length + acc.length ≤ 1000 → ∃ os : List c.nm.T, compS [2] (sem V false (.tn 2)).g (sem V false .nop).t (sem V false potE).o (ns.map fun i => D.int i) (acc.map fun i => D.int i) (x :: y :: none :: r) = .ok (os.map fun i => D.int i) (x :: y :: none :: r)
  | [], acc, h => ⟨acc, rfl⟩
  | a :: ns, acc, h => by
    obtain ⟨b, r', hb⟩ := potE_ok (V := V) hE x y a r
    have e : compS [2] (sem V false (.tn 2)).g (sem V false .nop).t (sem V false potE).o ((a :: ns).map fun i => D.int i) (acc.map fun i => D.int i) (x :: y :: none :: r) =
        (match frS (sem V false potE).o (x :: y :: some (.fr (.int a)) :: r) with
        | .ok z ρ3 => if 1000000 < (acc.map fun i => (D.int i : c.D)).length then .bad else compS [2] (sem V false (.tn 2)).g (sem V false .nop).t (sem V false potE).o (ns.map fun i => D.int i) ((acc.map fun i => D.int i) ++ [z]) (wipeR ρ3 [2])
        | _ => .bad) := rfl
    rw [e, hb]
    have hl : ¬ 1000000 < (acc.map fun i => (D.int i : c.D)).length := by rw [List.length_map]; simp at h; omega
    simp only [hl, if_false]
    obtain ⟨os, ho⟩ := pot_comp hE x y r ns (acc ++ [b]) (by simp at h ⊢; omega)
    refine ⟨os, ?_⟩
    rw [← ho, List.map_append]
    rfl
theorem potM_ok (hE : Exact c.nm) (ns : List c.nm.T) (hl : ns.length ≤ 900) (r : Rho c) : ∃ os, (sem V false potM).s (some (.fr (.scr (ns.map fun i => D.int i))) :: none :: none :: r) = .nx (some (.fr (.scr (ns.map fun i => D.int i))) :: some (pot os) :: none :: r) := by
  have hc : cutD (c := c) (ns.map fun i => D.int i) none (some 63) = (((ns.drop (HT.sIx ns.length 0 none)).take (HT.sIx ns.length ns.length (some 63) - HT.sIx ns.length 0 none)).map fun i => D.int i) := by
    unfold cutD
    rw [List.length_map, ← List.map_drop, ← List.map_take]
  obtain ⟨os, ho⟩ := pot_comp (V := V) hE (some (.fr (.scr (ns.map fun i => D.int i)))) none r ((ns.drop (HT.sIx ns.length 0 none)).take (HT.sIx ns.length ns.length (some 63) - HT.sIx ns.length 0 none)) [] (by
    have := List.length_take_le (HT.sIx ns.length ns.length (some 63) - HT.sIx ns.length 0 none) (ns.drop (HT.sIx ns.length 0 none))
    rw [List.length_take, List.length_drop]; simp; omega)
  refine ⟨os, ?_⟩
  have hs : slcO (c := c) (.fr (.scr (ns.map fun i => D.int i))) none (some 63) = some (.lst ((cutD (ns.map fun i => D.int i) none (some 63)).map .fr)) := rfl
  simp only [List.map_nil] at ho
  simp only [potM, s_asg, o_comp, i_slc, o_slc, o_var, gt_0, gt_s, bind_ok, p_nop, p_int, con_lit hE, tO_gt, Option.bind_some, hs, hc, tO_o, fr1_some, fzR_o, d_lst, ds_fr, seqD, List.any_cons, List.any_nil]
  rw [show wipeR (some (OT.fr (D.scr (ns.map fun i => D.int i))) :: none :: none :: r : Rho c) [2] = some (OT.fr (D.scr (ns.map fun i => D.int i))) :: none :: none :: r from rfl]
  show ofOut (Out.bind (if (false || (2 == 0) || false) = true then _ else match compS [2] (sem V false (.tn 2)).g (sem V false .nop).t (sem V false potE).o _ [] _ with | .ok acc ρ2 => _ | _ => _) _) _ = _
  rw [ho]
  simp
  rfl
end
end Y

set_option Elab.async false
set_option linter.all false
set_option maxRecDepth 100000
set_option maxHeartbeats 4000000
namespace Y
open PySem PySem.Spec PyProof.Rows L2
/-! ## exact numbers: what the operations give -/
def Num.ad (n : Num) (a b : n.T) : n.T := (n.add a b).getD a
def Num.sb (n : Num) (a b : n.T) : n.T := (n.sub a b).getD a
def Num.md (n : Num) (a b : n.T) : n.T := (n.mod a b).getD a
section
variable {n : Num}
theorem add_ad (hE : Exact n) (a b : n.T) : n.add a b = some (n.ad a b) := by
  obtain ⟨c, h⟩ := hE.add a b
  unfold Num.ad; rw [h]; rfl
theorem sub_sb (hE : Exact n) (a b : n.T) : n.sub a b = some (n.sb a b) := by
  obtain ⟨c, h⟩ := hE.sub a b
  unfold Num.sb; rw [h]; rfl
theorem mod_md (hE : Exact n) (a b : n.T) (hb : 0 < n.val b) : n.mod a b = some (n.md a b) := by
  obtain ⟨c, h⟩ := hE.mod a b hb
  unfold Num.md; rw [h]; rfl
theorem val_ad (hE : Exact n) (a b : n.T) : n.val (n.ad a b) = n.val a + n.val b := n.add_ok (add_ad hE a b)
theorem val_sb (hE : Exact n) (a b : n.T) : n.val (n.sb a b) = n.val a - n.val b := n.sub_ok (sub_sb hE a b)
theorem val_md (hE : Exact n) (a b : n.T) (hb : 0 < n.val b) : n.val (n.md a b) = n.val a % n.val b := (n.mod_ok (mod_md hE a b hb)).2
end
section
variable {c : Cf}
theorem add_int (hE : Exact c.nm) (a b : c.nm.T) : addO (c := c) (.fr (.int a)) (.fr (.int b)) = some (.fr (.int (c.nm.ad a b))) := by
  show (c.nm.add a b).map (fun n => (OT.fr (.int n) : c.O)) = _
  rw [add_ad hE]; rfl
theorem sub_int (hE : Exact c.nm) (a b : c.nm.T) : subO (c := c) (.fr (.int a)) (.fr (.int b)) = some (.fr (.int (c.nm.sb a b))) := by
  show (c.nm.sub a b).map (fun n => (OT.fr (.int n) : c.O)) = _
  rw [sub_sb hE]; rfl
theorem mod_int (hE : Exact c.nm) (a b : c.nm.T) (hb : 0 < c.nm.val b) : modO (c := c) (.fr (.int a)) (.fr (.int b)) = some (.fr (.int (c.nm.md a b))) := by
  show (c.nm.mod a b).map (fun n => (OT.fr (.int n) : c.O)) = _
  rw [mod_md hE a b hb]; rfl
theorem modl_int (hE : Exact c.nm) (a : c.nm.T) (i : Int) (hb : 0 < i) : modO (c := c) (.fr (.int a)) (.fr (.int (c.nm.lit i))) = some (.fr (.int (c.nm.md a (c.nm.lit i)))) := mod_int hE a _ (by rw [c.nm.lit_ok]; exact hb)
theorem vmdl (hE : Exact c.nm) (a : c.nm.T) (i : Int) (hb : 0 < i) : c.nm.val (c.nm.md a (c.nm.lit i)) = c.nm.val a % i := by
  rw [val_md hE a _ (by rw [c.nm.lit_ok]; exact hb), c.nm.lit_ok]
theorem neg_int (a : c.nm.T) : negO (c := c) (.fr (.int a)) = some (.fr (.int (c.nm.neg a))) := rfl
theorem pow_lit (hE : Exact c.nm) (i j : Int) (h : 0 ≤ j ∧ j ≤ 1000 ∧ -1000 ≤ i ∧ i ≤ 1000) : powO (c := c) (.fr (.int (c.nm.lit i))) (.fr (.int (c.nm.lit j))) = some (.fr (.int (c.nm.lit (i ^ j.toNat)))) := by
  unfold powO
  simp only [con_lit hE]
  exact if_pos h
variable {V : Ev c} {p : Bool}
theorem stp {a r : M} {ρ : Rho c} (ρ1 : Rho c) {X : SO c} (h1 : (sem V p a).s ρ = .nx ρ1) (h2 : (sem V p r).s ρ1 = X) : (sem V p (.cons a r)).s ρ = X := by
  rw [s_cons, h1, sq_nx]; exact h2
theorem stpE {a r : M} {ρ : Rho c} (ρ1 : Rho c) {Z : SO c → Prop} (h1 : (sem V p a).s ρ = .nx ρ1) (h2 : Z ((sem V p r).s ρ1)) : Z ((sem V p (.cons a r)).s ρ) := by
  rw [s_cons, h1, sq_nx]; exact h2
theorem stpX {a r : M} {ρ : Rho c} (ρ1 : Rho c) {o : c.O} (h1 : (sem V p a).s ρ = .nx ρ1) (h2 : ∃ ρ', (sem V p r).s ρ1 = .rt o ρ') : ∃ ρ', (sem V p (.cons a r)).s ρ = .rt o ρ' := by
  rw [s_cons, h1, sq_nx]; exact h2
theorem intO_int (a : c.nm.T) : intO (c := c) (.fr (.int a)) = some (.fr (.int a)) := rfl
theorem bfn1 (x : c.O) : bfn (c := c) 1 [x] = intO x := rfl
theorem bfn0 (x : c.O) : bfn (c := c) 0 [x] = lenO x := rfl
@[simp] theorem tOs_nil (ρ : Rho c) : tOs ρ [] = some [] := rfl
@[simp] theorem tOs_cons (ρ : Rho c) (t : Tm c) (ts : List (Tm c)) : tOs ρ (t :: ts) = match tO ρ t, tOs ρ ts with | some o, some ds => some (o :: ds) | _, _ => none := rfl
@[simp] theorem datas_nil (ρ : Rho c) : datas ρ [] = some [] := rfl
@[simp] theorem datas_cons (ρ : Rho c) (t : Tm c) (ts : List (Tm c)) : datas ρ (t :: ts) = match tO ρ t, datas ρ ts with | some o, some ds => some (o.d :: ds) | _, _ => none := rfl
@[simp] theorem okIo_o (ρ : Rho c) (i : Nat) (x : c.O) : okIo ρ i (.o x) = true := rfl
@[simp] theorem okIo_sl (ρ : Rho c) (i j : Nat) : okIo ρ i (.sl j) = (!decide (j = i) && match gt ρ j with | some (.fr _) => true | _ => false) := rfl
@[simp] theorem permute_nil (ds : List c.D) : permute ds [] = some [] := rfl
@[simp] theorem permute_cons (ds : List c.D) (k : Nat) (ks : List Nat) : permute ds (k :: ks) = match ds[k]?, permute ds ks with | some d, some r => some (d :: r) | _, _ => none := rfl
@[simp] theorem fzAll_nil (ρ : Rho c) : fzAll ρ [] = ρ := rfl
@[simp] theorem fzAll_cons (ρ : Rho c) (t : Tm c) (ts : List (Tm c)) : fzAll ρ (t :: ts) = match tO ρ t with | some o => fzAll (fzR ρ t o.d) ts | none => fzAll ρ ts := rfl
theorem cmpK4 : (cmpK 4 : c.O → c.O → Option c.O) = eqO := rfl
theorem cmpK5 : (cmpK 5 : c.O → c.O → Option c.O) = neO := rfl
theorem cmpK0 : (cmpK 0 : c.O → c.O → Option c.O) = cmpI (· == .lt) := rfl
theorem cmpK1 : (cmpK 1 : c.O → c.O → Option c.O) = cmpI (fun o => !(o == .gt)) := rfl
theorem cmpK2 : (cmpK 2 : c.O → c.O → Option c.O) = cmpI (· == .gt) := rfl
theorem cmpK3 : (cmpK 3 : c.O → c.O → Option c.O) = cmpI (fun o => !(o == .lt)) := rfl
theorem binK0 : (binK 0 : c.O → c.O → Option c.O) = addO := rfl
theorem binK1 : (binK 1 : c.O → c.O → Option c.O) = subO := rfl
theorem binK4 : (binK 4 : c.O → c.O → Option c.O) = modO := rfl
theorem binK5 : (binK 5 : c.O → c.O → Option c.O) = powO := rfl
/-! drawing, as a call -/
structure DrawV (V : Ev c) (f : Nat) : Prop where
  io : V.io f = true
  ok : ∀ (os : List c.nm.T) (m : c.nm.T), 0 < c.nm.val m → (c.nm.val m).natAbs.log2 < 9000 → ∃ r os', 0 ≤ c.nm.val r ∧ c.nm.val r < c.nm.val m ∧ V.call f (some (pot os)) [.int m] = .ok (.fr (.int r)) (some (pot os'))
theorem drawE {f i : Nat} {e : M} {ρ : Rho c} {os : List c.nm.T} {m : c.nm.T} (hD : DrawV V f) (h1 : 0 < c.nm.val m) (h2 : (c.nm.val m).natAbs.log2 < 9000) (hg : gt ρ i = some (pot os)) (he : (sem V p e).o ρ = .ok (.o (.fr (.int m))) ρ) :
    ∃ r os', 0 ≤ c.nm.val r ∧ c.nm.val r < c.nm.val m ∧ (sem V p (.call f (.cons (.var i) (.cons e .nil)) [0, 1])).o ρ = .ok (.o (.fr (.int r))) (ρ.set i (some (pot os'))) := by
  obtain ⟨r, os', h3, h4, h5⟩ := hD.ok os m h1 h2
  refine ⟨r, os', h3, h4, ?_⟩
  simp [hD.io, hg, he, ci, h5]
theorem drawL {f i : Nat} {ρ : Rho c} {os : List c.nm.T} (m : Int) (hD : DrawV V f) (h1 : 0 < m) (h2 : m.natAbs.log2 < 9000) (hg : gt ρ i = some (pot os)) :
    ∃ r os', 0 ≤ c.nm.val r ∧ c.nm.val r < m ∧ (sem V p (.call f (.cons (.var i) (.cons (.int m) .nil)) [0, 1])).o ρ = .ok (.o (.fr (.int r))) (ρ.set i (some (pot os'))) := by
  obtain ⟨r, os', h3, h4, h5⟩ := drawE (p := p) (e := .int m) (m := c.nm.lit m) hD (by rw [c.nm.lit_ok]; exact h1) (by rw [c.nm.lit_ok]; exact h2) hg rfl
  rw [c.nm.lit_ok] at h4
  exact ⟨r, os', h3, h4, h5⟩
/-- 10 ** 39 -/
theorem drawW {f i : Nat} {ρ : Rho c} {os : List c.nm.T} (hE : Exact c.nm) (hD : DrawV V f) (hg : gt ρ i = some (pot os)) :
    ∃ r os', 0 ≤ c.nm.val r ∧ c.nm.val r < 10 ^ 39 ∧ (sem V p (.call f (.cons (.var i) (.cons (.bin 5 (.int 10) (.int 39)) .nil)) [0, 1])).o ρ = .ok (.o (.fr (.int r))) (ρ.set i (some (pot os'))) := by
  have e : (10 : Int) ^ (39 : Int).toNat = 10 ^ 39 := rfl
  obtain ⟨r, os', h3, h4, h5⟩ := drawE (p := p) (e := .bin 5 (.int 10) (.int 39)) (m := c.nm.lit (10 ^ 39)) hD (by rw [c.nm.lit_ok]; decide) (by rw [c.nm.lit_ok]; decide +kernel) hg (by
    simp only [o_bin, o_int, bind_ok, tO_o, bi_some, binK5, pow_lit hE 10 39 (by decide), e])
  rw [c.nm.lit_ok] at h4
  exact ⟨r, os', h3, h4, h5⟩
theorem runF_ret {n np : Nat} {body : M} {ds : List c.D} {r : c.O} {ρ : Rho c} (hl : ds.length = np) (h : (sem V false body).s (ds.map (fun d => some (.fr d)) ++ List.replicate (n - np) none) = .rt r ρ) : runF V false n np body none ds = .ok r none := by
  unfold runF
  have e : ioC (none : Option c.O) ++ ds.map (fun d => some (OT.fr d)) ++ List.replicate (n - np) none = (ds.map (fun d => some (.fr d)) ++ List.replicate (n - np) none : Rho c) := by simp [ioC]
  rw [e, h]
  have hc : (ioC (none : Option c.O)).length + ds.length = np ∧ (none : Option c.O).isSome = false := ⟨by simp [ioC, hl], rfl⟩
  rw [if_pos hc]
  rfl
theorem runF_nx {n np : Nat} {body : M} {ds : List c.D} {ρ : Rho c} (hl : ds.length = np) (h : (sem V false body).s (ds.map (fun d => some (.fr d)) ++ List.replicate (n - np) none) = .nx ρ) : runF V false n np body none ds = .ok (.fr .non) none := by
  unfold runF
  have e : ioC (none : Option c.O) ++ ds.map (fun d => some (OT.fr d)) ++ List.replicate (n - np) none = (ds.map (fun d => some (.fr d)) ++ List.replicate (n - np) none : Rho c) := by simp [ioC]
  rw [e, h]
  have hc : (ioC (none : Option c.O)).length + ds.length = np ∧ (none : Option c.O).isSome = false := ⟨by simp [ioC, hl], rfl⟩
  rw [if_pos hc]
  rfl
theorem runF_exc {n np : Nat} {body : M} {ds fs : List c.D} {k : Nat} (hl : ds.length = np) (h : (sem V false body).s (ds.map (fun d => some (.fr d)) ++ List.replicate (n - np) none) = .exc k fs) : runF V false n np body none ds = .exc k fs := by
  unfold runF
  have e : ioC (none : Option c.O) ++ ds.map (fun d => some (OT.fr d)) ++ List.replicate (n - np) none = (ds.map (fun d => some (.fr d)) ++ List.replicate (n - np) none : Rho c) := by simp [ioC]
  rw [e, h]
  have hc : (ioC (none : Option c.O)).length + ds.length = np ∧ (none : Option c.O).isSome = false := ⟨by simp [ioC, hl], rfl⟩
  rw [if_pos hc]
def numM (f : Nat) : M := (.cons (.iff (.cmp 4 (.var 1) (.int 0)) (.cons (.ret (.bin 1 (.bin 4 (.bfc 1 (.cons (.bin 0 (.call f (.cons (.var 0) (.cons (.int 7) .nil)) [0, 1]) (.var 2)) .nil)) (.int 7)) (.int 3))) .nil) .nil) (.cons (.asg (.tn 3) (.call f (.cons (.var 0) (.cons (.bin 5 (.int 10) (.int 39)) .nil)) [0, 1])) (.cons (.iff (.cmp 4 (.var 1) (.int 2)) (.cons (.asg (.tn 3) (.bin 0 (.bin 5 (.int 10) (.int 30)) (.bin 4 (.bfc 1 (.cons (.var 3) .nil)) (.int 100)))) .nil) .nil) (.cons (.iff (.cmp 4 (.call f (.cons (.var 0) (.cons (.int 2) .nil)) [0, 1]) (.int 1)) (.cons (.ret (.neg (.var 3))) .nil) .nil) (.cons (.ret (.var 3)) .nil)))))
/-- how a def that changes its first argument ends -/
theorem runF_rt {n np : Nat} {body : M} {o0 : c.O} {ds : List c.D} {r : c.O} {ρ : Rho c} {o1 : c.O} (hl : 1 + ds.length = np) (h : (sem V true body).s (some o0 :: (ds.map (fun d => some (.fr d)) ++ List.replicate (n - np) none)) = .rt r ρ) (h0 : gt ρ 0 = some o1) : runF V true n np body (some o0) ds = .ok r (some o1) := by
  unfold runF
  have e : ioC (some o0) ++ ds.map (fun d => some (OT.fr d)) ++ List.replicate (n - np) none = (some o0 :: (ds.map (fun d => some (.fr d)) ++ List.replicate (n - np) none) : Rho c) := rfl
  rw [e, h]
  have hc : (ioC (some o0)).length + ds.length = np ∧ (some o0).isSome = true := ⟨hl, rfl⟩
  rw [if_pos hc]
  simp only [join_gt, h0, if_true]
theorem num_ok (hE : Exact c.nm) {f : Nat} (hD : DrawV V f) (os : List c.nm.T) (mode shift : c.nm.T) : ∃ r os', (c.nm.val r).natAbs ≤ 10 ^ 39 ∧ runF V true 4 3 (numM f) (some (pot os)) [.int mode, .int shift] = .ok (.fr (.int r)) (some (pot os')) := by
  have hB : (10 : Nat) ^ 30 + 100 ≤ 10 ^ 39 := by decide
  by_cases hm : c.nm.val mode = 0
  · obtain ⟨r, os', h3, h4, h5⟩ := drawL (V := V) (p := true) (i := 0) (ρ := [some (pot os), some (.fr (.int mode)), some (.fr (.int shift)), none]) 7 hD (by decide) (by decide +kernel) rfl
    refine ⟨c.nm.sb (c.nm.md (c.nm.ad r shift) (c.nm.lit 7)) (c.nm.lit 3), os', ?_, runF_rt rfl (ρ := [some (pot os'), some (.fr (.int mode)), some (.fr (.int shift)), none]) ?_ rfl⟩
    · rw [val_sb hE, vmdl hE _ 7 (by decide), c.nm.lit_ok]
      omega
    · show (sem V true (numM f)).s [some (pot os), some (.fr (.int mode)), some (.fr (.int shift)), none] = _
      simp [numM, -o_call, h5, cmpK4, eq_int hE, c.nm.lit_ok, hm, binK0, binK1, binK4, add_int hE, sub_int hE, modl_int hE, bfn1, intO_int]
  · obtain ⟨r, os', h3, h4, h5⟩ := drawW (V := V) (p := true) (i := 0) (ρ := [some (pot os), some (.fr (.int mode)), some (.fr (.int shift)), none]) hE hD rfl
    have key : ∃ r2, (c.nm.val r2).natAbs ≤ 10 ^ 39 ∧ (sem V true (numM f)).s [some (pot os), some (.fr (.int mode)), some (.fr (.int shift)), none] = (sem V true (.cons (.iff (.cmp 4 (.call f (.cons (.var 0) (.cons (.int 2) .nil)) [0, 1]) (.int 1)) (.cons (.ret (.neg (.var 3))) .nil) .nil) (.cons (.ret (.var 3)) .nil))).s [some (pot os'), some (.fr (.int mode)), some (.fr (.int shift)), some (.fr (.int r2))] := by
      have e30 : (10 : Int) ^ (30 : Int).toNat = 10 ^ 30 := rfl
      by_cases h2 : c.nm.val mode = 2
      · refine ⟨c.nm.ad (c.nm.lit (10 ^ 30)) (c.nm.md r (c.nm.lit 100)), ?_, ?_⟩
        · rw [val_ad hE, vmdl hE _ 100 (by decide), c.nm.lit_ok]
          omega
        · unfold numM
          refine stp [some (pot os), some (.fr (.int mode)), some (.fr (.int shift)), none] (by simp [cmpK4, eq_int hE, c.nm.lit_ok, hm]) ?_
          refine stp [some (pot os'), some (.fr (.int mode)), some (.fr (.int shift)), some (.fr (.int r))] (by simp [-o_call, h5]) ?_
          exact stp _ (by simp [cmpK4, eq_int hE, c.nm.lit_ok, h2, binK0, binK4, binK5, pow_lit hE 10 30 (by decide), e30, add_int hE, modl_int hE, bfn1, intO_int]) rfl
      · refine ⟨r, by omega, ?_⟩
        unfold numM
        refine stp [some (pot os), some (.fr (.int mode)), some (.fr (.int shift)), none] (by simp [cmpK4, eq_int hE, c.nm.lit_ok, hm]) ?_
        refine stp [some (pot os'), some (.fr (.int mode)), some (.fr (.int shift)), some (.fr (.int r))] (by simp [-o_call, h5]) ?_
        exact stp _ (by simp [cmpK4, eq_int hE, c.nm.lit_ok, h2]) rfl
    obtain ⟨r2, hr2, hk⟩ := key
    obtain ⟨q, os2, h6, h7, h8⟩ := drawL (V := V) (p := true) (i := 0) (ρ := [some (pot os'), some (.fr (.int mode)), some (.fr (.int shift)), some (.fr (.int r2))]) 2 hD (by decide) (by decide +kernel) rfl
    by_cases hq : c.nm.val q = 1
    · refine ⟨c.nm.neg r2, os2, by rw [c.nm.neg_ok]; omega, runF_rt rfl (ρ := [some (pot os2), some (.fr (.int mode)), some (.fr (.int shift)), some (.fr (.int r2))]) ?_ rfl⟩
      refine Eq.trans hk ?_
      simp [-o_call, h8, cmpK4, eq_int hE, c.nm.lit_ok, hq, neg_int]
    · refine ⟨r2, os2, hr2, runF_rt rfl (ρ := [some (pot os2), some (.fr (.int mode)), some (.fr (.int shift)), none]) ?_ rfl⟩
      refine Eq.trans hk ?_
      simp [-o_call, h8, cmpK4, eq_int hE, c.nm.lit_ok, hq]
end
end Y

set_option Elab.async false
set_option linter.all false
set_option maxRecDepth 100000
set_option maxHeartbeats 4000000
namespace Y
open PySem PySem.Spec PyProof.Rows L2
/-! ## the laws' own comparison of two things, at equal things -/
section
variable {c : Cf} {V : Ev c} {p : Bool}
@[simp] theorem o_and (a b : M) (ρ : Rho c) : (sem V p (.and a b)).o ρ = ((sem V p a).o ρ).bind fun t1 ρ1 => match (tO ρ1 t1).bind boolO with | some true => (sem V p b).o ρ1 | some false => .ok (.o (.fr (.bl false))) ρ1 | none => .bad := rfl
@[simp] theorem o_or (a b : M) (ρ : Rho c) : (sem V p (.or a b)).o ρ = ((sem V p a).o ρ).bind fun t1 ρ1 => match (tO ρ1 t1).bind boolO with | some false => (sem V p b).o ρ1 | some true => .ok (.o (.fr (.bl true))) ρ1 | none => .bad := rfl
@[simp] theorem o_nt (a : M) (ρ : Rho c) : (sem V p (.nt a)).o ρ = ((sem V p a).o ρ).bind fun t1 ρ1 => un (fun x => (boolO x).map fun b => .fr (.bl (!b))) ρ1 (tO ρ1 t1) := rfl
def pl : Nat → c.D → Bool
  | _, .non => true
  | _, .bl _ => true
  | _, .int _ => true
  | _, .str s => PyData.canLay0 (.str s)
  | n + 1, .tup l => decide (l.length ≤ 1000000) && l.all (pl n)
  | n + 1, .lst l => decide (l.length ≤ 1000000) && l.all (pl n)
  | _, _ => false
def sameM (f : Nat) : M := (.cons (.iff (.cmp 8 (.var 1) .non) (.cons (.ret (.cmp 8 (.var 0) .non)) .nil) .nil) (.cons (.iff (.isi 0 (.var 1)) (.cons (.ret (.and (.isi 0 (.var 0)) (.one (.cmp 4 (.var 0) (.var 1))))) .nil) .nil) (.cons (.iff (.isi 1 (.var 1)) (.cons (.ret (.and (.isi 1 (.var 0)) (.and (.nt (.isi 0 (.var 0))) (.one (.cmp 4 (.var 0) (.var 1)))))) .nil) .nil) (.cons (.iff (.isi 2 (.var 1)) (.cons (.ret (.and (.isi 2 (.var 0)) (.one (.cmp 4 (.var 0) (.var 1))))) .nil) .nil) (.cons (.iff (.cmp 5 (.isi 3 (.var 1)) (.isi 3 (.var 0))) (.cons (.ret (.bl false)) .nil) .nil) (.cons (.iff (.or (.cmp 5 (.isi 4 (.var 1)) (.isi 4 (.var 0))) (.one (.cmp 5 (.bfc 0 (.cons (.var 0) .nil)) (.bfc 0 (.cons (.var 1) .nil))))) (.cons (.ret (.bl false)) .nil) .nil) (.cons (.ret (.bfc 2 (.cons (.comp [2] (.tn 2) (.rng1 (.bfc 0 (.cons (.var 1) .nil))) .nop (.call f (.cons (.idx (.var 0) (.var 2)) (.cons (.idx (.var 1) (.var 2)) .nil)) [0, 1])) .nil))) .nil)))))))
structure SameV (V : Ev c) (f n : Nat) : Prop where
  io : V.io f = false
  dfl : V.dfl f = []
  ok : ∀ d : c.D, pl n d = true → V.call f none [d, d] = .ok (.fr (.bl true)) none
theorem cmpK8 : (cmpK 8 : c.O → c.O → Option c.O) = isNO := rfl
theorem bfn2 (x : c.O) : bfn (c := c) 2 [x] = allO x := rfl
/-- a comprehension whose turns leave everything as it was -/
theorem compS_all {own : List Nat} {g : c.O → Rho c → Option (Rho c)} {t : Rho c → Out c Bool} {el : Rho c → Out c (Tm c)} {ρ : Rho c} {ds : List c.D} {h : c.D → c.D} (hs : ∀ d ∈ ds, ∃ ρ1 ρ2 ρ3, g (.fr d) ρ = some ρ1 ∧ t ρ1 = .ok true ρ2 ∧ frS el ρ2 = .ok (h d) ρ3 ∧ wipeR ρ3 own = ρ) :
    ∀ acc : List c.D, acc.length + ds.length ≤ 1000000 → compS own g t el ds acc ρ = .ok (acc ++ ds.map h) ρ := by
  induction ds with
  | nil => intro acc _; simp [compS]
  | cons d ds ih =>
    intro acc hl
    obtain ⟨ρ1, ρ2, ρ3, h1, h2, h3, h4⟩ := hs d (List.mem_cons_self ..)
    simp only [List.length_cons] at hl
    simp only [compS, h1, h2, h3]
    rw [if_neg (by omega), h4, ih (fun d hd => hs d (List.mem_cons_of_mem _ hd)) (acc ++ [h d]) (by simp; omega)]
    simp
theorem rng_len (lo : Int) : ∀ n : Nat, (rngD (c := c) lo n).length = n
  | 0 => rfl
  | n + 1 => by simp [rngD, rng_len lo n]
theorem rng_mem {lo : Int} {d : c.D} : ∀ {n : Nat}, d ∈ rngD (c := c) lo n → ∃ i : Nat, i < n ∧ d = .int (c.nm.lit (lo + i))
  | 0, h => by cases h
  | n + 1, h => by
    rcases List.mem_append.mp h with h | h
    · obtain ⟨i, h1, h2⟩ := rng_mem h
      exact ⟨i, by omega, h2⟩
    · exact ⟨n, by omega, List.mem_singleton.mp h⟩
theorem bools_all : ∀ ds : List c.D, boolsD (ds.map fun _ => (.bl true : c.D)) = some (ds.map fun _ => true)
  | [] => rfl
  | d :: r => by
    show (boolsD (r.map fun _ => (.bl true : c.D))).map (true :: ·) = _
    rw [bools_all r]; rfl
theorem all_map_true {α : Type} : ∀ ds : List α, ((ds.map fun _ => true).all id) = true
  | [] => rfl
  | d :: r => by rw [List.map_cons, List.all_cons, all_map_true r]; rfl
theorem allFr_map : ∀ ds : List c.D, allFr (c := c) (ds.map .fr) = some ds
  | [] => rfl
  | d :: r => by
    show (allFr (c := c) (r.map .fr)).map (d :: ·) = _
    rw [allFr_map r]; rfl
theorem all_true (ds : List c.D) : allO (c := c) (.lst ((ds.map fun _ => (.bl true : c.D)).map .fr)) = some (.fr (.bl true)) := by
  show ((allFr (c := c) ((ds.map fun _ => (.bl true : c.D)).map .fr)).bind fun ds => (boolsD ds).map fun bs => (OT.fr (.bl (bs.all id)) : c.O)) = _
  rw [allFr_map, Option.bind_some, bools_all, Option.map_some, all_map_true]
theorem ds_map : ∀ ds : List c.D, OT.ds (ds.map OT.fr) = ds
  | [] => rfl
  | d :: r => by rw [List.map_cons]; show _ :: OT.ds _ = _; rw [ds_map r]; rfl
theorem all_trueF (ds : List c.D) : allO (c := c) (.fr (.lst (ds.map fun _ => (.bl true : c.D)))) = some (.fr (.bl true)) := by
  show ((boolsD (ds.map fun _ => (.bl true : c.D))).map fun bs => (OT.fr (.bl (bs.all id)) : c.O)) = _
  rw [bools_all, Option.map_some, all_map_true]
theorem cmp_self (hE : Exact c.nm) (a : c.nm.T) : c.nm.cmp a a = some .eq := by
  rw [hE.cmp]
  exact congrArg some (by rw [cmp_int, if_neg (by omega), if_pos rfl])
theorem isN_non (b : Bool) : isNon (c := c) (.fr .non) = true := rfl
theorem atI_get {α : Type} {l : List α} {i : Nat} {a : α} (h : l[i]? = some a) : atI l (i : Int) = some a := by
  have hl : i < l.length := (List.getElem?_eq_some_iff.mp h).1
  unfold atI
  have : ixN l.length (i : Int) = some i := by
    unfold ixN
    rw [if_pos (by omega), if_pos (by omega)]
    simp
  rw [this]
  exact h
theorem same_seq (hE : Exact c.nm) {f n : Nat} (hS : SameV V f n) {d : c.D} {l : List c.D} (hi : ∀ (i : Nat) (e : c.D), l[i]? = some e → idxO (c := c) (.fr d) (.fr (.int (c.nm.lit i))) = some (.fr e)) (hl : l.length ≤ 1000000) (hp : ∀ e ∈ l, pl n e = true) (hn : lenO (c := c) (.fr d) = some (.fr (.int (c.nm.lit l.length)))) :
    ∃ ρ, (sem V false (.cons (.ret (.bfc 2 (.cons (.comp [2] (.tn 2) (.rng1 (.bfc 0 (.cons (.var 1) .nil))) .nop (.call f (.cons (.idx (.var 0) (.var 2)) (.cons (.idx (.var 1) (.var 2)) .nil)) [0, 1])) .nil))) .nil)).s [some (.fr d), some (.fr d), none] = .rt (.fr (.bl true)) ρ := by
  have hb : -1000000000 ≤ (l.length : Int) ∧ (l.length : Int) ≤ 1000000000 := by omega
  have key := compS_all (c := c) (own := [2]) (g := (sem V false (.tn 2)).g) (t := (sem V false .nop).t) (el := (sem V false (.call f (.cons (.idx (.var 0) (.var 2)) (.cons (.idx (.var 1) (.var 2)) .nil)) [0, 1])).o) (ρ := [some (.fr d), some (.fr d), none]) (ds := rngD 0 l.length) (h := fun _ => .bl true) (fun z hz => by
    obtain ⟨i, h1, rfl⟩ := rng_mem hz
    obtain ⟨e, he⟩ : ∃ e, l[i]? = some e := ⟨l[i], List.getElem?_eq_getElem h1⟩
    have hx := hi i e he
    have hc := hS.ok e (hp e (List.mem_of_getElem? he))
    refine ⟨[some (.fr d), some (.fr d), some (.fr (.int (c.nm.lit (0 + i))))], _, [some (.fr d), some (.fr d), some (.fr (.int (c.nm.lit (0 + i))))], rfl, rfl, ?_, rfl⟩
    rw [frS_eq]
    have e0 : (0 : Int) + (i : Int) = i := by omega
    simp [hS.io, hS.dfl, cp, e0, hx, hc, atomO, flatD]) [] (by rw [rng_len]; simpa using hl)
  refine ⟨[some (.fr d), some (.fr d), none], ?_⟩
  have hb2 : (l.length : Int) ≤ 1000000000 := hb.2
  simp [bfn0, bfn2, hn, conOf_lit hE, hb2, wipeR, key, -List.map_map, ds_map, all_trueF]
theorem same_ok (hE : Exact c.nm) {f n : Nat} (hS : n = 0 ∨ ∃ m, n = m + 1 ∧ SameV V f m) (d : c.D) (hd : pl n d = true) : runF V false 3 2 (sameM f) none [d, d] = .ok (.fr (.bl true)) none := by
  suffices h : ∃ ρ, (sem V false (sameM f)).s [some (.fr d), some (.fr d), none] = .rt (.fr (.bl true)) ρ by
    obtain ⟨ρ, h⟩ := h
    exact runF_ret rfl h
  unfold sameM
  cases d with
  | non => exact ⟨[some (.fr .non), some (.fr .non), none], by simp [cmpK8, isNO, isNon, truD]⟩
  | bl b => exact ⟨[some (.fr (.bl b)), some (.fr (.bl b)), none], by simp [cmpK8, isNO, isNon, truD, kindOf, cmpK4, eqO, shp, dep, eqD, boolO]⟩
  | int b => exact ⟨[some (.fr (.int b)), some (.fr (.int b)), none], by simp [cmpK8, isNO, isNon, truD, kindOf, cmpK4, eqO, shp, dep, eqD, boolO, cmp_self hE]⟩
  | str s =>
    have hd : PyData.canLay0 (.str s) = true := by cases n <;> exact hd
    exact ⟨[some (.fr (.str s)), some (.fr (.str s)), none], by simp [cmpK8, isNO, isNon, truD, kindOf, cmpK4, eqO, shp, dep, eqD, boolO, hd]⟩
  | tup l =>
    obtain ⟨n, rfl, hSm⟩ : ∃ m, n = m + 1 ∧ SameV V f m := hS.resolve_left fun e => by subst e; simp [pl] at hd
    obtain ⟨h1, h2⟩ := b2 (show (decide (l.length ≤ 1000000) && l.all (pl n)) = true from hd)
    have h1 := of_decide_eq_true h1
    obtain ⟨ρ, h⟩ := same_seq hE hSm (d := .tup l) (l := l) (fun i e he => by
      show (match c.nm.con (c.nm.lit i) with | some i => (atI l i).map (OT.fr : c.D → c.O) | none => none) = _
      rw [con_lit hE]
      show (atI l i).map (OT.fr : c.D → c.O) = _
      rw [atI_get he]; rfl) h1 (fun e he => List.all_eq_true.mp h2 e he) rfl
    refine ⟨ρ, ?_⟩
    rw [← h]
    simp [cmpK8, isNO, isNon, truD, kindOf, cmpK5, neO, shp, dep, eqD, boolO, bfn0, lenO, cmp_self hE]
  | lst l =>
    obtain ⟨n, rfl, hSm⟩ : ∃ m, n = m + 1 ∧ SameV V f m := hS.resolve_left fun e => by subst e; simp [pl] at hd
    obtain ⟨h1, h2⟩ := b2 (show (decide (l.length ≤ 1000000) && l.all (pl n)) = true from hd)
    have h1 := of_decide_eq_true h1
    obtain ⟨ρ, h⟩ := same_seq hE hSm (d := .lst l) (l := l) (fun i e he => by
      show (match c.nm.con (c.nm.lit i) with | some i => (atI l i).map (OT.fr : c.D → c.O) | none => none) = _
      rw [con_lit hE]
      show (atI l i).map (OT.fr : c.D → c.O) = _
      rw [atI_get he]; rfl) h1 (fun e he => List.all_eq_true.mp h2 e he) rfl
    refine ⟨ρ, ?_⟩
    rw [← h]
    simp [cmpK8, isNO, isNon, truD, kindOf, cmpK5, neO, shp, dep, eqD, boolO, bfn0, lenO, cmp_self hE]
  | _ => exact absurd hd (by cases n <;> simp [pl])
theorem pl_up : ∀ {n : Nat} {d : c.D}, pl n d = true → pl (n + 1) d = true
  | 0, .non, _ => rfl
  | 0, .bl _, _ => rfl
  | 0, .int _, _ => rfl
  | 0, .str _, h => h
  | _ + 1, .non, _ => rfl
  | _ + 1, .bl _, _ => rfl
  | _ + 1, .int _, _ => rfl
  | _ + 1, .str _, h => h
  | n + 1, .tup l, h => by
    obtain ⟨h1, h2⟩ := b2 (show (decide (l.length ≤ 1000000) && l.all (pl n)) = true from h)
    show (decide (l.length ≤ 1000000) && l.all (pl (n + 1))) = true
    rw [h1, Bool.true_and]
    exact List.all_eq_true.mpr fun d hd => pl_up (List.all_eq_true.mp h2 d hd)
  | n + 1, .lst l, h => by
    obtain ⟨h1, h2⟩ := b2 (show (decide (l.length ≤ 1000000) && l.all (pl n)) = true from h)
    show (decide (l.length ≤ 1000000) && l.all (pl (n + 1))) = true
    rw [h1, Bool.true_and]
    exact List.all_eq_true.mpr fun d hd => pl_up (List.all_eq_true.mp h2 d hd)
  | 0, .tup l, h => by simp [pl] at h
  | 0, .lst l, h => by simp [pl] at h
  | n, .dct _ _, h => by cases n <;> simp [pl] at h
  | n, .scr _, h => by cases n <;> simp [pl] at h
  | n, .obj _ _, h => by cases n <;> simp [pl] at h
end
/-- .. in a law's own table -/
theorem same_ev {c : Cf} {T : PT} {f : Nat} {d0 : PD} (hE : Exact c.nm) (hd : T.ds[f]? = some d0) (h0 : d0.dfl = [] ∧ d0.kwd = []) (hio : d0.io = false) (hN : d0.N.length = 3) (hp : d0.ps.length = 2) (hb : d0.body = sameM f) : ∀ (n k : Nat), n < k → ∀ d : c.D, pl n d = true → evF T c k f none [d, d] = .ok (.fr (.bl true)) none
  | n, 0, h, _, _ => absurd h (by omega)
  | n, k + 1, h, d, hp2 => by
    have e : evF T c (k + 1) f = runF (evV T c (evF T c k)) false 3 2 (sameM f) := by
      show (match T.ds[f]? with | some d => evD T c (evF T c k) d | none => fun _ _ => .bad) = _
      rw [hd]
      show runF (evV T c (evF T c k)) d0.io d0.N.length d0.ps.length d0.body = _
      rw [hio, hN, hp, hb]
    rw [e]
    refine same_ok hE ?_ d hp2
    match n, h with
    | 0, _ => exact .inl rfl
    | n + 1, h => exact .inr ⟨n, rfl, ⟨by show (match T.ds[f]? with | some d => d.io | none => false) = false; rw [hd]; exact hio, dfl_evV hd h0.1 h0.2, fun d hd2 => same_ev hE hd h0 hio hN hp hb n k (by omega) d hd2⟩⟩
end Y

set_option Elab.async false
set_option linter.all false
set_option maxRecDepth 100000
set_option maxHeartbeats 4000000
namespace Y
open PySem PySem.Spec PyProof.Rows L2
/-! ## own classes, step by step -/
section
variable {c : Cf} {V : Ev c} {p : Bool} {ρ : Rho c}
def kO (x : Option c.O) : Option Nat := match x with
  | some (.obj k _) => some k
  | some (.fr (.obj k _)) => some k
  | _ => none
theorem kOf_eq (t : Tm c) : kOf ρ t = kO (tO ρ t) := by
  unfold kOf kO
  cases tO ρ t with
  | none => rfl
  | some x =>
    cases x with
    | fr d => cases d <;> rfl
    | lst l => rfl
    | dct a b => rfl
    | obj a b => rfl
@[simp] theorem kO_obj (k : Nat) (ds : List c.D) : kO (some (.obj k ds) : Option c.O) = some k := rfl
@[simp] theorem kO_fr (k : Nat) (ds : List c.D) : kO (some (.fr (.obj k ds)) : Option c.O) = some k := rfl
def mt1 (V : Ev c) (m : Str) (la : Rho c → Out c (List (Tm c))) (pm : List Nat) (t0 : Tm c) (ρ1 : Rho c) (k : Option Nat) : Out c (Tm c) := match k with
  | some k => if (pos m (c.fld k)).isNone then (match V.mth m k with
    | some g => (la ρ1).bind fun tms ρ2 => cp (V.call g) (V.dfl g) (0 :: pm.map Nat.succ) (t0 :: tms) ρ2
    | none => .bad) else .bad
  | none => .bad
theorem mt1_some {m : Str} {la : Rho c → Out c (List (Tm c))} {pm : List Nat} {t0 : Tm c} {k g : Nat} (h1 : (pos m (c.fld k)).isNone = true) (h2 : V.mth m k = some g) : mt1 V m la pm t0 ρ (some k) = (la ρ).bind fun tms ρ2 => cp (V.call g) (V.dfl g) (0 :: pm.map Nat.succ) (t0 :: tms) ρ2 := by
  unfold mt1
  simp only [h1, h2, if_true]
@[simp] theorem o_mth (m : Str) (a l : M) (pm : List Nat) : (sem V p (.mth m a l pm)).o ρ = ((sem V p a).o ρ).bind fun t ρ0 => (ag1 ρ0 t).bind fun t0 ρ1 => mt1 V m (sem V p l).a pm t0 ρ1 (kO (tO ρ1 t0)) := by
  show mthS _ m (sem V p a).o (sem V p l).a pm ρ = _
  unfold mthS agS
  cases h : (sem V p a).o ρ with
  | ok t ρ0 =>
    have key : ∀ (t0 : Tm c) (ρ1 : Rho c), (match kOf ρ1 t0 with
      | some k => if (pos m (c.fld k)).isNone then (match (V.mth m k).map fun g => (V.call g, V.dfl g) with
        | some F => ((sem V p l).a ρ1).bind fun tms ρ2 => cpC F.1 F.2 (0 :: pm.map Nat.succ) (t0 :: tms) ρ2
        | none => .bad) else .bad
      | none => .bad) = mt1 V m (sem V p l).a pm t0 ρ1 (kO (tO ρ1 t0)) := fun t0 ρ1 => by
      rw [kOf_eq]
      unfold mt1
      cases kO (tO ρ1 t0) with
      | none => rfl
      | some k =>
        show (if (pos m (c.fld k)).isNone = true then _ else _) = (if (pos m (c.fld k)).isNone = true then _ else _)
        congr 1
        cases V.mth m k <;> rfl
    cases t with
    | o x => exact key _ _
    | sl i => exact key _ _
  | _ => rfl
@[simp] theorem o_sta (k : Nat) (m : Str) (g : Nat) (l : M) (pm : List Nat) : (sem V p (.sta k m g l pm)).o ρ = ((sem V p l).a ρ).bind fun tms ρ1 => cp (V.call g) (V.dfl g) pm tms ρ1 := rfl
/-- a new object -/
def mk1 (k : Nat) (F : Option c.O → List c.D → FO c) (dfl : List c.D) (pm : List Nat) (tms : List (Tm c)) (ρ : Rho c) : Out c (Tm c) := match (datas ρ tms).bind (fun ds => permute (ds ++ dfl) pm) with
  | some ds => (match F (some (.obj k [])) ds with
    | .ok (.fr .non) (some o') => .ok (.o o') (fzAll ρ tms)
    | .exc n fs => .exc n fs
    | _ => .bad)
  | none => .bad
@[simp] theorem o_mk (k g : Nat) (l : M) (pm : List Nat) : (sem V p (.mk k g l pm)).o ρ = ((sem V p l).a ρ).bind fun tms ρ1 => mk1 k (V.call g) (V.dfl g) pm tms ρ1 := rfl
/-- == of own objects -/
def oe1 (V : Ev c) (ne : Bool) (t0 t1 : Tm c) (ρ2 : Rho c) (k : Option Nat) (d : Option c.O) : Out c (Tm c) := match k with
  | some k => (match (V.eqm k).map V.call, d.bind fun x => iscO V.ncl 0 x.d with
    | some F, some _ => (match cpC F [] [0, 1] [t0, t1] ρ2 with
      | .ok (.o (.fr (.bl b))) ρ3 => .ok (.o (.fr (.bl (if ne then !b else b)))) ρ3
      | _ => .bad)
    | _, _ => .bad)
  | none => .bad
@[simp] theorem o_oeq (ne : Bool) (a b : M) : (sem V p (.oeq ne a b)).o ρ = ((sem V p a).o ρ).bind fun t ρ0 => (ag1 ρ0 t).bind fun t0 ρ1 => ((sem V p b).o ρ1).bind fun u ρ2 => (ag1 ρ2 u).bind fun t1 ρ3 => oe1 V ne t0 t1 ρ3 (kO (tO ρ3 t0)) (tO ρ3 t1) := by
  show oeqS _ _ ne (sem V p a).o (sem V p b).o ρ = _
  unfold oeqS agS
  cases h : (sem V p a).o ρ with
  | ok t ρ0 =>
    have key : ∀ (t0 : Tm c) (ρ1 : Rho c), ((((sem V p b).o ρ1).bind fun t1 ρ1 => match t1 with
      | .o x => (.ok (.o (.fr x.d)) ρ1 : Out c (Tm c))
      | .sl i => .ok (.sl i) ρ1).bind fun t1 ρ2 => match kOf ρ2 t0 with
        | some k => (match (V.eqm k).map V.call, (tO ρ2 t1).bind fun x => iscO V.ncl 0 x.d with
          | some F, some _ => (match cpC F [] [0, 1] [t0, t1] ρ2 with
            | .ok (.o (.fr (.bl b))) ρ3 => .ok (.o (.fr (.bl (if ne then !b else b)))) ρ3
            | _ => .bad)
          | _, _ => .bad)
        | none => .bad) = ((sem V p b).o ρ1).bind fun u ρ2 => (ag1 ρ2 u).bind fun t1 ρ3 => oe1 V ne t0 t1 ρ3 (kO (tO ρ3 t0)) (tO ρ3 t1) := fun t0 ρ1 => by
      cases h2 : (sem V p b).o ρ1 with
      | ok u ρ2 =>
        cases u with
        | o x => show (match kOf ρ2 t0 with | some k => _ | none => _) = _; rw [kOf_eq]; rfl
        | sl i => show (match kOf ρ2 t0 with | some k => _ | none => _) = _; rw [kOf_eq]; rfl
      | _ => rfl
    cases t with
    | o x => exact key _ _
    | sl i => exact key _ _
  | _ => rfl
@[simp] theorem t_oeq (ne : Bool) (a b : M) : (sem V p (.oeq ne a b)).t ρ = ((sem V p (.oeq ne a b)).o ρ).bind fun t1 ρ1 => tst1 ρ1 (tO ρ1 t1) := rfl
end
end Y

set_option Elab.async false
set_option linter.all false
set_option maxRecDepth 100000
set_option maxHeartbeats 4000000
namespace Y
open PySem PySem.Spec PyProof.Rows L2
/-! ## exact numbers, told by their values; numbers with bounds -/
structure Exi (n : Num) : Prop extends Exact n where
  mul : ∀ a b, CMulW (n.val a) (n.val b) → ∃ c, n.mul a b = some c
  inj : ∀ a b, n.val a = n.val b → a = b
theorem exiInt : Exi IntN := ⟨exInt, fun a b h => ⟨_, if_pos h⟩, fun a b h => h⟩
section
variable {n : Num}
theorem Exi.lit (hE : Exi n) (a : n.T) : a = n.lit (n.val a) := hE.inj _ _ (n.lit_ok _).symm
theorem ladd (hE : Exi n) (i j : Int) : n.add (n.lit i) (n.lit j) = some (n.lit (i + j)) := by
  obtain ⟨z, h⟩ := hE.add (n.lit i) (n.lit j)
  rw [h]
  have e := n.add_ok h
  rw [n.lit_ok, n.lit_ok] at e
  rw [hE.inj z (n.lit (i + j)) (by rw [e, n.lit_ok])]
theorem lsub (hE : Exi n) (i j : Int) : n.sub (n.lit i) (n.lit j) = some (n.lit (i - j)) := by
  obtain ⟨z, h⟩ := hE.sub (n.lit i) (n.lit j)
  rw [h]
  have e := n.sub_ok h
  rw [n.lit_ok, n.lit_ok] at e
  rw [hE.inj z (n.lit (i - j)) (by rw [e, n.lit_ok])]
theorem lmul (hE : Exi n) (i j : Int) (hb : CMulW i j) : n.mul (n.lit i) (n.lit j) = some (n.lit (i * j)) := by
  obtain ⟨z, h⟩ := hE.mul (n.lit i) (n.lit j) (by rw [n.lit_ok, n.lit_ok]; exact hb)
  rw [h]
  have e := (n.mul_ok h).2
  rw [n.lit_ok, n.lit_ok] at e
  rw [hE.inj z (n.lit (i * j)) (by rw [e, n.lit_ok])]
theorem lmod (hE : Exi n) (i j : Int) (hb : 0 < j) : n.mod (n.lit i) (n.lit j) = some (n.lit (i % j)) := by
  obtain ⟨z, h⟩ := hE.mod (n.lit i) (n.lit j) (by rw [n.lit_ok]; exact hb)
  rw [h]
  have e := (n.mod_ok h).2
  rw [n.lit_ok, n.lit_ok] at e
  rw [hE.inj z (n.lit (i % j)) (by rw [e, n.lit_ok])]
theorem lneg (hE : Exi n) (i : Int) : n.neg (n.lit i) = n.lit (-i) := hE.inj _ _ (by rw [n.neg_ok, n.lit_ok, n.lit_ok])
theorem lcmp (hE : Exi n) (i j : Int) : n.cmp (n.lit i) (n.lit j) = some (compare i j) := by rw [hE.cmp, n.lit_ok, n.lit_ok]
theorem lcon (hE : Exi n) (i : Int) : n.con (n.lit i) = some i := by rw [hE.con, n.lit_ok]
end
section
variable {c : Cf}
theorem addLt (hE : Exi c.nm) (i j : Int) : addO (c := c) (.fr (.int (c.nm.lit i))) (.fr (.int (c.nm.lit j))) = some (.fr (.int (c.nm.lit (i + j)))) := by
  show (c.nm.add _ _).map (fun n => (OT.fr (.int n) : c.O)) = _
  rw [ladd hE]; rfl
theorem subLt (hE : Exi c.nm) (i j : Int) : subO (c := c) (.fr (.int (c.nm.lit i))) (.fr (.int (c.nm.lit j))) = some (.fr (.int (c.nm.lit (i - j)))) := by
  show (c.nm.sub _ _).map (fun n => (OT.fr (.int n) : c.O)) = _
  rw [lsub hE]; rfl
theorem modLt (hE : Exi c.nm) (i j : Int) (hb : 0 < j) : modO (c := c) (.fr (.int (c.nm.lit i))) (.fr (.int (c.nm.lit j))) = some (.fr (.int (c.nm.lit (i % j)))) := by
  show (c.nm.mod _ _).map (fun n => (OT.fr (.int n) : c.O)) = _
  rw [lmod hE _ _ hb]; rfl
theorem mulLt (hE : Exi c.nm) (i j : Int) (hb : CMulW i j) : mulO (c := c) (.fr (.int (c.nm.lit i))) (.fr (.int (c.nm.lit j))) = some (.fr (.int (c.nm.lit (i * j)))) := by
  have e : int2 (c := c) c.nm.mul (.fr (.int (c.nm.lit i))) (.fr (.int (c.nm.lit j))) = some (.fr (.int (c.nm.lit (i * j)))) := by
    show (c.nm.mul _ _).map (fun n => (OT.fr (.int n) : c.O)) = _
    rw [lmul hE _ _ hb]; rfl
  unfold mulO
  rw [e]
theorem pow2Lt (hE : Exi c.nm) (i : Int) (hb : CMulW i i) : powO (c := c) (.fr (.int (c.nm.lit i))) (.fr (.int (c.nm.lit 2))) = some (.fr (.int (c.nm.lit (i * i)))) := by
  unfold powO
  simp only [lcon hE]
  split
  · rw [show (2 : Int).toNat = 2 from rfl, Int.pow_succ, Int.pow_succ, Int.pow_zero, Int.one_mul]
  · rw [if_pos trivial, lmul hE _ _ hb]; rfl
theorem negLt (hE : Exi c.nm) (i : Int) : negO (c := c) (.fr (.int (c.nm.lit i))) = some (.fr (.int (c.nm.lit (-i)))) := by
  show some (OT.fr (.int (c.nm.neg (c.nm.lit i))) : c.O) = _
  rw [lneg hE]
theorem eqLt (hE : Exi c.nm) (i j : Int) : eqO (c := c) (.fr (.int (c.nm.lit i))) (.fr (.int (c.nm.lit j))) = some (.fr (.bl (decide (i = j)))) := by
  rw [eq_int hE.toExact, c.nm.lit_ok, c.nm.lit_ok]
theorem neLt (hE : Exi c.nm) (i j : Int) : neO (c := c) (.fr (.int (c.nm.lit i))) (.fr (.int (c.nm.lit j))) = some (.fr (.bl (!decide (i = j)))) := by
  rw [ne_int hE.toExact, c.nm.lit_ok, c.nm.lit_ok, ← cmpd_eq]
theorem ltLt (hE : Exi c.nm) (i j : Int) : cmpI (c := c) (· == .lt) (.fr (.int (c.nm.lit i))) (.fr (.int (c.nm.lit j))) = some (.fr (.bl (decide (i < j)))) := by
  rw [lt_int hE.toExact, c.nm.lit_ok, c.nm.lit_ok]
theorem gtLt (hE : Exi c.nm) (i j : Int) : cmpI (c := c) (· == .gt) (.fr (.int (c.nm.lit i))) (.fr (.int (c.nm.lit j))) = some (.fr (.bl (decide (j < i)))) := by
  rw [gt_int hE.toExact, c.nm.lit_ok, c.nm.lit_ok]
theorem geLt (hE : Exi c.nm) (i j : Int) : cmpI (c := c) (fun o => !(o == .lt)) (.fr (.int (c.nm.lit i))) (.fr (.int (c.nm.lit j))) = some (.fr (.bl (!decide (i < j)))) := by
  rw [ge_int hE.toExact, c.nm.lit_ok, c.nm.lit_ok]
theorem leLt (hE : Exi c.nm) (i j : Int) : cmpI (c := c) (fun o => !(o == .gt)) (.fr (.int (c.nm.lit i))) (.fr (.int (c.nm.lit j))) = some (.fr (.bl (!decide (j < i)))) := by
  rw [le_int hE.toExact, c.nm.lit_ok, c.nm.lit_ok]
theorem conLt (hE : Exi c.nm) (i : Int) : conOf (c := c) (.fr (.int (c.nm.lit i))) = some i := lcon hE i
theorem idxTup (hE : Exi c.nm) (ds : List c.D) (i : Int) : idxO (c := c) (.fr (.tup ds)) (.fr (.int (c.nm.lit i))) = (atI ds i).map .fr := by
  show (match c.nm.con (c.nm.lit i) with | some i => (atI ds i).map (OT.fr : c.D → c.O) | none => none) = _
  rw [lcon hE]
theorem idxLst (hE : Exi c.nm) (ds : List c.D) (i : Int) : idxO (c := c) (.fr (.lst ds)) (.fr (.int (c.nm.lit i))) = (atI ds i).map .fr := by
  show (match c.nm.con (c.nm.lit i) with | some i => (atI ds i).map (OT.fr : c.D → c.O) | none => none) = _
  rw [lcon hE]
/-! ### what a body gives, whatever its state at the end -/
def SO.res : SO c → Option c.O
  | .rt o _ => some o
  | _ => none
theorem runF_res {V : Ev c} {n np : Nat} {body : M} {ds : List c.D} {r : c.O} (hl : ds.length = np) (h : SO.res ((sem V false body).s (ds.map (fun d => some (.fr d)) ++ List.replicate (n - np) none)) = some r) : runF V false n np body none ds = .ok r none := by
  cases e : (sem V false body).s (ds.map (fun d => some (.fr d)) ++ List.replicate (n - np) none) with
  | rt o ρ =>
    rw [e] at h
    cases h
    exact runF_ret hl e
  | _ => rw [e] at h; cases h
def SO.resI : SO c → Option (c.O × Option c.O)
  | .rt o ρ => some (o, (ρ[0]?).join)
  | _ => none
theorem runF_resI {V : Ev c} {n np : Nat} {body : M} {ds : List c.D} {o0 r o1 : c.O} (hl : 1 + ds.length = np) (h : SO.resI ((sem V true body).s (some o0 :: (ds.map (fun d => some (.fr d)) ++ List.replicate (n - np) none))) = some (r, some o1)) : runF V true n np body (some o0) ds = .ok r (some o1) := by
  cases e : (sem V true body).s (some o0 :: (ds.map (fun d => some (.fr d)) ++ List.replicate (n - np) none)) with
  | rt o ρ =>
    rw [e] at h
    have h := Option.some.inj h
    injection h with h1 h2
    subst h1
    exact runF_rt hl e h2
  | _ => rw [e] at h; cases h
end
/-! ### numbers with bounds -/
theorem nb_add {a b : Int} {m n : Nat} (h1 : a.natAbs < 2 ^ m) (h2 : b.natAbs < 2 ^ n) : (a + b).natAbs < 2 ^ (m + n + 1) := by
  have e1 : 2 ^ m ≤ 2 ^ (m + n) := Nat.pow_le_pow_right (by decide) (by omega)
  have e2 : 2 ^ n ≤ 2 ^ (m + n) := Nat.pow_le_pow_right (by decide) (by omega)
  have := Int.natAbs_add_le a b
  rw [Nat.pow_succ]
  omega
theorem nb_sub {a b : Int} {m n : Nat} (h1 : a.natAbs < 2 ^ m) (h2 : b.natAbs < 2 ^ n) : (a - b).natAbs < 2 ^ (m + n + 1) := by
  rw [Int.sub_eq_add_neg]
  exact nb_add h1 (by rw [Int.natAbs_neg]; exact h2)
theorem nb_le {a : Int} {m n : Nat} (h : a.natAbs < 2 ^ m) (hl : m ≤ n) : a.natAbs < 2 ^ n := Nat.lt_of_lt_of_le h (Nat.pow_le_pow_right (by decide) hl)
def BN : Num where
  T := { p : Int × Nat // p.1.natAbs < 2 ^ p.2 }
  val a := a.1.1
  lit i := ⟨(i, i.natAbs.log2 + 1), Nat.lt_log2_self⟩
  add a b := some ⟨(a.1.1 + b.1.1, a.1.2 + b.1.2 + 1), nb_add a.2 b.2⟩
  sub a b := some ⟨(a.1.1 - b.1.1, a.1.2 + b.1.2 + 1), nb_sub a.2 b.2⟩
  mul a b := if h : 0 < a.1.2 ∧ 0 < b.1.2 ∧ a.1.2 + b.1.2 ≤ 1000000 then some ⟨(a.1.1 * b.1.1, a.1.2 + b.1.2), wide_lt a.2 b.2⟩ else none
  div _ _ := none
  mod a b := if h : 0 < b.1.1 then some ⟨(a.1.1 % b.1.1, b.1.2), by
    have h1 := Int.emod_nonneg a.1.1 (b := b.1.1) (by omega)
    have h2 := Int.emod_lt_of_pos a.1.1 h
    have h3 := b.2
    show (a.1.1 % b.1.1).natAbs < 2 ^ b.1.2
    omega⟩ else none
  neg a := ⟨(-a.1.1, a.1.2), by rw [Int.natAbs_neg]; exact a.2⟩
  cmp a b := some (compare a.1.1 b.1.1)
  con a := some a.1.1
  lit_ok _ := rfl
  add_ok h := by cases h; rfl
  sub_ok h := by cases h; rfl
  mul_ok h := by
    split at h
    · rename_i a b z q
      cases h
      exact ⟨wide_mul a.2 b.2 q.1 q.2.1 q.2.2, rfl⟩
    · cases h
  div_ok h := by cases h
  mod_ok h := by
    split at h
    · rename_i q; cases h; exact ⟨q, rfl⟩
    · cases h
  neg_ok _ := rfl
  cmp_ok h := by cases h; rfl
  con_ok h := by cases h; rfl
abbrev BNT := { p : Int × Nat // p.1.natAbs < 2 ^ p.2 }
def bn (x : Int) (k : Nat) (h : x.natAbs < 2 ^ k) : BNT := ⟨(x, k), h⟩
def vB (a : BNT) : Int := a.1.1
/-- what holds of numbers with bounds, at whole numbers -/
theorem good_bn {T : PT} {P : Program} {w : World} {K : PySem.W.Frag} {mg : Str → Option Value} {tb : List (Addr × Str)} {base : Heap} (hT : CkT T) (hl : LamOk T K mg base tb) (hk : KOk T P w K mg) {f : Nat} {F' : Option (OT Int) → List (D Int) → FO (mkC T IntN P w K mg tb)} (n : Nat) (hio : ∀ d, T.ds[f]? = some d → d.io = false)
    (h : ∀ ds, F' none ds = .bad ∨ ∃ ds0 : List (D BNT), ds = D.maps vB ds0 ∧ F' none ds = FO.mapG (c := mkC T BN P w K mg tb) (c' := mkC T IntN P w K mg tb) vB (evF T (mkC T BN P w K mg tb) n f none ds0)) : Good T (mkC T IntN P w K mg tb) base (2 + n * T.lv) f F' :=
  good_tr (nm' := IntN) (ι := Unit) (nmOf := fun _ => BN) (fun _ => evF T (mkC T BN P w K mg tb) n f) hk hio (fun _ => good_ev hT hl hk n f) fun ds => by
    rcases h ds with z | ⟨ds0, e1, e2⟩
    · exact .inl z
    · exact .inr ⟨(), vB, ds0, fun n => rfl, e1, e2⟩
section
variable {c : Cf} {V : Ev c} {p : Bool} {ρ : Rho c}
/-- a property -/
def pr1 (V : Ev c) (m : Str) (t0 : Tm c) (ρ1 : Rho c) (k : Option Nat) : Out c (Tm c) := match k with
  | some k => (match V.prp m k with
    | some g => (match cp (V.call g) [] [0] [t0] ρ1 with
      | .exc _ _ => .bad
      | r => r)
    | none => .bad)
  | none => .bad
@[simp] theorem o_prp (m : Str) (a : M) : (sem V p (.prp m a)).o ρ = ((sem V p a).o ρ).bind fun t ρ0 => (ag1 ρ0 t).bind fun t0 ρ1 => pr1 V m t0 ρ1 (kO (tO ρ1 t0)) := by
  show prpS _ (sem V p a).o ρ = _
  unfold prpS agS
  cases h : (sem V p a).o ρ with
  | ok t ρ0 =>
    have key : ∀ (t0 : Tm c) (ρ1 : Rho c), (match kOf ρ1 t0 with
      | some k => (match (V.prp m k).map V.call with
        | some F => (match cpC F [] [0] [t0] ρ1 with
          | .exc _ _ => .bad
          | r => r)
        | none => .bad)
      | none => .bad) = pr1 V m t0 ρ1 (kO (tO ρ1 t0)) := fun t0 ρ1 => by
      rw [kOf_eq]
      unfold pr1
      cases kO (tO ρ1 t0) with
      | none => rfl
      | some k =>
        dsimp only
        cases V.prp m k <;> rfl
    cases t with
    | o x => exact key _ _
    | sl i => exact key _ _
  | _ => rfl
theorem pr1_some {m : Str} {t0 : Tm c} {k g : Nat} (h : V.prp m k = some g) : pr1 V m t0 ρ (some k) = (match cp (V.call g) [] [0] [t0] ρ with
      | .exc _ _ => .bad
      | r => r) := by
  unfold pr1
  simp only [h]
end
theorem binK2 {c : Cf} : (binK 2 : c.O → c.O → Option c.O) = mulO := rfl
theorem bf2 {c : Cf} (x : c.O) : bfn (c := c) 2 [x] = allO x := rfl
theorem bf5 {c : Cf} (x : c.O) : bfn (c := c) 5 [x] = tupO x := rfl
theorem bf6 {c : Cf} (x : c.O) : bfn (c := c) 6 [x] = sumO x := rfl
theorem bf7 {c : Cf} (x : c.O) : bfn (c := c) 7 [x] = maxO x := rfl
theorem bf8 {c : Cf} (x : c.O) : bfn (c := c) 8 [x] = minO x := rfl
end Y

set_option Elab.async false
set_option linter.all false
set_option maxRecDepth 100000
set_option maxHeartbeats 4000000
namespace Z
open PySem PySem.Spec PyProof.Rows L2 Y
def top (i : Nat) : Stmt := PySem.Challenge.pw_sixviews_k07_mixed_numbers_and_rims.main.body.getD i (.Pass ⟨0, 0, 0, 0⟩)
def B_check_drawn : M := (.cons (.loop (.tt (.cons (.tn 1) (.cons (.tn 2) .nil))) (.enu (.mth ⟨#[115, 105, 100, 101, 115]⟩ (.var 0) .nil [])) (.cons (.iff (.cmp 0 (.var 2) (.int 0)) (.cons (.rai 3 (.cons (.var 1) .nil)) .nil) .nil) .nil)) .nil)
def d_check_drawn : PD := { st := top 17, nm := "check_drawn", N := ["pen", "at", "side"], ps := ["pen"], io := false, lam := false, body := B_check_drawn, pats := [(1, [], [0])] }
def B_mixed : M := (.cons (.ret (.bfc 6 (.cons (.comp [2, 3] (.tt (.cons (.tn 2) (.cons (.tn 3) .nil))) (.zp (.mth ⟨#[115, 105, 100, 101, 115]⟩ (.var 0) .nil []) (.fld (.var 1) ⟨#[114, 101, 97, 99, 104, 101, 115]⟩)) .nop (.bin 2 (.var 2) (.var 3))) .nil))) .nil)
def d_mixed : PD := { st := top 20, nm := "mixed", N := ["first", "second", "side", "reach"], ps := ["first", "second"], io := false, lam := false, body := B_mixed, pats := [(2, [], [0, 1]), (0, ["second", "first"], [1, 0])] }
def B_spare : M := (.cons (.ex (.call 0 (.cons (.var 0) .nil) [0])) (.cons (.ex (.call 0 (.cons (.var 1) .nil) [0])) (.cons (.ret (.bin 1 (.bin 5 (.call 1 (.cons (.var 0) (.cons (.var 1) .nil)) [0, 1]) (.int 2)) (.bin 2 (.prp ⟨#[97, 114, 101, 97]⟩ (.var 0)) (.prp ⟨#[97, 114, 101, 97]⟩ (.var 1))))) .nil)))
def d_spare : PD := { st := top 21, nm := "spare", N := ["first", "second"], ps := ["first", "second"], io := false, lam := false, body := B_spare, pats := [(0, ["second", "first"], [1, 0]), (2, [], [0, 1])] }
def B_same_ratio : M := (.cons (.ex (.call 0 (.cons (.var 0) .nil) [0])) (.cons (.ex (.call 0 (.cons (.var 1) .nil) [0])) (.cons (.asg (.tn 2) (.mth ⟨#[115, 105, 100, 101, 115]⟩ (.var 0) .nil [])) (.cons (.asg (.tn 3) (.mth ⟨#[115, 105, 100, 101, 115]⟩ (.var 1) .nil [])) (.cons (.ret (.bfc 2 (.cons (.comp2 [4, 5] [5] (.tn 4) (.rng1 (.int 6)) .nop (.tn 5) (.var 4) .nop (.cmp 4 (.bin 2 (.idx (.fz (.var 2)) (.var 4)) (.idx (.fz (.var 3)) (.var 5))) (.bin 2 (.idx (.fz (.var 2)) (.var 5)) (.idx (.fz (.var 3)) (.var 4))))) .nil))) .nil)))))
def d_same_ratio : PD := { st := top 22, nm := "same_ratio", N := ["first", "second", "ones", "others", "i", "j"], ps := ["first", "second"], io := false, lam := false, body := B_same_ratio, pats := [(0, ["second", "first"], [1, 0]), (2, [], [0, 1])] }
def B__law_draw : M := (.cons (.loop (.tn 2) (.rng1 (.int 64)) (.cons (.iff (.or (.cmp 4 (.var 0) (.lst .nil)) (.one (.cmp 5 (.idx (.var 0) (.int 0)) (.int 0)))) (.cons .brk .nil) .nil) (.cons (.pop0 0 (.int 0)) .nil))) (.cons (.iff (.cmp 4 (.var 0) (.lst .nil)) (.cons (.ret (.int 0)) .nil) .nil) (.cons (.asg (.tn 3) (.bin 4 (.bfc 1 (.cons (.idx (.var 0) (.int 0)) .nil)) (.var 1))) (.cons (.sti 0 (.int 0) (.bin 3 (.idx (.var 0) (.int 0)) (.var 1))) (.cons (.ret (.var 3)) .nil)))))
def d__law_draw : PD := { st := top 24, nm := "_law_draw", N := ["_law_pot", "_law_many", "_law_turn", "_law_digit"], ps := ["_law_pot", "_law_many"], io := true, lam := false, body := B__law_draw, pats := [(2, [], [0, 1])] }
def B__law_number : M := (.cons (.iff (.cmp 4 (.var 1) (.int 0)) (.cons (.ret (.bin 1 (.bin 4 (.bfc 1 (.cons (.bin 0 (.call 4 (.cons (.var 0) (.cons (.int 7) .nil)) [0, 1]) (.var 2)) .nil)) (.int 7)) (.int 3))) .nil) .nil) (.cons (.asg (.tn 3) (.call 4 (.cons (.var 0) (.cons (.bin 5 (.int 10) (.int 39)) .nil)) [0, 1])) (.cons (.iff (.cmp 4 (.var 1) (.int 2)) (.cons (.asg (.tn 3) (.bin 0 (.bin 5 (.int 10) (.int 30)) (.bin 4 (.bfc 1 (.cons (.var 3) .nil)) (.int 100)))) .nil) .nil) (.cons (.iff (.cmp 4 (.call 4 (.cons (.var 0) (.cons (.int 2) .nil)) [0, 1]) (.int 1)) (.cons (.ret (.neg (.var 3))) .nil) .nil) (.cons (.ret (.var 3)) .nil)))))
def d__law_number : PD := { st := top 25, nm := "_law_number", N := ["_law_pot", "_law_mode", "_law_shift", "_law_number_here"], ps := ["_law_pot", "_law_mode", "_law_shift"], io := true, lam := false, body := B__law_number, pats := [(3, [], [0, 1, 2])] }
def B__law_same : M := (.cons (.iff (.cmp 8 (.var 1) .non) (.cons (.ret (.cmp 8 (.var 0) .non)) .nil) .nil) (.cons (.iff (.isi 0 (.var 1)) (.cons (.ret (.and (.isi 0 (.var 0)) (.one (.cmp 4 (.var 0) (.var 1))))) .nil) .nil) (.cons (.iff (.isi 1 (.var 1)) (.cons (.ret (.and (.isi 1 (.var 0)) (.and (.nt (.isi 0 (.var 0))) (.one (.cmp 4 (.var 0) (.var 1)))))) .nil) .nil) (.cons (.iff (.isi 2 (.var 1)) (.cons (.ret (.and (.isi 2 (.var 0)) (.one (.cmp 4 (.var 0) (.var 1))))) .nil) .nil) (.cons (.iff (.cmp 5 (.isi 3 (.var 1)) (.isi 3 (.var 0))) (.cons (.ret (.bl false)) .nil) .nil) (.cons (.iff (.or (.cmp 5 (.isi 4 (.var 1)) (.isi 4 (.var 0))) (.one (.cmp 5 (.bfc 0 (.cons (.var 0) .nil)) (.bfc 0 (.cons (.var 1) .nil))))) (.cons (.ret (.bl false)) .nil) .nil) (.cons (.ret (.bfc 2 (.cons (.comp [2] (.tn 2) (.rng1 (.bfc 0 (.cons (.var 1) .nil))) .nop (.call 6 (.cons (.idx (.var 0) (.var 2)) (.cons (.idx (.var 1) (.var 2)) .nil)) [0, 1])) .nil))) .nil)))))))
def d__law_same : PD := { st := top 26, nm := "_law_same", N := ["_law_told", "_law_due", "_law_k"], ps := ["_law_told", "_law_due"], io := false, lam := false, body := B__law_same, pats := [(2, [], [0, 1])] }
def B__law_line : M := (.cons (.asg (.tn 2) (.lst (.cons (.bin 0 (.idx (.var 1) (.int 0)) (.idx (.var 1) (.int 1))) (.cons (.idx (.var 1) (.int 1)) (.cons (.neg (.idx (.var 1) (.int 0))) .nil))))) (.cons (.iff (.cmp 0 (.var 0) (.int 3)) (.cons (.ret (.idx (.fz (.var 2)) (.var 0))) .nil) .nil) (.cons (.ret (.neg (.idx (.fz (.var 2)) (.bin 1 (.var 0) (.int 3))))) .nil)))
def d__law_line : PD := { st := top 27, nm := "_law_line", N := ["_law_i", "_law_p", "_law_table"], ps := ["_law_i", "_law_p"], io := false, lam := false, body := B__law_line, pats := [(2, [], [0, 1])] }
def B__law_corners : M := (.cons (.asg (.tn 1) (.dsp [⟨#[100]⟩, ⟨#[101]⟩, ⟨#[110]⟩, ⟨#[119]⟩] (.cons (.lst (.cons (.tup (.cons (.int 0) (.cons (.int 0) .nil))) .nil)) (.cons (.lst (.cons (.tup (.cons (.int 0) (.cons (.int 0) .nil))) (.cons (.tup (.cons (.int 1) (.cons (.int 0) .nil))) .nil))) (.cons (.lst (.cons (.tup (.cons (.int 0) (.cons (.int 0) .nil))) (.cons (.tup (.cons (.int 0) (.cons (.int 1) .nil))) .nil))) (.cons (.lst (.cons (.tup (.cons (.neg (.int 1)) (.cons (.int 1) .nil))) (.cons (.tup (.cons (.int 0) (.cons (.int 0) .nil))) .nil))) .nil)))))) (.cons (.dst 1 (.str ⟨#[117]⟩) (.lst (.cons (.tup (.cons (.int 0) (.cons (.int 0) .nil))) (.cons (.tup (.cons (.int 0) (.cons (.int 1) .nil))) (.cons (.tup (.cons (.int 1) (.cons (.int 0) .nil))) .nil))))) (.cons (.dst 1 (.str ⟨#[118]⟩) (.lst (.cons (.tup (.cons (.neg (.int 1)) (.cons (.int 1) .nil))) (.cons (.tup (.cons (.int 0) (.cons (.int 0) .nil))) (.cons (.tup (.cons (.int 0) (.cons (.int 1) .nil))) .nil))))) (.cons (.ret (.comp [2, 3] (.tt (.cons (.tn 2) (.cons (.tn 3) .nil))) (.dix (.var 1) (.idx (.var 0) (.int 2))) .nop (.tup (.cons (.bin 0 (.idx (.var 0) (.int 0)) (.var 2)) (.cons (.bin 0 (.idx (.var 0) (.int 1)) (.var 3)) .nil))))) .nil))))
def d__law_corners : PD := { st := top 28, nm := "_law_corners", N := ["_law_c", "_law_shapes", "_law_a", "_law_b"], ps := ["_law_c"], io := false, lam := false, body := B__law_corners, pats := [(1, [], [0])] }
def B__law_sides : M := (.cons (.ret (.comp [1] (.tn 1) (.rng1 (.int 6)) .nop (.bin 1 (.bin 0 (.idx (.var 0) (.bin 1 (.var 1) (.int 1))) (.idx (.var 0) (.bin 4 (.bfc 1 (.cons (.bin 0 (.var 1) (.int 1)) .nil)) (.int 6)))) (.idx (.var 0) (.var 1))))) .nil)
def d__law_sides : PD := { st := top 30, nm := "_law_sides", N := ["_law_r", "_law_k"], ps := ["_law_r"], io := false, lam := false, body := B__law_sides, pats := [(1, [], [0])] }
def B__law_unit : M := (.cons (.asg (.tn 1) (.call 8 (.cons (.tup (.cons (.int 0) (.cons (.int 0) (.cons (.var 0) .nil)))) .nil) [0])) (.cons (.ret (.comp [3] (.tn 3) (.rng1 (.int 6)) .nop (.bfc 7 (.cons (.comp [2] (.tn 2) (.var 1) .nop (.call 7 (.cons (.var 3) (.cons (.var 2) .nil)) [0, 1])) .nil)))) .nil))
def d__law_unit : PD := { st := top 31, nm := "_law_unit", N := ["_law_letter", "_law_mine", "_law_one", "_law_i"], ps := ["_law_letter"], io := false, lam := false, body := B__law_unit, pats := [(1, [], [0])] }
def B__law_cooked : M := (.cons (.asg (.tn 2) (.lst (.cons (.int 0) (.cons (.int 0) (.cons (.int 0) (.cons (.int 0) (.cons (.int 0) (.cons (.int 0) .nil)))))))) (.cons (.asg (.tn 3) (.call 4 (.cons (.var 0) (.cons (.int 8) .nil)) [0, 1])) (.cons (.loop (.tn 4) (.rng1 (.int 5)) (.cons (.asg (.tn 5) (.bin 4 (.bfc 1 (.cons (.bin 0 (.bin 0 (.call 4 (.cons (.var 0) (.cons (.int 4) .nil)) [0, 1]) (.var 1)) (.var 4)) .nil)) (.int 4))) (.cons (.iff (.or (.cmp 0 (.var 3) (.int 3)) (.one (.cmp 4 (.bin 1 (.var 3) (.int 3)) (.var 4)))) (.cons (.asg (.tn 6) (.call 10 (.cons (.idx (.str ⟨#[101, 110, 119, 117, 118]⟩) (.var 4)) .nil) [0])) (.cons (.asg (.tn 2) (.comp [7] (.tn 7) (.rng1 (.int 6)) .nop (.bin 0 (.idx (.fz (.var 2)) (.var 7)) (.bin 2 (.var 5) (.idx (.fz (.var 6)) (.var 7)))))) .nil)) .nil) .nil))) (.cons (.ret (.var 2)) .nil))))
def d__law_cooked : PD := { st := top 32, nm := "_law_cooked", N := ["_law_pot", "_law_shift", "_law_r", "_law_only", "_law_k", "_law_many", "_law_unit_here", "_law_i"], ps := ["_law_pot", "_law_shift"], io := true, lam := false, body := B__law_cooked, pats := [(2, [], [0, 1])] }
def B__law_moved : M := (.cons (.ret (.comp [2] (.tn 2) (.rng1 (.int 6)) .nop (.bin 0 (.idx (.var 0) (.var 2)) (.call 7 (.cons (.var 2) (.cons (.var 1) .nil)) [0, 1])))) .nil)
def d__law_moved : PD := { st := top 33, nm := "_law_moved", N := ["_law_r", "_law_p", "_law_k"], ps := ["_law_r", "_law_p"], io := false, lam := false, body := B__law_moved, pats := [(2, [], [0, 1])] }
def B__law_mixed : M := (.cons (.asg (.tn 2) (.call 9 (.cons (.var 0) .nil) [0])) (.cons (.ret (.bfc 6 (.cons (.comp [3] (.tn 3) (.rng1 (.int 6)) .nop (.bin 2 (.idx (.fz (.var 2)) (.var 3)) (.idx (.var 1) (.var 3)))) .nil))) .nil))
def d__law_mixed : PD := { st := top 34, nm := "_law_mixed", N := ["_law_r", "_law_s", "_law_sides_here", "_law_k"], ps := ["_law_r", "_law_s"], io := false, lam := false, body := B__law_mixed, pats := [(2, [], [0, 1])] }
def B__law_ratio : M := (.cons (.asg (.tn 2) (.call 9 (.cons (.var 0) .nil) [0])) (.cons (.asg (.tn 3) (.call 9 (.cons (.var 1) .nil) [0])) (.cons (.loop (.tn 4) (.rng1 (.int 6)) (.cons (.loop (.tn 5) (.rng1 (.int 6)) (.cons (.iff (.cmp 5 (.bin 2 (.idx (.fz (.var 2)) (.var 4)) (.idx (.fz (.var 3)) (.var 5))) (.bin 2 (.idx (.fz (.var 2)) (.var 5)) (.idx (.fz (.var 3)) (.var 4)))) (.cons (.ret (.bl false)) .nil) .nil) .nil)) .nil)) (.cons (.ret (.bl true)) .nil))))
def d__law_ratio : PD := { st := top 35, nm := "_law_ratio", N := ["_law_r", "_law_s", "_law_ours", "_law_theirs", "_law_k", "_law_j"], ps := ["_law_r", "_law_s"], io := false, lam := false, body := B__law_ratio, pats := [(2, [], [0, 1])] }
def B__law_mixed_fits : M := (.cons (.asg (.tn 4) (.mk 0 19 (.cons (.var 0) .nil) [0])) (.cons (.asg (.tn 5) (.mk 0 19 (.cons (.var 1) .nil) [0])) (.cons (.asg (.tn 6) (.call 13 (.cons (.var 0) (.cons (.var 1) .nil)) [0, 1])) (.cons (.asg (.tn 7) (.lst (.cons (.call 1 (.cons (.var 4) (.cons (.var 5) .nil)) [0, 1]) (.cons (.call 1 (.cons (.var 5) (.cons (.var 4) .nil)) [0, 1]) (.cons (.call 1 (.cons (.var 4) (.cons (.var 5) .nil)) [1, 0]) .nil))))) (.cons (.app 7 (.call 1 (.cons (.mk 0 19 (.cons (.call 12 (.cons (.var 0) (.cons (.var 2) .nil)) [0, 1]) .nil) [0]) (.cons (.var 5) .nil)) [0, 1])) (.cons (.app 7 (.call 1 (.cons (.var 5) (.cons (.mk 0 19 (.cons (.call 12 (.cons (.var 0) (.cons (.var 2) .nil)) [0, 1]) .nil) [0]) .nil)) [0, 1])) (.cons (.iff (.nt (.call 6 (.cons (.var 7) (.cons (.comp [8] (.tn 8) (.rng1 (.int 5)) .nop (.var 6)) .nil)) [0, 1])) (.cons (.ret (.bl false)) .nil) .nil) (.cons (.asg (.tn 9) (.bfc 6 (.cons (.call 9 (.cons (.var 0) .nil) [0]) .nil))) (.cons (.asg (.tn 7) (.lst (.cons (.call 1 (.cons (.var 4) (.cons (.sta 0 ⟨#[101, 118, 101, 110]⟩ 20 (.cons (.var 3) .nil) [0]) .nil)) [0, 1]) (.cons (.call 1 (.cons (.sta 0 ⟨#[101, 118, 101, 110]⟩ 20 (.cons (.var 3) .nil) [0]) (.cons (.var 4) .nil)) [0, 1]) .nil)))) (.cons (.iff (.nt (.call 6 (.cons (.var 7) (.cons (.lst (.cons (.bin 2 (.var 3) (.var 9)) (.cons (.bin 2 (.var 3) (.var 9)) .nil))) .nil)) [0, 1])) (.cons (.ret (.bl false)) .nil) .nil) (.cons (.ret (.call 6 (.cons (.lst (.cons (.prp ⟨#[114, 105, 109]⟩ (.var 4)) (.cons (.call 1 (.cons (.var 4) (.cons (.sta 0 ⟨#[101, 118, 101, 110]⟩ 20 (.cons (.int 1) .nil) [0]) .nil)) [0, 1]) .nil))) (.cons (.lst (.cons (.var 9) (.cons (.var 9) .nil))) .nil)) [0, 1])) .nil)))))))))))
def d__law_mixed_fits : PD := { st := top 36, nm := "_law_mixed_fits", N := ["_law_r", "_law_s", "_law_p", "_law_n", "_law_one", "_law_two", "_law_due", "_law_told", "_law_k", "_law_rim"], ps := ["_law_r", "_law_s", "_law_p", "_law_n"], io := false, lam := false, body := B__law_mixed_fits, pats := [(4, [], [0, 1, 2, 3])] }
def B__law_drawn_fits : M := (.cons (.asg (.tn 2) (.mk 0 19 (.cons (.var 0) .nil) [0])) (.cons (.asg (.tn 3) (.mk 0 19 (.cons (.var 1) .nil) [0])) (.cons (.asg (.tn 4) (.lst (.cons (.call 13 (.cons (.var 0) (.cons (.var 0) .nil)) [0, 1]) (.cons (.call 13 (.cons (.var 1) (.cons (.var 1) .nil)) [0, 1]) .nil)))) (.cons (.asg (.tn 5) (.call 13 (.cons (.var 0) (.cons (.var 1) .nil)) [0, 1])) (.cons (.asg (.tn 5) (.bin 1 (.bin 2 (.var 5) (.var 5)) (.bin 2 (.idx (.fz (.var 4)) (.int 0)) (.idx (.fz (.var 4)) (.int 1))))) (.cons (.asg (.tn 6) (.call 2 (.cons (.var 2) (.cons (.var 3) .nil)) [0, 1])) (.cons (.iff (.or (.nt (.call 6 (.cons (.var 6) (.cons (.var 5) .nil)) [0, 1])) (.one (.cmp 0 (.var 6) (.int 0)))) (.cons (.ret (.bl false)) .nil) .nil) (.cons (.iff (.nt (.call 6 (.cons (.call 2 (.cons (.var 3) (.cons (.var 2) .nil)) [1, 0]) (.cons (.var 5) .nil)) [0, 1])) (.cons (.ret (.bl false)) .nil) .nil) (.cons (.asg (.tn 7) (.call 14 (.cons (.var 0) (.cons (.var 1) .nil)) [0, 1])) (.cons (.asg (.tn 8) (.call 3 (.cons (.var 2) (.cons (.var 3) .nil)) [0, 1])) (.cons (.iff (.nt (.call 6 (.cons (.lst (.cons (.var 8) (.cons (.call 3 (.cons (.var 3) (.cons (.var 2) .nil)) [1, 0]) .nil))) (.cons (.lst (.cons (.var 7) (.cons (.var 7) .nil))) .nil)) [0, 1])) (.cons (.ret (.bl false)) .nil) .nil) (.cons (.iff (.and (.cmp 2 (.idx (.fz (.var 4)) (.int 0)) (.int 0)) (.and (.cmp 2 (.idx (.fz (.var 4)) (.int 1)) (.int 0)) (.one (.cmp 5 (.var 8) (.cmp 4 (.var 6) (.int 0)))))) (.cons (.ret (.bl false)) .nil) .nil) (.cons (.asg (.tn 9) (.prp ⟨#[114, 105, 109]⟩ (.var 2))) (.cons (.iff (.or (.nt (.call 6 (.cons (.prp ⟨#[97, 114, 101, 97]⟩ (.var 2)) (.cons (.idx (.fz (.var 4)) (.int 0)) .nil)) [0, 1])) (.one (.cmp 0 (.bin 2 (.var 9) (.var 9)) (.bin 2 (.int 6) (.prp ⟨#[97, 114, 101, 97]⟩ (.var 2)))))) (.cons (.ret (.bl false)) .nil) .nil) (.cons (.asg (.tn 10) (.call 9 (.cons (.var 0) .nil) [0])) (.cons (.ret (.cmp 4 (.cmp 4 (.bin 2 (.var 9) (.var 9)) (.bin 2 (.int 6) (.prp ⟨#[97, 114, 101, 97]⟩ (.var 2)))) (.cmp 4 (.bfc 8 (.cons (.var 10) .nil)) (.bfc 7 (.cons (.var 10) .nil))))) .nil))))))))))))))))
def d__law_drawn_fits : PD := { st := top 37, nm := "_law_drawn_fits", N := ["_law_r", "_law_s", "_law_one", "_law_two", "_law_areas", "_law_cross", "_law_told", "_law_due", "_law_ratio_here", "_law_rim", "_law_sides_here"], ps := ["_law_r", "_law_s"], io := false, lam := false, body := B__law_drawn_fits, pats := [(2, [], [0, 1])] }
def B__law_refused : M := (.cons (.asg (.tn 3) (.fz (.mk 0 19 (.cons (.var 0) .nil) [0]))) (.cons (.asg (.tn 4) (.fz (.mk 0 19 (.cons (.var 1) .nil) [0]))) (.cons (.asg (.tn 5) (.lst (.cons (.tri (.call 2 (.cons (.var 3) (.cons (.var 4) .nil)) [0, 1])) .nil))) (.cons (.app 5 (.tri (.call 3 (.cons (.var 3) (.cons (.var 4) .nil)) [0, 1]))) (.cons (.ret (.call 6 (.cons (.var 5) (.cons (.lst (.cons (.lst (.cons (.tup (.cons (.str ⟨#[115, 105, 100, 101]⟩) (.cons (.var 2) .nil))) .nil)) (.cons (.lst (.cons (.tup (.cons (.str ⟨#[115, 105, 100, 101]⟩) (.cons (.var 2) .nil))) .nil)) .nil))) .nil)) [0, 1])) .nil)))))
def d__law_refused : PD := { st := top 38, nm := "_law_refused", N := ["_law_r", "_law_s", "_law_side", "_law_one", "_law_two", "_law_told"], ps := ["_law_r", "_law_s", "_law_side"], io := false, lam := true, body := B__law_refused, pats := [(3, [], [0, 1, 2])] }
def B__law_pair_fits : M := (.cons (.asg (.tn 2) (.comp [3] (.tn 3) (.rng1 (.int 6)) (.cmp 0 (.idx (.call 9 (.cons (.var 0) .nil) [0]) (.var 3)) (.int 0)) (.var 3))) (.cons (.asg (.tn 2) (.bin 0 (.var 2) (.comp [3] (.tn 3) (.rng1 (.int 6)) (.cmp 0 (.idx (.call 9 (.cons (.var 1) .nil) [0]) (.var 3)) (.int 0)) (.var 3)))) (.cons (.iff (.cmp 5 (.var 2) (.lst .nil)) (.cons (.ret (.call 17 (.cons (.var 0) (.cons (.var 1) (.cons (.idx (.fz (.var 2)) (.int 0)) .nil))) [0, 1, 2])) .nil) .nil) (.cons (.ret (.call 16 (.cons (.var 0) (.cons (.var 1) .nil)) [0, 1])) .nil))))
def d__law_pair_fits : PD := { st := top 39, nm := "_law_pair_fits", N := ["_law_r", "_law_s", "_law_below", "_law_k"], ps := ["_law_r", "_law_s"], io := false, lam := false, body := B__law_pair_fits, pats := [(2, [], [0, 1])] }
def B_Pen___init__ : M := (.cons (.iff (.cmp 5 (.bfc 0 (.cons (.var 1) .nil)) (.int 6)) (.cons (.rai 2 (.cons (.bfc 0 (.cons (.var 1) .nil)) .nil)) .nil) .nil) (.cons (.sfl 0 ⟨#[114, 101, 97, 99, 104, 101, 115]⟩ (.bfc 5 (.cons (.var 1) .nil))) .nil))
def d_Pen___init__ : PD := { st := inClass (top 18) 0, nm := "__init__", N := ["self", "reaches"], ps := ["self", "reaches"], io := true, lam := false, body := B_Pen___init__, pats := [(2, [], [0, 1])], cls := some "Pen", wrap := 0 }
def B_Pen_even : M := (.cons (.ret (.mk 0 19 (.cons (.bin 2 (.lst (.cons (.var 0) .nil)) (.int 6)) .nil) [0])) .nil)
def d_Pen_even : PD := { st := inClass (top 18) 3, nm := "even", N := ["size"], ps := ["size"], io := false, lam := false, body := B_Pen_even, pats := [(1, [], [0])], cls := some "Pen", wrap := 2 }
def B_Pen___eq__ : M := (.cons (.ret (.and (.isc 0 (.var 1)) (.one (.cmp 4 (.fld (.var 0) ⟨#[114, 101, 97, 99, 104, 101, 115]⟩) (.fld (.var 1) ⟨#[114, 101, 97, 99, 104, 101, 115]⟩))))) .nil)
def d_Pen___eq__ : PD := { st := inClass (top 18) 5, nm := "__eq__", N := ["self", "other"], ps := ["self", "other"], io := false, lam := false, body := B_Pen___eq__, pats := [(2, [], [0, 1])], cls := some "Pen", wrap := 0 }
def B_Pen_sides : M := (.cons (.asg (.tn 1) (.fld (.var 0) ⟨#[114, 101, 97, 99, 104, 101, 115]⟩)) (.cons (.ret (.bfc 5 (.cons (.comp [2] (.tn 2) (.rng1 (.int 6)) .nop (.bin 1 (.bin 0 (.idx (.fz (.var 1)) (.bin 1 (.var 2) (.int 1))) (.idx (.fz (.var 1)) (.bin 4 (.bin 0 (.var 2) (.int 1)) (.int 6)))) (.idx (.fz (.var 1)) (.var 2)))) .nil))) .nil))
def d_Pen_sides : PD := { st := inClass (top 18) 14, nm := "sides", N := ["self", "reaches", "at"], ps := ["self"], io := false, lam := false, body := B_Pen_sides, pats := [(1, [], [0])], cls := some "Pen", wrap := 0 }
def B_Pen_area : M := (.cons (.ret (.bfc 6 (.cons (.comp [1, 2] (.tt (.cons (.tn 1) (.cons (.tn 2) .nil))) (.zp (.mth ⟨#[115, 105, 100, 101, 115]⟩ (.var 0) .nil []) (.fld (.var 0) ⟨#[114, 101, 97, 99, 104, 101, 115]⟩)) .nop (.bin 2 (.var 1) (.var 2))) .nil))) .nil)
def d_Pen_area : PD := { st := inClass (top 18) 16, nm := "area", N := ["self", "side", "reach"], ps := ["self"], io := false, lam := false, body := B_Pen_area, pats := [(1, [], [0])], cls := some "Pen", wrap := 1 }
def B_Pen_rim : M := (.cons (.ret (.bfc 6 (.cons (.mth ⟨#[115, 105, 100, 101, 115]⟩ (.var 0) .nil []) .nil))) .nil)
def d_Pen_rim : PD := { st := inClass (top 18) 17, nm := "rim", N := ["self"], ps := ["self"], io := false, lam := false, body := B_Pen_rim, pats := [(1, [], [0])], cls := some "Pen", wrap := 1 }
def B_law : M := (.cons (.asg (.tn 1) (.comp [2] (.tn 2) (.slc (.var 0) .nop (.int 63)) .nop (.ife (.cmp 3 (.var 2) (.int 0)) (.var 2) (.bin 1 (.neg (.var 2)) (.int 1))))) (.cons (.asg (.tn 3) (.call 4 (.cons (.var 1) (.cons (.int 5) .nil)) [0, 1])) (.cons (.asg (.tn 4) (.call 4 (.cons (.var 1) (.cons (.int 2) .nil)) [0, 1])) (.cons (.asg (.tn 5) (.bin 0 (.int 1) (.call 4 (.cons (.var 1) (.cons (.idx (.lst (.cons (.int 3) (.cons (.bin 5 (.int 10) (.int 30)) .nil))) (.var 4)) .nil)) [0, 1]))) (.cons (.asg (.tn 6) (.tup (.cons (.call 5 (.cons (.var 1) (.cons (.var 4) (.cons (.int 1) .nil))) [0, 1, 2]) (.cons (.call 5 (.cons (.var 1) (.cons (.var 4) (.cons (.int 6) .nil))) [0, 1, 2]) .nil)))) (.cons (.iff (.cmp 4 (.var 3) (.int 2)) (.cons (.asg (.tn 7) (.call 12 (.cons (.comp [8] (.tn 8) (.rng1 (.int 6)) .nop (.var 5)) (.cons (.var 6) .nil)) [0, 1])) .nil) (.cons (.iff (.cmp 4 (.var 3) (.int 4)) (.cons (.asg (.tn 7) (.comp [8] (.tn 8) (.rng1 (.int 6)) .nop (.bin 1 (.bin 4 (.bfc 1 (.cons (.bin 0 (.call 4 (.cons (.var 1) (.cons (.int 9) .nil)) [0, 1]) (.idx (.lst (.cons (.int 2) (.cons (.int 1) (.cons (.int 4) (.cons (.int 3) (.cons (.int 5) (.cons (.int 4) .nil))))))) (.var 8))) .nil)) (.int 9)) (.int 4)))) .nil) (.cons (.asg (.tn 7) (.call 11 (.cons (.var 1) (.cons (.int 1) .nil)) [0, 1])) .nil)) .nil)) (.cons (.iff (.cmp 4 (.var 3) (.int 1)) (.cons (.asg (.tn 9) (.call 12 (.cons (.comp [10] (.tn 10) (.var 7) .nop (.bin 2 (.var 5) (.var 10))) (.cons (.var 6) .nil)) [0, 1])) .nil) (.cons (.iff (.cmp 3 (.var 3) (.int 3)) (.cons (.asg (.tn 9) (.comp [8] (.tn 8) (.rng1 (.int 6)) .nop (.bin 1 (.bin 4 (.bfc 1 (.cons (.bin 0 (.call 4 (.cons (.var 1) (.cons (.int 9) .nil)) [0, 1]) (.idx (.lst (.cons (.int 6) (.cons (.int 7) (.cons (.int 5) (.cons (.int 6) (.cons (.int 4) (.cons (.int 7) .nil))))))) (.var 8))) .nil)) (.int 9)) (.int 4)))) .nil) (.cons (.asg (.tn 9) (.call 11 (.cons (.var 1) (.cons (.int 2) .nil)) [0, 1])) .nil)) .nil)) (.cons (.iff (.nt (.call 15 (.cons (.var 7) (.cons (.var 9) (.cons (.var 6) (.cons (.var 5) .nil)))) [0, 1, 2, 3])) (.cons (.ret (.bl false)) .nil) .nil) (.cons (.iff (.nt (.call 15 (.cons (.var 9) (.cons (.var 7) (.cons (.var 6) (.cons (.neg (.var 5)) .nil)))) [0, 1, 2, 3])) (.cons (.ret (.bl false)) .nil) .nil) (.cons (.ret (.and (.call 18 (.cons (.var 7) (.cons (.var 9) .nil)) [0, 1]) (.and (.call 18 (.cons (.var 9) (.cons (.var 7) .nil)) [0, 1]) (.one (.call 18 (.cons (.var 7) (.cons (.var 7) .nil)) [0, 1]))))) .nil))))))))))
def d_law : PD := { st := top 40, nm := "law", N := ["_law_script", "_law_pot", "_law_c", "_law_pick", "_law_mode", "_law_n", "_law_p", "_law_r", "_law_k", "_law_s", "_law_reach"], ps := ["_law_script"], io := false, lam := false, body := B_law, pats := [] }
def x_BadView : XD := { nm := "BadView", fl := "view", qual := "BadView.__init__", st := inClass (top 3) 0 }
def x_BadKind : XD := { nm := "BadKind", fl := "kind", qual := "BadKind.__init__", st := inClass (top 4) 0 }
def x_BadCount : XD := { nm := "BadCount", fl := "count", qual := "BadCount.__init__", st := inClass (top 5) 0 }
def x_NotDrawn : XD := { nm := "NotDrawn", fl := "side", qual := "NotDrawn.__init__", st := inClass (top 6) 0 }
def r_ref : RD := { nm := "_law_refusal", st := top 29, act := "_law_act", told := "_law_told", e := "e", xE := "DrawingError", trp := [("NotDrawn", "side", "side"), ("BadCount", "count", "count"), ("Nowhere", "nowhere", "")] }
def T : PT := { ds := [d_check_drawn, d_mixed, d_spare, d_same_ratio, d__law_draw, d__law_number, d__law_same, d__law_line, d__law_corners, d__law_sides, d__law_unit, d__law_cooked, d__law_moved, d__law_mixed, d__law_ratio, d__law_mixed_fits, d__law_drawn_fits, d__law_refused, d__law_pair_fits, d_Pen___init__, d_Pen_even, d_Pen___eq__, d_Pen_sides, d_Pen_area, d_Pen_rim], gls := [("KINDS", (.tup [(.str "d"), (.str "e"), (.str "n"), (.str "u"), (.str "v"), (.str "w")])), ("LINES", (.tup [(.tup [(.int 1), (.int 1)]), (.tup [(.int 0), (.int 1)]), (.tup [(.int (-1)), (.int 0)]), (.tup [(.int (-1)), (.int (-1))]), (.tup [(.int 0), (.int (-1))]), (.tup [(.int 1), (.int 0)])]))], dics := [("CORNERS", [("d", (.tup [(.tup [(.int 0), (.int 0)])])), ("e", (.tup [(.tup [(.int 0), (.int 0)]), (.tup [(.int 1), (.int 0)])])), ("n", (.tup [(.tup [(.int 0), (.int 0)]), (.tup [(.int 0), (.int 1)])])), ("u", (.tup [(.tup [(.int 0), (.int 0)]), (.tup [(.int 0), (.int 1)]), (.tup [(.int 1), (.int 0)])])), ("v", (.tup [(.tup [(.int (-1)), (.int 1)]), (.tup [(.int 0), (.int 0)]), (.tup [(.int 0), (.int 1)])])), ("w", (.tup [(.tup [(.int (-1)), (.int 1)]), (.tup [(.int 0), (.int 0)])]))])], dcns := [], xs := [x_BadView, x_BadKind, x_BadCount, x_NotDrawn], ref := some r_ref, cs := [{ nm := "Pen", flds := ["reaches"], ini := 19, mth := [("__eq__", 21), ("sides", 22)], prp := [("area", 23), ("rim", 24)], sta := [("even", 20)], eqm := some 21 }], mths := [("__eq__", [21]), ("sides", [22])], stas := [("Pen", "even", 0, 20)] }
theorem sc_check_drawn : FnScope d_check_drawn.N d_check_drawn.ps (defScope d_check_drawn.st) := ⟨rfl, rfl, rfl, by decide +kernel, rfl, by decide +kernel, by decide +kernel⟩
theorem ck_check_drawn : (chk (T.sx d_check_drawn) d_check_drawn.body).b (defScope d_check_drawn.st) (defBody d_check_drawn.st) = true := by decide +kernel
theorem kb_check_drawn (K : PySem.W.Frag) (f : Addr) (fd : FuncData) (F : d_check_drawn.fnD K f fd) : ∀ q ∈ d_check_drawn.pats, KB K fd d_check_drawn.ps (d_check_drawn.dva K) q.1 q.2.1 q.2.2 := by
  obtain ⟨oc, od, dV, kV, doc, pm, an, cdv, ct, osl, rfl, _, _, hD, _⟩ := F.ex
  obtain rfl := dflV_nil hD
  intro q hq
  rcases List.mem_cons.mp hq with rfl | hq
  · refine ⟨[], .nil, fun s us ws _ h1 h2 => ?_⟩
    match us, ws, h1, h2 with
    | [_], [], _, _ => exact .of_eq rfl
  cases hq
theorem ok_check_drawn : CkOk T d_check_drawn := ⟨sc_check_drawn, ck_check_drawn, kb_check_drawn⟩
theorem sc_mixed : FnScope d_mixed.N d_mixed.ps (defScope d_mixed.st) := ⟨rfl, rfl, rfl, by decide +kernel, rfl, by decide +kernel, by decide +kernel⟩
theorem ck_mixed : (chk (T.sx d_mixed) d_mixed.body).b (defScope d_mixed.st) (defBody d_mixed.st) = true := by decide +kernel
theorem kb_mixed (K : PySem.W.Frag) (f : Addr) (fd : FuncData) (F : d_mixed.fnD K f fd) : ∀ q ∈ d_mixed.pats, KB K fd d_mixed.ps (d_mixed.dva K) q.1 q.2.1 q.2.2 := by
  obtain ⟨oc, od, dV, kV, doc, pm, an, cdv, ct, osl, rfl, _, _, hD, _⟩ := F.ex
  obtain rfl := dflV_nil hD
  intro q hq
  rcases List.mem_cons.mp hq with rfl | hq
  · refine ⟨[], .nil, fun s us ws _ h1 h2 => ?_⟩
    match us, ws, h1, h2 with
    | [_, _], [], _, _ => exact .of_eq rfl
  rcases List.mem_cons.mp hq with rfl | hq
  · refine ⟨[], .nil, fun s us ws _ h1 h2 => ?_⟩
    match us, ws, h1, h2 with
    | [], [_, _], _, _ => exact .of_eq rfl
  cases hq
theorem ok_mixed : CkOk T d_mixed := ⟨sc_mixed, ck_mixed, kb_mixed⟩
theorem sc_spare : FnScope d_spare.N d_spare.ps (defScope d_spare.st) := ⟨rfl, rfl, rfl, by decide +kernel, rfl, by decide +kernel, by decide +kernel⟩
theorem ck_spare : (chk (T.sx d_spare) d_spare.body).b (defScope d_spare.st) (defBody d_spare.st) = true := by decide +kernel
theorem kb_spare (K : PySem.W.Frag) (f : Addr) (fd : FuncData) (F : d_spare.fnD K f fd) : ∀ q ∈ d_spare.pats, KB K fd d_spare.ps (d_spare.dva K) q.1 q.2.1 q.2.2 := by
  obtain ⟨oc, od, dV, kV, doc, pm, an, cdv, ct, osl, rfl, _, _, hD, _⟩ := F.ex
  obtain rfl := dflV_nil hD
  intro q hq
  rcases List.mem_cons.mp hq with rfl | hq
  · refine ⟨[], .nil, fun s us ws _ h1 h2 => ?_⟩
    match us, ws, h1, h2 with
    | [], [_, _], _, _ => exact .of_eq rfl
  rcases List.mem_cons.mp hq with rfl | hq
  · refine ⟨[], .nil, fun s us ws _ h1 h2 => ?_⟩
    match us, ws, h1, h2 with
    | [_, _], [], _, _ => exact .of_eq rfl
  cases hq
theorem ok_spare : CkOk T d_spare := ⟨sc_spare, ck_spare, kb_spare⟩
theorem sc_same_ratio : FnScope d_same_ratio.N d_same_ratio.ps (defScope d_same_ratio.st) := ⟨rfl, rfl, rfl, by decide +kernel, rfl, by decide +kernel, by decide +kernel⟩
theorem ck_same_ratio : (chk (T.sx d_same_ratio) d_same_ratio.body).b (defScope d_same_ratio.st) (defBody d_same_ratio.st) = true := by decide +kernel
theorem kb_same_ratio (K : PySem.W.Frag) (f : Addr) (fd : FuncData) (F : d_same_ratio.fnD K f fd) : ∀ q ∈ d_same_ratio.pats, KB K fd d_same_ratio.ps (d_same_ratio.dva K) q.1 q.2.1 q.2.2 := by
  obtain ⟨oc, od, dV, kV, doc, pm, an, cdv, ct, osl, rfl, _, _, hD, _⟩ := F.ex
  obtain rfl := dflV_nil hD
  intro q hq
  rcases List.mem_cons.mp hq with rfl | hq
  · refine ⟨[], .nil, fun s us ws _ h1 h2 => ?_⟩
    match us, ws, h1, h2 with
    | [], [_, _], _, _ => exact .of_eq rfl
  rcases List.mem_cons.mp hq with rfl | hq
  · refine ⟨[], .nil, fun s us ws _ h1 h2 => ?_⟩
    match us, ws, h1, h2 with
    | [_, _], [], _, _ => exact .of_eq rfl
  cases hq
theorem ok_same_ratio : CkOk T d_same_ratio := ⟨sc_same_ratio, ck_same_ratio, kb_same_ratio⟩
theorem sc__law_draw : FnScope d__law_draw.N d__law_draw.ps (defScope d__law_draw.st) := ⟨rfl, rfl, rfl, by decide +kernel, rfl, by decide +kernel, by decide +kernel⟩
theorem ck__law_draw : (chk (T.sx d__law_draw) d__law_draw.body).b (defScope d__law_draw.st) (defBody d__law_draw.st) = true := by decide +kernel
theorem kb__law_draw (K : PySem.W.Frag) (f : Addr) (fd : FuncData) (F : d__law_draw.fnD K f fd) : ∀ q ∈ d__law_draw.pats, KB K fd d__law_draw.ps (d__law_draw.dva K) q.1 q.2.1 q.2.2 := by
  obtain ⟨oc, od, dV, kV, doc, pm, an, cdv, ct, osl, rfl, _, _, hD, _⟩ := F.ex
  obtain rfl := dflV_nil hD
  intro q hq
  rcases List.mem_cons.mp hq with rfl | hq
  · refine ⟨[], .nil, fun s us ws _ h1 h2 => ?_⟩
    match us, ws, h1, h2 with
    | [_, _], [], _, _ => exact .of_eq rfl
  cases hq
theorem ok__law_draw : CkOk T d__law_draw := ⟨sc__law_draw, ck__law_draw, kb__law_draw⟩
theorem sc__law_number : FnScope d__law_number.N d__law_number.ps (defScope d__law_number.st) := ⟨rfl, rfl, rfl, by decide +kernel, rfl, by decide +kernel, by decide +kernel⟩
theorem ck__law_number : (chk (T.sx d__law_number) d__law_number.body).b (defScope d__law_number.st) (defBody d__law_number.st) = true := by decide +kernel
theorem kb__law_number (K : PySem.W.Frag) (f : Addr) (fd : FuncData) (F : d__law_number.fnD K f fd) : ∀ q ∈ d__law_number.pats, KB K fd d__law_number.ps (d__law_number.dva K) q.1 q.2.1 q.2.2 := by
  obtain ⟨oc, od, dV, kV, doc, pm, an, cdv, ct, osl, rfl, _, _, hD, _⟩ := F.ex
  obtain rfl := dflV_nil hD
  intro q hq
  rcases List.mem_cons.mp hq with rfl | hq
  · refine ⟨[], .nil, fun s us ws _ h1 h2 => ?_⟩
    match us, ws, h1, h2 with
    | [_, _, _], [], _, _ => exact .of_eq rfl
  cases hq
theorem ok__law_number : CkOk T d__law_number := ⟨sc__law_number, ck__law_number, kb__law_number⟩
theorem sc__law_same : FnScope d__law_same.N d__law_same.ps (defScope d__law_same.st) := ⟨rfl, rfl, rfl, by decide +kernel, rfl, by decide +kernel, by decide +kernel⟩
theorem ck__law_same : (chk (T.sx d__law_same) d__law_same.body).b (defScope d__law_same.st) (defBody d__law_same.st) = true := by decide +kernel
theorem kb__law_same (K : PySem.W.Frag) (f : Addr) (fd : FuncData) (F : d__law_same.fnD K f fd) : ∀ q ∈ d__law_same.pats, KB K fd d__law_same.ps (d__law_same.dva K) q.1 q.2.1 q.2.2 := by
  obtain ⟨oc, od, dV, kV, doc, pm, an, cdv, ct, osl, rfl, _, _, hD, _⟩ := F.ex
  obtain rfl := dflV_nil hD
  intro q hq
  rcases List.mem_cons.mp hq with rfl | hq
  · refine ⟨[], .nil, fun s us ws _ h1 h2 => ?_⟩
    match us, ws, h1, h2 with
    | [_, _], [], _, _ => exact .of_eq rfl
  cases hq
theorem ok__law_same : CkOk T d__law_same := ⟨sc__law_same, ck__law_same, kb__law_same⟩
theorem sc__law_line : FnScope d__law_line.N d__law_line.ps (defScope d__law_line.st) := ⟨rfl, rfl, rfl, by decide +kernel, rfl, by decide +kernel, by decide +kernel⟩
theorem ck__law_line : (chk (T.sx d__law_line) d__law_line.body).b (defScope d__law_line.st) (defBody d__law_line.st) = true := by decide +kernel
theorem kb__law_line (K : PySem.W.Frag) (f : Addr) (fd : FuncData) (F : d__law_line.fnD K f fd) : ∀ q ∈ d__law_line.pats, KB K fd d__law_line.ps (d__law_line.dva K) q.1 q.2.1 q.2.2 := by
  obtain ⟨oc, od, dV, kV, doc, pm, an, cdv, ct, osl, rfl, _, _, hD, _⟩ := F.ex
  obtain rfl := dflV_nil hD
  intro q hq
  rcases List.mem_cons.mp hq with rfl | hq
  · refine ⟨[], .nil, fun s us ws _ h1 h2 => ?_⟩
    match us, ws, h1, h2 with
    | [_, _], [], _, _ => exact .of_eq rfl
  cases hq
theorem ok__law_line : CkOk T d__law_line := ⟨sc__law_line, ck__law_line, kb__law_line⟩
theorem sc__law_corners : FnScope d__law_corners.N d__law_corners.ps (defScope d__law_corners.st) := ⟨rfl, rfl, rfl, by decide +kernel, rfl, by decide +kernel, by decide +kernel⟩
theorem ck__law_corners : (chk (T.sx d__law_corners) d__law_corners.body).b (defScope d__law_corners.st) (defBody d__law_corners.st) = true := by decide +kernel
theorem kb__law_corners (K : PySem.W.Frag) (f : Addr) (fd : FuncData) (F : d__law_corners.fnD K f fd) : ∀ q ∈ d__law_corners.pats, KB K fd d__law_corners.ps (d__law_corners.dva K) q.1 q.2.1 q.2.2 := by
  obtain ⟨oc, od, dV, kV, doc, pm, an, cdv, ct, osl, rfl, _, _, hD, _⟩ := F.ex
  obtain rfl := dflV_nil hD
  intro q hq
  rcases List.mem_cons.mp hq with rfl | hq
  · refine ⟨[], .nil, fun s us ws _ h1 h2 => ?_⟩
    match us, ws, h1, h2 with
    | [_], [], _, _ => exact .of_eq rfl
  cases hq
theorem ok__law_corners : CkOk T d__law_corners := ⟨sc__law_corners, ck__law_corners, kb__law_corners⟩
theorem sc__law_sides : FnScope d__law_sides.N d__law_sides.ps (defScope d__law_sides.st) := ⟨rfl, rfl, rfl, by decide +kernel, rfl, by decide +kernel, by decide +kernel⟩
theorem ck__law_sides : (chk (T.sx d__law_sides) d__law_sides.body).b (defScope d__law_sides.st) (defBody d__law_sides.st) = true := by decide +kernel
theorem kb__law_sides (K : PySem.W.Frag) (f : Addr) (fd : FuncData) (F : d__law_sides.fnD K f fd) : ∀ q ∈ d__law_sides.pats, KB K fd d__law_sides.ps (d__law_sides.dva K) q.1 q.2.1 q.2.2 := by
  obtain ⟨oc, od, dV, kV, doc, pm, an, cdv, ct, osl, rfl, _, _, hD, _⟩ := F.ex
  obtain rfl := dflV_nil hD
  intro q hq
  rcases List.mem_cons.mp hq with rfl | hq
  · refine ⟨[], .nil, fun s us ws _ h1 h2 => ?_⟩
    match us, ws, h1, h2 with
    | [_], [], _, _ => exact .of_eq rfl
  cases hq
theorem ok__law_sides : CkOk T d__law_sides := ⟨sc__law_sides, ck__law_sides, kb__law_sides⟩
theorem sc__law_unit : FnScope d__law_unit.N d__law_unit.ps (defScope d__law_unit.st) := ⟨rfl, rfl, rfl, by decide +kernel, rfl, by decide +kernel, by decide +kernel⟩
theorem ck__law_unit : (chk (T.sx d__law_unit) d__law_unit.body).b (defScope d__law_unit.st) (defBody d__law_unit.st) = true := by decide +kernel
theorem kb__law_unit (K : PySem.W.Frag) (f : Addr) (fd : FuncData) (F : d__law_unit.fnD K f fd) : ∀ q ∈ d__law_unit.pats, KB K fd d__law_unit.ps (d__law_unit.dva K) q.1 q.2.1 q.2.2 := by
  obtain ⟨oc, od, dV, kV, doc, pm, an, cdv, ct, osl, rfl, _, _, hD, _⟩ := F.ex
  obtain rfl := dflV_nil hD
  intro q hq
  rcases List.mem_cons.mp hq with rfl | hq
  · refine ⟨[], .nil, fun s us ws _ h1 h2 => ?_⟩
    match us, ws, h1, h2 with
    | [_], [], _, _ => exact .of_eq rfl
  cases hq
theorem ok__law_unit : CkOk T d__law_unit := ⟨sc__law_unit, ck__law_unit, kb__law_unit⟩
theorem sc__law_cooked : FnScope d__law_cooked.N d__law_cooked.ps (defScope d__law_cooked.st) := ⟨rfl, rfl, rfl, by decide +kernel, rfl, by decide +kernel, by decide +kernel⟩
theorem ck__law_cooked : (chk (T.sx d__law_cooked) d__law_cooked.body).b (defScope d__law_cooked.st) (defBody d__law_cooked.st) = true := by decide +kernel
theorem kb__law_cooked (K : PySem.W.Frag) (f : Addr) (fd : FuncData) (F : d__law_cooked.fnD K f fd) : ∀ q ∈ d__law_cooked.pats, KB K fd d__law_cooked.ps (d__law_cooked.dva K) q.1 q.2.1 q.2.2 := by
  obtain ⟨oc, od, dV, kV, doc, pm, an, cdv, ct, osl, rfl, _, _, hD, _⟩ := F.ex
  obtain rfl := dflV_nil hD
  intro q hq
  rcases List.mem_cons.mp hq with rfl | hq
  · refine ⟨[], .nil, fun s us ws _ h1 h2 => ?_⟩
    match us, ws, h1, h2 with
    | [_, _], [], _, _ => exact .of_eq rfl
  cases hq
theorem ok__law_cooked : CkOk T d__law_cooked := ⟨sc__law_cooked, ck__law_cooked, kb__law_cooked⟩
theorem sc__law_moved : FnScope d__law_moved.N d__law_moved.ps (defScope d__law_moved.st) := ⟨rfl, rfl, rfl, by decide +kernel, rfl, by decide +kernel, by decide +kernel⟩
theorem ck__law_moved : (chk (T.sx d__law_moved) d__law_moved.body).b (defScope d__law_moved.st) (defBody d__law_moved.st) = true := by decide +kernel
theorem kb__law_moved (K : PySem.W.Frag) (f : Addr) (fd : FuncData) (F : d__law_moved.fnD K f fd) : ∀ q ∈ d__law_moved.pats, KB K fd d__law_moved.ps (d__law_moved.dva K) q.1 q.2.1 q.2.2 := by
  obtain ⟨oc, od, dV, kV, doc, pm, an, cdv, ct, osl, rfl, _, _, hD, _⟩ := F.ex
  obtain rfl := dflV_nil hD
  intro q hq
  rcases List.mem_cons.mp hq with rfl | hq
  · refine ⟨[], .nil, fun s us ws _ h1 h2 => ?_⟩
    match us, ws, h1, h2 with
    | [_, _], [], _, _ => exact .of_eq rfl
  cases hq
theorem ok__law_moved : CkOk T d__law_moved := ⟨sc__law_moved, ck__law_moved, kb__law_moved⟩
theorem sc__law_mixed : FnScope d__law_mixed.N d__law_mixed.ps (defScope d__law_mixed.st) := ⟨rfl, rfl, rfl, by decide +kernel, rfl, by decide +kernel, by decide +kernel⟩
theorem ck__law_mixed : (chk (T.sx d__law_mixed) d__law_mixed.body).b (defScope d__law_mixed.st) (defBody d__law_mixed.st) = true := by decide +kernel
theorem kb__law_mixed (K : PySem.W.Frag) (f : Addr) (fd : FuncData) (F : d__law_mixed.fnD K f fd) : ∀ q ∈ d__law_mixed.pats, KB K fd d__law_mixed.ps (d__law_mixed.dva K) q.1 q.2.1 q.2.2 := by
  obtain ⟨oc, od, dV, kV, doc, pm, an, cdv, ct, osl, rfl, _, _, hD, _⟩ := F.ex
  obtain rfl := dflV_nil hD
  intro q hq
  rcases List.mem_cons.mp hq with rfl | hq
  · refine ⟨[], .nil, fun s us ws _ h1 h2 => ?_⟩
    match us, ws, h1, h2 with
    | [_, _], [], _, _ => exact .of_eq rfl
  cases hq
theorem ok__law_mixed : CkOk T d__law_mixed := ⟨sc__law_mixed, ck__law_mixed, kb__law_mixed⟩
theorem sc__law_ratio : FnScope d__law_ratio.N d__law_ratio.ps (defScope d__law_ratio.st) := ⟨rfl, rfl, rfl, by decide +kernel, rfl, by decide +kernel, by decide +kernel⟩
theorem ck__law_ratio : (chk (T.sx d__law_ratio) d__law_ratio.body).b (defScope d__law_ratio.st) (defBody d__law_ratio.st) = true := by decide +kernel
theorem kb__law_ratio (K : PySem.W.Frag) (f : Addr) (fd : FuncData) (F : d__law_ratio.fnD K f fd) : ∀ q ∈ d__law_ratio.pats, KB K fd d__law_ratio.ps (d__law_ratio.dva K) q.1 q.2.1 q.2.2 := by
  obtain ⟨oc, od, dV, kV, doc, pm, an, cdv, ct, osl, rfl, _, _, hD, _⟩ := F.ex
  obtain rfl := dflV_nil hD
  intro q hq
  rcases List.mem_cons.mp hq with rfl | hq
  · refine ⟨[], .nil, fun s us ws _ h1 h2 => ?_⟩
    match us, ws, h1, h2 with
    | [_, _], [], _, _ => exact .of_eq rfl
  cases hq
theorem ok__law_ratio : CkOk T d__law_ratio := ⟨sc__law_ratio, ck__law_ratio, kb__law_ratio⟩
theorem sc__law_mixed_fits : FnScope d__law_mixed_fits.N d__law_mixed_fits.ps (defScope d__law_mixed_fits.st) := ⟨rfl, rfl, rfl, by decide +kernel, rfl, by decide +kernel, by decide +kernel⟩
theorem ck__law_mixed_fits : (chk (T.sx d__law_mixed_fits) d__law_mixed_fits.body).b (defScope d__law_mixed_fits.st) (defBody d__law_mixed_fits.st) = true := by decide +kernel
theorem kb__law_mixed_fits (K : PySem.W.Frag) (f : Addr) (fd : FuncData) (F : d__law_mixed_fits.fnD K f fd) : ∀ q ∈ d__law_mixed_fits.pats, KB K fd d__law_mixed_fits.ps (d__law_mixed_fits.dva K) q.1 q.2.1 q.2.2 := by
  obtain ⟨oc, od, dV, kV, doc, pm, an, cdv, ct, osl, rfl, _, _, hD, _⟩ := F.ex
  obtain rfl := dflV_nil hD
  intro q hq
  rcases List.mem_cons.mp hq with rfl | hq
  · refine ⟨[], .nil, fun s us ws _ h1 h2 => ?_⟩
    match us, ws, h1, h2 with
    | [_, _, _, _], [], _, _ => exact .of_eq rfl
  cases hq
theorem ok__law_mixed_fits : CkOk T d__law_mixed_fits := ⟨sc__law_mixed_fits, ck__law_mixed_fits, kb__law_mixed_fits⟩
theorem sc__law_drawn_fits : FnScope d__law_drawn_fits.N d__law_drawn_fits.ps (defScope d__law_drawn_fits.st) := ⟨rfl, rfl, rfl, by decide +kernel, rfl, by decide +kernel, by decide +kernel⟩
theorem ck__law_drawn_fits : (chk (T.sx d__law_drawn_fits) d__law_drawn_fits.body).b (defScope d__law_drawn_fits.st) (defBody d__law_drawn_fits.st) = true := by decide +kernel
theorem kb__law_drawn_fits (K : PySem.W.Frag) (f : Addr) (fd : FuncData) (F : d__law_drawn_fits.fnD K f fd) : ∀ q ∈ d__law_drawn_fits.pats, KB K fd d__law_drawn_fits.ps (d__law_drawn_fits.dva K) q.1 q.2.1 q.2.2 := by
  obtain ⟨oc, od, dV, kV, doc, pm, an, cdv, ct, osl, rfl, _, _, hD, _⟩ := F.ex
  obtain rfl := dflV_nil hD
  intro q hq
  rcases List.mem_cons.mp hq with rfl | hq
  · refine ⟨[], .nil, fun s us ws _ h1 h2 => ?_⟩
    match us, ws, h1, h2 with
    | [_, _], [], _, _ => exact .of_eq rfl
  cases hq
theorem ok__law_drawn_fits : CkOk T d__law_drawn_fits := ⟨sc__law_drawn_fits, ck__law_drawn_fits, kb__law_drawn_fits⟩
theorem sc__law_refused : FnScope d__law_refused.N d__law_refused.ps (defScope d__law_refused.st) := ⟨rfl, rfl, rfl, by decide +kernel, rfl, by decide +kernel, by decide +kernel⟩
theorem ck__law_refused : (chk (T.sx d__law_refused) d__law_refused.body).b (defScope d__law_refused.st) (defBody d__law_refused.st) = true := by decide +kernel
theorem kb__law_refused (K : PySem.W.Frag) (f : Addr) (fd : FuncData) (F : d__law_refused.fnD K f fd) : ∀ q ∈ d__law_refused.pats, KB K fd d__law_refused.ps (d__law_refused.dva K) q.1 q.2.1 q.2.2 := by
  obtain ⟨oc, od, dV, kV, doc, pm, an, cdv, ct, osl, rfl, _, _, hD, _⟩ := F.ex
  obtain rfl := dflV_nil hD
  intro q hq
  rcases List.mem_cons.mp hq with rfl | hq
  · refine ⟨[], .nil, fun s us ws _ h1 h2 => ?_⟩
    match us, ws, h1, h2 with
    | [_, _, _], [], _, _ => exact .of_eq rfl
  cases hq
theorem ok__law_refused : CkOk T d__law_refused := ⟨sc__law_refused, ck__law_refused, kb__law_refused⟩
theorem sc__law_pair_fits : FnScope d__law_pair_fits.N d__law_pair_fits.ps (defScope d__law_pair_fits.st) := ⟨rfl, rfl, rfl, by decide +kernel, rfl, by decide +kernel, by decide +kernel⟩
theorem ck__law_pair_fits : (chk (T.sx d__law_pair_fits) d__law_pair_fits.body).b (defScope d__law_pair_fits.st) (defBody d__law_pair_fits.st) = true := by decide +kernel
theorem kb__law_pair_fits (K : PySem.W.Frag) (f : Addr) (fd : FuncData) (F : d__law_pair_fits.fnD K f fd) : ∀ q ∈ d__law_pair_fits.pats, KB K fd d__law_pair_fits.ps (d__law_pair_fits.dva K) q.1 q.2.1 q.2.2 := by
  obtain ⟨oc, od, dV, kV, doc, pm, an, cdv, ct, osl, rfl, _, _, hD, _⟩ := F.ex
  obtain rfl := dflV_nil hD
  intro q hq
  rcases List.mem_cons.mp hq with rfl | hq
  · refine ⟨[], .nil, fun s us ws _ h1 h2 => ?_⟩
    match us, ws, h1, h2 with
    | [_, _], [], _, _ => exact .of_eq rfl
  cases hq
theorem ok__law_pair_fits : CkOk T d__law_pair_fits := ⟨sc__law_pair_fits, ck__law_pair_fits, kb__law_pair_fits⟩
theorem sc_Pen___init__ : FnScope d_Pen___init__.N d_Pen___init__.ps (defScope d_Pen___init__.st) := ⟨rfl, rfl, rfl, by decide +kernel, rfl, by decide +kernel, by decide +kernel⟩
theorem ck_Pen___init__ : (chk (T.sx d_Pen___init__) d_Pen___init__.body).b (defScope d_Pen___init__.st) (defBody d_Pen___init__.st) = true := by decide +kernel
theorem kb_Pen___init__ (K : PySem.W.Frag) (f : Addr) (fd : FuncData) (F : d_Pen___init__.fnD K f fd) : ∀ q ∈ d_Pen___init__.pats, KB K fd d_Pen___init__.ps (d_Pen___init__.dva K) q.1 q.2.1 q.2.2 := by
  obtain ⟨oc, od, dV, kV, doc, pm, an, cdv, ct, osl, rfl, _, _, hD, _⟩ := F.ex
  obtain rfl := dflV_nil hD
  intro q hq
  rcases List.mem_cons.mp hq with rfl | hq
  · refine ⟨[], .nil, fun s us ws _ h1 h2 => ?_⟩
    match us, ws, h1, h2 with
    | [_, _], [], _, _ => exact .of_eq rfl
  cases hq
theorem ok_Pen___init__ : CkOk T d_Pen___init__ := ⟨sc_Pen___init__, ck_Pen___init__, kb_Pen___init__⟩
theorem sc_Pen_even : FnScope d_Pen_even.N d_Pen_even.ps (defScope d_Pen_even.st) := ⟨rfl, rfl, rfl, by decide +kernel, rfl, by decide +kernel, by decide +kernel⟩
theorem ck_Pen_even : (chk (T.sx d_Pen_even) d_Pen_even.body).b (defScope d_Pen_even.st) (defBody d_Pen_even.st) = true := by decide +kernel
theorem kb_Pen_even (K : PySem.W.Frag) (f : Addr) (fd : FuncData) (F : d_Pen_even.fnD K f fd) : ∀ q ∈ d_Pen_even.pats, KB K fd d_Pen_even.ps (d_Pen_even.dva K) q.1 q.2.1 q.2.2 := by
  obtain ⟨oc, od, dV, kV, doc, pm, an, cdv, ct, osl, rfl, _, _, hD, _⟩ := F.ex
  obtain rfl := dflV_nil hD
  intro q hq
  rcases List.mem_cons.mp hq with rfl | hq
  · refine ⟨[], .nil, fun s us ws _ h1 h2 => ?_⟩
    match us, ws, h1, h2 with
    | [_], [], _, _ => exact .of_eq rfl
  cases hq
theorem ok_Pen_even : CkOk T d_Pen_even := ⟨sc_Pen_even, ck_Pen_even, kb_Pen_even⟩
theorem sc_Pen___eq__ : FnScope d_Pen___eq__.N d_Pen___eq__.ps (defScope d_Pen___eq__.st) := ⟨rfl, rfl, rfl, by decide +kernel, rfl, by decide +kernel, by decide +kernel⟩
theorem ck_Pen___eq__ : (chk (T.sx d_Pen___eq__) d_Pen___eq__.body).b (defScope d_Pen___eq__.st) (defBody d_Pen___eq__.st) = true := by decide +kernel
theorem kb_Pen___eq__ (K : PySem.W.Frag) (f : Addr) (fd : FuncData) (F : d_Pen___eq__.fnD K f fd) : ∀ q ∈ d_Pen___eq__.pats, KB K fd d_Pen___eq__.ps (d_Pen___eq__.dva K) q.1 q.2.1 q.2.2 := by
  obtain ⟨oc, od, dV, kV, doc, pm, an, cdv, ct, osl, rfl, _, _, hD, _⟩ := F.ex
  obtain rfl := dflV_nil hD
  intro q hq
  rcases List.mem_cons.mp hq with rfl | hq
  · refine ⟨[], .nil, fun s us ws _ h1 h2 => ?_⟩
    match us, ws, h1, h2 with
    | [_, _], [], _, _ => exact .of_eq rfl
  cases hq
theorem ok_Pen___eq__ : CkOk T d_Pen___eq__ := ⟨sc_Pen___eq__, ck_Pen___eq__, kb_Pen___eq__⟩
theorem sc_Pen_sides : FnScope d_Pen_sides.N d_Pen_sides.ps (defScope d_Pen_sides.st) := ⟨rfl, rfl, rfl, by decide +kernel, rfl, by decide +kernel, by decide +kernel⟩
theorem ck_Pen_sides : (chk (T.sx d_Pen_sides) d_Pen_sides.body).b (defScope d_Pen_sides.st) (defBody d_Pen_sides.st) = true := by decide +kernel
theorem kb_Pen_sides (K : PySem.W.Frag) (f : Addr) (fd : FuncData) (F : d_Pen_sides.fnD K f fd) : ∀ q ∈ d_Pen_sides.pats, KB K fd d_Pen_sides.ps (d_Pen_sides.dva K) q.1 q.2.1 q.2.2 := by
  obtain ⟨oc, od, dV, kV, doc, pm, an, cdv, ct, osl, rfl, _, _, hD, _⟩ := F.ex
  obtain rfl := dflV_nil hD
  intro q hq
  rcases List.mem_cons.mp hq with rfl | hq
  · refine ⟨[], .nil, fun s us ws _ h1 h2 => ?_⟩
    match us, ws, h1, h2 with
    | [_], [], _, _ => exact .of_eq rfl
  cases hq
theorem ok_Pen_sides : CkOk T d_Pen_sides := ⟨sc_Pen_sides, ck_Pen_sides, kb_Pen_sides⟩
theorem sc_Pen_area : FnScope d_Pen_area.N d_Pen_area.ps (defScope d_Pen_area.st) := ⟨rfl, rfl, rfl, by decide +kernel, rfl, by decide +kernel, by decide +kernel⟩
theorem ck_Pen_area : (chk (T.sx d_Pen_area) d_Pen_area.body).b (defScope d_Pen_area.st) (defBody d_Pen_area.st) = true := by decide +kernel
theorem kb_Pen_area (K : PySem.W.Frag) (f : Addr) (fd : FuncData) (F : d_Pen_area.fnD K f fd) : ∀ q ∈ d_Pen_area.pats, KB K fd d_Pen_area.ps (d_Pen_area.dva K) q.1 q.2.1 q.2.2 := by
  obtain ⟨oc, od, dV, kV, doc, pm, an, cdv, ct, osl, rfl, _, _, hD, _⟩ := F.ex
  obtain rfl := dflV_nil hD
  intro q hq
  rcases List.mem_cons.mp hq with rfl | hq
  · refine ⟨[], .nil, fun s us ws _ h1 h2 => ?_⟩
    match us, ws, h1, h2 with
    | [_], [], _, _ => exact .of_eq rfl
  cases hq
theorem ok_Pen_area : CkOk T d_Pen_area := ⟨sc_Pen_area, ck_Pen_area, kb_Pen_area⟩
theorem sc_Pen_rim : FnScope d_Pen_rim.N d_Pen_rim.ps (defScope d_Pen_rim.st) := ⟨rfl, rfl, rfl, by decide +kernel, rfl, by decide +kernel, by decide +kernel⟩
theorem ck_Pen_rim : (chk (T.sx d_Pen_rim) d_Pen_rim.body).b (defScope d_Pen_rim.st) (defBody d_Pen_rim.st) = true := by decide +kernel
theorem kb_Pen_rim (K : PySem.W.Frag) (f : Addr) (fd : FuncData) (F : d_Pen_rim.fnD K f fd) : ∀ q ∈ d_Pen_rim.pats, KB K fd d_Pen_rim.ps (d_Pen_rim.dva K) q.1 q.2.1 q.2.2 := by
  obtain ⟨oc, od, dV, kV, doc, pm, an, cdv, ct, osl, rfl, _, _, hD, _⟩ := F.ex
  obtain rfl := dflV_nil hD
  intro q hq
  rcases List.mem_cons.mp hq with rfl | hq
  · refine ⟨[], .nil, fun s us ws _ h1 h2 => ?_⟩
    match us, ws, h1, h2 with
    | [_], [], _, _ => exact .of_eq rfl
  cases hq
theorem ok_Pen_rim : CkOk T d_Pen_rim := ⟨sc_Pen_rim, ck_Pen_rim, kb_Pen_rim⟩
theorem sc_law : FnScope d_law.N d_law.ps (defScope d_law.st) := ⟨rfl, rfl, rfl, by decide +kernel, rfl, by decide +kernel, by decide +kernel⟩
theorem ck_law : (chk (T.sx d_law) d_law.body).b (defScope d_law.st) (defBody d_law.st) = true := by decide +kernel
theorem bd_law (K : PySem.W.Frag) (f : Addr) (fd : FuncData) (F : Fun K d_law.nm d_law.nm d_law.st f fd) (s : Shared) (u : Value) : BindsTo s fd ⟨[u], []⟩ [("_law_script", u)] := by
  obtain ⟨oc, od, kV, doc, pm, an, cdv, ct, osl, rfl, _, _⟩ := F.ex
  exact .of_eq rfl
theorem cx_BadView : CkX x_BadView := by
  refine ⟨⟨rfl, rfl, rfl, by decide +kernel, rfl, by decide +kernel, by decide +kernel⟩, ⟨_, _, _, _, rfl⟩, by decide +kernel, by decide +kernel, by decide +kernel, fun K f fd F => ?_⟩
  exact F.binds fun _ _ _ _ _ _ us hl => match us, hl with | [_, _], _ => rfl
theorem cx_BadKind : CkX x_BadKind := by
  refine ⟨⟨rfl, rfl, rfl, by decide +kernel, rfl, by decide +kernel, by decide +kernel⟩, ⟨_, _, _, _, rfl⟩, by decide +kernel, by decide +kernel, by decide +kernel, fun K f fd F => ?_⟩
  exact F.binds fun _ _ _ _ _ _ us hl => match us, hl with | [_, _], _ => rfl
theorem cx_BadCount : CkX x_BadCount := by
  refine ⟨⟨rfl, rfl, rfl, by decide +kernel, rfl, by decide +kernel, by decide +kernel⟩, ⟨_, _, _, _, rfl⟩, by decide +kernel, by decide +kernel, by decide +kernel, fun K f fd F => ?_⟩
  exact F.binds fun _ _ _ _ _ _ us hl => match us, hl with | [_, _], _ => rfl
theorem cx_NotDrawn : CkX x_NotDrawn := by
  refine ⟨⟨rfl, rfl, rfl, by decide +kernel, rfl, by decide +kernel, by decide +kernel⟩, ⟨_, _, _, _, rfl⟩, by decide +kernel, by decide +kernel, by decide +kernel, fun K f fd F => ?_⟩
  exact F.binds fun _ _ _ _ _ _ us hl => match us, hl with | [_, _], _ => rfl
theorem cr_ref : CkR r_ref := by
  refine ⟨⟨rfl, rfl, rfl, by decide +kernel, rfl, by decide +kernel, by decide +kernel⟩, fun K f fd F => F.binds fun _ _ _ _ _ _ us hl => match us, hl with | [_], _ => rfl, by decide +kernel, by decide +kernel, by decide +kernel, by decide +kernel, by decide +kernel, by decide +kernel, by decide +kernel, by decide +kernel, by decide +kernel, by decide +kernel, by decide +kernel, ?_⟩
  refine ⟨_, _, _, _, _, _, _, _, _, _, _, _, _, _, _, _, _, _, _, _, _, _, _, ?_, rfl⟩
  exact .cons (by decide +kernel) (by decide +kernel) (by decide +kernel) (by decide +kernel) (.cons (by decide +kernel) (by decide +kernel) (by decide +kernel) (by decide +kernel) (.con0 (by decide +kernel) (by decide +kernel) (by decide +kernel) (by decide +kernel) (.nil)))
theorem ckT : CkT T := by
  refine ⟨by decide +kernel, fun d hd => ?_, fun x hx => ?_, fun r hr => ?_⟩
  · rcases List.mem_cons.mp hd with rfl | hd
    · exact ok_check_drawn
    rcases List.mem_cons.mp hd with rfl | hd
    · exact ok_mixed
    rcases List.mem_cons.mp hd with rfl | hd
    · exact ok_spare
    rcases List.mem_cons.mp hd with rfl | hd
    · exact ok_same_ratio
    rcases List.mem_cons.mp hd with rfl | hd
    · exact ok__law_draw
    rcases List.mem_cons.mp hd with rfl | hd
    · exact ok__law_number
    rcases List.mem_cons.mp hd with rfl | hd
    · exact ok__law_same
    rcases List.mem_cons.mp hd with rfl | hd
    · exact ok__law_line
    rcases List.mem_cons.mp hd with rfl | hd
    · exact ok__law_corners
    rcases List.mem_cons.mp hd with rfl | hd
    · exact ok__law_sides
    rcases List.mem_cons.mp hd with rfl | hd
    · exact ok__law_unit
    rcases List.mem_cons.mp hd with rfl | hd
    · exact ok__law_cooked
    rcases List.mem_cons.mp hd with rfl | hd
    · exact ok__law_moved
    rcases List.mem_cons.mp hd with rfl | hd
    · exact ok__law_mixed
    rcases List.mem_cons.mp hd with rfl | hd
    · exact ok__law_ratio
    rcases List.mem_cons.mp hd with rfl | hd
    · exact ok__law_mixed_fits
    rcases List.mem_cons.mp hd with rfl | hd
    · exact ok__law_drawn_fits
    rcases List.mem_cons.mp hd with rfl | hd
    · exact ok__law_refused
    rcases List.mem_cons.mp hd with rfl | hd
    · exact ok__law_pair_fits
    rcases List.mem_cons.mp hd with rfl | hd
    · exact ok_Pen___init__
    rcases List.mem_cons.mp hd with rfl | hd
    · exact ok_Pen_even
    rcases List.mem_cons.mp hd with rfl | hd
    · exact ok_Pen___eq__
    rcases List.mem_cons.mp hd with rfl | hd
    · exact ok_Pen_sides
    rcases List.mem_cons.mp hd with rfl | hd
    · exact ok_Pen_area
    rcases List.mem_cons.mp hd with rfl | hd
    · exact ok_Pen_rim
    cases hd
  · rcases List.mem_cons.mp hx with rfl | hx
    · exact cx_BadView
    rcases List.mem_cons.mp hx with rfl | hx
    · exact cx_BadKind
    rcases List.mem_cons.mp hx with rfl | hx
    · exact cx_BadCount
    rcases List.mem_cons.mp hx with rfl | hx
    · exact cx_NotDrawn
    cases hx
  · cases hr
    exact cr_ref
end Z

set_option Elab.async false
set_option linter.all false
set_option maxRecDepth 100000
set_option maxHeartbeats 0
namespace Z
open PySem PySem.Spec PyProof.Rows L2 Y
abbrev R : PySem.W.OpenRow := PySem.W.OpenLaw.row PySem.Challenge.rw_sixviews_k07_mixed_numbers_and_rims
def ob (s : PySem.W.SharedT) : (T.hook d_law 6).α := lookK 6 (T.fns d_law) T.tabs ((T.lams d_law).map fun d => (d.nm, none)) T.fms (fun K => factB T K && (gloB K d_law.nm && nodA ((T.lams d_law).map (lamP K)))) (HandSHeadRun.getT s)
theorem ob_eq (s : PySem.W.SharedT) : ob s = (T.hook d_law 6).obs s.abs := lookK_eq (HandSHeadRun.getT_eq s)
def loose : List Str := (["_wall", "DrawingError", "BadView", "BadKind", "BadCount", "NotDrawn", "Nowhere", "KINDS", "LINES", "CORNERS", "check_view", "check_kind", "line_of", "corners_of", "check_drawn", "Pen", "mixed", "spare", "same_ratio", "_law_draw"] : List Str) ++ (["_law_number", "_law_same", "_law_line", "_law_corners", "_law_refusal", "_law_sides", "_law_unit", "_law_cooked", "_law_moved", "_law_mixed", "_law_ratio", "_law_mixed_fits", "_law_drawn_fits", "_law_refused", "_law_pair_fits"] : List Str)
theorem run_f (w : World) : HandSHeadRun.RunEq R (PySem.W.view R.prog [40]) (T.hook d_law 6) ob 12000 loose (w.withFollow "special-get-raises" false) := by
  intro os
  kernel_rfl
theorem run_t (w : World) : HandSHeadRun.RunEq R (PySem.W.view R.prog [40]) (T.hook d_law 6) ob 12000 loose (w.withFollow "special-get-raises" true) := by
  intro os
  kernel_rfl
theorem run (w : World) : HandSHeadRun.RunEq R (PySem.W.view R.prog [40]) (T.hook d_law 6) ob 12000 loose w := PySem.W.byRow2 "special-get-raises" run_f run_t w
end Z

set_option Elab.async false
set_option linter.all false
set_option maxRecDepth 100000
set_option maxHeartbeats 4000000
namespace Z
/-- six whole numbers -/
structure R6 where
  a : Int
  b : Int
  c : Int
  d : Int
  e : Int
  f : Int
namespace R6
def s0 (r : R6) : Int := r.f + r.b - r.a
def s1 (r : R6) : Int := r.a + r.c - r.b
def s2 (r : R6) : Int := r.b + r.d - r.c
def s3 (r : R6) : Int := r.c + r.e - r.d
def s4 (r : R6) : Int := r.d + r.f - r.e
def s5 (r : R6) : Int := r.e + r.a - r.f
def sd (r : R6) : R6 := ⟨r.s0, r.s1, r.s2, r.s3, r.s4, r.s5⟩
def mix (r s : R6) : Int := 0 + r.s0 * s.a + r.s1 * s.b + r.s2 * s.c + r.s3 * s.d + r.s4 * s.e + r.s5 * s.f
def rim (r : R6) : Int := 0 + r.s0 + r.s1 + r.s2 + r.s3 + r.s4 + r.s5
def mv (r : R6) (x y : Int) : R6 := ⟨r.a + (x + y), r.b + y, r.c + -x, r.d + -(x + y), r.e + -y, r.f + -(-x)⟩
def ok (k : Nat) (r : R6) : Prop := r.a.natAbs < 2 ^ k ∧ r.b.natAbs < 2 ^ k ∧ r.c.natAbs < 2 ^ k ∧ r.d.natAbs < 2 ^ k ∧ r.e.natAbs < 2 ^ k ∧ r.f.natAbs < 2 ^ k
instance (k : Nat) (r : R6) : Decidable (r.ok k) := by unfold ok; infer_instance
def L {α : Type} (g : Int → α) (r : R6) : List α := [g r.a, g r.b, g r.c, g r.d, g r.e, g r.f]
end R6
def even (n : Int) : R6 := ⟨n, n, n, n, n, n⟩
end Z

set_option Elab.async false
set_option linter.all false
set_option maxRecDepth 100000
set_option maxHeartbeats 0
namespace Z
open PySem PySem.Spec PyProof.Rows L2 Y
namespace R6
open Y
def bs (r : R6) (h : r.ok 300) : List (D BNT) := [.int (bn r.a 300 h.1), .int (bn r.b 300 h.2.1), .int (bn r.c 300 h.2.2.1), .int (bn r.d 300 h.2.2.2.1), .int (bn r.e 300 h.2.2.2.2.1), .int (bn r.f 300 h.2.2.2.2.2)]
end R6
section
variable (P : Program) (w : World) (K : PySem.W.Frag) (mg : Str → Option Value) (tb : List (Addr × Str))
abbrev cI : Cf := mkC T IntN P w K mg tb
abbrev cB : Cf := mkC T BN P w K mg tb
def dI (i : Int) : D Int := .int i
def pB (r : R6) (h : r.ok 300) : D BNT := .obj 0 [.tup (r.bs h)]
def lB (r : R6) (h : r.ok 300) : D BNT := .lst (r.bs h)
def evB (n f : Nat) (ds : List (D BNT)) : FO (cI P w K mg tb) := FO.mapG (c := cB P w K mg tb) (c' := cI P w K mg tb) vB (evF T (cB P w K mg tb) n f none ds)
theorem b_sides (r : R6) (h : r.ok 300) : evB P w K mg tb 1 22 [pB r h] = .ok (.fr (.tup (r.sd.L dI))) none := by kernel_rfl
theorem b_rim (r : R6) (h : r.ok 300) : evB P w K mg tb 2 24 [pB r h] = .ok (.fr (.int r.rim)) none := by kernel_rfl
theorem b_area (r : R6) (h : r.ok 300) : evB P w K mg tb 2 23 [pB r h] = .ok (.fr (.int (r.mix r))) none := by kernel_rfl
theorem b_mix (r s : R6) (h : r.ok 300) (h2 : s.ok 300) : evB P w K mg tb 2 1 [pB r h, pB s h2] = .ok (.fr (.int (r.mix s))) none := by kernel_rfl
theorem b_even (x : Int) (h : x.natAbs < 2 ^ 300) : evB P w K mg tb 2 20 [.int (bn x 300 h)] = .ok (.obj 0 [.tup (R6.L dI ⟨x, x, x, x, x, x⟩)]) none := by kernel_rfl
theorem b_lsd (r : R6) (h : r.ok 300) : evB P w K mg tb 1 9 [lB r h] = .ok (.lst (r.sd.L fun i => .fr (dI i))) none := by kernel_rfl
theorem b_lmix (r s : R6) (h : r.ok 300) (h2 : s.ok 300) : evB P w K mg tb 2 13 [lB r h, lB s h2] = .ok (.fr (.int (r.mix s))) none := by kernel_rfl
theorem b_mv (r : R6) (x y : Int) (h : r.ok 300) (hx : x.natAbs < 2 ^ 300) (hy : y.natAbs < 2 ^ 300) : evB P w K mg tb 2 12 [lB r h, .tup [.int (bn x 300 hx), .int (bn y 300 hy)]] = .ok (.lst ((r.mv x y).L fun i => .fr (dI i))) none := by kernel_rfl
theorem i_init (a b c d e f : Int) : evF T (cI P w K mg tb) 1 19 (some (.obj 0 [])) [.lst (R6.L dI ⟨a, b, c, d, e, f⟩)] = .ok (.fr .non) (some (.obj 0 [.tup (R6.L dI ⟨a, b, c, d, e, f⟩)])) := by kernel_rfl
end
end Z

set_option Elab.async false
set_option linter.all false
set_option maxRecDepth 100000
set_option maxHeartbeats 4000000
namespace Z
open PySem PySem.Spec PyProof.Rows L2 Y
section
variable (c : Cf)
abbrev iD (i : Int) : c.D := .int (c.nm.lit i)
def pD (r : R6) : c.D := .obj 0 [.tup (r.L (iD c))]
def pO (r : R6) : c.O := .obj 0 [.tup (r.L (iD c))]
def lD (r : R6) : c.D := .lst (r.L (iD c))
def lO (r : R6) : c.O := .lst (r.L fun i => .fr (iD c i))
def tD (r : R6) : c.D := .tup (r.L (iD c))
end
section
variable {c : Cf}
theorem pO_d (r : R6) : OT.d (pO c r) = pD c r := rfl
theorem lO_d (r : R6) : OT.d (lO c r) = lD c r := rfl
theorem k_pO (r : R6) : kO (some (pO c r)) = some 0 := rfl
theorem k_pD (r : R6) : kO (some (OT.fr (pD c r) : c.O)) = some 0 := rfl
theorem at_pO (r : R6) : atomO (c := c) (pO c r) = false := rfl
theorem at_lO (r : R6) : atomO (c := c) (lO c r) = false := rfl
theorem at_iD (i : Int) : atomO (c := c) (.fr (iD c i)) = true := rfl
theorem at_tD (r : R6) : atomO (c := c) (.fr (tD c r)) = false := rfl
theorem at_bl (b : Bool) : atomO (c := c) (.fr (.bl b)) = true := rfl
structure K7 (c : Cf) (V : Ev c) : Prop where
  mix : ∀ r s : R6, r.ok 300 → s.ok 300 → V.call 1 none [pD c r, pD c s] = .ok (.fr (iD c (r.mix s))) none
  mv : ∀ (r : R6) (x y : Int), r.ok 300 → x.natAbs < 2 ^ 300 → y.natAbs < 2 ^ 300 → V.call 12 none [lD c r, .tup [iD c x, iD c y]] = .ok (lO c (r.mv x y)) none
  lmix : ∀ r s : R6, r.ok 300 → s.ok 300 → V.call 13 none [lD c r, lD c s] = .ok (.fr (iD c (r.mix s))) none
  lsd : ∀ r : R6, r.ok 300 → V.call 9 none [lD c r] = .ok (lO c r.sd) none
  ev : ∀ n : Int, n.natAbs < 2 ^ 300 → V.call 20 none [iD c n] = .ok (pO c (even n)) none
  ini : ∀ r : R6, V.call 19 (some (.obj 0 [])) [lD c r] = .ok (.fr .non) (some (pO c r))
  rim : ∀ r : R6, r.ok 300 → V.call 24 none [pD c r] = .ok (.fr (iD c r.rim)) none
  area : ∀ r : R6, r.ok 300 → V.call 23 none [pD c r] = .ok (.fr (iD c (r.mix r))) none
  sides : ∀ r : R6, r.ok 300 → V.call 22 none [pD c r] = .ok (.fr (tD c r.sd)) none
  same : ∀ d, pl 5 d = true → V.call 6 none [d, d] = .ok (.fr (.bl true)) none
  io : V.io 1 = false ∧ V.io 12 = false ∧ V.io 13 = false ∧ V.io 9 = false ∧ V.io 6 = false
  df : V.dfl 1 = [] ∧ V.dfl 12 = [] ∧ V.dfl 13 = [] ∧ V.dfl 9 = [] ∧ V.dfl 20 = [] ∧ V.dfl 19 = [] ∧ V.dfl 22 = [] ∧ V.dfl 6 = []
  ms : V.mth ⟨#[115, 105, 100, 101, 115]⟩ 0 = some 22
  fs : (pos ⟨#[115, 105, 100, 101, 115]⟩ (c.fld 0)).isNone = true
  prim : V.prp ⟨#[114, 105, 109]⟩ 0 = some 24
  parea : V.prp ⟨#[97, 114, 101, 97]⟩ 0 = some 23
theorem sumL (hE : Exi c.nm) (r : R6) : sumO (c := c) (.fr (lD c r.sd)) = some (.fr (iD c r.rim)) := by
  show ((sItems (c := c) (.fr (lD c r.sd))).bind fun ds => (intsD ds).bind fun ns => (sumT (c.nm.lit 0) ns).map fun n => (OT.fr (.int n) : c.O)) = _
  have e1 : sItems (c := c) (.fr (lD c r.sd)) = some (r.sd.L (iD c)) := rfl
  have e2 : intsD (c := c) (r.sd.L (iD c)) = some (r.sd.L c.nm.lit) := rfl
  rw [e1, Option.bind_some, e2, Option.bind_some]
  simp only [R6.L, sumT, ladd hE, Option.bind_some, Option.map_some]
  rfl
theorem rng5 : rngD (c := c) 0 5 = [iD c 0, iD c 1, iD c 2, iD c 3, iD c 4] := rfl
theorem rng6 : rngD (c := c) 0 6 = [iD c 0, iD c 1, iD c 2, iD c 3, iD c 4, iD c 5] := rfl
theorem mulI (hE : Exi c.nm) (i j : Int) (hb : CMulW i j) : mulO (c := c) (.fr (iD c i)) (.fr (iD c j)) = some (.fr (iD c (i * j))) := mulLt hE i j hb
set_option maxRecDepth 4000 in
theorem mf_ok (hE : Exi c.nm) {V : Ev c} (G : K7 c V) (r s : R6) (x y n : Int) (h1 : r.ok 300) (h2 : s.ok 300) (h3 : (r.mv x y).ok 300) (hx : x.natAbs < 2 ^ 300) (hy : y.natAbs < 2 ^ 300) (hn : n.natAbs < 2 ^ 300) (hm : CMulW n r.rim)
    (e1 : s.mix r = r.mix s) (e2 : (r.mv x y).mix s = r.mix s) (e3 : s.mix (r.mv x y) = r.mix s) (e4 : r.mix (even n) = n * r.rim) (e5 : (even n).mix r = n * r.rim) (e6 : r.mix (even 1) = r.rim) :
    runF V false 10 4 B__law_mixed_fits none [lD c r, lD c s, .tup [iD c x, iD c y], iD c n] = .ok (.fr (.bl true)) none := by
  obtain ⟨i1, i12, i13, i9, i6⟩ := G.io
  obtain ⟨d1, d12, d13, d9, d20, d19, d22, d6⟩ := G.df
  have c1 := G.ini r
  have c2 := G.ini s
  have c3 := G.ini (r.mv x y)
  have c4 := G.lmix r s h1 h2
  have c5 := G.mix r s h1 h2
  have c6 := G.mix s r h2 h1
  have c7 := G.mv r x y h1 hx hy
  have c8 := G.mix (r.mv x y) s h3 h2
  have c9 := G.mix s (r.mv x y) h2 h3
  have c10 := G.lsd r h1
  have c11 := G.ev n hn
  have c12 := G.ev 1 (by decide +kernel)
  have he : ∀ m : Int, m.natAbs < 2 ^ 300 → (even m).ok 300 := fun m h => ⟨h, h, h, h, h, h⟩
  have c13 := G.mix r (even n) h1 (he n hn)
  have c14 := G.mix (even n) r (he n hn) h1
  have c15 := G.mix r (even 1) h1 (he 1 (by decide +kernel))
  have c16 := G.rim r h1
  rw [e1] at c6
  rw [e2] at c8
  rw [e3] at c9
  rw [e4] at c13
  rw [e5] at c14
  rw [e6] at c15
  have k1 := G.same (.lst [iD c (r.mix s), iD c (r.mix s), iD c (r.mix s), iD c (r.mix s), iD c (r.mix s)]) rfl
  have k2 := G.same (.lst [iD c (n * r.rim), iD c (n * r.rim)]) rfl
  have k3 := G.same (.lst [iD c r.rim, iD c r.rim]) rfl
  refine runF_res rfl ?_
  show SO.res ((sem V false B__law_mixed_fits).s [some (.fr (lD c r)), some (.fr (lD c s)), some (.fr (.tup [iD c x, iD c y])), some (.fr (iD c n)), none, none, none, none, none, none]) = _
  simp [B__law_mixed_fits, i1, i12, i13, i9, i6, d1, d12, d13, d9, d20, d19, d6, mk1, cp, datas, permute, c1, c2, c3, c4, c5, c6, c7, c8, c9, c10, c11, c12, c13, c14, c15, c16, k1, k2, k3, pO_d, lO_d, k_pO, k_pD, at_pO, at_lO, at_iD, at_bl, fzAll, fzR, bf6, sumL hE, mulI hE _ _ hm, binK2, pr1_some G.prim, SO.res, compS, conLt hE, rng5, wipeR, frS_eq, truD]
end
end Z

set_option Elab.async false
set_option linter.all false
set_option maxRecDepth 100000
set_option maxHeartbeats 4000000
namespace Z
namespace R6
theorem sq_nn (x : Int) : 0 ≤ x * x := by
  rcases Int.le_total 0 x with h | h
  · exact Int.mul_nonneg h h
  · have := Int.mul_nonneg (a := -x) (b := -x) (by omega) (by omega)
    rwa [Int.neg_mul_neg] at this
theorem mix_comm (r s : R6) : s.mix r = r.mix s := by
  unfold mix s0 s1 s2 s3 s4 s5
  grind
theorem mix_mv (r s : R6) (x y : Int) : (r.mv x y).mix s = r.mix s := by
  unfold mix s0 s1 s2 s3 s4 s5 mv
  grind
theorem mix_mv2 (r s : R6) (x y : Int) : s.mix (r.mv x y) = r.mix s := by
  rw [mix_comm (r.mv x y) s, mix_mv]
theorem mix_even (r : R6) (n : Int) : r.mix (even n) = n * r.rim := by
  unfold mix rim s0 s1 s2 s3 s4 s5 even
  grind
theorem even_mix (r : R6) (n : Int) : (even n).mix r = n * r.rim := by rw [mix_comm, mix_even]
theorem mix_one (r : R6) : r.mix (even 1) = r.rim := by rw [mix_even]; omega
def drawn (r : R6) : Prop := 0 ≤ r.s0 ∧ 0 ≤ r.s1 ∧ 0 ≤ r.s2 ∧ 0 ≤ r.s3 ∧ 0 ≤ r.s4 ∧ 0 ≤ r.s5
/-- the longest three of the bounds -/
theorem tri {s a b d : Int} (ha : 0 ≤ a) (hb : 0 ≤ b) (hd : 0 ≤ d) (h1 : a + b ≤ s) (h2 : b + d ≤ s) (h3 : d + a ≤ s) : a * a + b * b + d * d ≤ s * s := by
  have key : ∀ a b d : Int, 0 ≤ a → 0 ≤ b → 0 ≤ d → a + d ≤ s → b + d ≤ s → a ≤ d → b ≤ d → a * a + b * b + d * d ≤ s * s := fun a b d ha hb hd h1 h2 h3 h4 => by
    have q1 : (a + d) * (b + d) ≤ s * s := Int.mul_le_mul h1 h2 (by omega) (by omega)
    have q2 : a * a ≤ a * d := Int.mul_le_mul_of_nonneg_left h3 ha
    have q3 : b * b ≤ d * b := Int.mul_le_mul_of_nonneg_right h4 hb
    have q4 : 0 ≤ a * b := Int.mul_nonneg ha hb
    have e : (a + d) * (b + d) = a * b + a * d + d * b + d * d := by grind
    omega
  by_cases c1 : a ≤ d
  · by_cases c2 : b ≤ d
    · exact key a b d ha hb hd (by omega) h2 c1 c2
    · have := key a d b ha hd hb h1 (by omega) (by omega) (by omega); omega
  · by_cases c2 : b ≤ a
    · have := key b d a hb hd ha (by omega) h3 c2 (by omega); omega
    · have := key a d b ha hd hb h1 (by omega) (by omega) (by omega); omega
theorem area_nn {r : R6} (h : r.drawn) : 0 ≤ r.mix r := by
  obtain ⟨h0, h1, h2, h3, h4, h5⟩ := h
  have t := tri (s := r.s0 + r.s1 + r.s2) h0 h2 h4 (by omega) (by unfold s0 s1 s2 s3 s4 s5 at *; omega) (by unfold s0 s1 s2 s3 s4 s5 at *; omega)
  have e : r.mix r = (r.s0 + r.s1 + r.s2) * (r.s0 + r.s1 + r.s2) - (r.s0 * r.s0 + r.s2 * r.s2 + r.s4 * r.s4) := by
    unfold mix s0 s1 s2 s3 s4 s5
    grind
  omega
def al (r : R6) : Int := r.s0 - r.s1 + r.s2 - r.s3 + r.s4 - r.s5
def p (r : R6) : Int := r.s0 + r.s3 - r.s1 - r.s4
def q (r : R6) : Int := r.s1 + r.s4 - r.s2 - r.s5
theorem form (r s : R6) : 36 * r.mix s = 6 * r.rim * s.rim - 2 * r.al * s.al - 6 * r.p * s.p - 3 * r.p * s.q - 3 * r.q * s.p - 6 * r.q * s.q := by
  unfold mix rim al p q s0 s1 s2 s3 s4 s5
  grind
theorem sides6 (r : R6) : 6 * r.s0 = r.rim + 2 * r.p + r.q + r.al ∧ 6 * r.s3 = r.rim + 2 * r.p + r.q - r.al ∧ 6 * r.s1 = r.rim - r.p + r.q - r.al ∧ 6 * r.s4 = r.rim - r.p + r.q + r.al ∧ 6 * r.s2 = r.rim - r.p - 2 * r.q + r.al ∧ 6 * r.s5 = r.rim - r.p - 2 * r.q - r.al := by
  unfold rim al p q s0 s1 s2 s3 s4 s5
  omega
theorem id1 (F B R a p q R' a' p' q' : Int) : 6 * R * (F * R' - B * R) - (2 * a * (F * a' - B * a) + 6 * p * (F * p' - B * p) + 3 * p * (F * q' - B * q) + 3 * q * (F * p' - B * p) + 6 * q * (F * q' - B * q)) = F * (6 * R * R' - 2 * a * a' - 6 * p * p' - 3 * p * q' - 3 * q * p' - 6 * q * q') - B * (6 * R * R - 2 * a * a - 6 * p * p - 6 * p * q - 6 * q * q) := by grind
theorem id2 (F B R a p q R' a' p' q' : Int) : 6 * (F * R' - B * R) * (F * R' - B * R) - (2 * (F * a' - B * a) * (F * a' - B * a) + 6 * (F * p' - B * p) * (F * p' - B * p) + 6 * (F * p' - B * p) * (F * q' - B * q) + 6 * (F * q' - B * q) * (F * q' - B * q)) = F * (F * (6 * R' * R' - 2 * a' * a' - 6 * p' * p' - 6 * p' * q' - 6 * q' * q')) - 2 * (F * (B * (6 * R * R' - 2 * a * a' - 6 * p * p' - 3 * p * q' - 3 * q * p' - 6 * q * q'))) + B * (B * (6 * R * R - 2 * a * a - 6 * p * p - 6 * p * q - 6 * q * q)) := by grind
theorem id3 (a p q ta tp tq : Int) : (2 * a * a + 6 * p * p + 6 * p * q + 6 * q * q) * (2 * ta * ta + 6 * tp * tp + 6 * tp * tq + 6 * tq * tq) - (2 * a * ta + 6 * p * tp + 3 * p * tq + 3 * q * tp + 6 * q * tq) * (2 * a * ta + 6 * p * tp + 3 * p * tq + 3 * q * tp + 6 * q * tq) = 6 * ((a * tp - p * ta) * (a * tp - p * ta)) + 6 * ((a * tq - q * ta) * (a * tq - q * ta)) + 6 * ((a * (tp + tq) - (p + q) * ta) * (a * (tp + tq) - (p + q) * ta)) + 27 * ((p * tq - q * tp) * (p * tq - q * tp)) := by grind
theorem id4 (a p q : Int) : 2 * a * a + 6 * p * p + 6 * p * q + 6 * q * q = 2 * (a * a) + 3 * (p * p) + 3 * (q * q) + 3 * ((p + q) * (p + q)) := by grind
theorem id5 (F R T Q : Int) : (6 * (R * R) - F) * (6 * (T * T) - Q) - (6 * R * T) * (6 * R * T) = -(6 * (F * (T * T))) - Q * (6 * (R * R) - F) := by grind
theorem aczel (R a p q R' a' p' q' F G B : Int) (hF : F = 6 * R * R - 2 * a * a - 6 * p * p - 6 * p * q - 6 * q * q) (hG : G = 6 * R' * R' - 2 * a' * a' - 6 * p' * p' - 6 * p' * q' - 6 * q' * q') (hB : B = 6 * R * R' - 2 * a * a' - 6 * p * p' - 3 * p * q' - 3 * q * p' - 6 * q * q') (h : 0 < F) :
    F * G ≤ B * B ∧ (F * G = B * B → F * R' = B * R ∧ F * a' = B * a ∧ F * p' = B * p ∧ F * q' = B * q) := by
  obtain ⟨T, hT⟩ : ∃ T, T = F * R' - B * R := ⟨_, rfl⟩
  obtain ⟨ta, ha⟩ : ∃ t, t = F * a' - B * a := ⟨_, rfl⟩
  obtain ⟨tp, hp⟩ : ∃ t, t = F * p' - B * p := ⟨_, rfl⟩
  obtain ⟨tq, hq⟩ : ∃ t, t = F * q' - B * q := ⟨_, rfl⟩
  have ort : 6 * R * T = 2 * a * ta + 6 * p * tp + 3 * p * tq + 3 * q * tp + 6 * q * tq := by
    have e := id1 F B R a p q R' a' p' q'
    rw [← hT, ← ha, ← hp, ← hq, ← hB, ← hF, Int.mul_comm F B, Int.sub_self] at e
    omega
  obtain ⟨Q, hQ⟩ : ∃ Q, Q = 6 * T * T - (2 * ta * ta + 6 * tp * tp + 6 * tp * tq + 6 * tq * tq) := ⟨_, rfl⟩
  have eQ : Q = F * (F * G - B * B) := by
    have e := id2 F B R a p q R' a' p' q'
    rw [← hT, ← ha, ← hp, ← hq, ← hB, ← hF, ← hG, ← hQ] at e
    rw [e, Int.mul_sub, Int.mul_comm B F, ← Int.mul_assoc B F B, Int.mul_comm B F, Int.mul_assoc F B B]
    omega
  obtain ⟨v, hv⟩ : ∃ v, v = 2 * a * a + 6 * p * p + 6 * p * q + 6 * q * q := ⟨_, rfl⟩
  have v0 := hv.trans (id4 a p q)
  obtain ⟨t, ht⟩ : ∃ t, t = 2 * ta * ta + 6 * tp * tp + 6 * tp * tq + 6 * tq * tq := ⟨_, rfl⟩
  have t0 := ht.trans (id4 ta tp tq)
  have lag := id3 a p q ta tp tq
  rw [← hv, ← ht, ← ort] at lag
  have g1 := sq_nn (a * tp - p * ta)
  have g2 := sq_nn (a * tq - q * ta)
  have g3 := sq_nn (a * (tp + tq) - (p + q) * ta)
  have g4 := sq_nn (p * tq - q * tp)
  have vn : 0 ≤ v := by have := sq_nn a; have := sq_nn p; have := sq_nn q; have := sq_nn (p + q); omega
  have tn : 0 ≤ t := by have := sq_nn ta; have := sq_nn tp; have := sq_nn tq; have := sq_nn (tp + tq); omega
  have TT := sq_nn T
  have FT : 0 ≤ F * (T * T) := Int.mul_nonneg (by omega) TT
  have key : Q * v ≤ -(6 * (F * (T * T))) := by
    have e1 : t = 6 * (T * T) - Q := by
      have : 6 * T * T = 6 * (T * T) := Int.mul_assoc ..
      omega
    have e2 : v = 6 * (R * R) - F := by
      have : 6 * R * R = 6 * (R * R) := Int.mul_assoc ..
      omega
    have e3 := id5 F R T Q
    rw [← e1, ← e2] at e3
    omega
  have Qle : Q ≤ 0 := by
    by_cases hv0 : v = 0
    · have a0 : a * a = 0 := by have := sq_nn a; have := sq_nn p; have := sq_nn q; have := sq_nn (p + q); omega
      have p0 : p * p = 0 := by have := sq_nn a; have := sq_nn p; have := sq_nn q; have := sq_nn (p + q); omega
      have q0 : q * q = 0 := by have := sq_nn a; have := sq_nn p; have := sq_nn q; have := sq_nn (p + q); omega
      have a1 : a = 0 := by rcases Int.mul_eq_zero.mp a0 with z | z <;> exact z
      have p1 : p = 0 := by rcases Int.mul_eq_zero.mp p0 with z | z <;> exact z
      have q1 : q = 0 := by rcases Int.mul_eq_zero.mp q0 with z | z <;> exact z
      have RT : R * T = 0 := by
        rw [a1, p1, q1] at ort
        have : 6 * R * T = 6 * (R * T) := Int.mul_assoc ..
        omega
      have Rn : R ≠ 0 := fun z => by rw [z, a1, p1, q1] at hF; omega
      have T0 : T = 0 := by
        rcases Int.mul_eq_zero.mp RT with z | z
        · exact absurd z Rn
        · exact z
      have : Q = -t := by rw [hQ, ht, T0]; omega
      omega
    · have vp : 0 < v := by omega
      by_cases hq0 : Q ≤ 0
      · exact hq0
      · have : 0 < Q * v := Int.mul_pos (by omega) vp
        omega
  have le : F * G ≤ B * B := by
    by_cases hle : F * G ≤ B * B
    · exact hle
    · have : 0 < F * (F * G - B * B) := Int.mul_pos h (by omega)
      omega
  refine ⟨le, fun e => ?_⟩
  have Q0 : Q = 0 := by rw [eQ, e, Int.sub_self, Int.mul_zero]
  have FT0 : F * (T * T) = 0 := by
    rw [Q0, Int.zero_mul] at key; omega
  have T0 : T = 0 := by
    rcases Int.mul_eq_zero.mp FT0 with z | z
    · omega
    · rcases Int.mul_eq_zero.mp z with z | z <;> exact z
  have tz : t = 0 := by
    have : t = 6 * T * T - Q := by rw [ht, hQ]; omega
    rw [this, T0, Q0]; rfl
  have n1 := sq_nn ta
  have n2 := sq_nn tp
  have n3 := sq_nn tq
  have n4 := sq_nn (tp + tq)
  have a0 : ta * ta = 0 := by omega
  have p0 : tp * tp = 0 := by omega
  have q0 : tq * tq = 0 := by omega
  have a1 : ta = 0 := by rcases Int.mul_eq_zero.mp a0 with z | z <;> exact z
  have p1 : tp = 0 := by rcases Int.mul_eq_zero.mp p0 with z | z <;> exact z
  have q1 : tq = 0 := by rcases Int.mul_eq_zero.mp q0 with z | z <;> exact z
  exact ⟨by omega, by omega, by omega, by omega⟩
/-- all pairs are in one ratio -/
def prop (d e : R6) : Prop := d.b * e.a = d.a * e.b ∧ d.c * e.a = d.a * e.c ∧ d.c * e.b = d.b * e.c ∧ d.d * e.a = d.a * e.d ∧ d.d * e.b = d.b * e.d ∧ d.d * e.c = d.c * e.d ∧ d.e * e.a = d.a * e.e ∧ d.e * e.b = d.b * e.e ∧ d.e * e.c = d.c * e.e ∧ d.e * e.d = d.d * e.e ∧ d.f * e.a = d.a * e.f ∧ d.f * e.b = d.b * e.f ∧ d.f * e.c = d.c * e.f ∧ d.f * e.d = d.d * e.f ∧ d.f * e.e = d.e * e.f
instance (d e : R6) : Decidable (prop d e) := by unfold prop; infer_instance
theorem form_self (r : R6) : 36 * r.mix r = 6 * r.rim * r.rim - 2 * r.al * r.al - 6 * r.p * r.p - 6 * r.p * r.q - 6 * r.q * r.q := by
  have := form r r
  have e : 3 * r.q * r.p = 3 * r.p * r.q := by rw [Int.mul_assoc, Int.mul_comm r.q, ← Int.mul_assoc]
  have e2 : 6 * r.p * r.q = 2 * (3 * r.p * r.q) := by rw [Int.mul_assoc, Int.mul_assoc]; omega
  omega
theorem acz (r s : R6) (h : 0 < r.mix r) : 36 * r.mix r * (36 * s.mix s) ≤ 36 * r.mix s * (36 * r.mix s) ∧ (36 * r.mix r * (36 * s.mix s) = 36 * r.mix s * (36 * r.mix s) → 36 * r.mix r * s.rim = 36 * r.mix s * r.rim ∧ 36 * r.mix r * s.al = 36 * r.mix s * r.al ∧ 36 * r.mix r * s.p = 36 * r.mix s * r.p ∧ 36 * r.mix r * s.q = 36 * r.mix s * r.q) :=
  aczel r.rim r.al r.p r.q s.rim s.al s.p s.q _ _ _ (form_self r) (form_self s) (form r s) (by omega)
theorem m36 (x y : Int) : 36 * x * (36 * y) = 1296 * (x * y) := by grind
theorem spare_nn (r s : R6) (h : 0 ≤ r.mix r) : 0 ≤ r.mix s * r.mix s - r.mix r * s.mix s := by
  by_cases h0 : r.mix r = 0
  · rw [h0, Int.zero_mul]
    have := sq_nn (r.mix s)
    omega
  · have := (acz r s (by omega)).1
    rw [m36, m36] at this
    omega
theorem one_min {A B d e d' e' : Int} (hA : A ≠ 0) (h1 : A * e = B * d) (h2 : A * e' = B * d') : d * e' = d' * e := by
  have : A * (d * e' - d' * e) = 0 := by
    have q1 : A * (d * e') = d * (B * d') := by rw [Int.mul_left_comm, h2]
    have q2 : A * (d' * e) = d' * (B * d) := by rw [Int.mul_left_comm, h1]
    rw [Int.mul_sub, q1, q2]
    have : d * (B * d') = d' * (B * d) := by grind
    omega
  rcases Int.mul_eq_zero.mp this with z | z
  · exact absurd z hA
  · omega
theorem spare_ratio (r s : R6) (h : 0 < r.mix r) (e : r.mix s * r.mix s - r.mix r * s.mix s = 0) : prop r.sd s.sd := by
  obtain ⟨A, hA⟩ : ∃ A, A = 36 * r.mix r := ⟨_, rfl⟩
  obtain ⟨B, hB⟩ : ∃ B, B = 36 * r.mix s := ⟨_, rfl⟩
  obtain ⟨k1, k2, k3, k4⟩ := (acz r s h).2 (by rw [m36, m36]; omega)
  rw [← hA, ← hB] at k1 k2 k3 k4
  obtain ⟨a0, a3, a1, a4, a2, a5⟩ := sides6 r
  obtain ⟨b0, b3, b1, b4, b2, b5⟩ := sides6 s
  have lin : ∀ (x y R p q a R' p' q' a' : Int) (m n o : Int), 6 * x = R + m * p + n * q + o * a → 6 * y = R' + m * p' + n * q' + o * a' → A * R' = B * R → A * p' = B * p → A * q' = B * q → A * a' = B * a → A * y = B * x := by
    intro x y R p q a R' p' q' a' m n o e1 e2 f1 f2 f3 f4
    have q1 : A * (6 * y) = A * R' + m * (A * p') + n * (A * q') + o * (A * a') := by rw [e2]; grind
    have q2 : B * (6 * x) = B * R + m * (B * p) + n * (B * q) + o * (B * a) := by rw [e1]; grind
    have q3 : A * (6 * y) = B * (6 * x) := by rw [q1, q2, f1, f2, f3, f4]
    rw [Int.mul_left_comm, Int.mul_left_comm B] at q3
    omega
  have c0 : A * s.sd.a = B * r.sd.a := lin _ _ r.rim r.p r.q r.al s.rim s.p s.q s.al 2 1 1 (by show 6 * r.s0 = _; omega) (by show 6 * s.s0 = _; omega) k1 k3 k4 k2
  have c1 : A * s.sd.b = B * r.sd.b := lin _ _ r.rim r.p r.q r.al s.rim s.p s.q s.al (-1) 1 (-1) (by show 6 * r.s1 = _; omega) (by show 6 * s.s1 = _; omega) k1 k3 k4 k2
  have c2 : A * s.sd.c = B * r.sd.c := lin _ _ r.rim r.p r.q r.al s.rim s.p s.q s.al (-1) (-2) 1 (by show 6 * r.s2 = _; omega) (by show 6 * s.s2 = _; omega) k1 k3 k4 k2
  have c3 : A * s.sd.d = B * r.sd.d := lin _ _ r.rim r.p r.q r.al s.rim s.p s.q s.al 2 1 (-1) (by show 6 * r.s3 = _; omega) (by show 6 * s.s3 = _; omega) k1 k3 k4 k2
  have c4 : A * s.sd.e = B * r.sd.e := lin _ _ r.rim r.p r.q r.al s.rim s.p s.q s.al (-1) 1 1 (by show 6 * r.s4 = _; omega) (by show 6 * s.s4 = _; omega) k1 k3 k4 k2
  have c5 : A * s.sd.f = B * r.sd.f := lin _ _ r.rim r.p r.q r.al s.rim s.p s.q s.al (-1) (-2) (-1) (by show 6 * r.s5 = _; omega) (by show 6 * s.s5 = _; omega) k1 k3 k4 k2
  have An : A ≠ 0 := by omega
  exact ⟨one_min An c1 c0, one_min An c2 c0, one_min An c2 c1, one_min An c3 c0, one_min An c3 c1, one_min An c3 c2, one_min An c4 c0, one_min An c4 c1, one_min An c4 c2, one_min An c4 c3, one_min An c5 c0, one_min An c5 c1, one_min An c5 c2, one_min An c5 c3, one_min An c5 c4⟩
theorem ratio_one {d0 e0 : Int} (r s : R6) (h : ∀ x y, (x = r.s0 ∧ y = s.s0) ∨ (x = r.s1 ∧ y = s.s1) ∨ (x = r.s2 ∧ y = s.s2) ∨ (x = r.s3 ∧ y = s.s3) ∨ (x = r.s4 ∧ y = s.s4) ∨ (x = r.s5 ∧ y = s.s5) → d0 * y = x * e0) (hd : d0 ≠ 0) : r.mix s * r.mix s - r.mix r * s.mix s = 0 := by
  have t : ∀ u : R6, d0 * s.mix u = e0 * r.mix u := fun u => by
    have z0 := h _ _ (.inl ⟨rfl, rfl⟩)
    have z1 := h _ _ (.inr (.inl ⟨rfl, rfl⟩))
    have z2 := h _ _ (.inr (.inr (.inl ⟨rfl, rfl⟩)))
    have z3 := h _ _ (.inr (.inr (.inr (.inl ⟨rfl, rfl⟩))))
    have z4 := h _ _ (.inr (.inr (.inr (.inr (.inl ⟨rfl, rfl⟩)))))
    have z5 := h _ _ (.inr (.inr (.inr (.inr (.inr ⟨rfl, rfl⟩)))))
    unfold mix
    generalize r.s0 = x0 at *
    generalize r.s1 = x1 at *
    generalize r.s2 = x2 at *
    generalize r.s3 = x3 at *
    generalize r.s4 = x4 at *
    generalize r.s5 = x5 at *
    generalize s.s0 = y0 at *
    generalize s.s1 = y1 at *
    generalize s.s2 = y2 at *
    generalize s.s3 = y3 at *
    generalize s.s4 = y4 at *
    generalize s.s5 = y5 at *
    have f : ∀ x y u : Int, d0 * y = x * e0 → d0 * (y * u) = e0 * (x * u) := fun x y u h => by rw [← Int.mul_assoc, h, Int.mul_comm x, Int.mul_assoc]
    simp only [Int.mul_add, Int.mul_zero]
    rw [f _ _ _ z0, f _ _ _ z1, f _ _ _ z2, f _ _ _ z3, f _ _ _ z4, f _ _ _ z5]
  have t1 := t r
  have t2 := t s
  rw [mix_comm r s] at t1
  have : d0 * (r.mix s * r.mix s - r.mix r * s.mix s) = 0 := by
    have q1 : d0 * (r.mix s * r.mix s) = e0 * (r.mix r * r.mix s) := by rw [← Int.mul_assoc, t1, Int.mul_assoc]
    have q2 : d0 * (r.mix r * s.mix s) = e0 * (r.mix r * r.mix s) := by rw [Int.mul_left_comm, t2, Int.mul_left_comm]
    rw [Int.mul_sub, q1, q2, Int.sub_self]
  rcases Int.mul_eq_zero.mp this with z | z
  · exact absurd z hd
  · exact z
theorem ratio_spare (r s : R6) (h : prop r.sd s.sd) : r.mix s * r.mix s - r.mix r * s.mix s = 0 := by
  obtain ⟨h10, h20, h21, h30, h31, h32, h40, h41, h42, h43, h50, h51, h52, h53, h54⟩ := h
  by_cases n0 : r.s0 ≠ 0
  · refine ratio_one (d0 := r.s0) (e0 := s.s0) r s (fun x y hh => ?_) n0
    rcases hh with ⟨rfl, rfl⟩ | ⟨rfl, rfl⟩ | ⟨rfl, rfl⟩ | ⟨rfl, rfl⟩ | ⟨rfl, rfl⟩ | ⟨rfl, rfl⟩
    · rfl
    · exact h10.symm
    · exact h20.symm
    · exact h30.symm
    · exact h40.symm
    · exact h50.symm
  by_cases n1 : r.s1 ≠ 0
  · refine ratio_one (d0 := r.s1) (e0 := s.s1) r s (fun x y hh => ?_) n1
    rcases hh with ⟨rfl, rfl⟩ | ⟨rfl, rfl⟩ | ⟨rfl, rfl⟩ | ⟨rfl, rfl⟩ | ⟨rfl, rfl⟩ | ⟨rfl, rfl⟩
    · exact h10
    · rfl
    · exact h21.symm
    · exact h31.symm
    · exact h41.symm
    · exact h51.symm
  by_cases n2 : r.s2 ≠ 0
  · refine ratio_one (d0 := r.s2) (e0 := s.s2) r s (fun x y hh => ?_) n2
    rcases hh with ⟨rfl, rfl⟩ | ⟨rfl, rfl⟩ | ⟨rfl, rfl⟩ | ⟨rfl, rfl⟩ | ⟨rfl, rfl⟩ | ⟨rfl, rfl⟩
    · exact h20
    · exact h21
    · rfl
    · exact h32.symm
    · exact h42.symm
    · exact h52.symm
  by_cases n3 : r.s3 ≠ 0
  · refine ratio_one (d0 := r.s3) (e0 := s.s3) r s (fun x y hh => ?_) n3
    rcases hh with ⟨rfl, rfl⟩ | ⟨rfl, rfl⟩ | ⟨rfl, rfl⟩ | ⟨rfl, rfl⟩ | ⟨rfl, rfl⟩ | ⟨rfl, rfl⟩
    · exact h30
    · exact h31
    · exact h32
    · rfl
    · exact h43.symm
    · exact h53.symm
  by_cases n4 : r.s4 ≠ 0
  · refine ratio_one (d0 := r.s4) (e0 := s.s4) r s (fun x y hh => ?_) n4
    rcases hh with ⟨rfl, rfl⟩ | ⟨rfl, rfl⟩ | ⟨rfl, rfl⟩ | ⟨rfl, rfl⟩ | ⟨rfl, rfl⟩ | ⟨rfl, rfl⟩
    · exact h40
    · exact h41
    · exact h42
    · exact h43
    · rfl
    · exact h54.symm
  by_cases n5 : r.s5 ≠ 0
  · refine ratio_one (d0 := r.s5) (e0 := s.s5) r s (fun x y hh => ?_) n5
    rcases hh with ⟨rfl, rfl⟩ | ⟨rfl, rfl⟩ | ⟨rfl, rfl⟩ | ⟨rfl, rfl⟩ | ⟨rfl, rfl⟩ | ⟨rfl, rfl⟩
    · exact h50
    · exact h51
    · exact h52
    · exact h53
    · exact h54
    · rfl
  have z0 : r.s0 = 0 := by omega
  have z1 : r.s1 = 0 := by omega
  have z2 : r.s2 = 0 := by omega
  have z3 : r.s3 = 0 := by omega
  have z4 : r.s4 = 0 := by omega
  have z5 : r.s5 = 0 := by omega
  have zz : ∀ u, r.mix u = 0 := fun u => by
    unfold mix
    rw [z0, z1, z2, z3, z4, z5]
    simp
  rw [zz, zz]; simp
theorem rim_ge (r : R6) : 6 * r.mix r ≤ r.rim * r.rim ∧ (r.rim * r.rim = 6 * r.mix r ↔ (r.s1 = r.s0 ∧ r.s2 = r.s0 ∧ r.s3 = r.s0 ∧ r.s4 = r.s0 ∧ r.s5 = r.s0)) := by
  have e := form_self r
  have e1 : 6 * r.rim * r.rim = 6 * (r.rim * r.rim) := Int.mul_assoc ..
  have e2 : 2 * r.al * r.al + 6 * r.p * r.p + 6 * r.p * r.q + 6 * r.q * r.q = 2 * (r.al * r.al) + 3 * (r.p * r.p) + 3 * (r.q * r.q) + 3 * ((r.p + r.q) * (r.p + r.q)) := id4 r.al r.p r.q
  have n1 := sq_nn r.al
  have n2 := sq_nn r.p
  have n3 := sq_nn r.q
  have n4 := sq_nn (r.p + r.q)
  refine ⟨by omega, fun h => ?_, fun h => ?_⟩
  · have a0 : r.al * r.al = 0 := by omega
    have p0 : r.p * r.p = 0 := by omega
    have q0 : r.q * r.q = 0 := by omega
    have a1 : r.al = 0 := by rcases Int.mul_eq_zero.mp a0 with z | z <;> exact z
    have p1 : r.p = 0 := by rcases Int.mul_eq_zero.mp p0 with z | z <;> exact z
    have q1 : r.q = 0 := by rcases Int.mul_eq_zero.mp q0 with z | z <;> exact z
    have := sides6 r
    omega
  · have a1 : r.al = 0 := by unfold al; omega
    have p1 : r.p = 0 := by unfold p; omega
    have q1 : r.q = 0 := by unfold q; omega
    rw [a1, p1, q1] at e
    omega
end R6
end Z

set_option Elab.async false
set_option linter.all false
set_option maxRecDepth 100000
set_option maxHeartbeats 4000000
namespace Z
open PySem PySem.Spec PyProof.Rows L2 Y
section
variable {c : Cf}
/-- the first side below 0 -/
def fneg (r : R6) : Option Int := if r.s0 < 0 then some 0 else if r.s1 < 0 then some 1 else if r.s2 < 0 then some 2 else if r.s3 < 0 then some 3 else if r.s4 < 0 then some 4 else if r.s5 < 0 then some 5 else none
theorem fneg_none {r : R6} : fneg r = none ↔ r.drawn := by
  unfold fneg R6.drawn
  constructor
  · intro h
    split at h
    · cases h
    split at h
    · cases h
    split at h
    · cases h
    split at h
    · cases h
    split at h
    · cases h
    split at h
    · cases h
    omega
  · intro h
    rw [if_neg (by omega), if_neg (by omega), if_neg (by omega), if_neg (by omega), if_neg (by omega), if_neg (by omega)]
theorem enu6 (r : R6) : enuD (c := c) 0 (r.L (iD c)) = [.tup [iD c 0, iD c r.a], .tup [iD c 1, iD c r.b], .tup [iD c 2, iD c r.c], .tup [iD c 3, iD c r.d], .tup [iD c 4, iD c r.e], .tup [iD c 5, iD c r.f]] := rfl
theorem seq_tD (r : R6) : seqD (tD c r) = some (r.L (iD c)) := rfl
def chkR (c : Cf) (k : Option Int) : FO c := match k with
  | none => .ok (.fr .non) none
  | some k => .exc 3 [iD c k]
theorem cd_ok (hE : Exi c.nm) {V : Ev c} (G : K7 c V) (hx : (c.exf 3).length = 1) (r : R6) (h1 : r.ok 300) : runF V false 3 1 B_check_drawn none [pD c r] = chkR c (fneg r) := by
  have d22 := G.df.2.2.2.2.2.2.1
  have c1 := G.sides r h1
  unfold fneg
  split
  · rename_i q0
    refine runF_exc rfl ?_
    show (sem V false B_check_drawn).s [some (.fr (pD c r)), none, none] = _
    simp [B_check_drawn, k_pD, mt1_some G.fs G.ms, d22, cp, datas, permute, c1, at_tD, fzAll, fzR, seq_tD, enu6, loopS, cmpK0, ltLt hE, R6.sd, q0, hx]
  split
  · rename_i q0 q1
    refine runF_exc rfl ?_
    show (sem V false B_check_drawn).s [some (.fr (pD c r)), none, none] = _
    simp [B_check_drawn, k_pD, mt1_some G.fs G.ms, d22, cp, datas, permute, c1, at_tD, fzAll, fzR, seq_tD, enu6, loopS, cmpK0, ltLt hE, R6.sd, q0, q1, hx]
  split
  · rename_i q0 q1 q2
    refine runF_exc rfl ?_
    show (sem V false B_check_drawn).s [some (.fr (pD c r)), none, none] = _
    simp [B_check_drawn, k_pD, mt1_some G.fs G.ms, d22, cp, datas, permute, c1, at_tD, fzAll, fzR, seq_tD, enu6, loopS, cmpK0, ltLt hE, R6.sd, q0, q1, q2, hx]
  split
  · rename_i q0 q1 q2 q3
    refine runF_exc rfl ?_
    show (sem V false B_check_drawn).s [some (.fr (pD c r)), none, none] = _
    simp [B_check_drawn, k_pD, mt1_some G.fs G.ms, d22, cp, datas, permute, c1, at_tD, fzAll, fzR, seq_tD, enu6, loopS, cmpK0, ltLt hE, R6.sd, q0, q1, q2, q3, hx]
  split
  · rename_i q0 q1 q2 q3 q4
    refine runF_exc rfl ?_
    show (sem V false B_check_drawn).s [some (.fr (pD c r)), none, none] = _
    simp [B_check_drawn, k_pD, mt1_some G.fs G.ms, d22, cp, datas, permute, c1, at_tD, fzAll, fzR, seq_tD, enu6, loopS, cmpK0, ltLt hE, R6.sd, q0, q1, q2, q3, q4, hx]
  split
  · rename_i q0 q1 q2 q3 q4 q5
    refine runF_exc rfl ?_
    show (sem V false B_check_drawn).s [some (.fr (pD c r)), none, none] = _
    simp [B_check_drawn, k_pD, mt1_some G.fs G.ms, d22, cp, datas, permute, c1, at_tD, fzAll, fzR, seq_tD, enu6, loopS, cmpK0, ltLt hE, R6.sd, q0, q1, q2, q3, q4, q5, hx]
  · rename_i q0 q1 q2 q3 q4 q5
    refine runF_nx (ρ := [some (.fr (pD c r)), some (.fr (iD c 5)), some (.fr (iD c r.s5))]) rfl ?_
    show (sem V false B_check_drawn).s [some (.fr (pD c r)), none, none] = _
    simp [B_check_drawn, k_pD, mt1_some G.fs G.ms, d22, cp, datas, permute, c1, at_tD, fzAll, fzR, seq_tD, enu6, loopS, cmpK0, ltLt hE, R6.sd, q0, q1, q2, q3, q4, q5]
end
end Z

set_option Elab.async false
set_option linter.all false
set_option maxRecDepth 100000
set_option maxHeartbeats 4000000
namespace Z
open PySem PySem.Spec PyProof.Rows L2 Y
namespace R6
theorem s_bd {r : R6} (h : r.ok 300) : r.s0.natAbs < 2 ^ 902 ∧ r.s1.natAbs < 2 ^ 902 ∧ r.s2.natAbs < 2 ^ 902 ∧ r.s3.natAbs < 2 ^ 902 ∧ r.s4.natAbs < 2 ^ 902 ∧ r.s5.natAbs < 2 ^ 902 := by
  obtain ⟨a, b, c, d, e, f⟩ := h
  exact ⟨nb_sub (nb_add f b) a, nb_sub (nb_add a c) b, nb_sub (nb_add b d) c, nb_sub (nb_add c e) d, nb_sub (nb_add d f) e, nb_sub (nb_add e a) f⟩
theorem z_bd : (0 : Int).natAbs < 2 ^ 0 := by decide
theorem mix_bd {r s : R6} (h : r.ok 300) (h2 : s.ok 300) : (r.mix s).natAbs < 2 ^ 9000 := by
  obtain ⟨a, b, c, d, e, f⟩ := s_bd h
  obtain ⟨a2, b2, c2, d2, e2, f2⟩ := h2
  exact nb_le (nb_add (nb_add (nb_add (nb_add (nb_add (nb_add z_bd (wide_lt a a2)) (wide_lt b b2)) (wide_lt c c2)) (wide_lt d d2)) (wide_lt e e2)) (wide_lt f f2)) (by decide)
theorem rim_bd {r : R6} (h : r.ok 300) : r.rim.natAbs < 2 ^ 9000 := by
  obtain ⟨a, b, c, d, e, f⟩ := s_bd h
  exact nb_le (nb_add (nb_add (nb_add (nb_add (nb_add (nb_add z_bd a) b) c) d) e) f) (by decide)
theorem mul_bd {x y : Int} (h : x.natAbs < 2 ^ 9000) (h2 : y.natAbs < 2 ^ 9000) : CMulW x y := wide_mul h h2 (by decide) (by decide) (by decide)
theorem s_bd2 {r : R6} (h : r.ok 300) : r.s0.natAbs < 2 ^ 9000 ∧ r.s1.natAbs < 2 ^ 9000 ∧ r.s2.natAbs < 2 ^ 9000 ∧ r.s3.natAbs < 2 ^ 9000 ∧ r.s4.natAbs < 2 ^ 9000 ∧ r.s5.natAbs < 2 ^ 9000 := by
  obtain ⟨a, b, c, d, e, f⟩ := s_bd h
  have q : 902 ≤ 9000 := by decide
  exact ⟨nb_le a q, nb_le b q, nb_le c q, nb_le d q, nb_le e q, nb_le f q⟩
end R6
section
variable {c : Cf}
structure K8 (c : Cf) (V : Ev c) : Prop extends K7 c V where
  chk : ∀ r : R6, r.ok 300 → V.call 0 none [pD c r] = chkR c (fneg r)
  io0 : V.io 0 = false
  df0 : V.dfl 0 = []
  hx : (c.exf 3).length = 1
theorem at_non : atomO (c := c) (.fr .non) = true := rfl
def twoR (c : Cf) (r s : R6) (x : FO c) : FO c := match fneg r with
  | some k => .exc 3 [iD c k]
  | none => match fneg s with
    | some k => .exc 3 [iD c k]
    | none => x
theorem sp_ok (hE : Exi c.nm) {V : Ev c} (G : K8 c V) (r s : R6) (h1 : r.ok 300) (h2 : s.ok 300) : runF V false 2 2 B_spare none [pD c r, pD c s] = twoR c r s (.ok (.fr (iD c (r.mix s * r.mix s - r.mix r * s.mix s))) none) := by
  have i0 := G.io0
  have d0 := G.df0
  have i1 := G.io.1
  have d1 := G.df.1
  have c0 := G.chk r h1
  have c1 := G.chk s h2
  have c2 := G.mix r s h1 h2
  have c3 := G.area r h1
  have c4 := G.area s h2
  have p2 := pow2Lt (c := c) hE (r.mix s) (R6.mul_bd (R6.mix_bd h1 h2) (R6.mix_bd h1 h2))
  have m1 := mulLt (c := c) hE (r.mix r) (s.mix s) (R6.mul_bd (R6.mix_bd h1 h1) (R6.mix_bd h2 h2))
  unfold twoR
  cases e1 : fneg r with
  | some k =>
    rw [e1] at c0
    refine runF_exc rfl ?_
    show (sem V false B_spare).s [some (.fr (pD c r)), some (.fr (pD c s))] = _
    simp [B_spare, i0, d0, cp, datas, permute, c0, chkR]
  | none =>
    rw [e1] at c0
    cases e2 : fneg s with
    | some k =>
      rw [e2] at c1
      refine runF_exc rfl ?_
      show (sem V false B_spare).s [some (.fr (pD c r)), some (.fr (pD c s))] = _
      simp [B_spare, i0, d0, cp, datas, permute, c0, c1, chkR, at_non]
    | none =>
      rw [e2] at c1
      refine runF_res rfl ?_
      show SO.res ((sem V false B_spare).s [some (.fr (pD c r)), some (.fr (pD c s))]) = _
      simp [B_spare, i0, d0, i1, d1, cp, datas, permute, c0, c1, c2, c3, c4, chkR, at_non, at_iD, k_pD, pr1_some G.parea, binK1, binK2, binK5, p2, m1, subLt hE, SO.res]
theorem ix0 (hE : Exi c.nm) (r : R6) : idxO (c := c) (.fr (tD c r)) (.fr (iD c 0)) = some (.fr (iD c r.a)) := idxTup hE _ _
theorem ix1 (hE : Exi c.nm) (r : R6) : idxO (c := c) (.fr (tD c r)) (.fr (iD c 1)) = some (.fr (iD c r.b)) := idxTup hE _ _
theorem ix2 (hE : Exi c.nm) (r : R6) : idxO (c := c) (.fr (tD c r)) (.fr (iD c 2)) = some (.fr (iD c r.c)) := idxTup hE _ _
theorem ix3 (hE : Exi c.nm) (r : R6) : idxO (c := c) (.fr (tD c r)) (.fr (iD c 3)) = some (.fr (iD c r.d)) := idxTup hE _ _
theorem ix4 (hE : Exi c.nm) (r : R6) : idxO (c := c) (.fr (tD c r)) (.fr (iD c 4)) = some (.fr (iD c r.e)) := idxTup hE _ _
theorem ix5 (hE : Exi c.nm) (r : R6) : idxO (c := c) (.fr (tD c r)) (.fr (iD c 5)) = some (.fr (iD c r.f)) := idxTup hE _ _
theorem jx0 (hE : Exi c.nm) (r : R6) : idxO (c := c) (.fr (lD c r)) (.fr (iD c 0)) = some (.fr (iD c r.a)) := idxLst hE _ _
theorem jx1 (hE : Exi c.nm) (r : R6) : idxO (c := c) (.fr (lD c r)) (.fr (iD c 1)) = some (.fr (iD c r.b)) := idxLst hE _ _
theorem jx2 (hE : Exi c.nm) (r : R6) : idxO (c := c) (.fr (lD c r)) (.fr (iD c 2)) = some (.fr (iD c r.c)) := idxLst hE _ _
theorem jx3 (hE : Exi c.nm) (r : R6) : idxO (c := c) (.fr (lD c r)) (.fr (iD c 3)) = some (.fr (iD c r.d)) := idxLst hE _ _
theorem jx4 (hE : Exi c.nm) (r : R6) : idxO (c := c) (.fr (lD c r)) (.fr (iD c 4)) = some (.fr (iD c r.e)) := idxLst hE _ _
theorem jx5 (hE : Exi c.nm) (r : R6) : idxO (c := c) (.fr (lD c r)) (.fr (iD c 5)) = some (.fr (iD c r.f)) := idxLst hE _ _
theorem rng0 : rngD (c := c) 0 0 = [] := rfl
theorem rng1' : rngD (c := c) 0 1 = [iD c 0] := rfl
theorem rng2' : rngD (c := c) 0 2 = [iD c 0, iD c 1] := rfl
theorem rng3 : rngD (c := c) 0 3 = [iD c 0, iD c 1, iD c 2] := rfl
theorem rng4 : rngD (c := c) 0 4 = [iD c 0, iD c 1, iD c 2, iD c 3] := rfl
theorem sr_ok (hE : Exi c.nm) {V : Ev c} (G : K8 c V) (r s : R6) (h1 : r.ok 300) (h2 : s.ok 300) : runF V false 6 2 B_same_ratio none [pD c r, pD c s] = twoR c r s (.ok (.fr (.bl (decide (R6.prop r.sd s.sd)))) none) := by
  have i0 := G.io0
  have d0 := G.df0
  have d22 := G.df.2.2.2.2.2.2.1
  have c0 := G.chk r h1
  have c1 := G.chk s h2
  have c2 := G.sides r h1
  have c3 := G.sides s h2
  obtain ⟨u0, u1, u2, u3, u4, u5⟩ := R6.s_bd2 h1
  obtain ⟨v0, v1, v2, v3, v4, v5⟩ := R6.s_bd2 h2
  unfold twoR
  cases e1 : fneg r with
  | some k =>
    rw [e1] at c0
    refine runF_exc rfl ?_
    show (sem V false B_same_ratio).s [some (.fr (pD c r)), some (.fr (pD c s)), none, none, none, none] = _
    simp [B_same_ratio, i0, d0, cp, datas, permute, c0, chkR]
  | none =>
    rw [e1] at c0
    cases e2 : fneg s with
    | some k =>
      rw [e2] at c1
      refine runF_exc rfl ?_
      show (sem V false B_same_ratio).s [some (.fr (pD c r)), some (.fr (pD c s)), none, none, none, none] = _
      simp [B_same_ratio, i0, d0, cp, datas, permute, c0, c1, chkR, at_non]
    | none =>
      rw [e2] at c1
      refine runF_res rfl ?_
      show SO.res ((sem V false B_same_ratio).s [some (.fr (pD c r)), some (.fr (pD c s)), none, none, none, none]) = _
      have mm : ∀ x y : Int, x.natAbs < 2 ^ 9000 → y.natAbs < 2 ^ 9000 → mulO (c := c) (.fr (iD c x)) (.fr (iD c y)) = some (.fr (iD c (x * y))) := fun x y hx hy => mulLt hE x y (R6.mul_bd hx hy)
      simp [B_same_ratio, i0, d0, d22, cp, datas, permute, c0, c1, c2, c3, chkR, at_non, at_iD, at_tD, k_pD, mt1_some G.fs G.ms, fzAll, fzR, binK2, SO.res, conLt hE, rng6, rng0, rng1', rng2', rng3, rng4, rng5, wipeR, compS2, compS, rg1S, frS_eq, ix0 hE, ix1 hE, ix2 hE, ix3 hE, ix4 hE, ix5 hE, R6.sd, mm, u0, u1, u2, u3, u4, u5, v0, v1, v2, v3, v4, v5, cmpK4, eqLt hE, bf2, one1, allO, lItems, allFr, boolsD, tOs, R6.prop]
      rw [Bool.eq_iff_iff]
      simp only [Bool.and_eq_true, decide_eq_true_eq]
      exact ⟨fun h => decide_eq_true h, fun h => of_decide_eq_true h⟩
/-! ### _law_ratio -/
theorem dec_ret {b : Bool} {ρ ρ' : Rho c} : SO.res (if b = true then SO.rt (OT.fr (D.bl false)) ρ else SO.nx ρ' : SO c) = if b = true then some (OT.fr (D.bl false)) else none := by
  cases b <;> rfl
/-- a loop that gives False at the first item that does not hold -/
theorem loop_all {g : c.O → Rho c → Option (Rho c)} {s : Rho c → SO c} (I : Rho c → Prop) (ok : c.D → Bool) (hs : ∀ d ρ, I ρ → ∃ ρ1, g (.fr d) ρ = some ρ1 ∧ ((ok d = true ∧ ∃ ρ2, s ρ1 = .nx ρ2 ∧ I ρ2) ∨ (ok d = false ∧ ∃ ρ2, s ρ1 = .rt (.fr (.bl false)) ρ2))) :
    ∀ (ds : List c.D) (ρ : Rho c), I ρ → (ds.all ok = true ∧ ∃ ρ2, loopS g s ds ρ = .nx ρ2 ∧ I ρ2) ∨ (ds.all ok = false ∧ ∃ ρ2, loopS g s ds ρ = .rt (.fr (.bl false)) ρ2)
  | [], ρ, h => .inl ⟨rfl, ρ, rfl, h⟩
  | d :: ds, ρ, h => by
    obtain ⟨ρ1, h1, h2⟩ := hs d ρ h
    unfold loopS
    rw [h1]
    rcases h2 with ⟨k1, ρ2, k2, k3⟩ | ⟨k1, ρ2, k2⟩
    · simp only [k2]
      rcases loop_all I ok hs ds ρ2 k3 with ⟨m1, m2⟩ | ⟨m1, m2⟩
      · exact .inl ⟨by rw [List.all_cons, k1, m1]; rfl, m2⟩
      · exact .inr ⟨by rw [List.all_cons, k1, m1]; rfl, m2⟩
    · exact .inr ⟨by rw [List.all_cons, k1]; rfl, ρ2, by simp only [k2]⟩
end
end Z

set_option Elab.async false
set_option linter.all false
set_option maxRecDepth 100000
set_option maxHeartbeats 4000000
namespace Z
open PySem PySem.Spec PyProof.Rows L2 Y
def R6.nth (r : R6) (k : Int) : Int := if k = 0 then r.a else if k = 1 then r.b else if k = 2 then r.c else if k = 3 then r.d else if k = 4 then r.e else r.f
section
variable {c : Cf}
/-- a loop that gives False at the first item that does not hold -/
theorem loop_allP {g : c.O → Rho c → Option (Rho c)} {s : Rho c → SO c} (P : c.D → Prop) (I : Rho c → Prop) (ok : c.D → Bool) (hs : ∀ d ρ, P d → I ρ → ∃ ρ1, g (.fr d) ρ = some ρ1 ∧ ((ok d = true ∧ ∃ ρ2, s ρ1 = .nx ρ2 ∧ I ρ2) ∨ (ok d = false ∧ ∃ ρ2, s ρ1 = .rt (.fr (.bl false)) ρ2))) :
    ∀ (ds : List c.D) (ρ : Rho c), (∀ d ∈ ds, P d) → I ρ → (ds.all ok = true ∧ ∃ ρ2, loopS g s ds ρ = .nx ρ2 ∧ I ρ2) ∨ (ds.all ok = false ∧ ∃ ρ2, loopS g s ds ρ = .rt (.fr (.bl false)) ρ2)
  | [], ρ, _, h => .inl ⟨rfl, ρ, rfl, h⟩
  | d :: ds, ρ, hP, h => by
    obtain ⟨ρ1, h1, h2⟩ := hs d ρ (hP d (List.mem_cons_self ..)) h
    unfold loopS
    rw [h1]
    rcases h2 with ⟨k1, ρ2, k2, k3⟩ | ⟨k1, ρ2, k2⟩
    · simp only [k2]
      rcases loop_allP P I ok hs ds ρ2 (fun d hd => hP d (List.mem_cons_of_mem _ hd)) k3 with ⟨m1, m2⟩ | ⟨m1, m2⟩
      · exact .inl ⟨by rw [List.all_cons, k1, m1]; rfl, m2⟩
      · exact .inr ⟨by rw [List.all_cons, k1, m1]; rfl, m2⟩
    · exact .inr ⟨by rw [List.all_cons, k1]; rfl, ρ2, by simp only [k2]⟩
theorem jxn (hE : Exi c.nm) (r : R6) (k : Int) (h : 0 ≤ k ∧ k < 6) : idxO (c := c) (.fr (lD c r)) (.fr (iD c k)) = some (.fr (iD c (r.nth k))) := by
  have : k = 0 ∨ k = 1 ∨ k = 2 ∨ k = 3 ∨ k = 4 ∨ k = 5 := by omega
  rcases this with rfl | rfl | rfl | rfl | rfl | rfl
  · exact jx0 hE r
  · exact jx1 hE r
  · exact jx2 hE r
  · exact jx3 hE r
  · exact jx4 hE r
  · exact jx5 hE r
def is6 (c : Cf) (d : c.D) : Prop := ∃ k : Int, d = iD c k ∧ 0 ≤ k ∧ k < 6
def six (c : Cf) : List c.D := [iD c 0, iD c 1, iD c 2, iD c 3, iD c 4, iD c 5]
theorem six_is : ∀ d ∈ six c, is6 c d := fun d hd => by
  simp only [six, List.mem_cons, List.not_mem_nil, or_false] at hd
  rcases hd with rfl | rfl | rfl | rfl | rfl | rfl
  · exact ⟨0, rfl, by decide, by decide⟩
  · exact ⟨1, rfl, by decide, by decide⟩
  · exact ⟨2, rfl, by decide, by decide⟩
  · exact ⟨3, rfl, by decide, by decide⟩
  · exact ⟨4, rfl, by decide, by decide⟩
  · exact ⟨5, rfl, by decide, by decide⟩
def valD (c : Cf) (d : c.D) : Int := match d with
  | .int n => c.nm.val n
  | _ => 0
theorem val_iD (k : Int) : valD c (iD c k) = k := c.nm.lit_ok k
def okJ (c : Cf) (d e : R6) (k : Int) (x : c.D) : Bool := decide (d.nth k * e.nth (valD c x) = d.nth (valD c x) * e.nth k)
def okK (c : Cf) (d e : R6) (x : c.D) : Bool := (six c).all (okJ c d e (valD c x))
theorem nth_bd {r : R6} (h : r.ok 300) (k : Int) : (r.sd.nth k).natAbs < 2 ^ 9000 := by
  obtain ⟨u0, u1, u2, u3, u4, u5⟩ := R6.s_bd2 h
  unfold R6.nth
  split
  · exact u0
  split
  · exact u1
  split
  · exact u2
  split
  · exact u3
  split
  · exact u4
  · exact u5
theorem okK_prop (d e : R6) : (six c).all (okK c d e) = decide (R6.prop d e) := by
  rw [Bool.eq_iff_iff]
  refine Iff.trans ?_ (Iff.intro (fun h => decide_eq_true h) fun h => of_decide_eq_true h)
  simp only [six, okK, okJ, List.all_cons, List.all_nil, Bool.and_eq_true, decide_eq_true_eq, val_iD, R6.nth, and_true, R6.prop]
  simp
  constructor
  · intro h
    omega
  · intro h
    omega
def lrIn : M := (.cons (.iff (.cmp 5 (.bin 2 (.idx (.fz (.var 2)) (.var 4)) (.idx (.fz (.var 3)) (.var 5))) (.bin 2 (.idx (.fz (.var 2)) (.var 5)) (.idx (.fz (.var 3)) (.var 4)))) (.cons (.ret (.bl false)) .nil) .nil) .nil)
theorem lr_ok (hE : Exi c.nm) {V : Ev c} (G : K7 c V) (r s : R6) (h1 : r.ok 300) (h2 : s.ok 300) : runF V false 6 2 B__law_ratio none [lD c r, lD c s] = .ok (.fr (.bl (decide (R6.prop r.sd s.sd)))) none := by
  obtain ⟨i1, i12, i13, i9, i6⟩ := G.io
  obtain ⟨d1, d12, d13, d9, d20, d19, d22, d6⟩ := G.df
  have c1 := G.lsd r h1
  have c2 := G.lsd s h2
  let IJ : Int → Option c.O → Option c.O → Rho c → Prop := fun k R S ρ => ∃ (x y : c.O) (t : Option c.O), OT.d x = lD c r.sd ∧ OT.d y = lD c s.sd ∧ ρ = [R, S, some x, some y, some (.fr (iD c k)), t]
  have inner : ∀ (k : Int), 0 ≤ k → k < 6 → ∀ (R S t : Option c.O) (x y : c.O), OT.d x = lD c r.sd → OT.d y = lD c s.sd → ((six c).all (okJ c r.sd s.sd k) = true ∧ ∃ ρ2, loopS (sem V false (.tn 5)).g (sem V false lrIn).s (six c) [R, S, some x, some y, some (.fr (iD c k)), t] = .nx ρ2 ∧ IJ k R S ρ2) ∨ ((six c).all (okJ c r.sd s.sd k) = false ∧ ∃ ρ2, loopS (sem V false (.tn 5)).g (sem V false lrIn).s (six c) [R, S, some x, some y, some (.fr (iD c k)), t] = .rt (.fr (.bl false)) ρ2) := fun k k0 k5 R S t x y hx hy => by
    refine loop_allP (is6 c) (IJ k R S) (okJ c r.sd s.sd k) (fun d ρ hd hI => ?_) (six c) _ six_is ⟨x, y, t, hx, hy, rfl⟩
    obtain ⟨j, rfl, j0, j5⟩ := hd
    obtain ⟨x, y, t, hx, hy, rfl⟩ := hI
    refine ⟨[R, S, some x, some y, some (.fr (iD c k)), some (.fr (iD c j))], by simp, ?_⟩
    have m1 := mulLt (c := c) hE (r.sd.nth k) (s.sd.nth j) (R6.mul_bd (nth_bd h1 k) (nth_bd h2 j))
    have m2 := mulLt (c := c) hE (r.sd.nth j) (s.sd.nth k) (R6.mul_bd (nth_bd h1 j) (nth_bd h2 k))
    have e : okJ c r.sd s.sd k (iD c j) = decide (r.sd.nth k * s.sd.nth j = r.sd.nth j * s.sd.nth k) := by unfold okJ; rw [val_iD]
    rw [e]
    by_cases q : r.sd.nth k * s.sd.nth j = r.sd.nth j * s.sd.nth k
    · refine .inl ⟨decide_eq_true q, [R, S, some (.fr (lD c r.sd)), some (.fr (lD c s.sd)), some (.fr (iD c k)), some (.fr (iD c j))], ?_, _, _, _, rfl, rfl, rfl⟩
      simp [lrIn, hx, hy, jxn hE _ k ⟨k0, k5⟩, jxn hE _ j ⟨j0, j5⟩, binK2, m1, m2, cmpK5, neLt hE, q]
    · refine .inr ⟨decide_eq_false q, [R, S, some (.fr (lD c r.sd)), some (.fr (lD c s.sd)), some (.fr (iD c k)), some (.fr (iD c j))], ?_⟩
      simp [lrIn, hx, hy, jxn hE _ k ⟨k0, k5⟩, jxn hE _ j ⟨j0, j5⟩, binK2, m1, m2, cmpK5, neLt hE, q]
  let IK : Option c.O → Option c.O → Rho c → Prop := fun R S ρ => ∃ (x y : c.O) (t u : Option c.O), OT.d x = lD c r.sd ∧ OT.d y = lD c s.sd ∧ ρ = [R, S, some x, some y, t, u]
  have outer : ∀ (R S : Option c.O), ((six c).all (okK c r.sd s.sd) = true ∧ ∃ ρ2, loopS (sem V false (.tn 4)).g (sem V false (.cons (.loop (.tn 5) (.rng1 (.int 6)) lrIn) .nil)).s (six c) [R, S, some (lO c r.sd), some (lO c s.sd), none, none] = .nx ρ2 ∧ IK R S ρ2) ∨ ((six c).all (okK c r.sd s.sd) = false ∧ ∃ ρ2, loopS (sem V false (.tn 4)).g (sem V false (.cons (.loop (.tn 5) (.rng1 (.int 6)) lrIn) .nil)).s (six c) [R, S, some (lO c r.sd), some (lO c s.sd), none, none] = .rt (.fr (.bl false)) ρ2) := fun R S => by
    refine loop_allP (is6 c) (IK R S) (okK c r.sd s.sd) (fun d ρ hd hI => ?_) (six c) _ six_is ⟨_, _, none, none, rfl, rfl, rfl⟩
    obtain ⟨k, rfl, k0, k5⟩ := hd
    obtain ⟨x, y, t, u, hx, hy, rfl⟩ := hI
    refine ⟨[R, S, some x, some y, some (.fr (iD c k)), u], by simp, ?_⟩
    have e : okK c r.sd s.sd (iD c k) = (six c).all (okJ c r.sd s.sd k) := by unfold okK; rw [val_iD]
    rw [e]
    have eb : (sem V false (.cons (.loop (.tn 5) (.rng1 (.int 6)) lrIn) .nil)).s [R, S, some x, some y, some (.fr (iD c k)), u] = sq (loopS (sem V false (.tn 5)).g (sem V false lrIn).s (six c) [R, S, some x, some y, some (.fr (iD c k)), u]) (sem V false .nil).s := by
      rw [s_cons, s_loop]
      have : (sem V false (.rng1 (.int 6))).i [R, S, some x, some y, some (.fr (iD c k)), u] = .ok (six c) [R, S, some x, some y, some (.fr (iD c k)), u] := by
        simp [conLt hE, rng6, six]
      rw [this]
      rfl
    rw [eb]
    rcases inner k k0 k5 R S u x y hx hy with ⟨q1, ρ2, q2, x', y', t', hx', hy', rfl⟩ | ⟨q1, ρ2, q2⟩
    · refine .inl ⟨q1, [R, S, some x', some y', some (.fr (iD c k)), t'], ?_, x', y', some (.fr (iD c k)), t', hx', hy', rfl⟩
      rw [q2]; rfl
    · refine .inr ⟨q1, ρ2, ?_⟩
      rw [q2]; rfl
  have e3 : (sem V false (.loop (.tn 4) (.rng1 (.int 6)) (.cons (.loop (.tn 5) (.rng1 (.int 6)) lrIn) .nil))).s [some (.fr (lD c r)), some (.fr (lD c s)), some (lO c r.sd), some (lO c s.sd), none, none] = loopS (sem V false (.tn 4)).g (sem V false (.cons (.loop (.tn 5) (.rng1 (.int 6)) lrIn) .nil)).s (six c) [some (.fr (lD c r)), some (.fr (lD c s)), some (lO c r.sd), some (lO c s.sd), none, none] := by
    rw [s_loop]
    have : (sem V false (.rng1 (.int 6))).i [some (.fr (lD c r)), some (.fr (lD c s)), some (lO c r.sd), some (lO c s.sd), none, none] = .ok (six c) [some (.fr (lD c r)), some (.fr (lD c s)), some (lO c r.sd), some (lO c s.sd), none, none] := by
      simp [conLt hE, rng6, six]
    rw [this]
    rfl
  refine runF_res rfl ?_
  show SO.res ((sem V false B__law_ratio).s [some (.fr (lD c r)), some (.fr (lD c s)), none, none, none, none]) = _
  have eB : B__law_ratio = (.cons (.asg (.tn 2) (.call 9 (.cons (.var 0) .nil) [0])) (.cons (.asg (.tn 3) (.call 9 (.cons (.var 1) .nil) [0])) (.cons (.loop (.tn 4) (.rng1 (.int 6)) (.cons (.loop (.tn 5) (.rng1 (.int 6)) lrIn) .nil)) (.cons (.ret (.bl true)) .nil)))) := rfl
  rw [eB]
  refine stpE [some (.fr (lD c r)), some (.fr (lD c s)), some (lO c r.sd), none, none, none] (Z := fun z => SO.res z = _) (by simp [i9, d9, cp, datas, permute, c1, at_lO, fzAll, fzR]) ?_
  refine stpE [some (.fr (lD c r)), some (.fr (lD c s)), some (lO c r.sd), some (lO c s.sd), none, none] (Z := fun z => SO.res z = _) (by simp [i9, d9, cp, datas, permute, c2, at_lO, fzAll, fzR]) ?_
  rw [s_cons, e3, ← okK_prop (c := c)]
  rcases outer (some (.fr (lD c r))) (some (.fr (lD c s))) with ⟨q1, ρ2, q2, x, y, t, u, hx, hy, rfl⟩ | ⟨q1, ρ2, q2⟩
  · rw [q1, q2]
    simp [SO.res]
  · rw [q1, q2]
    rfl
end
end Z

set_option Elab.async false
set_option linter.all false
set_option maxRecDepth 100000
set_option maxHeartbeats 4000000
namespace Z
open PySem PySem.Spec PyProof.Rows L2 Y
section
variable {c : Cf}
theorem minT_some (hE : Exi c.nm) : ∀ (ns : List c.nm.T) (a : c.nm.T), ∃ m, minT (c := c) a ns = some m
  | [], a => ⟨a, rfl⟩
  | n :: r, a => by
    unfold minT
    rw [hE.cmp]
    cases compare (c.nm.val a) (c.nm.val n) with
    | gt => exact minT_some hE r n
    | lt => exact minT_some hE r a
    | eq => exact minT_some hE r a
theorem maxT_some (hE : Exi c.nm) : ∀ (ns : List c.nm.T) (a : c.nm.T), ∃ m, maxT (c := c) a ns = some m
  | [], a => ⟨a, rfl⟩
  | n :: r, a => by
    unfold maxT
    rw [hE.cmp]
    cases compare (c.nm.val a) (c.nm.val n) with
    | lt => exact maxT_some hE r n
    | gt => exact maxT_some hE r a
    | eq => exact maxT_some hE r a
theorem mnx (hE : Exi c.nm) (r : R6) : ∃ m n : Int, minO (c := c) (lO c r) = some (.fr (iD c m)) ∧ maxO (c := c) (lO c r) = some (.fr (iD c n)) ∧ (m = n ↔ (r.b = r.a ∧ r.c = r.a ∧ r.d = r.a ∧ r.e = r.a ∧ r.f = r.a)) := by
  obtain ⟨m, hm⟩ := minT_some hE [c.nm.lit r.b, c.nm.lit r.c, c.nm.lit r.d, c.nm.lit r.e, c.nm.lit r.f] (c.nm.lit r.a)
  obtain ⟨n, hn⟩ := maxT_some hE [c.nm.lit r.b, c.nm.lit r.c, c.nm.lit r.d, c.nm.lit r.e, c.nm.lit r.f] (c.nm.lit r.a)
  obtain ⟨a1, a2⟩ := minT_ok hm
  obtain ⟨b1, b2⟩ := maxT_ok hn
  refine ⟨c.nm.val m, c.nm.val n, ?_, ?_, ?_⟩
  · show ((lItems (c := c) (lO c r)).bind fun ds => (intsD ds).bind fun ns => (ints1 minT ns).map fun n => (OT.fr (.int n) : c.O)) = _
    have e1 : lItems (c := c) (lO c r) = some (r.L (iD c)) := rfl
    have e2 : intsD (c := c) (r.L (iD c)) = some (r.L c.nm.lit) := rfl
    rw [e1, Option.bind_some, e2, Option.bind_some]
    show (minT (c.nm.lit r.a) _).map _ = _
    rw [hm, Option.map_some]
    show some (OT.fr (D.int m) : c.O) = some (OT.fr (D.int (c.nm.lit (c.nm.val m))))
    rw [← hE.lit m]
  · show ((lItems (c := c) (lO c r)).bind fun ds => (intsD ds).bind fun ns => (ints1 maxT ns).map fun n => (OT.fr (.int n) : c.O)) = _
    have e1 : lItems (c := c) (lO c r) = some (r.L (iD c)) := rfl
    have e2 : intsD (c := c) (r.L (iD c)) = some (r.L c.nm.lit) := rfl
    rw [e1, Option.bind_some, e2, Option.bind_some]
    show (maxT (c.nm.lit r.a) _).map _ = _
    rw [hn, Option.map_some]
    show some (OT.fr (D.int n) : c.O) = some (OT.fr (D.int (c.nm.lit (c.nm.val n))))
    rw [← hE.lit n]
  · simp only [List.map_cons, List.map_nil, c.nm.lit_ok, List.mem_cons, List.not_mem_nil, or_false, forall_eq_or_imp, forall_eq] at a1 a2 b1 b2
    omega
theorem eqBl (a b : Bool) : eqO (c := c) (.fr (.bl a)) (.fr (.bl b)) = some (.fr (.bl (a == b))) := by cases a <;> cases b <;> rfl
theorem neBl (a b : Bool) : neO (c := c) (.fr (.bl a)) (.fr (.bl b)) = some (.fr (.bl (!(a == b)))) := by cases a <;> cases b <;> rfl
structure K9 (c : Cf) (V : Ev c) : Prop extends K7 c V where
  sp : ∀ r s : R6, r.ok 300 → s.ok 300 → V.call 2 none [pD c r, pD c s] = twoR c r s (.ok (.fr (iD c (r.mix s * r.mix s - r.mix r * s.mix s))) none)
  sr : ∀ r s : R6, r.ok 300 → s.ok 300 → V.call 3 none [pD c r, pD c s] = twoR c r s (.ok (.fr (.bl (decide (R6.prop r.sd s.sd)))) none)
  lr : ∀ r s : R6, r.ok 300 → s.ok 300 → V.call 14 none [lD c r, lD c s] = .ok (.fr (.bl (decide (R6.prop r.sd s.sd)))) none
  io2 : V.io 2 = false ∧ V.io 3 = false ∧ V.io 14 = false
  df2 : V.dfl 2 = [] ∧ V.dfl 3 = [] ∧ V.dfl 14 = []
  tg : V.tag 3 = some "side"
theorem df_ok (hE : Exi c.nm) {V : Ev c} (G : K9 c V) (r s : R6) (h1 : r.ok 300) (h2 : s.ok 300) (hr : r.drawn) (hs : s.drawn) : runF V false 11 2 B__law_drawn_fits none [lD c r, lD c s] = .ok (.fr (.bl true)) none := by
  obtain ⟨i1, i12, i13, i9, i6⟩ := G.io
  obtain ⟨d1, d12, d13, d9, d20, d19, d22, d6⟩ := G.df
  obtain ⟨i2, i3, i14⟩ := G.io2
  obtain ⟨d2, d3, d14⟩ := G.df2
  have c1 := G.ini r
  have c2 := G.ini s
  have c3 := G.lmix r r h1 h1
  have c4 := G.lmix s s h2 h2
  have c5 := G.lmix r s h1 h2
  have c6 := G.sp r s h1 h2
  have c7 := G.sr r s h1 h2
  have c8 := G.lr r s h1 h2
  have c9 := G.rim r h1
  have c10 := G.area r h1
  have c11 := G.lsd r h1
  unfold twoR at c6 c7
  rw [fneg_none.mpr hr, fneg_none.mpr hs] at c6 c7
  have A0 := R6.area_nn hr
  have A1 := R6.area_nn hs
  have sn := R6.spare_nn r s A0
  have rs := R6.ratio_spare r s
  have sr := R6.spare_ratio r s
  obtain ⟨rg1, rg2⟩ := R6.rim_ge r
  obtain ⟨mn, mx, x1, x2, x3⟩ := mnx (c := c) hE r.sd
  have x3 : mn = mx ↔ r.rim * r.rim = 6 * r.mix r := x3.trans rg2.symm
  have m1 := mulLt (c := c) hE (r.mix s) (r.mix s) (R6.mul_bd (R6.mix_bd h1 h2) (R6.mix_bd h1 h2))
  have m2 := mulLt (c := c) hE (r.mix r) (s.mix s) (R6.mul_bd (R6.mix_bd h1 h1) (R6.mix_bd h2 h2))
  have m3 := mulLt (c := c) hE r.rim r.rim (R6.mul_bd (R6.rim_bd h1) (R6.rim_bd h1))
  have m4 := mulLt (c := c) hE 6 (r.mix r) (R6.mul_bd (nb_le (m := 3) (by decide) (by decide)) (R6.mix_bd h1 h1))
  generalize r.mix s = m at *
  generalize r.mix r = A at *
  generalize s.mix s = A' at *
  generalize r.rim = R at *
  obtain ⟨sp, hsp⟩ : ∃ z, z = m * m - A * A' := ⟨_, rfl⟩
  rw [← hsp] at c6 sn rs sr
  have sub := subLt (c := c) hE (m * m) (A * A')
  rw [← hsp] at sub
  have hb : 0 < A → 0 < A' → decide (R6.prop r.sd s.sd) = decide (sp = 0) := fun h h' => by
    by_cases q : R6.prop r.sd s.sd
    · rw [decide_eq_true q, decide_eq_true (rs q)]
    · rw [decide_eq_false q, decide_eq_false fun z => q (sr h z)]
  have hr2 : decide (R * R = 6 * A) = decide (mn = mx) := by
    by_cases q : R * R = 6 * A
    · rw [decide_eq_true q, decide_eq_true (x3.mpr q)]
    · rw [decide_eq_false q, decide_eq_false fun z => q (x3.mp z)]
  clear rs sr x3 rg2
  generalize decide (R6.prop r.sd s.sd) = b at *
  have k1 := G.same (iD c sp) rfl
  have k2 := G.same (.lst [.bl b, .bl b]) rfl
  have k3 := G.same (iD c A) rfl
  have n1 : ¬ sp < 0 := by omega
  have n2 : ¬ R * R < 6 * A := by omega
  have ix0' : idxO (c := c) (.fr (.lst [iD c A, iD c A'])) (.fr (iD c 0)) = some (.fr (iD c A)) := idxLst hE _ _
  have ix1' : idxO (c := c) (.fr (.lst [iD c A, iD c A'])) (.fr (iD c 1)) = some (.fr (iD c A')) := idxLst hE _ _
  refine runF_res rfl ?_
  show SO.res ((sem V false B__law_drawn_fits).s [some (.fr (lD c r)), some (.fr (lD c s)), none, none, none, none, none, none, none, none, none]) = _
  by_cases q0 : 0 < A
  · by_cases q1 : 0 < A'
    · have hb := hb q0 q1
      subst hb
      simp [B__law_drawn_fits, i1, i12, i13, i9, i6, i2, i3, i14, d1, d12, d13, d9, d20, d19, d6, d2, d3, d14, mk1, cp, datas, permute, c1, c2, c3, c4, c5, c6, c7, c8, c9, c10, c11, k1, k2, k3, pO_d, lO_d, k_pO, k_pD, at_pO, at_lO, at_iD, at_bl, fzAll, fzR, bf7, bf8, one1, binK1, binK2, m1, m2, m3, m4, sub, ix0', ix1', cmpK0, cmpK2, cmpK4, cmpK5, ltLt hE, gtLt hE, eqLt hE, n1, n2, q0, q1, eqBl, neBl, x1, x2, hr2, pr1_some G.prim, pr1_some G.parea, truD, SO.res]
    · simp [B__law_drawn_fits, i1, i12, i13, i9, i6, i2, i3, i14, d1, d12, d13, d9, d20, d19, d6, d2, d3, d14, mk1, cp, datas, permute, c1, c2, c3, c4, c5, c6, c7, c8, c9, c10, c11, k1, k2, k3, pO_d, lO_d, k_pO, k_pD, at_pO, at_lO, at_iD, at_bl, fzAll, fzR, bf7, bf8, one1, binK1, binK2, m1, m2, m3, m4, sub, ix0', ix1', cmpK0, cmpK2, cmpK4, cmpK5, ltLt hE, gtLt hE, eqLt hE, n1, n2, q0, q1, eqBl, neBl, x1, x2, hr2, pr1_some G.prim, pr1_some G.parea, truD, SO.res]
  · simp [B__law_drawn_fits, i1, i12, i13, i9, i6, i2, i3, i14, d1, d12, d13, d9, d20, d19, d6, d2, d3, d14, mk1, cp, datas, permute, c1, c2, c3, c4, c5, c6, c7, c8, c9, c10, c11, k1, k2, k3, pO_d, lO_d, k_pO, k_pD, at_pO, at_lO, at_iD, at_bl, fzAll, fzR, bf7, bf8, one1, binK1, binK2, m1, m2, m3, m4, sub, ix0', ix1', cmpK0, cmpK2, cmpK4, cmpK5, ltLt hE, gtLt hE, eqLt hE, n1, n2, q0, eqBl, neBl, x1, x2, hr2, pr1_some G.prim, pr1_some G.parea, truD, SO.res]
end
end Z

set_option Elab.async false
set_option linter.all false
set_option maxRecDepth 100000
set_option maxHeartbeats 4000000
namespace Z
open PySem PySem.Spec PyProof.Rows L2 Y
section
variable {c : Cf}
theorem comp_filter {own : List Nat} {g : c.O → Rho c → Option (Rho c)} {t : Rho c → Out c Bool} {e : Rho c → Out c (Tm c)} (P : c.D → Prop) (I : Rho c → Prop) (ok : c.D → Bool)
    (hs : ∀ d ρ, P d → I ρ → ∃ ρ1, g (.fr d) ρ = some ρ1 ∧ ∃ ρ2, t ρ1 = .ok (ok d) ρ2 ∧ (ok d = true → ∃ ρ3, frS e ρ2 = .ok d ρ3 ∧ I (wipeR ρ3 own)) ∧ (ok d = false → I (wipeR ρ2 own))) :
    ∀ (ds acc : List c.D) (ρ : Rho c), (∀ d ∈ ds, P d) → acc.length + ds.length ≤ 1000000 → I ρ → ∃ ρ2, compS own g t e ds acc ρ = .ok (acc ++ ds.filter ok) ρ2 ∧ I ρ2
  | [], acc, ρ, _, _, h => ⟨ρ, by rw [List.filter_nil, List.append_nil]; rfl, h⟩
  | d :: ds, acc, ρ, hP, hl, h => by
    obtain ⟨ρ1, h1, ρ2, h2, h3, h4⟩ := hs d ρ (hP d (List.mem_cons_self ..)) h
    rw [List.length_cons] at hl
    unfold compS
    simp only [h1]
    cases hk : ok d with
    | true =>
      obtain ⟨ρ3, k1, k2⟩ := h3 hk
      rw [hk] at h2
      simp only [h2, k1]
      rw [if_neg (by omega)]
      obtain ⟨ρ4, m1, m2⟩ := comp_filter P I ok hs ds (acc ++ [d]) _ (fun d hd => hP d (List.mem_cons_of_mem _ hd)) (by rw [List.length_append, List.length_cons, List.length_nil]; omega) k2
      refine ⟨ρ4, ?_, m2⟩
      rw [m1, List.filter_cons, if_pos hk, List.append_assoc]; rfl
    | false =>
      rw [hk] at h2
      simp only [h2]
      obtain ⟨ρ4, m1, m2⟩ := comp_filter P I ok hs ds acc _ (fun d hd => hP d (List.mem_cons_of_mem _ hd)) (by omega) (h4 hk)
      refine ⟨ρ4, ?_, m2⟩
      rw [m1, List.filter_cons, if_neg (by rw [hk]; exact Bool.false_ne_true)]
def ix06 : List Int := [0, 1, 2, 3, 4, 5]
def negL (r : R6) : List Int := ix06.filter fun k => decide (r.sd.nth k < 0)
theorem negL_head (r : R6) : (negL r).head? = fneg r := by
  unfold negL ix06 fneg
  simp only [List.filter_cons, List.filter_nil, R6.nth, R6.sd]
  by_cases h0 : r.s0 < 0
  · simp [h0]
  by_cases h1 : r.s1 < 0
  · simp [h0, h1]
  by_cases h2 : r.s2 < 0
  · simp [h0, h1, h2]
  by_cases h3 : r.s3 < 0
  · simp [h0, h1, h2, h3]
  by_cases h4 : r.s4 < 0
  · simp [h0, h1, h2, h3, h4]
  by_cases h5 : r.s5 < 0
  · simp [h0, h1, h2, h3, h4, h5]
  · simp [h0, h1, h2, h3, h4, h5]
theorem negL_len (r : R6) : (negL r).length ≤ 6 := List.length_filter_le ..
theorem rf_ok (hE : Exi c.nm) {V : Ev c} (G : K9 c V) (r s : R6) (k : Int) (h1 : r.ok 300) (h2 : s.ok 300) (h : fneg r = some k ∨ (fneg r = none ∧ fneg s = some k)) : runF V false 6 3 B__law_refused none [lD c r, lD c s, iD c k] = .ok (.fr (.bl true)) none := by
  obtain ⟨i1, i12, i13, i9, i6⟩ := G.io
  obtain ⟨d1, d12, d13, d9, d20, d19, d22, d6⟩ := G.df
  obtain ⟨i2, i3, i14⟩ := G.io2
  obtain ⟨d2, d3, d14⟩ := G.df2
  have c1 := G.ini r
  have c2 := G.ini s
  have c6 := G.sp r s h1 h2
  have c7 := G.sr r s h1 h2
  have tw : ∀ x, twoR c r s x = .exc 3 [iD c k] := fun x => by
    unfold twoR
    rcases h with h | ⟨h, h'⟩
    · rw [h]
    · rw [h, h']
  rw [tw] at c6 c7
  have eS : (⟨#[115, 105, 100, 101]⟩ : Str) = "side" := by decide +kernel
  have q1 : PyData.canLay0 (.str "side") = true := by decide +kernel
  have k1 := G.same (.lst [.lst [.tup [.str "side", iD c k]], .lst [.tup [.str "side", iD c k]]]) (by simp [pl, q1])
  have tg := G.tg
  refine runF_res rfl ?_
  show SO.res ((sem V false B__law_refused).s [some (.fr (lD c r)), some (.fr (lD c s)), some (.fr (iD c k)), none, none, none]) = _
  simp [B__law_refused, i6, i2, i3, d19, d6, d2, d3, mk1, cp, datas, permute, c1, c2, c6, c7, k1, pO_d, k_pO, k_pD, at_pO, at_iD, at_bl, fzAll, fzR, triS, frO, tg, eS, SO.res]
end
end Z

set_option Elab.async false
set_option linter.all false
set_option maxRecDepth 100000
set_option maxHeartbeats 4000000
namespace Z
open PySem PySem.Spec PyProof.Rows L2 Y
section
variable {c : Cf}
def lsO (c : Cf) (l : List Int) : c.O := .lst (l.map fun k => .fr (iD c k))
def negD (c : Cf) (r : R6) (d : c.D) : Bool := decide (r.sd.nth (valD c d) < 0)
theorem six_neg (r : R6) : (six c).filter (negD c r) = (negL r).map (iD c) := by
  show ([0, 1, 2, 3, 4, 5].map (iD c)).filter (negD c r) = _
  rw [List.filter_map]
  unfold negL ix06
  congr 1
  apply List.filter_congr
  intro k _
  show negD c r (iD c k) = _
  unfold negD
  rw [val_iD]
theorem jon (hE : Exi c.nm) (r : R6) (k : Int) (h : 0 ≤ k ∧ k < 6) : idxO (c := c) (lO c r) (.fr (iD c k)) = some (.fr (iD c (r.nth k))) := by
  have e : idxO (c := c) (lO c r) (.fr (iD c k)) = (match atI (r.L fun i => (OT.fr (iD c i) : c.O)) k with
      | some (OT.fr d) => some (OT.fr d : c.O)
      | _ => none) := by
    show (match c.nm.con (c.nm.lit k) with
      | some i => (match atI (r.L fun i => (OT.fr (iD c i) : c.O)) i with
        | some (OT.fr d) => some (OT.fr d : c.O)
        | _ => none)
      | none => none) = _
    rw [lcon hE]
  rw [e]
  have : k = 0 ∨ k = 1 ∨ k = 2 ∨ k = 3 ∨ k = 4 ∨ k = 5 := by omega
  rcases this with rfl | rfl | rfl | rfl | rfl | rfl <;> rfl
theorem pf_comp (hE : Exi c.nm) {V : Ev c} (G : K7 c V) (r : R6) (h1 : r.ok 300) (i : Nat) (A B X : Option c.O) (hi : ∀ k, (sem V false (.idx (.call 9 (.cons (.var i) .nil) [0]) (.var 3))).o [A, B, X, some (.fr (iD c k))] = (match idxO (c := c) (lO c r.sd) (.fr (iD c k)) with | some z => .ok (.o z) [A, B, X, some (.fr (iD c k))] | none => .bad)) :
    (sem V false (.comp [3] (.tn 3) (.rng1 (.int 6)) (.cmp 0 (.idx (.call 9 (.cons (.var i) .nil) [0]) (.var 3)) (.int 0)) (.var 3))).o [A, B, X, none] = .ok (.o (lsO c (negL r))) [A, B, X, none] := by
  rw [o_comp]
  have e1 : (sem V false (.rng1 (.int 6))).i [A, B, X, none] = .ok (six c) [A, B, X, none] := by simp [conLt hE, rng6, six]
  rw [e1]
  obtain ⟨ρ2, q1, q2⟩ := comp_filter (c := c) (own := [3]) (g := (sem V false (.tn 3)).g) (t := (sem V false (.cmp 0 (.idx (.call 9 (.cons (.var i) .nil) [0]) (.var 3)) (.int 0))).t) (e := (sem V false (.var 3)).o) (is6 c) (fun ρ => ρ = [A, B, X, none]) (negD c r) (fun d ρ hd hI => by
    obtain ⟨k, rfl, k0, k5⟩ := hd
    subst hI
    have e : negD c r (iD c k) = decide (r.sd.nth k < 0) := by unfold negD; rw [val_iD]
    have hk := hi k
    rw [jon hE _ k ⟨k0, k5⟩] at hk
    refine ⟨[A, B, X, some (.fr (iD c k))], by simp, [A, B, X, some (.fr (iD c k))], ?_, fun _ => ⟨[A, B, X, some (.fr (iD c k))], by simp [frS_eq], by simp [wipeR]⟩, fun _ => by simp [wipeR]⟩
    rw [e, t_cmp, o_cmp, hk]
    simp [cmpK0, ltLt hE]) (six c) [] [A, B, X, none] six_is (by simp [six]) rfl
  subst q2
  have ew : wipeR [A, B, X, none] [3] = [A, B, X, none] := by simp [wipeR]
  rw [List.nil_append, six_neg] at q1
  show (match compS [3] (sem V false (.tn 3)).g (sem V false (.cmp 0 (.idx (.call 9 (.cons (.var i) .nil) [0]) (.var 3)) (.int 0))).t (sem V false (.var 3)).o (six c) [] (wipeR [A, B, X, none] [3]) with
    | .ok acc ρ2 => (.ok (.o (.lst (acc.map .fr))) ρ2 : Out c (Tm c))
    | _ => .bad) = _
  rw [ew, q1]
  show (Out.ok (Tm.o (OT.lst (((negL r).map (iD c)).map .fr))) [A, B, X, none] : Out c (Tm c)) = _
  rw [List.map_map]
  rfl
theorem ne_ls (l : List Int) : neO (c := c) (.fr (.lst (l.map (iD c)))) (.lst []) = some (.fr (.bl (!l.isEmpty))) := by
  have e : neO (c := c) (pot (l.map c.nm.lit)) (.lst []) = some (.fr (.bl (!(l.map c.nm.lit).isEmpty))) := by
    have h := eq_pot_nil (c := c) (l.map c.nm.lit)
    unfold eqO at h
    unfold neO
    split at h
    · rename_i q
      rw [if_pos q]
      obtain ⟨b, h1, h2⟩ := Option.map_eq_some_iff.mp h
      rw [h1]
      cases h2
      rfl
    · cases h
  have e2 : OT.d (pot (c := c) (l.map c.nm.lit)) = .lst (l.map (iD c)) := by
    show D.lst (OT.ds _) = _
    rw [ds_pot, List.map_map]; rfl
  unfold neO at e ⊢
  rw [e2] at e
  have e3 : OT.d (OT.fr (.lst (l.map (iD c))) : c.O) = .lst (l.map (iD c)) := rfl
  rw [e3, e]
  cases l <;> rfl
theorem ne_lsO (l : List Int) : neO (c := c) (lsO c l) (.lst []) = some (.fr (.bl (!l.isEmpty))) := by
  have := ne_ls (c := c) l
  unfold neO at this ⊢
  have e : OT.d (lsO c l) = OT.d (OT.fr (.lst (l.map (iD c))) : c.O) := by
    show D.lst (OT.ds _) = D.lst _
    congr 1
    induction l with
    | nil => rfl
    | cons a l ih => rw [List.map_cons, List.map_cons, ← ih (by
        have := ne_ls (c := c) l
        exact this)]; rfl
  rw [e]; exact this
theorem ls_d (l : List Int) : OT.d (lsO c l) = .lst (l.map (iD c)) := by
  show D.lst (OT.ds _) = D.lst _
  congr 1
  induction l with
  | nil => rfl
  | cons a l ih => rw [List.map_cons, List.map_cons, ← ih]; rfl
theorem add_ls (l m : List Int) (h : l.length + m.length ≤ 1000000) : addO (c := c) (lsO c l) (lsO c m) = some (lsO c (l ++ m)) := by
  have f : ∀ l : List Int, lItems (lsO c l) = some (l.map (iD c)) := fun l => by
    show allFr (c := c) (l.map fun k => OT.fr (iD c k)) = _
    induction l with
    | nil => rfl
    | cons a l ih => rw [List.map_cons]; show (allFr (c := c) _).map _ = _; rw [ih]; rfl
  show (match lItems (lsO c l), lItems (lsO c m) with
    | some a, some b => if 1000000 < a.length + b.length then none else some (OT.lst ((a ++ b).map OT.fr) : c.O)
    | _, _ => none) = _
  rw [f, f]
  simp only [List.length_map]
  rw [if_neg (by omega), ← List.map_append, List.map_map]
  rfl
structure K10 (c : Cf) (V : Ev c) : Prop extends K7 c V where
  dfits : ∀ r s : R6, r.ok 300 → s.ok 300 → r.drawn → s.drawn → V.call 16 none [lD c r, lD c s] = .ok (.fr (.bl true)) none
  rfits : ∀ (r s : R6) (k : Int), r.ok 300 → s.ok 300 → (fneg r = some k ∨ (fneg r = none ∧ fneg s = some k)) → V.call 17 none [lD c r, lD c s, iD c k] = .ok (.fr (.bl true)) none
  io3 : V.io 16 = false ∧ V.io 17 = false
  df3 : V.dfl 16 = [] ∧ V.dfl 17 = []
theorem pf_ok (hE : Exi c.nm) {V : Ev c} (G : K10 c V) (r s : R6) (h1 : r.ok 300) (h2 : s.ok 300) : runF V false 4 2 B__law_pair_fits none [lD c r, lD c s] = .ok (.fr (.bl true)) none := by
  obtain ⟨i1, i12, i13, i9, i6⟩ := G.io
  obtain ⟨d1, d12, d13, d9, d20, d19, d22, d6⟩ := G.df
  obtain ⟨i16, i17⟩ := G.io3
  obtain ⟨d16, d17⟩ := G.df3
  have c1 := G.lsd r h1
  have c2 := G.lsd s h2
  have s1 := pf_comp hE G.toK7 r h1 0 (some (.fr (lD c r))) (some (.fr (lD c s))) none (fun k => by simp [i9, d9, cp, datas, permute, c1, at_lO, lO_d, fzAll, fzR] <;> rfl)
  have s2 := pf_comp hE G.toK7 s h2 1 (some (.fr (lD c r))) (some (.fr (lD c s))) (some (lsO c (negL r))) (fun k => by simp [i9, d9, cp, datas, permute, c2, at_lO, lO_d, fzAll, fzR] <;> rfl)
  have l1 := negL_len r
  have l2 := negL_len s
  have ad := add_ls (c := c) (negL r) (negL s) (by omega)
  refine runF_res rfl ?_
  show SO.res ((sem V false B__law_pair_fits).s [some (.fr (lD c r)), some (.fr (lD c s)), none, none]) = _
  unfold B__law_pair_fits
  refine stpE [some (.fr (lD c r)), some (.fr (lD c s)), some (lsO c (negL r)), none] (Z := fun z => SO.res z = _) (by simp [-o_comp, s1]) ?_
  refine stpE [some (.fr (lD c r)), some (.fr (lD c s)), some (lsO c (negL r ++ negL s)), none] (Z := fun z => SO.res z = _) (by simp [-o_comp, s2, binK0, ad]) ?_
  cases hl : negL r ++ negL s with
  | nil =>
    obtain ⟨n1, n2⟩ := List.append_eq_nil_iff.mp hl
    have f1 : fneg r = none := by rw [← negL_head, n1]; rfl
    have f2 : fneg s = none := by rw [← negL_head, n2]; rfl
    have c3 := G.dfits r s h1 h2 (fneg_none.mp f1) (fneg_none.mp f2)
    simp [cmpK5, ne_lsO, i16, d16, cp, datas, permute, c3, at_bl, SO.res]
  | cons k l =>
    have hk : fneg r = some k ∨ (fneg r = none ∧ fneg s = some k) := by
      rw [← negL_head, ← negL_head]
      cases hn : negL r with
      | nil =>
        rw [hn, List.nil_append] at hl
        rw [hl]
        exact .inr ⟨rfl, rfl⟩
      | cons a b =>
        rw [hn, List.cons_append] at hl
        injection hl with e1 e2
        subst e1
        exact .inl rfl
    have c3 := G.rfits r s k h1 h2 hk
    have ix : idxO (c := c) (.fr (.lst ((k :: l).map (iD c)))) (.fr (iD c 0)) = some (.fr (iD c k)) := by
      rw [idxLst hE, List.map_cons]
      have : ixN (iD c k :: l.map (iD c)).length 0 = some 0 := by unfold ixN; simp
      unfold atI
      rw [this]; rfl
    rw [List.map_cons] at ix
    simp [cmpK5, ne_lsO, ls_d, ix, i17, d17, cp, datas, permute, c3, at_bl, SO.res]
end
end Z

set_option Elab.async false
set_option linter.all false
set_option maxRecDepth 100000
set_option maxHeartbeats 4000000
namespace Z
open PySem PySem.Spec PyProof.Rows L2 Y
def unitR (k : Int) : R6 := if k = 0 then ⟨1, 0, 0, 0, 0, 1⟩ else if k = 1 then ⟨1, 1, 0, 0, 0, 0⟩ else if k = 2 then ⟨0, 1, 1, 0, 0, 0⟩ else if k = 3 then ⟨1, 1, 0, 0, 0, 1⟩ else ⟨1, 1, 1, 0, 0, 0⟩
def letR (k : Int) : Str := if k = 0 then ⟨#[101]⟩ else if k = 1 then ⟨#[110]⟩ else if k = 2 then ⟨#[119]⟩ else if k = 3 then ⟨#[117]⟩ else ⟨#[118]⟩
def R6.within (r : R6) (n : Int) : Prop := (-n ≤ r.a ∧ r.a ≤ n) ∧ (-n ≤ r.b ∧ r.b ≤ n) ∧ (-n ≤ r.c ∧ r.c ≤ n) ∧ (-n ≤ r.d ∧ r.d ≤ n) ∧ (-n ≤ r.e ∧ r.e ≤ n) ∧ (-n ≤ r.f ∧ r.f ≤ n)
theorem unit_01 (k : Int) : (unitR k).within 1 := by
  unfold unitR R6.within
  repeat (first | split | decide)
section
variable {c : Cf}
structure KC (c : Cf) (V : Ev c) : Prop where
  dr : DrawV V 4
  un : ∀ k : Int, 0 ≤ k → k < 5 → V.call 10 none [.str (letR k)] = .ok (lO c (unitR k)) none
  i10 : V.io 10 = false
  d10 : V.dfl 10 = []
theorem loop_cnt {g : c.O → Rho c → Option (Rho c)} {s : Rho c → SO c} (P : c.D → Prop) (I : Nat → Rho c → Prop) (hs : ∀ n d ρ, P d → I n ρ → ∃ ρ1, g (.fr d) ρ = some ρ1 ∧ ∃ ρ2, s ρ1 = .nx ρ2 ∧ I (n + 1) ρ2) :
    ∀ (ds : List c.D) (n : Nat) (ρ : Rho c), (∀ d ∈ ds, P d) → I n ρ → ∃ ρ2, loopS g s ds ρ = .nx ρ2 ∧ I (n + ds.length) ρ2
  | [], n, ρ, _, h => ⟨ρ, rfl, h⟩
  | d :: ds, n, ρ, hP, h => by
    obtain ⟨ρ1, h1, ρ2, h2, h3⟩ := hs n d ρ (hP d (List.mem_cons_self ..)) h
    unfold loopS
    simp only [h1, h2]
    obtain ⟨ρ3, k1, k2⟩ := loop_cnt P I hs ds (n + 1) ρ2 (fun d hd => hP d (List.mem_cons_of_mem _ hd)) h3
    exact ⟨ρ3, k1, by rw [List.length_cons, show n + (ds.length + 1) = n + 1 + ds.length by omega]; exact k2⟩
theorem idx_let (hE : Exi c.nm) (k : Int) (h : 0 ≤ k ∧ k < 5) : idxO (c := c) (.fr (.str ⟨#[101, 110, 119, 117, 118]⟩)) (.fr (iD c k)) = some (.fr (.str (letR k))) := by
  have e : idxO (c := c) (.fr (.str ⟨#[101, 110, 119, 117, 118]⟩)) (.fr (iD c k)) = (atI [101, 110, 119, 117, 118] k).map fun n => (OT.fr (.str ⟨#[n]⟩) : c.O) := by
    show (match c.nm.con (c.nm.lit k) with
      | some i => if (5 : Nat) ≤ 1000000 then (atI [101, 110, 119, 117, 118] i).map fun n => (OT.fr (.str ⟨#[n]⟩) : c.O) else none
      | none => none) = _
    rw [lcon hE]
    rfl
  rw [e]
  have : k = 0 ∨ k = 1 ∨ k = 2 ∨ k = 3 ∨ k = 4 := by omega
  rcases this with rfl | rfl | rfl | rfl | rfl <;> rfl
def stepR (r u : R6) (m : Int) : R6 := ⟨r.a + m * u.a, r.b + m * u.b, r.c + m * u.c, r.d + m * u.d, r.e + m * u.e, r.f + m * u.f⟩
theorem mul_01 {m u : Int} (h0 : 0 ≤ m) (h1 : m < 4) (h : -1 ≤ u ∧ u ≤ 1) : -3 ≤ m * u ∧ m * u ≤ 3 ∧ CMulW m u := by
  have : u = -1 ∨ u = 0 ∨ u = 1 := by omega
  refine ⟨?_, ?_, ?_⟩
  · rcases this with rfl | rfl | rfl <;> omega
  · rcases this with rfl | rfl | rfl <;> omega
  · exact wide_mul (a := 3) (b := 3) (by omega) (by omega) (by decide) (by decide) (by decide)
theorem step_w {r u : R6} {m n : Int} (hr : r.within n) (hu : u.within 1) (h0 : 0 ≤ m) (h1 : m < 4) : (stepR r u m).within (n + 3) := by
  obtain ⟨r1, r2, r3, r4, r5, r6⟩ := hr
  obtain ⟨u1, u2, u3, u4, u5, u6⟩ := hu
  have k1 := mul_01 h0 h1 u1
  have k2 := mul_01 h0 h1 u2
  have k3 := mul_01 h0 h1 u3
  have k4 := mul_01 h0 h1 u4
  have k5 := mul_01 h0 h1 u5
  have k6 := mul_01 h0 h1 u6
  unfold stepR R6.within
  simp only
  omega
def ckB : M := (.cons (.asg (.tn 5) (.bin 4 (.bfc 1 (.cons (.bin 0 (.bin 0 (.call 4 (.cons (.var 0) (.cons (.int 4) .nil)) [0, 1]) (.var 1)) (.var 4)) .nil)) (.int 4))) (.cons (.iff (.or (.cmp 0 (.var 3) (.int 3)) (.one (.cmp 4 (.bin 1 (.var 3) (.int 3)) (.var 4)))) (.cons (.asg (.tn 6) (.call 10 (.cons (.idx (.str ⟨#[101, 110, 119, 117, 118]⟩) (.var 4)) .nil) [0])) (.cons (.asg (.tn 2) (.comp [7] (.tn 7) (.rng1 (.int 6)) .nop (.bin 0 (.idx (.fz (.var 2)) (.var 7)) (.bin 2 (.var 5) (.idx (.fz (.var 6)) (.var 7)))))) .nil)) .nil) .nil))
def ckI (c : Cf) (sh : Int) (n : Nat) (ρ : Rho c) : Prop := ∃ (os : List c.nm.T) (R : R6) (x : c.O) (o : Int) (t u v : Option c.O), OT.d x = lD c R ∧ R.within (3 * n) ∧ ρ = [some (pot os), some (.fr (iD c sh)), some x, some (.fr (iD c o)), t, u, v, none]
theorem ck_step (hE : Exi c.nm) {V : Ev c} (G : KC c V) (sh : Int) (n : Nat) (k : Int) (k0 : 0 ≤ k) (k5 : k < 5) (os : List c.nm.T) (R : R6) (x : c.O) (o : Int) (u v : Option c.O) (hx : OT.d x = lD c R) (hR : R.within (3 * n)) :
    ∃ ρ2, (sem V true ckB).s [some (pot os), some (.fr (iD c sh)), some x, some (.fr (iD c o)), some (.fr (iD c k)), u, v, none] = .nx ρ2 ∧ ckI c sh (n + 1) ρ2 := by
  have i10 := G.i10
  have d10 := G.d10
  obtain ⟨r, os1, r1, r2, e1⟩ := drawL (V := V) (p := true) (i := 0) (ρ := [some (pot os), some (.fr (iD c sh)), some x, some (.fr (iD c o)), some (.fr (iD c k)), u, v, none]) 4 G.dr (by decide) (by decide +kernel) rfl
  rw [hE.lit r] at e1
  generalize c.nm.val r = m0 at *
  obtain ⟨m, hm⟩ : ∃ m, m = (m0 + sh + k) % 4 := ⟨_, rfl⟩
  have h4 : (0 : Int) < 4 := by decide
  have md := modLt (c := c) hE (m0 + sh + k) 4 h4
  rw [← hm] at md
  have m0' : 0 ≤ m := by omega
  have m4 : m < 4 := by omega
  have c10 := G.un k k0 k5
  have ixl := idx_let (c := c) hE k ⟨k0, k5⟩
  have hu := unit_01 k
  unfold ckB
  have s1 : (sem V true (.asg (.tn 5) (.bin 4 (.bfc 1 (.cons (.bin 0 (.bin 0 (.call 4 (.cons (.var 0) (.cons (.int 4) .nil)) [0, 1]) (.var 1)) (.var 4)) .nil)) (.int 4)))).s [some (pot os), some (.fr (iD c sh)), some x, some (.fr (iD c o)), some (.fr (iD c k)), u, v, none] = .nx [some (pot os1), some (.fr (iD c sh)), some x, some (.fr (iD c o)), some (.fr (iD c k)), some (.fr (iD c m)), v, none] := by
    simp [-o_call, e1, binK0, binK4, addLt hE, bfn1, intO_int, md]
  by_cases q : o < 3 ∨ o - 3 = k
  · refine ⟨[some (pot os1), some (.fr (iD c sh)), some (lO c (stepR R (unitR k) m)), some (.fr (iD c o)), some (.fr (iD c k)), some (.fr (iD c m)), some (.fr (lD c (unitR k))), none], ?_, os1, stepR R (unitR k) m, _, o, _, _, _, rfl, by
      have := step_w hR hu m0' m4
      have e : (3 * (n : Int) + 3) = 3 * ((n + 1 : Nat) : Int) := by omega
      rw [e] at this
      exact this, rfl⟩
    refine stp _ s1 ?_
    obtain ⟨u1, u2, u3, u4, u5, u6⟩ := hu
    have w1 := mulLt (c := c) hE m (unitR k).a (mul_01 m0' m4 u1).2.2
    have w2 := mulLt (c := c) hE m (unitR k).b (mul_01 m0' m4 u2).2.2
    have w3 := mulLt (c := c) hE m (unitR k).c (mul_01 m0' m4 u3).2.2
    have w4 := mulLt (c := c) hE m (unitR k).d (mul_01 m0' m4 u4).2.2
    have w5 := mulLt (c := c) hE m (unitR k).e (mul_01 m0' m4 u5).2.2
    have w6 := mulLt (c := c) hE m (unitR k).f (mul_01 m0' m4 u6).2.2
    have tst : (sem V true (.or (.cmp 0 (.var 3) (.int 3)) (.one (.cmp 4 (.bin 1 (.var 3) (.int 3)) (.var 4))))).t [some (pot os1), some (.fr (iD c sh)), some x, some (.fr (iD c o)), some (.fr (iD c k)), some (.fr (iD c m)), v, none] = .ok true [some (pot os1), some (.fr (iD c sh)), some x, some (.fr (iD c o)), some (.fr (iD c k)), some (.fr (iD c m)), v, none] := by
      by_cases q1 : o < 3
      · simp [cmpK0, ltLt hE, q1]
      · have q2 : o - 3 = k := by omega
        simp [cmpK0, cmpK4, binK1, ltLt hE, subLt hE, eqLt hE, q1, q2]
    rw [s_cons, s_iff, tst]
    simp [i10, d10, ixl, cp, datas, permute, c10, at_lO, lO_d, hx, fzAll, fzR, conLt hE, rng6, wipeR, compS, frS_eq, jx0 hE, jx1 hE, jx2 hE, jx3 hE, jx4 hE, jx5 hE, binK0, binK2, w1, w2, w3, w4, w5, w6, addLt hE]
    rfl
  · refine ⟨[some (pot os1), some (.fr (iD c sh)), some x, some (.fr (iD c o)), some (.fr (iD c k)), some (.fr (iD c m)), v, none], ?_, os1, R, x, o, _, _, _, hx, by
      unfold R6.within at hR ⊢
      omega, rfl⟩
    refine stp _ s1 ?_
    have q1 : ¬ o < 3 := fun z => q (.inl z)
    have q2 : ¬ o - 3 = k := fun z => q (.inr z)
    simp [cmpK0, cmpK4, binK1, ltLt hE, subLt hE, eqLt hE, q1, q2]
end
end Z

set_option Elab.async false
set_option linter.all false
set_option maxRecDepth 100000
set_option maxHeartbeats 4000000
namespace Z
open PySem PySem.Spec PyProof.Rows L2 Y
namespace R6
theorem mv_ok {r : R6} {x y : Int} (h : r.ok 260) (hx : x.natAbs < 2 ^ 130) (hy : y.natAbs < 2 ^ 130) : (r.mv x y).ok 300 := by
  have e1 : (2 : Nat) ^ 130 ≤ 2 ^ 260 := Nat.pow_le_pow_right (by decide) (by decide)
  have e2 : 4 * (2 : Nat) ^ 260 ≤ 2 ^ 300 := by decide +kernel
  unfold ok at *
  generalize (2 : Nat) ^ 130 = A at *
  generalize (2 : Nat) ^ 260 = B at *
  generalize (2 : Nat) ^ 300 = C at *
  unfold mv
  simp only
  omega
theorem mv_ok2 {r : R6} {x y : Int} (h : r.ok 250) (hx : x.natAbs < 2 ^ 130) (hy : y.natAbs < 2 ^ 130) : (r.mv x y).ok 260 := by
  have e1 : (2 : Nat) ^ 130 ≤ 2 ^ 250 := Nat.pow_le_pow_right (by decide) (by decide)
  have e2 : 4 * (2 : Nat) ^ 250 ≤ 2 ^ 260 := by decide +kernel
  unfold ok at *
  generalize (2 : Nat) ^ 130 = A at *
  generalize (2 : Nat) ^ 250 = B at *
  generalize (2 : Nat) ^ 260 = C at *
  unfold mv
  simp only
  omega
theorem ok_le {r : R6} {m n : Nat} (h : r.ok m) (hl : m ≤ n) : r.ok n := ⟨nb_le h.1 hl, nb_le h.2.1 hl, nb_le h.2.2.1 hl, nb_le h.2.2.2.1 hl, nb_le h.2.2.2.2.1 hl, nb_le h.2.2.2.2.2 hl⟩
theorem within_ok {r : R6} {n : Int} (h : r.within n) (hn : n < 1000) : r.ok 100 := by
  have e : (1000 : Nat) ≤ 2 ^ 100 := by decide +kernel
  unfold within at h
  unfold ok
  generalize (2 : Nat) ^ 100 = A at *
  omega
def sc (n : Int) (r : R6) : R6 := ⟨n * r.a, n * r.b, n * r.c, n * r.d, n * r.e, n * r.f⟩
theorem sc_ok {r : R6} {n : Int} (h : r.ok 100) (hn : n.natAbs < 2 ^ 130) : (sc n r).ok 250 := by
  have q : 130 + 100 ≤ 250 := by decide
  exact ⟨nb_le (wide_lt hn h.1) q, nb_le (wide_lt hn h.2.1) q, nb_le (wide_lt hn h.2.2.1) q, nb_le (wide_lt hn h.2.2.2.1) q, nb_le (wide_lt hn h.2.2.2.2.1) q, nb_le (wide_lt hn h.2.2.2.2.2) q⟩
end R6
section
variable {c : Cf}
theorem five_is : ∀ d ∈ [iD c 0, iD c 1, iD c 2, iD c 3, iD c 4], (∃ k : Int, d = iD c k ∧ 0 ≤ k ∧ k < 5) := fun d hd => by
  simp only [List.mem_cons, List.not_mem_nil, or_false] at hd
  rcases hd with rfl | rfl | rfl | rfl | rfl
  · exact ⟨0, rfl, by decide, by decide⟩
  · exact ⟨1, rfl, by decide, by decide⟩
  · exact ⟨2, rfl, by decide, by decide⟩
  · exact ⟨3, rfl, by decide, by decide⟩
  · exact ⟨4, rfl, by decide, by decide⟩
theorem ck_ok (hE : Exi c.nm) {V : Ev c} (G : KC c V) (os : List c.nm.T) (sh : Int) : ∃ (R : R6) (x : c.O) (os' : List c.nm.T), OT.d x = lD c R ∧ R.within 15 ∧ runF V true 8 2 B__law_cooked (some (pot os)) [iD c sh] = .ok x (some (pot os')) := by
  obtain ⟨r, os1, r1, r2, e1⟩ := drawL (V := V) (p := true) (i := 0) (ρ := [some (pot os), some (.fr (iD c sh)), some (lO c ⟨0, 0, 0, 0, 0, 0⟩), none, none, none, none, none]) 8 G.dr (by decide) (by decide +kernel) rfl
  rw [hE.lit r] at e1
  generalize c.nm.val r = o at *
  obtain ⟨ρ2, q1, q2⟩ := loop_cnt (c := c) (g := (sem V true (.tn 4)).g) (s := (sem V true ckB).s) (fun d => ∃ k : Int, d = iD c k ∧ 0 ≤ k ∧ k < 5) (ckI c sh) (fun n d ρ hd hI => by
    obtain ⟨k, rfl, k0, k5⟩ := hd
    obtain ⟨os, R, x, o, t, u, v, hx, hR, rfl⟩ := hI
    exact ⟨[some (pot os), some (.fr (iD c sh)), some x, some (.fr (iD c o)), some (.fr (iD c k)), u, v, none], by simp, ck_step hE G sh n k k0 k5 os R x o u v hx hR⟩) [iD c 0, iD c 1, iD c 2, iD c 3, iD c 4] 0 [some (pot os1), some (.fr (iD c sh)), some (lO c ⟨0, 0, 0, 0, 0, 0⟩), some (.fr (iD c o)), none, none, none, none] five_is
    ⟨os1, ⟨0, 0, 0, 0, 0, 0⟩, _, o, none, none, none, rfl, by unfold R6.within; decide, rfl⟩
  obtain ⟨os2, R, x, o2, t, u, v, hx, hR, rfl⟩ := q2
  refine ⟨R, x, os2, hx, hR, runF_resI rfl ?_⟩
  show SO.resI ((sem V true B__law_cooked).s [some (pot os), some (.fr (iD c sh)), none, none, none, none, none, none]) = _
  have eB : B__law_cooked = (.cons (.asg (.tn 2) (.lst (.cons (.int 0) (.cons (.int 0) (.cons (.int 0) (.cons (.int 0) (.cons (.int 0) (.cons (.int 0) .nil)))))))) (.cons (.asg (.tn 3) (.call 4 (.cons (.var 0) (.cons (.int 8) .nil)) [0, 1])) (.cons (.loop (.tn 4) (.rng1 (.int 5)) ckB) (.cons (.ret (.var 2)) .nil)))) := rfl
  rw [eB]
  refine stpE [some (pot os), some (.fr (iD c sh)), some (lO c ⟨0, 0, 0, 0, 0, 0⟩), none, none, none, none, none] (Z := fun z => SO.resI z = _) (by simp; rfl) ?_
  refine stpE [some (pot os1), some (.fr (iD c sh)), some (lO c ⟨0, 0, 0, 0, 0, 0⟩), some (.fr (iD c o)), none, none, none, none] (Z := fun z => SO.resI z = _) (by simp [-o_call, e1]) ?_
  refine stpE _ (Z := fun z => SO.resI z = _) (by
    rw [s_loop]
    have : (sem V true (.rng1 (.int 5))).i [some (pot os1), some (.fr (iD c sh)), some (lO c ⟨0, 0, 0, 0, 0, 0⟩), some (.fr (iD c o)), none, none, none, none] = .ok [iD c 0, iD c 1, iD c 2, iD c 3, iD c 4] [some (pot os1), some (.fr (iD c sh)), some (lO c ⟨0, 0, 0, 0, 0, 0⟩), some (.fr (iD c o)), none, none, none, none] := by simp [conLt hE, rng5]
    rw [this]
    exact q1) ?_
  simp [SO.resI]
/-- a comprehension that draws a small number at each turn -/
theorem comp_ints {own : List Nat} {g : c.O → Rho c → Option (Rho c)} {t : Rho c → Out c Bool} {e : Rho c → Out c (Tm c)} (P : c.D → Prop) (I : Rho c → Prop) (B : Int → Prop)
    (hs : ∀ d ρ, P d → I ρ → ∃ ρ1, g (.fr d) ρ = some ρ1 ∧ ∃ ρ2, t ρ1 = .ok true ρ2 ∧ ∃ (i : Int) (ρ3 : Rho c), frS e ρ2 = .ok (iD c i) ρ3 ∧ B i ∧ I (wipeR ρ3 own)) :
    ∀ (ds acc : List c.D) (ρ : Rho c), (∀ d ∈ ds, P d) → acc.length + ds.length ≤ 1000000 → I ρ → ∃ (l : List Int) (ρ2 : Rho c), compS own g t e ds acc ρ = .ok (acc ++ l.map (iD c)) ρ2 ∧ l.length = ds.length ∧ (∀ i ∈ l, B i) ∧ I ρ2
  | [], acc, ρ, _, _, h => ⟨[], ρ, by rw [List.map_nil, List.append_nil]; rfl, rfl, by simp, h⟩
  | d :: ds, acc, ρ, hP, hl, h => by
    obtain ⟨ρ1, h1, ρ2, h2, i, ρ3, h3, hb, h4⟩ := hs d ρ (hP d (List.mem_cons_self ..)) h
    rw [List.length_cons] at hl
    unfold compS
    simp only [h1, h2, h3]
    rw [if_neg (by omega)]
    obtain ⟨l, ρ4, m1, m2, m3, m4⟩ := comp_ints P I B hs ds (acc ++ [iD c i]) _ (fun d hd => hP d (List.mem_cons_of_mem _ hd)) (by rw [List.length_append, List.length_cons, List.length_nil]; omega) h4
    refine ⟨i :: l, ρ4, ?_, by rw [List.length_cons, List.length_cons, m2], fun j hj => ?_, m4⟩
    · rw [m1, List.map_cons, List.append_assoc]; rfl
    · rcases List.mem_cons.mp hj with rfl | hj
      · exact hb
      · exact m3 j hj
theorem six_of {l : List Int} (h : l.length = 6) (n : Int) (hb : ∀ i ∈ l, -n ≤ i ∧ i ≤ n) : ∃ R : R6, l.map (iD c) = R.L (iD c) ∧ R.within n := by
  match l, h with
  | [a, b, d, e, f, g], _ =>
    refine ⟨⟨a, b, d, e, f, g⟩, rfl, ?_⟩
    exact ⟨hb a (by simp), hb b (by simp), hb d (by simp), hb e (by simp), hb f (by simp), hb g (by simp)⟩
end
end Z

set_option Elab.async false
set_option linter.all false
set_option maxRecDepth 100000
set_option maxHeartbeats 4000000
namespace Z
open PySem PySem.Spec PyProof.Rows L2 Y
section
variable {c : Cf}
structure LaV (c : Cf) (V : Ev c) : Prop where
  dr : DrawV V 4
  nu : ∀ (os : List c.nm.T) (m s : Int), ∃ (r : Int) (os' : List c.nm.T), r.natAbs ≤ 10 ^ 39 ∧ V.call 5 (some (pot os)) [iD c m, iD c s] = .ok (.fr (iD c r)) (some (pot os'))
  i5 : V.io 5 = true
  ck : ∀ (os : List c.nm.T) (sh : Int), ∃ (R : R6) (x : c.O) (os' : List c.nm.T), OT.d x = lD c R ∧ R.within 15 ∧ V.call 11 (some (pot os)) [iD c sh] = .ok x (some (pot os'))
  i11 : V.io 11 = true
  mv : ∀ (r : R6) (x y : Int), r.ok 300 → x.natAbs < 2 ^ 300 → y.natAbs < 2 ^ 300 → V.call 12 none [lD c r, .tup [iD c x, iD c y]] = .ok (lO c (r.mv x y)) none
  mf : ∀ (r s : R6) (x y n : Int), r.ok 260 → s.ok 260 → x.natAbs < 2 ^ 130 → y.natAbs < 2 ^ 130 → n.natAbs < 2 ^ 130 → V.call 15 none [lD c r, lD c s, .tup [iD c x, iD c y], iD c n] = .ok (.fr (.bl true)) none
  pf : ∀ r s : R6, r.ok 300 → s.ok 300 → V.call 18 none [lD c r, lD c s] = .ok (.fr (.bl true)) none
  io : V.io 12 = false ∧ V.io 15 = false ∧ V.io 18 = false
  df : V.dfl 12 = [] ∧ V.dfl 15 = [] ∧ V.dfl 18 = []
def drM (a0 a1 a2 a3 a4 a5 : Int) : M := .comp [8] (.tn 8) (.rng1 (.int 6)) .nop (.bin 1 (.bin 4 (.bfc 1 (.cons (.bin 0 (.call 4 (.cons (.var 1) (.cons (.int 9) .nil)) [0, 1]) (.idx (.lst (.cons (.int a0) (.cons (.int a1) (.cons (.int a2) (.cons (.int a3) (.cons (.int a4) (.cons (.int a5) .nil))))))) (.var 8))) .nil)) (.int 9)) (.int 4))
theorem dr_comp (hE : Exi c.nm) {V : Ev c} (hD : DrawV V 4) (a0 a1 a2 a3 a4 a5 : Int) (S A3 A4 A5 A6 A7 A9 : Option c.O) (os : List c.nm.T) :
    ∃ (R : R6) (os' : List c.nm.T), R.within 4 ∧ (sem V false (drM a0 a1 a2 a3 a4 a5)).o [S, some (pot os), none, A3, A4, A5, A6, A7, none, A9, none] = .ok (.o (lO c R)) [S, some (pot os'), none, A3, A4, A5, A6, A7, none, A9, none] := by
  obtain ⟨l, ρ2, q1, q2, q3, os', q4⟩ := comp_ints (c := c) (own := [8]) (g := (sem V false (.tn 8)).g) (t := (sem V false .nop).t) (e := (sem V false (.bin 1 (.bin 4 (.bfc 1 (.cons (.bin 0 (.call 4 (.cons (.var 1) (.cons (.int 9) .nil)) [0, 1]) (.idx (.lst (.cons (.int a0) (.cons (.int a1) (.cons (.int a2) (.cons (.int a3) (.cons (.int a4) (.cons (.int a5) .nil))))))) (.var 8))) .nil)) (.int 9)) (.int 4))).o) (is6 c)
    (fun ρ => ∃ os' : List c.nm.T, ρ = [S, some (pot os'), none, A3, A4, A5, A6, A7, none, A9, none]) (fun i => -4 ≤ i ∧ i ≤ 4) (fun d ρ hd hI => by
      obtain ⟨k, rfl, k0, k5⟩ := hd
      obtain ⟨os, rfl⟩ := hI
      obtain ⟨r, os1, r1, r2, e1⟩ := drawL (V := V) (p := false) (i := 1) (ρ := [S, some (pot os), none, A3, A4, A5, A6, A7, some (.fr (iD c k)), A9, none]) 9 hD (by decide) (by decide +kernel) rfl
      rw [hE.lit r] at e1
      generalize c.nm.val r = m0 at *
      have ix : idxO (c := c) (.lst [.fr (iD c a0), .fr (iD c a1), .fr (iD c a2), .fr (iD c a3), .fr (iD c a4), .fr (iD c a5)]) (.fr (iD c k)) = some (.fr (iD c (R6.nth ⟨a0, a1, a2, a3, a4, a5⟩ k))) := jon hE ⟨a0, a1, a2, a3, a4, a5⟩ k ⟨k0, k5⟩
      have h9 : (0 : Int) < 9 := by decide
      have md := modLt (c := c) hE (m0 + R6.nth ⟨a0, a1, a2, a3, a4, a5⟩ k) 9 h9
      refine ⟨[S, some (pot os), none, A3, A4, A5, A6, A7, some (.fr (iD c k)), A9, none], by simp, [S, some (pot os), none, A3, A4, A5, A6, A7, some (.fr (iD c k)), A9, none], by simp, (m0 + R6.nth ⟨a0, a1, a2, a3, a4, a5⟩ k) % 9 - 4, [S, some (pot os1), none, A3, A4, A5, A6, A7, some (.fr (iD c k)), A9, none], ?_, by omega, os1, by simp [wipeR]⟩
      simp [-o_call, frS_eq, e1, ix, binK0, binK1, binK4, addLt hE, bfn1, intO_int, md, subLt hE]) (six c) [] [S, some (pot os), none, A3, A4, A5, A6, A7, none, A9, none] six_is (by simp [six]) ⟨os, rfl⟩
  subst q4
  obtain ⟨R, e1, e2⟩ := six_of (c := c) (l := l) (by rw [q2]; rfl) 4 q3
  refine ⟨R, os', e2, ?_⟩
  unfold drM
  rw [o_comp]
  have e3 : (sem V false (.rng1 (.int 6))).i [S, some (pot os), none, A3, A4, A5, A6, A7, none, A9, none] = .ok (six c) [S, some (pot os), none, A3, A4, A5, A6, A7, none, A9, none] := by simp [conLt hE, rng6, six]
  rw [e3]
  have ew : wipeR [S, some (pot os), none, A3, A4, A5, A6, A7, none, A9, none] [8] = [S, some (pot os), none, A3, A4, A5, A6, A7, none, A9, none] := by simp [wipeR]
  rw [List.nil_append, e1] at q1
  show (match compS [8] _ _ _ (six c) [] (wipeR [S, some (pot os), none, A3, A4, A5, A6, A7, none, A9, none] [8]) with
    | .ok acc ρ2 => (.ok (.o (.lst (acc.map .fr))) ρ2 : Out c (Tm c))
    | _ => .bad) = _
  rw [ew, q1]
  rfl
def rP : M := (.iff (.cmp 4 (.var 3) (.int 2)) (.cons (.asg (.tn 7) (.call 12 (.cons (.comp [8] (.tn 8) (.rng1 (.int 6)) .nop (.var 5)) (.cons (.var 6) .nil)) [0, 1])) .nil) (.cons (.iff (.cmp 4 (.var 3) (.int 4)) (.cons (.asg (.tn 7) (drM 2 1 4 3 5 4)) .nil) (.cons (.asg (.tn 7) (.call 11 (.cons (.var 1) (.cons (.int 1) .nil)) [0, 1])) .nil)) .nil))
def sP : M := (.iff (.cmp 4 (.var 3) (.int 1)) (.cons (.asg (.tn 9) (.call 12 (.cons (.comp [10] (.tn 10) (.var 7) .nop (.bin 2 (.var 5) (.var 10))) (.cons (.var 6) .nil)) [0, 1])) .nil) (.cons (.iff (.cmp 3 (.var 3) (.int 3)) (.cons (.asg (.tn 9) (drM 6 7 5 6 4 7)) .nil) (.cons (.asg (.tn 9) (.call 11 (.cons (.var 1) (.cons (.int 2) .nil)) [0, 1])) .nil)) .nil))
def tlP : M := (.cons (.iff (.nt (.call 15 (.cons (.var 7) (.cons (.var 9) (.cons (.var 6) (.cons (.var 5) .nil)))) [0, 1, 2, 3])) (.cons (.ret (.bl false)) .nil) .nil) (.cons (.iff (.nt (.call 15 (.cons (.var 9) (.cons (.var 7) (.cons (.var 6) (.cons (.neg (.var 5)) .nil)))) [0, 1, 2, 3])) (.cons (.ret (.bl false)) .nil) .nil) (.cons (.ret (.and (.call 18 (.cons (.var 7) (.cons (.var 9) .nil)) [0, 1]) (.and (.call 18 (.cons (.var 9) (.cons (.var 7) .nil)) [0, 1]) (.one (.call 18 (.cons (.var 7) (.cons (.var 7) .nil)) [0, 1]))))) .nil)))
theorem tl_ok (hE : Exi c.nm) {V : Ev c} (G : LaV c V) (S P A3 A4 : Option c.O) (n x y : Int) (R R2 : R6) (x7 x9 : c.O) (h7 : OT.d x7 = lD c R) (h9 : OT.d x9 = lD c R2) (hR : R.ok 260) (hR2 : R2.ok 260) (hn : n.natAbs < 2 ^ 130) (hx : x.natAbs < 2 ^ 130) (hy : y.natAbs < 2 ^ 130) :
    SO.res ((sem V false tlP).s [S, P, none, A3, A4, some (.fr (iD c n)), some (.fr (.tup [iD c x, iD c y])), some x7, none, some x9, none]) = some (.fr (.bl true)) := by
  obtain ⟨i12, i15, i18⟩ := G.io
  obtain ⟨d12, d15, d18⟩ := G.df
  have q : 260 ≤ 300 := by decide
  have c1 := G.mf R R2 x y n hR hR2 hx hy hn
  have c2 := G.mf R2 R x y (-n) hR2 hR hx hy (by rw [Int.natAbs_neg]; exact hn)
  have c3 := G.pf R R2 (R6.ok_le hR q) (R6.ok_le hR2 q)
  have c4 := G.pf R2 R (R6.ok_le hR2 q) (R6.ok_le hR q)
  have c5 := G.pf R R (R6.ok_le hR q) (R6.ok_le hR q)
  simp [tlP, i15, i18, d15, d18, cp, datas, permute, h7, h9, c1, c2, c3, c4, c5, at_bl, negLt hE, truD, boolO, SO.res]
theorem r_ok (hE : Exi c.nm) {V : Ev c} (G : LaV c V) (S A4 A9 : Option c.O) (os : List c.nm.T) (pk n x y : Int) (hn : n.natAbs < 2 ^ 130) (hx : x.natAbs < 2 ^ 130) (hy : y.natAbs < 2 ^ 130) :
    ∃ (R : R6) (x7 : c.O) (os' : List c.nm.T), OT.d x7 = lD c R ∧ R.ok 260 ∧ (pk = 1 → R.ok 100) ∧ (sem V false rP).s [S, some (pot os), none, some (.fr (iD c pk)), A4, some (.fr (iD c n)), some (.fr (.tup [iD c x, iD c y])), none, none, A9, none] = .nx [S, some (pot os'), none, some (.fr (iD c pk)), A4, some (.fr (iD c n)), some (.fr (.tup [iD c x, iD c y])), some x7, none, A9, none] := by
  obtain ⟨i12, i15, i18⟩ := G.io
  obtain ⟨d12, d15, d18⟩ := G.df
  have q3 : 130 ≤ 300 := by decide
  by_cases h2 : pk = 2
  · have hev : (even n).ok 250 := by
      have q : 130 ≤ 250 := by decide
      exact ⟨nb_le hn q, nb_le hn q, nb_le hn q, nb_le hn q, nb_le hn q, nb_le hn q⟩
    have c1 := G.mv (even n) x y (R6.ok_le hev (by decide)) (nb_le hx q3) (nb_le hy q3)
    refine ⟨(even n).mv x y, _, os, lO_d _, R6.mv_ok2 hev hx hy, fun z => by omega, ?_⟩
    have ev6 : (.lst [iD c n, iD c n, iD c n, iD c n, iD c n, iD c n] : c.D) = lD c (even n) := rfl
    simp [rP, cmpK4, eqLt hE, h2, i12, d12, conLt hE, rng6, wipeR, compS, frS_eq, cp, datas, permute, ev6, c1, at_lO, fzAll, fzR]
  · by_cases h4 : pk = 4
    · obtain ⟨R, os', hR, e1⟩ := dr_comp hE G.dr 2 1 4 3 5 4 S (some (.fr (iD c pk))) A4 (some (.fr (iD c n))) (some (.fr (.tup [iD c x, iD c y]))) none A9 os
      have hR1 := R6.within_ok hR (by decide)
      refine ⟨R, _, os', lO_d R, R6.ok_le hR1 (by decide), fun z => by omega, ?_⟩
      rw [h4] at e1
      simp [rP, cmpK4, eqLt hE, h4, e1]
    · obtain ⟨R, x7, os', h7, hR, e1⟩ := G.ck os 1
      have hR1 := R6.within_ok hR (by decide)
      have i11 := G.i11
      refine ⟨R, x7, os', h7, R6.ok_le hR1 (by decide), fun _ => hR1, ?_⟩
      simp [rP, cmpK4, eqLt hE, h2, h4, i11, ci, datas, e1, okIo]
theorem s_ok (hE : Exi c.nm) {V : Ev c} (G : LaV c V) (S A4 : Option c.O) (os : List c.nm.T) (pk n x y : Int) (R : R6) (x7 : c.O) (h7 : OT.d x7 = lD c R) (hR : R.ok 260) (hR1 : pk = 1 → R.ok 100) (hn : n.natAbs < 2 ^ 130) (hx : x.natAbs < 2 ^ 130) (hy : y.natAbs < 2 ^ 130) :
    ∃ (R2 : R6) (y7 x9 : c.O) (os' : List c.nm.T), OT.d y7 = lD c R ∧ OT.d x9 = lD c R2 ∧ R2.ok 260 ∧ (sem V false sP).s [S, some (pot os), none, some (.fr (iD c pk)), A4, some (.fr (iD c n)), some (.fr (.tup [iD c x, iD c y])), some x7, none, none, none] = .nx [S, some (pot os'), none, some (.fr (iD c pk)), A4, some (.fr (iD c n)), some (.fr (.tup [iD c x, iD c y])), some y7, none, some x9, none] := by
  obtain ⟨i12, i15, i18⟩ := G.io
  obtain ⟨d12, d15, d18⟩ := G.df
  have q3 : 130 ≤ 300 := by decide
  by_cases h1 : pk = 1
  · have h100 := hR1 h1
    have hsc := R6.sc_ok h100 hn
    have c1 := G.mv (R6.sc n R) x y (R6.ok_le hsc (by decide)) (nb_le hx q3) (nb_le hy q3)
    refine ⟨(R6.sc n R).mv x y, .fr (lD c R), _, os, rfl, lO_d _, R6.mv_ok2 hsc hx hy, ?_⟩
    have mm : ∀ u : Int, u.natAbs < 2 ^ 100 → mulO (c := c) (.fr (iD c n)) (.fr (iD c u)) = some (.fr (iD c (n * u))) := fun u hu => mulLt hE n u (wide_mul hn hu (by decide) (by decide) (by decide))
    obtain ⟨u1, u2, u3, u4, u5, u6⟩ := h100
    have w1 := mm _ u1
    have w2 := mm _ u2
    have w3 := mm _ u3
    have w4 := mm _ u4
    have w5 := mm _ u5
    have w6 := mm _ u6
    have sq : seqD (lD c R) = some [iD c R.a, iD c R.b, iD c R.c, iD c R.d, iD c R.e, iD c R.f] := rfl
    have ev6 : (.lst [iD c (n * R.a), iD c (n * R.b), iD c (n * R.c), iD c (n * R.d), iD c (n * R.e), iD c (n * R.f)] : c.D) = lD c (R6.sc n R) := rfl
    simp [sP, cmpK4, eqLt hE, h1, i12, d12, i_var, h7, sq, wipeR, compS, frS_eq, binK2, w1, w2, w3, w4, w5, w6, cp, datas, permute, ev6, c1, at_lO, fzAll, fzR]
  · by_cases h3 : 3 ≤ pk
    · obtain ⟨R2, os', hR2, e1⟩ := dr_comp hE G.dr 6 7 5 6 4 7 S (some (.fr (iD c pk))) A4 (some (.fr (iD c n))) (some (.fr (.tup [iD c x, iD c y]))) (some x7) none os
      have hR3 := R6.within_ok hR2 (by decide)
      refine ⟨R2, x7, _, os', h7, lO_d R2, R6.ok_le hR3 (by decide), ?_⟩
      have n3 : ¬ pk < 3 := by omega
      simp [sP, cmpK3, cmpK4, eqLt hE, geLt hE, h1, n3, e1]
    · obtain ⟨R2, x9, os', h9, hR2, e1⟩ := G.ck os 2
      have hR3 := R6.within_ok hR2 (by decide)
      have i11 := G.i11
      have n3 : pk < 3 := by omega
      refine ⟨R2, x7, x9, os', h7, h9, R6.ok_le hR3 (by decide), ?_⟩
      simp [sP, cmpK3, cmpK4, eqLt hE, geLt hE, h1, n3, i11, ci, datas, e1, okIo]
end
end Z

set_option Elab.async false
set_option linter.all false
set_option maxRecDepth 100000
set_option maxHeartbeats 4000000
namespace Z
open PySem PySem.Spec PyProof.Rows L2 Y
section
variable {c : Cf}
theorem law_ok (hE : Exi c.nm) {V : Ev c} (G : LaV c V) (ns : List c.nm.T) (hl : ns.length ≤ 63) : SO.res ((sem V false B_law).s (some (.fr (.scr (ns.map fun i => .int i))) :: List.replicate 10 none)) = some (.fr (.bl true)) := by
  obtain ⟨os0, e0⟩ := potM_ok (V := V) hE.toExact ns (by omega) (List.replicate 8 none)
  have e30 : (10 : Int) ^ 30 < 2 ^ 120 := by decide +kernel
  obtain ⟨S, hS⟩ : ∃ S : Option c.O, S = some (.fr (.scr (ns.map fun i => .int i))) := ⟨_, rfl⟩
  rw [← hS] at e0 ⊢
  obtain ⟨r1, os1, a1, a2, e1⟩ := drawL (V := V) (p := false) (i := 1) (ρ := [S, some (pot os0), none, none, none, none, none, none, none, none, none]) 5 G.dr (by decide) (by decide +kernel) rfl
  rw [hE.lit r1] at e1
  generalize c.nm.val r1 = pk at *
  obtain ⟨r2, os2, b1, b2, e2⟩ := drawL (V := V) (p := false) (i := 1) (ρ := [S, some (pot os1), none, some (.fr (iD c pk)), none, none, none, none, none, none, none]) 2 G.dr (by decide) (by decide +kernel) rfl
  rw [hE.lit r2] at e2
  generalize c.nm.val r2 = md at *
  obtain ⟨M, hM, hM2, eM⟩ : ∃ M : Int, 0 < M ∧ M ≤ 10 ^ 30 ∧ (sem V false (.idx (.lst (.cons (.int 3) (.cons (.bin 5 (.int 10) (.int 30)) .nil))) (.var 4))).o [S, some (pot os2), none, some (.fr (iD c pk)), some (.fr (iD c md)), none, none, none, none, none, none] = .ok (.o (.fr (.int (c.nm.lit M)))) [S, some (pot os2), none, some (.fr (iD c pk)), some (.fr (iD c md)), none, none, none, none, none, none] := by
    obtain ⟨Z, hZ⟩ : ∃ Z : Int, Z = 10 ^ 30 := ⟨_, rfl⟩
    have pw : powO (c := c) (.fr (.int (c.nm.lit 10))) (.fr (.int (c.nm.lit 30))) = some (.fr (.int (c.nm.lit Z))) := by rw [hZ]; exact pow_lit hE.toExact 10 30 ⟨by decide, by decide, by decide, by decide⟩
    have ix : ∀ k : Int, idxO (c := c) (.lst [.fr (iD c 3), .fr (iD c Z)]) (.fr (iD c k)) = (match atI ([.fr (iD c 3), .fr (iD c Z)] : List c.O) k with
      | some (OT.fr d) => some (OT.fr d : c.O)
      | _ => none) := fun k => by
      show (match c.nm.con (c.nm.lit k) with
        | some i => (match atI ([.fr (iD c 3), .fr (iD c Z)] : List c.O) i with
          | some (OT.fr d) => some (OT.fr d : c.O)
          | _ => none)
        | none => none) = _
      rw [lcon hE]
    have : md = 0 ∨ md = 1 := by omega
    rcases this with rfl | rfl
    · have ix0 : idxO (c := c) (.lst [.fr (iD c 3), .fr (iD c Z)]) (.fr (iD c 0)) = some (.fr (iD c 3)) := (ix 0).trans rfl
      exact ⟨3, by decide, by decide +kernel, by simp [binK5, pw, ix0]⟩
    · have ix1 : idxO (c := c) (.lst [.fr (iD c 3), .fr (iD c Z)]) (.fr (iD c 1)) = some (.fr (iD c Z)) := (ix 1).trans rfl
      exact ⟨Z, by rw [hZ]; decide +kernel, by rw [hZ]; decide +kernel, by simp [binK5, pw, ix1]⟩
  obtain ⟨r3, os3, d1, d2, e3⟩ := drawE (V := V) (p := false) (i := 1) (m := c.nm.lit M) (ρ := [S, some (pot os2), none, some (.fr (iD c pk)), some (.fr (iD c md)), none, none, none, none, none, none]) G.dr (by rw [c.nm.lit_ok]; exact hM) (by
    rw [c.nm.lit_ok]
    have : M.natAbs < 2 ^ 120 := by
      have e : (10 : Int) ^ 30 < 2 ^ 120 := e30
      generalize (10 : Int) ^ 30 = A at *
      have e2 : ((2 : Nat) ^ 120 : Nat) = ((2 : Int) ^ 120).natAbs := by decide +kernel
      rw [e2]
      generalize (2 : Int) ^ 120 = B at *
      omega
    exact Nat.lt_trans (PySem.Flt.log2_lt_of (by decide) this) (by decide)) rfl eM
  rw [c.nm.lit_ok] at d2
  rw [hE.lit r3] at e3
  generalize c.nm.val r3 = dn at *
  obtain ⟨n, hn⟩ : ∃ n, n = 1 + dn := ⟨_, rfl⟩
  have hnb : n.natAbs < 2 ^ 130 := by
    have e : (10 : Int) ^ 30 < 2 ^ 120 := e30
    have e2 : ((2 : Nat) ^ 130 : Nat) = ((2 : Int) ^ 130).natAbs := by decide +kernel
    have e3 : (2 : Int) ^ 120 < 2 ^ 130 := by decide +kernel
    rw [e2]
    generalize (10 : Int) ^ 30 = A at *
    generalize (2 : Int) ^ 120 = B at *
    generalize (2 : Int) ^ 130 = C at *
    omega
  obtain ⟨x, os4, x1, e4⟩ := G.nu os3 md 1
  obtain ⟨y, os5, y1, e5⟩ := G.nu os4 md 6
  have xb : ∀ z : Int, z.natAbs ≤ 10 ^ 39 → z.natAbs < 2 ^ 130 := fun z hz => Nat.lt_of_le_of_lt hz (by decide +kernel)
  have xb1 := xb x x1
  have yb1 := xb y y1
  obtain ⟨R, x7, os6, h7, hR, hR1, e6⟩ := r_ok hE G S (some (.fr (iD c md))) none os5 pk n x y hnb xb1 yb1
  obtain ⟨R2, y7, x9, os7, k7, h9, hR2, e7⟩ := s_ok hE G S (some (.fr (iD c md))) os6 pk n x y R x7 h7 hR hR1 hnb xb1 yb1
  have i5 := G.i5
  have eB : B_law = .cons potM (.cons (.asg (.tn 3) (.call 4 (.cons (.var 1) (.cons (.int 5) .nil)) [0, 1])) (.cons (.asg (.tn 4) (.call 4 (.cons (.var 1) (.cons (.int 2) .nil)) [0, 1])) (.cons (.asg (.tn 5) (.bin 0 (.int 1) (.call 4 (.cons (.var 1) (.cons (.idx (.lst (.cons (.int 3) (.cons (.bin 5 (.int 10) (.int 30)) .nil))) (.var 4)) .nil)) [0, 1]))) (.cons (.asg (.tn 6) (.tup (.cons (.call 5 (.cons (.var 1) (.cons (.var 4) (.cons (.int 1) .nil))) [0, 1, 2]) (.cons (.call 5 (.cons (.var 1) (.cons (.var 4) (.cons (.int 6) .nil))) [0, 1, 2]) .nil)))) (.cons rP (.cons sP tlP)))))) := rfl
  rw [eB]
  refine stpE _ (Z := fun z => SO.res z = _) e0 ?_
  refine stpE [S, some (pot os1), none, some (.fr (iD c pk)), none, none, none, none, none, none, none] (Z := fun z => SO.res z = _) (by
    show (sem V false _).s [S, some (pot os0), none, none, none, none, none, none, none, none, none] = _
    simp [-o_call, e1]) ?_
  refine stpE [S, some (pot os2), none, some (.fr (iD c pk)), some (.fr (iD c md)), none, none, none, none, none, none] (Z := fun z => SO.res z = _) (by simp [-o_call, e2]) ?_
  refine stpE [S, some (pot os3), none, some (.fr (iD c pk)), some (.fr (iD c md)), some (.fr (iD c n)), none, none, none, none, none] (Z := fun z => SO.res z = _) (by
    rw [hn]
    simp [-o_call, e3, binK0, addLt hE]) ?_
  refine stpE [S, some (pot os5), none, some (.fr (iD c pk)), some (.fr (iD c md)), some (.fr (iD c n)), some (.fr (.tup [iD c x, iD c y])), none, none, none, none] (Z := fun z => SO.res z = _) (by simp [i5, ci, datas, e4, e5, okIo]) ?_
  refine stpE _ (Z := fun z => SO.res z = _) e6 ?_
  refine stpE _ (Z := fun z => SO.res z = _) e7 ?_
  exact tl_ok hE G S _ _ _ n x y R R2 y7 x9 k7 h9 hR hR2 hnb xb1 yb1
end
end Z

set_option Elab.async false
set_option linter.all false
set_option maxRecDepth 100000
set_option maxHeartbeats 4000000
namespace Z
open PySem PySem.Spec PyProof.Rows L2 Y
section
variable (c : Cf)
def dec6 : List c.D → Option R6
  | [.int a, .int b, .int d, .int e, .int f, .int g] => some ⟨c.nm.val a, c.nm.val b, c.nm.val d, c.nm.val e, c.nm.val f, c.nm.val g⟩
  | _ => none
def decP : c.D → Option R6
  | .obj 0 [.tup l] => dec6 c l
  | _ => none
def decL : c.D → Option R6
  | .lst l => dec6 c l
  | _ => none
def decT : c.D → Option (Int × Int)
  | .tup [.int a, .int b] => some (c.nm.val a, c.nm.val b)
  | _ => none
def decI : c.D → Option Int
  | .int a => some (c.nm.val a)
  | _ => none
def cf1 (dc : c.D → Option R6) (f : R6 → FO c) : Option c.O → List c.D → FO c
  | none, [a] => (match dc a with
    | some r => if r.ok 300 then f r else .bad
    | none => .bad)
  | _, _ => .bad
def cf2 (dc : c.D → Option R6) (f : R6 → R6 → FO c) : Option c.O → List c.D → FO c
  | none, [a, b] => (match dc a, dc b with
    | some r, some s => if r.ok 300 ∧ s.ok 300 then f r s else .bad
    | _, _ => .bad)
  | _, _ => .bad
def cfM (f : R6 → Int → Int → FO c) : Option c.O → List c.D → FO c
  | none, [a, b] => (match decL c a, decT c b with
    | some r, some (x, y) => if r.ok 300 ∧ x.natAbs < 2 ^ 300 ∧ y.natAbs < 2 ^ 300 then f r x y else .bad
    | _, _ => .bad)
  | _, _ => .bad
def cfI (f : Int → FO c) : Option c.O → List c.D → FO c
  | none, [a] => (match decI c a with
    | some x => if x.natAbs < 2 ^ 300 then f x else .bad
    | none => .bad)
  | _, _ => .bad
end
section
variable {c : Cf}
theorem dec6_L (r : R6) : dec6 c (r.L (iD c)) = some r := by
  show some (⟨c.nm.val _, c.nm.val _, c.nm.val _, c.nm.val _, c.nm.val _, c.nm.val _⟩ : R6) = _
  simp only [c.nm.lit_ok]
theorem decP_p (r : R6) : decP c (pD c r) = some r := dec6_L r
theorem decL_l (r : R6) : decL c (lD c r) = some r := dec6_L r
theorem cf1P (f : R6 → FO c) (r : R6) (h : r.ok 300) : cf1 c (decP c) f none [pD c r] = f r := by
  show (match decP c (pD c r) with
    | some r => if r.ok 300 then f r else .bad
    | none => .bad) = _
  rw [decP_p]; exact if_pos h
theorem cf1L (f : R6 → FO c) (r : R6) (h : r.ok 300) : cf1 c (decL c) f none [lD c r] = f r := by
  show (match decL c (lD c r) with
    | some r => if r.ok 300 then f r else .bad
    | none => .bad) = _
  rw [decL_l]; exact if_pos h
theorem cf2P (f : R6 → R6 → FO c) (r s : R6) (h : r.ok 300) (h2 : s.ok 300) : cf2 c (decP c) f none [pD c r, pD c s] = f r s := by
  show (match decP c (pD c r), decP c (pD c s) with
    | some r, some s => if r.ok 300 ∧ s.ok 300 then f r s else .bad
    | _, _ => .bad) = _
  rw [decP_p, decP_p]; exact if_pos ⟨h, h2⟩
theorem cf2L (f : R6 → R6 → FO c) (r s : R6) (h : r.ok 300) (h2 : s.ok 300) : cf2 c (decL c) f none [lD c r, lD c s] = f r s := by
  show (match decL c (lD c r), decL c (lD c s) with
    | some r, some s => if r.ok 300 ∧ s.ok 300 then f r s else .bad
    | _, _ => .bad) = _
  rw [decL_l, decL_l]; exact if_pos ⟨h, h2⟩
theorem cfM_ok (f : R6 → Int → Int → FO c) (r : R6) (x y : Int) (h : r.ok 300) (hx : x.natAbs < 2 ^ 300) (hy : y.natAbs < 2 ^ 300) : cfM c f none [lD c r, .tup [iD c x, iD c y]] = f r x y := by
  show (match decL c (lD c r), some (c.nm.val (c.nm.lit x), c.nm.val (c.nm.lit y)) with
    | some r, some (x, y) => if r.ok 300 ∧ x.natAbs < 2 ^ 300 ∧ y.natAbs < 2 ^ 300 then f r x y else .bad
    | _, _ => .bad) = _
  rw [decL_l, c.nm.lit_ok, c.nm.lit_ok]; exact if_pos ⟨h, hx, hy⟩
theorem cfI_ok (f : Int → FO c) (x : Int) (hx : x.natAbs < 2 ^ 300) : cfI c f none [iD c x] = f x := by
  show (if (c.nm.val (c.nm.lit x)).natAbs < 2 ^ 300 then f (c.nm.val (c.nm.lit x)) else .bad) = _
  rw [c.nm.lit_ok]; exact if_pos hx
theorem cf1_sh (dc : c.D → Option R6) (f : R6 → FO c) (ds : List c.D) : cf1 c dc f none ds = .bad ∨ ∃ a r, ds = [a] ∧ dc a = some r ∧ r.ok 300 ∧ cf1 c dc f none ds = f r := by
  match ds with
  | [] => exact .inl rfl
  | [a] =>
    have ed : cf1 c dc f none [a] = (match dc a with
      | some r => if r.ok 300 then f r else .bad
      | none => .bad) := rfl
    cases e : dc a with
    | none => exact .inl (by rw [ed, e])
    | some r =>
      by_cases hr : r.ok 300
      · exact .inr ⟨a, r, rfl, e, hr, by rw [ed, e]; exact if_pos hr⟩
      · exact .inl (by rw [ed, e]; exact if_neg hr)
  | _ :: _ :: _ => exact .inl rfl
theorem cf2_sh (dc : c.D → Option R6) (f : R6 → R6 → FO c) (ds : List c.D) : cf2 c dc f none ds = .bad ∨ ∃ a b r s, ds = [a, b] ∧ dc a = some r ∧ dc b = some s ∧ r.ok 300 ∧ s.ok 300 ∧ cf2 c dc f none ds = f r s := by
  match ds with
  | [] => exact .inl rfl
  | [_] => exact .inl rfl
  | [a, b] =>
    have ed : cf2 c dc f none [a, b] = (match dc a, dc b with
      | some r, some s => if r.ok 300 ∧ s.ok 300 then f r s else .bad
      | _, _ => .bad) := rfl
    cases e : dc a with
    | none => exact .inl (by rw [ed, e])
    | some r =>
      cases e2 : dc b with
      | none => exact .inl (by rw [ed, e, e2])
      | some s =>
        by_cases hr : r.ok 300 ∧ s.ok 300
        · exact .inr ⟨a, b, r, s, rfl, e, e2, hr.1, hr.2, by rw [ed, e, e2]; exact if_pos hr⟩
        · exact .inl (by rw [ed, e, e2]; exact if_neg hr)
  | _ :: _ :: _ :: _ => exact .inl rfl
theorem cfM_sh (f : R6 → Int → Int → FO c) (ds : List c.D) : cfM c f none ds = .bad ∨ ∃ a b r p, ds = [a, b] ∧ decL c a = some r ∧ decT c b = some p ∧ r.ok 300 ∧ p.1.natAbs < 2 ^ 300 ∧ p.2.natAbs < 2 ^ 300 ∧ cfM c f none ds = f r p.1 p.2 := by
  match ds with
  | [] => exact .inl rfl
  | [_] => exact .inl rfl
  | [a, b] =>
    have ed : cfM c f none [a, b] = (match decL c a, decT c b with
      | some r, some (x, y) => if r.ok 300 ∧ x.natAbs < 2 ^ 300 ∧ y.natAbs < 2 ^ 300 then f r x y else .bad
      | _, _ => .bad) := rfl
    cases e : decL c a with
    | none => exact .inl (by rw [ed, e])
    | some r =>
      cases e2 : decT c b with
      | none => exact .inl (by rw [ed, e, e2])
      | some p =>
        by_cases hr : r.ok 300 ∧ p.1.natAbs < 2 ^ 300 ∧ p.2.natAbs < 2 ^ 300
        · exact .inr ⟨a, b, r, p, rfl, e, e2, hr.1, hr.2.1, hr.2.2, by rw [ed, e, e2]; exact if_pos hr⟩
        · exact .inl (by rw [ed, e, e2]; exact if_neg hr)
  | _ :: _ :: _ :: _ => exact .inl rfl
theorem cfI_sh (f : Int → FO c) (ds : List c.D) : cfI c f none ds = .bad ∨ ∃ a x, ds = [a] ∧ decI c a = some x ∧ x.natAbs < 2 ^ 300 ∧ cfI c f none ds = f x := by
  match ds with
  | [] => exact .inl rfl
  | [a] =>
    have ed : cfI c f none [a] = (match decI c a with
      | some x => if x.natAbs < 2 ^ 300 then f x else .bad
      | none => .bad) := rfl
    cases e : decI c a with
    | none => exact .inl (by rw [ed, e])
    | some r =>
      by_cases hr : r.natAbs < 2 ^ 300
      · exact .inr ⟨a, r, rfl, e, hr, by rw [ed, e]; exact if_pos hr⟩
      · exact .inl (by rw [ed, e]; exact if_neg hr)
  | _ :: _ :: _ => exact .inl rfl
end
section
variable {P : Program} {w : World} {K : PySem.W.Frag} {mg : Str → Option Value} {tb : List (Addr × Str)} {base : Heap}
theorem dec6_inv {l : List (cI P w K mg tb).D} {r : R6} (h : dec6 (cI P w K mg tb) l = some r) : l = r.L dI := by
  unfold dec6 at h
  split at h
  · cases h; rfl
  · cases h
theorem decP_inv {a : (cI P w K mg tb).D} {r : R6} (h : decP (cI P w K mg tb) a = some r) : a = .obj 0 [.tup (r.L dI)] := by
  unfold decP at h
  split at h
  · exact congrArg (fun l => (D.obj 0 [D.tup l] : D Int)) (dec6_inv h)
  · cases h
theorem decL_inv {a : (cI P w K mg tb).D} {r : R6} (h : decL (cI P w K mg tb) a = some r) : a = .lst (r.L dI) := by
  unfold decL at h
  split at h
  · exact congrArg (fun l => (D.lst l : D Int)) (dec6_inv h)
  · cases h
theorem decT_inv {a : (cI P w K mg tb).D} {p : Int × Int} (h : decT (cI P w K mg tb) a = some p) : a = .tup [dI p.1, dI p.2] := by
  unfold decT at h
  split at h
  · cases h; rfl
  · cases h
theorem decI_inv {a : (cI P w K mg tb).D} {x : Int} (h : decI (cI P w K mg tb) a = some x) : a = dI x := by
  unfold decI at h
  split at h
  · cases h; rfl
  · cases h
theorem lv4 : T.lv = 4 := by decide +kernel
theorem two_eq {α : Type} {a a' b b' : α} (h : a = a') (h2 : b = b') : [a, b] = [a', b'] := by rw [h, h2]
theorem g_cf1 (hl : LamOk T K mg base tb) (hk : KOk T P w K mg) (n k : Nat) (hio : ∀ d, T.ds[k]? = some d → d.io = false) (dc : (cI P w K mg tb).D → Option R6) (mB : ∀ r : R6, r.ok 300 → D BNT) (hd : ∀ a r (h : r.ok 300), dc a = some r → a = D.map vB (mB r h)) (f : R6 → FO (cI P w K mg tb)) (h : ∀ (r : R6) (h : r.ok 300), evB P w K mg tb n k [mB r h] = f r) :
    Good T (mkC T IntN P w K mg tb) base (2 + n * 4) k (cf1 (cI P w K mg tb) dc f) := by
  have := good_bn (tb := tb) (base := base) ckT hl hk (f := k) (F' := cf1 (cI P w K mg tb) dc f) n hio fun ds => by
    rcases cf1_sh (c := cI P w K mg tb) dc f ds with z | ⟨a, r, e1, e2, hr, e3⟩
    · exact .inl z
    · exact .inr ⟨[mB r hr], e1.trans (congrArg (fun x => [x]) (hd a r hr e2)), e3.trans (h r hr).symm⟩
  rwa [lv4] at this
theorem g_cf2 (hl : LamOk T K mg base tb) (hk : KOk T P w K mg) (n k : Nat) (hio : ∀ d, T.ds[k]? = some d → d.io = false) (dc : (cI P w K mg tb).D → Option R6) (mB : ∀ r : R6, r.ok 300 → D BNT) (hd : ∀ a r (h : r.ok 300), dc a = some r → a = D.map vB (mB r h)) (f : R6 → R6 → FO (cI P w K mg tb)) (h : ∀ (r s : R6) (h : r.ok 300) (h2 : s.ok 300), evB P w K mg tb n k [mB r h, mB s h2] = f r s) :
    Good T (mkC T IntN P w K mg tb) base (2 + n * 4) k (cf2 (cI P w K mg tb) dc f) := by
  have := good_bn (tb := tb) (base := base) ckT hl hk (f := k) (F' := cf2 (cI P w K mg tb) dc f) n hio fun ds => by
    rcases cf2_sh (c := cI P w K mg tb) dc f ds with z | ⟨a, b, r, s, e1, e2, e3, hr, hs, e4⟩
    · exact .inl z
    · refine .inr ⟨[mB r hr, mB s hs], e1.trans ?_, e4.trans (h r s hr hs).symm⟩
      exact two_eq (hd a r hr e2) (hd b s hs e3)
  rwa [lv4] at this
theorem g_cfM (hl : LamOk T K mg base tb) (hk : KOk T P w K mg) (f : R6 → Int → Int → FO (cI P w K mg tb)) (h : ∀ (r : R6) (x y : Int) (h : r.ok 300) (hx : x.natAbs < 2 ^ 300) (hy : y.natAbs < 2 ^ 300), evB P w K mg tb 2 12 [lB r h, .tup [.int (bn x 300 hx), .int (bn y 300 hy)]] = f r x y) :
    Good T (mkC T IntN P w K mg tb) base (2 + 2 * 4) 12 (cfM (cI P w K mg tb) f) := by
  have := good_bn (tb := tb) (base := base) ckT hl hk (f := 12) (F' := cfM (cI P w K mg tb) f) 2 (fun d hd => by cases hd; rfl) fun ds => by
    rcases cfM_sh (c := cI P w K mg tb) f ds with z | ⟨a, b, r, p, e1, e2, e3, hr, hx, hy, e4⟩
    · exact .inl z
    · refine .inr ⟨[lB r hr, .tup [.int (bn p.1 300 hx), .int (bn p.2 300 hy)]], e1.trans ?_, e4.trans (h r p.1 p.2 hr hx hy).symm⟩
      exact two_eq (decL_inv e2) (decT_inv e3)
  rwa [lv4] at this
theorem g_cfI (hl : LamOk T K mg base tb) (hk : KOk T P w K mg) (f : Int → FO (cI P w K mg tb)) (h : ∀ (x : Int) (hx : x.natAbs < 2 ^ 300), evB P w K mg tb 2 20 [.int (bn x 300 hx)] = f x) :
    Good T (mkC T IntN P w K mg tb) base (2 + 2 * 4) 20 (cfI (cI P w K mg tb) f) := by
  have := good_bn (tb := tb) (base := base) ckT hl hk (f := 20) (F' := cfI (cI P w K mg tb) f) 2 (fun d hd => by cases hd; rfl) fun ds => by
    rcases cfI_sh (c := cI P w K mg tb) f ds with z | ⟨a, x, e1, e2, hx, e4⟩
    · exact .inl z
    · exact .inr ⟨[.int (bn x 300 hx)], e1.trans (congrArg (fun x => ([x] : List (D Int))) (decI_inv e2)), e4.trans (h x hx).symm⟩
  rwa [lv4] at this
end
end Z

set_option Elab.async false
set_option linter.all false
set_option maxRecDepth 100000
set_option maxHeartbeats 4000000
namespace Z
open PySem PySem.Spec PyProof.Rows L2 Y
def callA (c : Cf) (f : Nat) : Option c.O → List c.D → FO c :=
  if f = 1 then cf2 c (decP c) (fun r s => .ok (.fr (iD c (r.mix s))) none) else
  if f = 12 then cfM c (fun r x y => .ok (lO c (r.mv x y)) none) else
  if f = 13 then cf2 c (decL c) (fun r s => .ok (.fr (iD c (r.mix s))) none) else
  if f = 9 then cf1 c (decL c) (fun r => .ok (lO c r.sd) none) else
  if f = 20 then cfI c (fun n => .ok (pO c (even n)) none) else
  if f = 24 then cf1 c (decP c) (fun r => .ok (.fr (iD c r.rim)) none) else
  if f = 23 then cf1 c (decP c) (fun r => .ok (.fr (iD c (r.mix r))) none) else
  if f = 22 then cf1 c (decP c) (fun r => .ok (.fr (tD c r.sd)) none) else evF T c 6 f
def callB (c : Cf) (f : Nat) : Option c.O → List c.D → FO c := if f = 0 then evD T c (callA c) d_check_drawn else callA c f
def callC (c : Cf) (f : Nat) : Option c.O → List c.D → FO c := if f = 2 then evD T c (callB c) d_spare else if f = 3 then evD T c (callB c) d_same_ratio else if f = 14 then evD T c (callA c) d__law_ratio else callB c f
def callD (c : Cf) (f : Nat) : Option c.O → List c.D → FO c := if f = 15 then evD T c (callA c) d__law_mixed_fits else if f = 16 then evD T c (callC c) d__law_drawn_fits else if f = 17 then evD T c (callC c) d__law_refused else callC c f
def callL (c : Cf) (f : Nat) : Option c.O → List c.D → FO c := if f = 18 then evD T c (callD c) d__law_pair_fits else if f = 11 then evD T c (callA c) d__law_cooked else callD c f
section
variable {P : Program} {w : World} {K : PySem.W.Frag} {mg : Str → Option Value} {tb : List (Addr × Str)} {base : Heap}
theorem evG (hl : LamOk T K mg base tb) (hk : KOk T P w K mg) {nm : Num} (n f : Nat) : Good T (mkC T nm P w K mg tb) base (2 + n * 4) f (evF T (mkC T nm P w K mg tb) n f) := by
  have := good_ev (nm := nm) (tb := tb) ckT hl hk n f
  rwa [lv4] at this
theorem dP (a : (cI P w K mg tb).D) (r : R6) (h : r.ok 300) (e : decP (cI P w K mg tb) a = some r) : a = D.map vB (pB r h) := decP_inv e
theorem dL (a : (cI P w K mg tb).D) (r : R6) (h : r.ok 300) (e : decL (cI P w K mg tb) a = some r) : a = D.map vB (lB r h) := decL_inv e
theorem callA_good (hl : LamOk T K mg base tb) (hk : KOk T P w K mg) (f : Nat) : Good T (mkC T IntN P w K mg tb) base 26 f (callA (mkC T IntN P w K mg tb) f) := by
  unfold callA
  by_cases h : f = 1
  · rw [if_pos h, h]; exact (g_cf2 hl hk 2 1 (fun d hd => by cases hd; rfl) _ pB dP _ fun r s h h2 => b_mix P w K mg tb r s h h2).mono (by decide)
  rw [if_neg h]
  by_cases h : f = 12
  · rw [if_pos h, h]; exact (g_cfM hl hk _ fun r x y h hx hy => b_mv P w K mg tb r x y h hx hy).mono (by decide)
  rw [if_neg h]
  by_cases h : f = 13
  · rw [if_pos h, h]; exact (g_cf2 hl hk 2 13 (fun d hd => by cases hd; rfl) _ lB dL _ fun r s h h2 => b_lmix P w K mg tb r s h h2).mono (by decide)
  rw [if_neg h]
  by_cases h : f = 9
  · rw [if_pos h, h]; exact (g_cf1 hl hk 1 9 (fun d hd => by cases hd; rfl) _ lB dL _ fun r h => b_lsd P w K mg tb r h).mono (by decide)
  rw [if_neg h]
  by_cases h : f = 20
  · rw [if_pos h, h]; exact (g_cfI hl hk _ fun x hx => b_even P w K mg tb x hx).mono (by decide)
  rw [if_neg h]
  by_cases h : f = 24
  · rw [if_pos h, h]; exact (g_cf1 hl hk 2 24 (fun d hd => by cases hd; rfl) _ pB dP _ fun r h => b_rim P w K mg tb r h).mono (by decide)
  rw [if_neg h]
  by_cases h : f = 23
  · rw [if_pos h, h]; exact (g_cf1 hl hk 2 23 (fun d hd => by cases hd; rfl) _ pB dP _ fun r h => b_area P w K mg tb r h).mono (by decide)
  rw [if_neg h]
  by_cases h : f = 22
  · rw [if_pos h, h]; exact (g_cf1 hl hk 1 22 (fun d hd => by cases hd; rfl) _ pB dP _ fun r h => b_sides P w K mg tb r h).mono (by decide)
  rw [if_neg h]
  exact (evG hl hk 6 f).mono (by decide)
theorem callB_good (hl : LamOk T K mg base tb) (hk : KOk T P w K mg) (f : Nat) : Good T (mkC T IntN P w K mg tb) base 30 f (callB (mkC T IntN P w K mg tb) f) := by
  unfold callB
  by_cases h : f = 0
  · rw [if_pos h, h]; exact (good_def (f := 0) (d := d_check_drawn) ckT hl hk (by decide) (fun f => callA_good hl hk f) rfl).mono (by decide)
  rw [if_neg h]; exact (callA_good hl hk f).mono (by decide)
theorem callC_good (hl : LamOk T K mg base tb) (hk : KOk T P w K mg) (f : Nat) : Good T (mkC T IntN P w K mg tb) base 34 f (callC (mkC T IntN P w K mg tb) f) := by
  unfold callC
  by_cases h : f = 2
  · rw [if_pos h, h]; exact (good_def (f := 2) (d := d_spare) ckT hl hk (by decide) (fun f => callB_good hl hk f) rfl).mono (by decide)
  rw [if_neg h]
  by_cases h : f = 3
  · rw [if_pos h, h]; exact (good_def (f := 3) (d := d_same_ratio) ckT hl hk (by decide) (fun f => callB_good hl hk f) rfl).mono (by decide)
  rw [if_neg h]
  by_cases h : f = 14
  · rw [if_pos h, h]; exact (good_def (f := 14) (d := d__law_ratio) ckT hl hk (by decide) (fun f => callA_good hl hk f) rfl).mono (by decide)
  rw [if_neg h]; exact (callB_good hl hk f).mono (by decide)
theorem callD_good (hl : LamOk T K mg base tb) (hk : KOk T P w K mg) (f : Nat) : Good T (mkC T IntN P w K mg tb) base 38 f (callD (mkC T IntN P w K mg tb) f) := by
  unfold callD
  by_cases h : f = 15
  · rw [if_pos h, h]; exact (good_def (f := 15) (d := d__law_mixed_fits) ckT hl hk (by decide) (fun f => callA_good hl hk f) rfl).mono (by decide)
  rw [if_neg h]
  by_cases h : f = 16
  · rw [if_pos h, h]; exact (good_def (f := 16) (d := d__law_drawn_fits) ckT hl hk (by decide) (fun f => callC_good hl hk f) rfl).mono (by decide)
  rw [if_neg h]
  by_cases h : f = 17
  · rw [if_pos h, h]; exact (good_def (f := 17) (d := d__law_refused) ckT hl hk (by decide) (fun f => callC_good hl hk f) rfl).mono (by decide)
  rw [if_neg h]; exact (callC_good hl hk f).mono (by decide)
theorem callL_good (hl : LamOk T K mg base tb) (hk : KOk T P w K mg) (f : Nat) : Good T (mkC T IntN P w K mg tb) base 60 f (callL (mkC T IntN P w K mg tb) f) := by
  unfold callL
  by_cases h : f = 18
  · rw [if_pos h, h]; exact (good_def (f := 18) (d := d__law_pair_fits) ckT hl hk (by decide) (fun f => callD_good hl hk f) rfl).mono (by decide)
  rw [if_neg h]
  by_cases h : f = 11
  · rw [if_pos h, h]; exact (good_def (f := 11) (d := d__law_cooked) ckT hl hk (by decide) (fun f => callA_good hl hk f) rfl).mono (by decide)
  rw [if_neg h]; exact (callD_good hl hk f).mono (by decide)
end
section
variable {c : Cf}
structure HC (c : Cf) : Prop where
  ini : ∀ r : R6, evF T c 6 19 (some (.obj 0 [])) [lD c r] = .ok (.fr .non) (some (pO c r))
  un : ∀ k : Int, 0 ≤ k → k < 5 → evF T c 6 10 none [.str (letR k)] = .ok (lO c (unitR k)) none
  hx : (c.exf 3).length = 1
  fs : (pos ⟨#[115, 105, 100, 101, 115]⟩ (c.fld 0)).isNone = true
theorem same6 (hE : Exi c.nm) (d : c.D) (h : pl 5 d = true) : evF T c 6 6 none [d, d] = .ok (.fr (.bl true)) none := same_ev (c := c) (T := T) (f := 6) (d0 := d__law_same) hE.toExact rfl ⟨rfl, rfl⟩ rfl rfl rfl rfl 5 6 (by decide) d h
theorem drA (hE : Exi c.nm) : DrawV (evV T c (callA c)) 4 := ⟨rfl, fun os m h1 h2 => draw_ok (V := evV T c (evF T c 5)) hE.toExact os m h1 h2⟩
theorem dr5 (hE : Exi c.nm) : DrawV (evV T c (evF T c 5)) 4 := ⟨rfl, fun os m h1 h2 => draw_ok (V := evV T c (evF T c 4)) hE.toExact os m h1 h2⟩
theorem k7A (hE : Exi c.nm) (H : HC c) : K7 c (evV T c (callA c)) where
  mix := fun r s h h2 => cf2P (c := c) (fun r s => .ok (.fr (iD c (r.mix s))) none) r s h h2
  mv := fun r x y h hx hy => cfM_ok (c := c) (fun r x y => .ok (lO c (r.mv x y)) none) r x y h hx hy
  lmix := fun r s h h2 => cf2L (c := c) (fun r s => .ok (.fr (iD c (r.mix s))) none) r s h h2
  lsd := fun r h => cf1L (c := c) (fun r => .ok (lO c r.sd) none) r h
  ev := fun n h => cfI_ok (c := c) (fun n => .ok (pO c (even n)) none) n h
  ini := H.ini
  rim := fun r h => cf1P (c := c) (fun r => .ok (.fr (iD c r.rim)) none) r h
  area := fun r h => cf1P (c := c) (fun r => .ok (.fr (iD c (r.mix r))) none) r h
  sides := fun r h => cf1P (c := c) (fun r => .ok (.fr (tD c r.sd)) none) r h
  same := fun d h => same6 hE d h
  io := ⟨rfl, rfl, rfl, rfl, rfl⟩
  df := ⟨rfl, rfl, rfl, rfl, rfl, rfl, rfl, rfl⟩
  ms := by kernel_rfl
  fs := H.fs
  prim := by kernel_rfl
  parea := by kernel_rfl
theorem k7B (G : K7 c (evV T c (callA c))) : K7 c (evV T c (callB c)) := ⟨G.mix, G.mv, G.lmix, G.lsd, G.ev, G.ini, G.rim, G.area, G.sides, G.same, G.io, G.df, G.ms, G.fs, G.prim, G.parea⟩
theorem k7C (G : K7 c (evV T c (callA c))) : K7 c (evV T c (callC c)) := ⟨G.mix, G.mv, G.lmix, G.lsd, G.ev, G.ini, G.rim, G.area, G.sides, G.same, G.io, G.df, G.ms, G.fs, G.prim, G.parea⟩
theorem k7D (G : K7 c (evV T c (callA c))) : K7 c (evV T c (callD c)) := ⟨G.mix, G.mv, G.lmix, G.lsd, G.ev, G.ini, G.rim, G.area, G.sides, G.same, G.io, G.df, G.ms, G.fs, G.prim, G.parea⟩
theorem k8B (hE : Exi c.nm) (H : HC c) : K8 c (evV T c (callB c)) where
  toK7 := k7B (k7A hE H)
  chk := fun r h => cd_ok (V := evV T c (callA c)) hE (k7A hE H) H.hx r h
  io0 := rfl
  df0 := rfl
  hx := H.hx
theorem k9C (hE : Exi c.nm) (H : HC c) : K9 c (evV T c (callC c)) where
  toK7 := k7C (k7A hE H)
  sp := fun r s h h2 => sp_ok (V := evV T c (callB c)) hE (k8B hE H) r s h h2
  sr := fun r s h h2 => sr_ok (V := evV T c (callB c)) hE (k8B hE H) r s h h2
  lr := fun r s h h2 => lr_ok (V := evV T c (callA c)) hE (k7A hE H) r s h h2
  io2 := ⟨rfl, rfl, rfl⟩
  df2 := ⟨rfl, rfl, rfl⟩
  tg := by kernel_rfl
theorem k10D (hE : Exi c.nm) (H : HC c) : K10 c (evV T c (callD c)) where
  toK7 := k7D (k7A hE H)
  dfits := fun r s h h2 hr hs => df_ok (V := evV T c (callC c)) hE (k9C hE H) r s h h2 hr hs
  rfits := fun r s k h h2 hk => rf_ok (V := evV T c (callC c)) hE (k9C hE H) r s k h h2 hk
  io3 := ⟨rfl, rfl⟩
  df3 := ⟨rfl, rfl⟩
theorem kcA (hE : Exi c.nm) (H : HC c) : KC c (evV T c (callA c)) := ⟨drA hE, H.un, rfl, rfl⟩
theorem num6 (hE : Exi c.nm) (os : List c.nm.T) (m s : Int) : ∃ (r : Int) (os' : List c.nm.T), r.natAbs ≤ 10 ^ 39 ∧ evF T c 6 5 (some (pot os)) [iD c m, iD c s] = .ok (.fr (iD c r)) (some (pot os')) := by
  obtain ⟨r, os', h1, h2⟩ := num_ok (V := evV T c (evF T c 5)) hE.toExact (dr5 hE) os (c.nm.lit m) (c.nm.lit s)
  refine ⟨c.nm.val r, os', h1, ?_⟩
  have e : (iD c (c.nm.val r) : c.D) = .int r := congrArg D.int (hE.lit r).symm
  rw [e]
  exact h2
theorem laL (hE : Exi c.nm) (H : HC c) : LaV c (evV T c (callL c)) where
  dr := ⟨rfl, fun os m h1 h2 => draw_ok (V := evV T c (evF T c 5)) hE.toExact os m h1 h2⟩
  nu := fun os m s => num6 hE os m s
  i5 := rfl
  ck := fun os sh => ck_ok (V := evV T c (callA c)) hE (kcA hE H) os sh
  i11 := rfl
  mv := fun r x y h hx hy => cfM_ok (c := c) (fun r x y => .ok (lO c (r.mv x y)) none) r x y h hx hy
  mf := fun r s x y n hr hs hx hy hn => by
    have q1 : 260 ≤ 300 := by decide
    have q2 : 130 ≤ 300 := by decide
    have h1 := R6.ok_le hr q1
    have q3 : 130 ≤ 9000 := by decide
    exact mf_ok (V := evV T c (callA c)) hE (k7A hE H) r s x y n h1 (R6.ok_le hs q1) (R6.mv_ok hr hx hy) (nb_le hx q2) (nb_le hy q2) (nb_le hn q2) (R6.mul_bd (nb_le hn q3) (R6.rim_bd h1)) (R6.mix_comm r s) (R6.mix_mv r s x y) (R6.mix_mv2 r s x y) (R6.mix_even r n) (R6.even_mix r n) (R6.mix_one r)
  pf := fun r s h h2 => pf_ok (V := evV T c (callD c)) hE (k10D hE H) r s h h2
  io := ⟨rfl, rfl, rfl⟩
  df := ⟨rfl, rfl, rfl⟩
theorem law_evg (hE : Exi c.nm) (H : HC c) (ns : List c.nm.T) (hl : ns.length ≤ 63) : evD T c (callL c) d_law none [.scr (ns.map fun i => .int i)] = .ok (.fr (.bl true)) none :=
  runF_res (V := evV T c (callL c)) (n := 11) (np := 1) (body := B_law) (ds := [.scr (ns.map fun i => .int i)]) rfl (law_ok (V := evV T c (callL c)) hE (laL hE H) ns hl)
end
section
variable {P : Program} {w : World} {K : PySem.W.Frag} {mg : Str → Option Value} {tb : List (Addr × Str)}
theorem hcI : HC (cI P w K mg tb) where
  ini := fun r => by kernel_rfl
  un := fun k h0 h5 => by
    have : k = 0 ∨ k = 1 ∨ k = 2 ∨ k = 3 ∨ k = 4 := by omega
    rcases this with rfl | rfl | rfl | rfl | rfl
    · kernel_rfl
    · kernel_rfl
    · kernel_rfl
    · kernel_rfl
    · kernel_rfl
  hx := by kernel_rfl
  fs := by kernel_rfl
theorem law_ev (ns : List Int) (hl : ns.length ≤ 63) : evD T (cI P w K mg tb) (callL (cI P w K mg tb)) d_law none [.scr (ns.map fun i => .int i)] = .ok (.fr (.bl true)) none :=
  law_evg (c := cI P w K mg tb) exiInt hcI ns hl
end
end Z

set_option Elab.async false
set_option linter.all false
set_option maxRecDepth 100000
set_option maxHeartbeats 8000000
open PySem PySem.W PySem.Calls PyProof.Rows
namespace Z
open PySem.Spec L2 Y
theorem room : Room (60 + 4) callerA := ⟨rfl, by decide, by decide⟩
end Z
theorem PySem.Challenge.cw_sixviews_k07_mixed_numbers_and_rims_holds : PySem.Challenge.rw_sixviews_k07_mixed_numbers_and_rims.Holds := by
  w_on; o_law
  refine HandSHeadRun.head_any (r := OpenLaw.row PySem.Challenge.rw_sixviews_k07_mixed_numbers_and_rims) (q := view (OpenLaw.row PySem.Challenge.rw_sixviews_k07_mixed_numbers_and_rims).prog [40]) (H := Z.T.hook Z.d_law 6) (ob := Z.ob) (M := 12000) (loose := Z.loose) (d := HandSHeadRun.topDef (OpenLaw.row PySem.Challenge.rw_sixviews_k07_mixed_numbers_and_rims).prog 40) (kwd := []) Z.ob_eq
    (by kernel_rfl) (fun s => by kernel_rfl) Z.run (by kernel_rfl) (by kernel_rfl) (by kernel_rfl) (by rfl) (by first | assumption | decide +kernel) (by decide +kernel) ⟨rfl, rfl, rfl, rfl, rfl, by decide +kernel⟩ ?hw ?hc
  case hw => w_witness2
  case hc =>
    exact Y.law_walk (l := PySem.Challenge.rw_sixviews_k07_mixed_numbers_and_rims) (n := 63) (k := 60) (T := Z.T) (law := Z.d_law) (x := "_law_script") rfl (by decide) (by kernel_rfl) Z.room rfl rfl rfl (by decide) Z.ckT Z.sc_law rfl rfl Z.ck_law (by kernel_rfl) Z.bd_law
      (fun w K mg tb => Z.callL (Y.mkC Z.T Y.IntN _ w K mg tb)) (fun w K mg tb base hk hl f => Z.callL_good hl hk f) (fun w K mg tb ns hl => Z.law_ev ns hl)

