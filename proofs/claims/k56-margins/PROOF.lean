import PyProof.Rows.All
import Wide.All
import OpenK.AllK
import Wide.FinOn
import HandS.ForMost
import HandS.Walk
import HandS.NoneIn
import KE.GoesEnum
import HandS.Zip
import HandS.Defaults
import HandS.TupAny
import HandS.IsInst
import HandS.Deep
import KE.KTupSum
import HandS.Style
import HandS.SortInts
import HandS.TupLen
import HandS.WordsDict
import KE.DataEq
import KE.DataCmp
import HandS.TupMul
import HandS.Conv
import HandS.More
import PyProof.TupleOfSeq
import HandS.SortOrd
import KE.SortData
import PyProof.ReprRoads
import PyProof.ReprLen
import PyProof.FitsInt
import KE.KDictPairs
import KE.KDictDisplayH
import PyProof.DictTable
import HandS.Ends
import HandS.HeadEnd
import HandS.Head0
import HandS.Head1
import HandS.Head2
import HandS.HeadHook1
import HandS.HeadHook2
import HandS.Flt
import PyProof.Rows.SetFrom
import PyProof.SetRoads
import HandS.Set
import PyProof.ListMulRoad
import HandS.Iter
import HandS.Star
import HandS.DictTup
import HandS.DictSubView
import HandS.Comp
import PyProof.SumWalkG
import PySem.Challenge.RW_wordshapes_k56_whole_margins
import KE.GoesMore
set_option Elab.async false
set_option linter.all false
set_option maxRecDepth 100000
/-! J: pure readings over the hand layer. Values as trees, the representation, the frame's invariant. -/
namespace J
open PySem L2

theorem falseNe : ¬ (false = true) := Bool.false_ne_true
inductive PV where
  | non
  | bl (b : Bool)
  | int (i : Int)
  | str (x : Str)
  | tup (xs : List PV)
  | lst (xs : List PV)
  | dic (t : Bool) (ks vs : List PV)
  | ins (c : String) (fs : List PV)
  | obj (n : Nat)
  | scr (ns : List Int)

mutual
def PV.eqb : PV → PV → Bool
  | .non, .non => true
  | .bl a, .bl b => a == b
  | .int a, .int b => decide (a = b)
  | .str a, .str b => decide (a = b)
  | .tup a, .tup b => eqbL a b
  | .lst a, .lst b => eqbL a b
  | .dic t a b, .dic u c d => (t == u) && (eqbL a c && eqbL b d)
  | .ins a b, .ins c d => decide (a = c) && eqbL b d
  | .obj a, .obj b => decide (a = b)
  | .scr a, .scr b => decide (a = b)
  | _, _ => false
def eqbL : List PV → List PV → Bool
  | [], [] => true
  | a :: r, b :: s => PV.eqb a b && eqbL r s
  | _, _ => false
end
mutual
theorem PV.eqb_iff : ∀ (a b : PV), PV.eqb a b = true ↔ a = b
  | .non, b => by cases b <;> simp [PV.eqb]
  | .bl a, b => by cases b <;> simp [PV.eqb]
  | .int a, b => by cases b <;> simp [PV.eqb]
  | .str a, b => by cases b <;> simp [PV.eqb]
  | .tup a, b => by cases b <;> simp [PV.eqb, eqbL_iff a]
  | .lst a, b => by cases b <;> simp [PV.eqb, eqbL_iff a]
  | .dic t a c, b => by cases b <;> simp [PV.eqb, eqbL_iff a, eqbL_iff c]
  | .ins a c, b => by cases b <;> simp [PV.eqb, eqbL_iff c]
  | .obj a, b => by cases b <;> simp [PV.eqb]
  | .scr a, b => by cases b <;> simp [PV.eqb]
theorem eqbL_iff : ∀ (a b : List PV), eqbL a b = true ↔ a = b
  | [], b => by cases b <;> simp [eqbL]
  | x :: r, b => by cases b <;> simp [eqbL, PV.eqb_iff x, eqbL_iff r]
end
instance : DecidableEq PV := fun a b =>
  if h : PV.eqb a b = true then .isTrue ((PV.eqb_iff a b).mp h) else .isFalse fun e => h ((PV.eqb_iff a b).mpr e)

/-- a local name: nothing is known, a value, a list or dict that only this name holds -/
inductive Slot where
  | un
  | val (v : PV)
  | own (v : PV)
abbrev Env := List Slot
/-- shared lists, by their numbers -/
abbrev Sto := List (List PV)
abbrev Ct := String → Option (Addr × List Str)

/-- seen: neither a shared list nor one that a name owns -/
def Vw (H : Hp) (A M : List Addr) (a : Addr) (u : HO) : Prop := H a = some u ∧ a ∉ A ∧ a ∉ M
def VwR (H : Hp) (A M : List Addr) (a : Addr) (u : HO) : Prop := Rd H a u ∧ a ∉ A ∧ a ∉ M
/-- locked: a dict that no name owns -/
def VwF (H : Hp) (A M : List Addr) (a : Addr) (u : HO) : Prop := (∃ o, H a = some (.frz o u)) ∧ a ∉ A ∧ a ∉ M
abbrev H00 : Hp := fun _ => none

def keyV : Key → PV
  | .inl i => .int i
  | .inr x => .str x

section
variable (K : PySem.W.Frag) (ct : Ct)
mutual
def Rep (H : Hp) (A M : List Addr) : PV → V → Prop
  | .non, x => x = .non
  | .bl b, x => x = .bl b
  | .int i, x => x = .int i
  | .str z, x => x = .str z
  | .tup xs, x => ∃ a vs, x = .ref a ∧ Vw H A M a (.tup vs) ∧ RepL H A M xs vs
  | .lst xs, x => ∃ a vs, x = .ref a ∧ Vw H A M a (.lst vs) ∧ RepL H A M xs vs
  | .dic t ks xs, x => ∃ a, x = .ref a ∧ ((t = false ∧ ∃ ws : List (Key × V), VwF H A M a (.dK ws) ∧ ks = ws.map (fun w => keyV w.1) ∧ RepL H A M xs (ws.map (·.2))) ∨
      t = true ∧ ∃ ws : List (List Key × V), VwF H A M a (.dT ws) ∧ ks = ws.map (fun w => .tup (w.1.map keyV)) ∧ RepL H A M xs (ws.map (·.2)))
  | .ins c fs, x => ∃ a C dx ns vs, x = .ref a ∧ ct c = some (C, ns) ∧ Vw H A M a (.ins C dx (ns.zip vs)) ∧ vs.length = ns.length ∧ RepL H A M fs vs
  | .obj n, x => ∃ a, x = .ref a ∧ A[n]? = some a
  | .scr ns, x => ∃ a, x = .ref a ∧ (VwR H A M a (.lst (ns.map V.int)) ∨ SqL K H00 a (ns.map V.int))
def RepL (H : Hp) (A M : List Addr) : List PV → List V → Prop
  | [], vs => vs = []
  | p :: ps, vs => ∃ v r, vs = v :: r ∧ Rep H A M p v ∧ RepL H A M ps r
end

/-- what stands at p, itself hidden -/
def Cont (H : Hp) (A M : List Addr) (p : Addr) : PV → Prop
  | .lst xs => ∃ vs, H p = some (.lst vs) ∧ RepL K ct H A M xs vs
  | .dic t ks xs => (t = false ∧ ∃ ws : List (Key × V), H p = some (.dK ws) ∧ ks = ws.map (fun w => keyV w.1) ∧ RepL K ct H A M xs (ws.map (·.2))) ∨
      t = true ∧ ∃ ws : List (List Key × V), H p = some (.dT ws) ∧ ks = ws.map (fun w => .tup (w.1.map keyV)) ∧ RepL K ct H A M xs (ws.map (·.2))
  | _ => False

structure StoOk (H : Hp) (A M : List Addr) (S : Sto) : Prop where
  len : S.length = A.length
  at' : ∀ (n : Nat) (a : Addr) (xs : List PV), A[n]? = some a → S[n]? = some xs → ∃ vs, H a = some (.lst vs) ∧ RepL K ct H A M xs vs
structure Bs (A M : List Addr) (H : Hp) (S : Sto) : Prop where
  sto : StoOk K ct H A M S
  nodup : A.Nodup
  inM : ∀ a ∈ M, H a ≠ none
  disj : ∀ a ∈ M, a ∉ A
  noT : ∀ a ∈ M, ∀ vs, H a ≠ some (.tup vs)
end

/-- later: what is seen stays seen -/
structure Lat (A M : List Addr) (H : Hp) (A' M' : List Addr) (H' : Hp) : Prop where
  pre : A <+: A'
  vis : ∀ a o, H a = some o → a ∉ A → a ∉ M → H' a = some o ∧ a ∉ A' ∧ a ∉ M'
theorem Lat.refl (A M : List Addr) (H : Hp) : Lat A M H A M H := ⟨List.prefix_refl A, fun _ _ h h1 h2 => ⟨h, h1, h2⟩⟩
theorem Lat.trans {A M A1 M1 A2 M2 : List Addr} {H H1 H2 : Hp} (x : Lat A M H A1 M1 H1) (y : Lat A1 M1 H1 A2 M2 H2) : Lat A M H A2 M2 H2 :=
  ⟨x.pre.trans y.pre, fun a o h h1 h2 => let ⟨p, q, r⟩ := x.vis a o h h1 h2; y.vis a o p q r⟩
/-- behind an expression or a call: all but the shared lists is as it was -/
structure Post (A : List Addr) (H : Hp) (A' : List Addr) (H' : Hp) : Prop where
  pre : A <+: A'
  ext : ∀ a o, H a = some o → a ∉ A → H' a = some o
  new : ∀ a ∈ A', a ∈ A ∨ H a = none
  nodup : A'.Nodup
theorem Post.refl {A : List Addr} (H : Hp) (n : A.Nodup) : Post A H A H := ⟨List.prefix_refl A, fun _ _ h _ => h, fun _ h => .inl h, n⟩
theorem Post.out {A A' : List Addr} {H H' : Hp} (x : Post A H A' H') {a : Addr} {o : HO} (h : H a = some o) (n : a ∉ A) : a ∉ A' := fun z => by
  rcases x.new a z with q | q
  · exact n q
  · rw [q] at h; cases h
theorem Post.trans {A A1 A2 : List Addr} {H H1 H2 : Hp} (x : Post A H A1 H1) (y : Post A1 H1 A2 H2) : Post A H A2 H2 :=
  ⟨x.pre.trans y.pre, fun a o h n => y.ext a o (x.ext a o h n) (x.out h n), fun a h => by
    rcases y.new a h with q | q
    · exact x.new a q
    · by_cases ha : a ∈ A
      · exact .inl ha
      · refine .inr ?_
        cases e : H a with
        | none => rfl
        | some o => exact absurd ((x.ext a o e ha).symm.trans q) (by simp), y.nodup⟩
theorem Post.lat {A A' : List Addr} {H H' : Hp} (x : Post A H A' H') (M : List Addr) : Lat A M H A' M H' :=
  ⟨x.pre, fun a o h n m => ⟨x.ext a o h n, x.out h n, m⟩⟩
theorem Post.grow {A : List Addr} {H H' : Hp} (n : A.Nodup) (g : Same H H') : Post A H A H' := ⟨List.prefix_refl A, fun a o h _ => g a o h, fun _ h => .inl h, n⟩
theorem same_new {H : Hp} {p : Addr} {o : HO} (h : H p = none) : Same H (upd H p o) := fun b x e => by
  rw [upd_ne (ne_of_none e h)]; exact e

section
variable {K : PySem.W.Frag} {ct : Ct} {A M A' M' : List Addr} {H H' : Hp}
theorem VwR.lat (l : Lat A M H A' M' H') {a : Addr} {u : HO} (v : VwR H A M a u) : VwR H' A' M' a u := by
  obtain ⟨r, n, m⟩ := v
  rcases r with r | ⟨o, r⟩
  · obtain ⟨h1, h2, h3⟩ := l.vis a _ r n m
    exact ⟨.inl h1, h2, h3⟩
  · obtain ⟨h1, h2, h3⟩ := l.vis a _ r n m
    exact ⟨.inr ⟨o, h1⟩, h2, h3⟩
theorem Vw.lat (l : Lat A M H A' M' H') {a : Addr} {u : HO} (v : Vw H A M a u) : Vw H' A' M' a u := l.vis a u v.1 v.2.1 v.2.2
theorem VwF.lat (l : Lat A M H A' M' H') {a : Addr} {u : HO} (v : VwF H A M a u) : VwF H' A' M' a u := by
  obtain ⟨⟨o, r⟩, n, m⟩ := v
  obtain ⟨h1, h2, h3⟩ := l.vis a _ r n m
  exact ⟨⟨o, h1⟩, h2, h3⟩
theorem VwF.rd {a : Addr} {u : HO} (v : VwF H A M a u) : Rd H a u := .inr v.1
theorem Vw.r {a : Addr} {u : HO} (v : Vw H A M a u) : VwR H A M a u := ⟨.inl v.1, v.2⟩
mutual
theorem Rep.lat (l : Lat A M H A' M' H') : ∀ (p : PV) (x : V), Rep K ct H A M p x → Rep K ct H' A' M' p x
  | .non, x, e => by simpa only [Rep] using e
  | .bl b, x, e => by simpa only [Rep] using e
  | .int b, x, e => by simpa only [Rep] using e
  | .str b, x, e => by simpa only [Rep] using e
  | .tup xs, x, e => by
    simp only [Rep] at e ⊢
    obtain ⟨a, vs, e1, e2, e3⟩ := e
    exact ⟨a, vs, e1, e2.lat l, RepL.lat l xs vs e3⟩
  | .lst xs, x, e => by
    simp only [Rep] at e ⊢
    obtain ⟨a, vs, e1, e2, e3⟩ := e
    exact ⟨a, vs, e1, e2.lat l, RepL.lat l xs vs e3⟩
  | .dic t ks xs, x, e => by
    simp only [Rep] at e ⊢
    obtain ⟨a, e1, e2⟩ := e
    refine ⟨a, e1, ?_⟩
    rcases e2 with ⟨ht, ws, h1, h2, h3⟩ | ⟨ht, ws, h1, h2, h3⟩
    · exact .inl ⟨ht, ws, h1.lat l, h2, RepL.lat l xs _ h3⟩
    · exact .inr ⟨ht, ws, h1.lat l, h2, RepL.lat l xs _ h3⟩
  | .ins c fs, x, e => by
    simp only [Rep] at e ⊢
    obtain ⟨a, C, dx, ns, vs, e1, e2, e3, e4, e5⟩ := e
    exact ⟨a, C, dx, ns, vs, e1, e2, e3.lat l, e4, RepL.lat l fs vs e5⟩
  | .obj n, x, e => by
    simp only [Rep] at e ⊢
    obtain ⟨a, e1, e2⟩ := e
    exact ⟨a, e1, by
      obtain ⟨t, rfl⟩ := l.pre
      rw [List.getElem?_append_left (List.getElem?_eq_some_iff.mp e2).1]; exact e2⟩
  | .scr ns, x, e => by
    simp only [Rep] at e ⊢
    obtain ⟨a, e1, e2⟩ := e
    exact ⟨a, e1, e2.imp (VwR.lat l) id⟩
theorem RepL.lat (l : Lat A M H A' M' H') : ∀ (p : List PV) (x : List V), RepL K ct H A M p x → RepL K ct H' A' M' p x
  | [], x, e => by simpa only [RepL] using e
  | p :: ps, x, e => by
    simp only [RepL] at e ⊢
    obtain ⟨v, r, e1, e2, e3⟩ := e
    exact ⟨v, r, e1, Rep.lat l p v e2, RepL.lat l ps r e3⟩
end
theorem RepL.nil_iff {vs : List V} : RepL K ct H A M [] vs ↔ vs = [] := by simp only [RepL]
theorem RepL.cons {p : PV} {ps : List PV} {v : V} {vs : List V} (h : Rep K ct H A M p v) (t : RepL K ct H A M ps vs) : RepL K ct H A M (p :: ps) (v :: vs) := by
  simp only [RepL]; exact ⟨v, vs, rfl, h, t⟩
theorem RepL.inv {p : PV} {ps : List PV} {vs : List V} (h : RepL K ct H A M (p :: ps) vs) : ∃ v r, vs = v :: r ∧ Rep K ct H A M p v ∧ RepL K ct H A M ps r := by
  simpa only [RepL] using h
theorem RepL.nil : RepL K ct H A M [] [] := by simp only [RepL]
theorem RepL.length : ∀ {ps : List PV} {vs : List V}, RepL K ct H A M ps vs → vs.length = ps.length
  | [], vs, h => by rw [RepL.nil_iff.mp h]; rfl
  | p :: ps, vs, h => by
    obtain ⟨v, r, rfl, _, t⟩ := h.inv
    rw [List.length_cons, List.length_cons, t.length]
theorem RepL.append : ∀ {ps qs : List PV} {vs ws : List V}, RepL K ct H A M ps vs → RepL K ct H A M qs ws → RepL K ct H A M (ps ++ qs) (vs ++ ws)
  | [], qs, vs, ws, h, t => by rw [RepL.nil_iff.mp h]; exact t
  | p :: ps, qs, vs, ws, h, t => by
    obtain ⟨v, r, rfl, h1, h2⟩ := h.inv
    exact .cons h1 (h2.append t)
theorem RepL.get : ∀ {ps : List PV} {vs : List V} {i : Nat} {p : PV}, RepL K ct H A M ps vs → ps[i]? = some p → ∃ v, vs[i]? = some v ∧ Rep K ct H A M p v
  | [], vs, i, p, h, e => by simp at e
  | q :: ps, vs, 0, p, h, e => by
    obtain ⟨v, r, rfl, h1, h2⟩ := h.inv
    cases e
    exact ⟨v, rfl, h1⟩
  | q :: ps, vs, i + 1, p, h, e => by
    obtain ⟨v, r, rfl, h1, h2⟩ := h.inv
    exact h2.get (i := i) e
theorem RepL.getV : ∀ {ps : List PV} {vs : List V} {i : Nat} {v : V}, RepL K ct H A M ps vs → vs[i]? = some v → ∃ p, ps[i]? = some p ∧ Rep K ct H A M p v := fun {ps vs i v} h e => by
  have hl := h.length
  have hi : i < vs.length := (List.getElem?_eq_some_iff.mp e).1
  obtain ⟨w, e2, r⟩ := h.get (i := i) (List.getElem?_eq_getElem (by omega))
  rw [e] at e2; cases e2
  exact ⟨_, List.getElem?_eq_getElem (by omega), r⟩
theorem RepL.take : ∀ {ps : List PV} {vs : List V} (n : Nat), RepL K ct H A M ps vs → RepL K ct H A M (ps.take n) (vs.take n)
  | _, _, 0, h => by simp only [List.take_zero]; exact .nil
  | [], vs, n + 1, h => by rw [RepL.nil_iff.mp h]; exact .nil
  | p :: ps, vs, n + 1, h => by
    obtain ⟨v, r, rfl, h1, h2⟩ := h.inv
    exact .cons h1 (h2.take n)
theorem RepL.drop : ∀ {ps : List PV} {vs : List V} (n : Nat), RepL K ct H A M ps vs → RepL K ct H A M (ps.drop n) (vs.drop n)
  | _, _, 0, h => by simpa only [List.drop_zero] using h
  | [], vs, n + 1, h => by rw [RepL.nil_iff.mp h]; exact .nil
  | p :: ps, vs, n + 1, h => by
    obtain ⟨v, r, rfl, h1, h2⟩ := h.inv
    exact h2.drop n
theorem RepL.set : ∀ {ps : List PV} {vs : List V} (n : Nat) {p : PV} {v : V}, RepL K ct H A M ps vs → Rep K ct H A M p v → RepL K ct H A M (ps.set n p) (vs.set n v)
  | [], vs, n, p, v, h, _ => by rw [RepL.nil_iff.mp h]; exact .nil
  | q :: ps, vs, 0, p, v, h, e => by
    obtain ⟨w, r, rfl, h1, h2⟩ := h.inv
    exact .cons e h2
  | q :: ps, vs, n + 1, p, v, h, e => by
    obtain ⟨w, r, rfl, h1, h2⟩ := h.inv
    exact .cons h1 (h2.set n e)
theorem RepL.reverse : ∀ {ps : List PV} {vs : List V}, RepL K ct H A M ps vs → RepL K ct H A M ps.reverse vs.reverse
  | [], vs, h => by rw [RepL.nil_iff.mp h]; exact .nil
  | p :: ps, vs, h => by
    obtain ⟨v, r, rfl, h1, h2⟩ := h.inv
    simp only [List.reverse_cons]
    exact h2.reverse.append (.cons h1 .nil)
theorem RepL.one {p : PV} {vs : List V} (h : RepL K ct H A M [p] vs) : ∃ v, vs = [v] ∧ Rep K ct H A M p v := by
  obtain ⟨v, r, rfl, h1, h2⟩ := h.inv
  rw [RepL.nil_iff.mp h2]; exact ⟨v, rfl, h1⟩
theorem RepL.two {p q : PV} {vs : List V} (h : RepL K ct H A M [p, q] vs) : ∃ v w, vs = [v, w] ∧ Rep K ct H A M p v ∧ Rep K ct H A M q w := by
  obtain ⟨v, r, rfl, h1, h2⟩ := h.inv
  obtain ⟨w, rfl, h3⟩ := h2.one
  exact ⟨v, w, rfl, h1, h3⟩
theorem RepL.three {p q u : PV} {vs : List V} (h : RepL K ct H A M [p, q, u] vs) : ∃ v w z, vs = [v, w, z] ∧ Rep K ct H A M p v ∧ Rep K ct H A M q w ∧ Rep K ct H A M u z := by
  obtain ⟨v, r, rfl, h1, h2⟩ := h.inv
  obtain ⟨w, z, rfl, h3, h4⟩ := h2.two
  exact ⟨v, w, z, rfl, h1, h3, h4⟩
/-- ints -/
theorem Rep.int_iff {i : Int} {x : V} : Rep K ct H A M (.int i) x ↔ x = .int i := by simp only [Rep]
theorem Rep.bl_iff {i : Bool} {x : V} : Rep K ct H A M (.bl i) x ↔ x = .bl i := by simp only [Rep]
theorem Rep.str_iff {i : Str} {x : V} : Rep K ct H A M (.str i) x ↔ x = .str i := by simp only [Rep]
theorem Rep.non_iff {x : V} : Rep K ct H A M .non x ↔ x = .non := by simp only [Rep]
theorem RepL.ints : ∀ {ns : List Int} {vs : List V}, RepL K ct H A M (ns.map PV.int) vs → vs = ns.map V.int
  | [], vs, h => by rw [RepL.nil_iff.mp h]; rfl
  | n :: ns, vs, h => by
    obtain ⟨v, r, rfl, h1, h2⟩ := RepL.inv (by simpa only [List.map_cons] using h)
    rw [Rep.int_iff.mp h1, h2.ints]; rfl
theorem RepL.of_ints : ∀ (ns : List Int), RepL K ct H A M (ns.map PV.int) (ns.map V.int)
  | [] => .nil
  | n :: ns => .cons (Rep.int_iff.mpr rfl) (RepL.of_ints ns)
theorem RepL.bls : ∀ {ns : List Bool} {vs : List V}, RepL K ct H A M (ns.map PV.bl) vs → vs = ns.map V.bl
  | [], vs, h => by rw [RepL.nil_iff.mp h]; rfl
  | n :: ns, vs, h => by
    obtain ⟨v, r, rfl, h1, h2⟩ := RepL.inv (by simpa only [List.map_cons] using h)
    rw [Rep.bl_iff.mp h1, h2.bls]; rfl
/-- as the layer's own sequences -/
theorem Vw.sqL {a : Addr} {vs : List V} (h : Vw H A M a (.lst vs)) : SqL K H a vs := .inl (.inl h.1)
theorem Vw.sqT {a : Addr} {vs : List V} (h : Vw H A M a (.tup vs)) : SqT K H a vs := .inl (.inl h.1)
theorem sq_scr {a : Addr} {vs : List V} (h : VwR H A M a (.lst vs) ∨ SqL K H00 a vs) : SqL K H a vs := by
  rcases h with ⟨r, _, _⟩ | h
  · exact .inl r
  · rcases h with (h | ⟨o, h⟩) | h
    · cases h
    · cases h
    · exact .inr h
theorem Rep.lst_inv {xs : List PV} {x : V} (h : Rep K ct H A M (.lst xs) x) : ∃ a vs, x = .ref a ∧ Vw H A M a (.lst vs) ∧ RepL K ct H A M xs vs := by
  simpa only [Rep] using h
theorem Rep.tup_inv {xs : List PV} {x : V} (h : Rep K ct H A M (.tup xs) x) : ∃ a vs, x = .ref a ∧ Vw H A M a (.tup vs) ∧ RepL K ct H A M xs vs := by
  simpa only [Rep] using h
theorem Rep.scr_inv {ns : List Int} {x : V} (h : Rep K ct H A M (.scr ns) x) : ∃ a, x = .ref a ∧ SqL K H a (ns.map V.int) ∧ (VwR H A M a (.lst (ns.map V.int)) ∨ SqL K H00 a (ns.map V.int)) := by
  simp only [Rep] at h
  obtain ⟨a, e1, e2⟩ := h
  exact ⟨a, e1, sq_scr e2, e2⟩
/-- a new tuple, a new list -/
theorem Rep.new_tup {xs : List PV} {vs : List V} {p : Addr} (h : RepL K ct H A M xs vs) (np : H p = none) (hA : ∀ a ∈ A, H a ≠ none) (hM : ∀ a ∈ M, H a ≠ none) (nd : A.Nodup) : Rep K ct (upd H p (.tup vs)) A M (.tup xs) (.ref p) := by
  simp only [Rep]
  exact ⟨p, vs, rfl, ⟨upd_same, fun z => hA p z np, fun z => hM p z np⟩, h.lat ((Post.grow nd (same_new np)).lat M) xs vs⟩
theorem Rep.new_lst {xs : List PV} {vs : List V} {p : Addr} (h : RepL K ct H A M xs vs) (np : H p = none) (hA : ∀ a ∈ A, H a ≠ none) (hM : ∀ a ∈ M, H a ≠ none) (nd : A.Nodup) : Rep K ct (upd H p (.lst vs)) A M (.lst xs) (.ref p) := by
  simp only [Rep]
  exact ⟨p, vs, rfl, ⟨upd_same, fun z => hA p z np, fun z => hM p z np⟩, h.lat ((Post.grow nd (same_new np)).lat M) xs vs⟩

theorem StoOk.inA {S : Sto} (s : StoOk K ct H A M S) : ∀ a ∈ A, H a ≠ none := fun a ha e => by
  obtain ⟨n, hn, rfl⟩ := List.mem_iff_getElem.mp ha
  have hs : n < S.length := by rw [s.len]; exact hn
  obtain ⟨vs, h, _⟩ := s.at' n A[n] S[n] (List.getElem?_eq_getElem hn) (List.getElem?_eq_getElem hs)
  rw [e] at h; cases h
/-- the shared lists behind a step that lays new objects alone -/
theorem StoOk.grow {S : Sto} (s : StoOk K ct H A M S) (nd : A.Nodup) (g : Same H H') : StoOk K ct H' A M S :=
  ⟨s.len, fun n a xs h1 h2 => let ⟨vs, h3, h4⟩ := s.at' n a xs h1 h2; ⟨vs, g _ _ h3, h4.lat ((Post.grow nd g).lat M) xs vs⟩⟩
theorem StoOk.less {S : Sto} {M' : List Addr} (s : StoOk K ct H A M S) (h : ∀ a ∈ M', a ∈ M) : StoOk K ct H A M' S :=
  ⟨s.len, fun n a xs h1 h2 => let ⟨vs, h3, h4⟩ := s.at' n a xs h1 h2; ⟨vs, h3, h4.lat ⟨List.prefix_refl A, fun b o e n m => ⟨e, n, fun z => m (h b z)⟩⟩ xs vs⟩⟩
theorem lat_less {M' : List Addr} (h : ∀ a ∈ M', a ∈ M) : Lat A M H A M' H := ⟨List.prefix_refl A, fun b o e n m => ⟨e, n, fun z => m (h b z)⟩⟩
theorem lat_hide {p : Addr} (np : H p = none) (g : Same H H') : Lat A M H A (p :: M) H' := ⟨List.prefix_refl A, fun b o e n m => ⟨g b o e, n, fun z => by
  rcases List.mem_cons.mp (show _ ∈ _ :: _ from z) with z | z
  · subst z; rw [np] at e; cases e
  · exact m z⟩⟩
/-- an object that is hidden or shared changes -/
theorem lat_upd {p : Addr} {o : HO} (hp : p ∈ A ∨ p ∈ M) : Lat A M H A M (upd H p o) := ⟨List.prefix_refl A, fun b u e n m => ⟨by
  rw [upd_ne (fun z => by subst z; exact hp.elim n m)]; exact e, n, m⟩⟩
end

/-! ### the frame -/
structure Gh where
  H0 : Hp
  A0 : List Addr
  M0 : List Addr
  A : List Addr
  M : List Addr
section
variable (K : PySem.W.Frag) (ct : Ct)
def SlotOk (G : Gh) (σ : St) (H : Hp) (i : Nat) : Slot → Prop
  | .un => True
  | .val v => ∃ x, σ[i]? = some (some x) ∧ Rep K ct H G.A G.M v x
  | .own v => ∃ p, σ[i]? = some (some (.ref p)) ∧ p ∈ G.M ∧ G.H0 p = none ∧ Cont K ct H G.A G.M p v
structure Good (G : Gh) (σ : St) (H : Hp) (env : Env) (S : Sto) : Prop where
  bs : Bs K ct G.A G.M H S
  slot : ∀ (i : Nat) (s : Slot), env[i]? = some s → SlotOk K ct G σ H i s
  uniq : ∀ (i j : Nat) (v w : PV) (p : Addr), env[i]? = some (.own v) → env[j]? = some (.own w) → σ[i]? = some (some (.ref p)) → σ[j]? = some (some (.ref p)) → i = j
  ext0 : ∀ a o, G.H0 a = some o → a ∉ G.A0 → H a = some o
  pre0 : G.A0 <+: G.A
  new0 : ∀ a ∈ G.A, a ∈ G.A0 ∨ G.H0 a = none
  sub0 : ∀ a ∈ G.M0, a ∈ G.M
  in0 : ∀ a ∈ G.M0, G.H0 a ≠ none
  len : env.length = σ.length
end
section
variable {K : PySem.W.Frag} {ct : Ct} {G : Gh} {σ : St} {H H' : Hp} {env : Env} {S S' : Sto} {A' : List Addr}
theorem Cont.lat {A M A' M' : List Addr} {p : Addr} {v : PV} (l : Lat A M H A' M' H') (e : H' p = H p) (c : Cont K ct H A M p v) : Cont K ct H' A' M' p v := by
  cases v with
  | lst xs =>
    obtain ⟨vs, h1, h2⟩ := c
    exact ⟨vs, e.trans h1, h2.lat l xs vs⟩
  | dic t ks xs =>
    rcases c with ⟨ht, ws, h1, h2, h3⟩ | ⟨ht, ws, h1, h2, h3⟩
    · exact .inl ⟨ht, ws, e.trans h1, h2, h3.lat l xs _⟩
    · exact .inr ⟨ht, ws, e.trans h1, h2, h3.lat l xs _⟩
  | _ => exact False.elim c
theorem Cont.there {A M : List Addr} {p : Addr} {v : PV} (c : Cont K ct H A M p v) : ∃ o, H p = some o := by
  cases v with
  | lst xs => obtain ⟨vs, h1, h2⟩ := c; exact ⟨_, h1⟩
  | dic t ks xs => rcases c with ⟨ht, ws, h1, h2, h3⟩ | ⟨ht, ws, h1, h2, h3⟩ <;> exact ⟨_, h1⟩
  | _ => exact False.elim c
theorem Cont.noT {A M : List Addr} {p : Addr} {v : PV} (c : Cont K ct H A M p v) : ∀ vs, H p ≠ some (.tup vs) := fun us e => by
  cases v with
  | lst xs => obtain ⟨vs, h1, h2⟩ := c; rw [e] at h1; cases h1
  | dic t ks xs => rcases c with ⟨ht, ws, h1, h2, h3⟩ | ⟨ht, ws, h1, h2, h3⟩ <;> (rw [e] at h1; cases h1)
  | _ => exact False.elim c
theorem Good.inA (g : Good K ct G σ H env S) : ∀ a ∈ G.A, H a ≠ none := g.bs.sto.inA
/-- behind an expression -/
theorem Good.post (g : Good K ct G σ H env S) (x : Post G.A H A' H') (s : StoOk K ct H' A' G.M S') : Good K ct { G with A := A' } σ H' env S' where
  bs := ⟨s, x.nodup, fun a ha e => by
    cases q : H a with
    | none => exact g.bs.inM a ha q
    | some o => exact absurd ((x.ext a o q (g.bs.disj a ha)).symm.trans e) (by simp), fun a ha => by
    cases q : H a with
    | none => exact absurd q (g.bs.inM a ha)
    | some o => exact x.out q (g.bs.disj a ha), fun a ha vs e => by
    cases q : H a with
    | none => exact absurd q (g.bs.inM a ha)
    | some o => exact g.bs.noT a ha vs (by rw [q, ← e]; exact (x.ext a o q (g.bs.disj a ha)).symm)⟩
  slot := fun i s hs => by
    have q := g.slot i s hs
    cases s with
    | un => trivial
    | val v =>
      obtain ⟨y, h1, h2⟩ := q
      exact ⟨y, h1, h2.lat (x.lat G.M) v y⟩
    | own v =>
      obtain ⟨p, h1, h2, h3, h4⟩ := q
      obtain ⟨o, ho⟩ := h4.there
      exact ⟨p, h1, h2, h3, h4.lat (x.lat G.M) ((x.ext p o ho (g.bs.disj p h2)).trans ho.symm)⟩
  uniq := g.uniq
  ext0 := fun a o h n => x.ext a o (g.ext0 a o h n) (fun z => by
    rcases g.new0 a z with q | q
    · exact n q
    · rw [q] at h; cases h)
  pre0 := g.pre0.trans x.pre
  new0 := fun a h => by
    rcases x.new a h with q | q
    · exact g.new0 a q
    · by_cases ha : a ∈ G.A0
      · exact .inl ha
      · refine .inr ?_
        cases e : G.H0 a with
        | none => rfl
        | some o => rw [g.ext0 a o e ha] at q; cases q
  sub0 := g.sub0
  in0 := g.in0
  len := g.len
theorem Good.grow (g : Good K ct G σ H env S) (h : Same H H') : Good K ct G σ H' env S := g.post (Post.grow g.bs.nodup h) (g.bs.sto.grow g.bs.nodup h)
theorem Good.fresh0 (g : Good K ct G σ H env S) {p : Addr} (h : H p = none) : G.H0 p = none := by
  cases e : G.H0 p with
  | none => rfl
  | some o =>
    by_cases ha : p ∈ G.A0
    · exact absurd h (g.inA p (g.pre0.subset ha))
    · rw [g.ext0 p o e ha] at h; cases h
/-- fewer hidden: those that no name owns -/
theorem Good.less {M' : List Addr} (g : Good K ct G σ H env S) (h : ∀ a ∈ M', a ∈ G.M) (h0 : ∀ a ∈ G.M0, a ∈ M') (ho : ∀ (i : Nat) (v : PV) (p : Addr), env[i]? = some (.own v) → σ[i]? = some (some (.ref p)) → p ∈ M') : Good K ct { G with M := M' } σ H env S where
  bs := ⟨g.bs.sto.less h, g.bs.nodup, fun a ha => g.bs.inM a (h a ha), fun a ha => g.bs.disj a (h a ha), fun a ha => g.bs.noT a (h a ha)⟩
  slot := fun i s hs => by
    have q := g.slot i s hs
    cases s with
    | un => trivial
    | val v =>
      obtain ⟨y, h1, h2⟩ := q
      exact ⟨y, h1, h2.lat (lat_less h) v y⟩
    | own v =>
      obtain ⟨p, h1, h2, h3, h4⟩ := q
      exact ⟨p, h1, ho i v p hs h1, h3, h4.lat (lat_less h) rfl⟩
  uniq := g.uniq
  ext0 := g.ext0
  pre0 := g.pre0
  new0 := g.new0
  sub0 := h0
  in0 := g.in0
  len := g.len
/-- a new object, hidden -/
theorem Good.hide {p : Addr} (g : Good K ct G σ H env S) (np : H p = none) (h : Same H H') (ht : H' p ≠ none) (hu : ∀ vs, H' p ≠ some (.tup vs)) : Good K ct { G with M := p :: G.M } σ H' env S where
  bs := ⟨⟨g.bs.sto.len, fun n a xs h1 h2 => let ⟨vs, h3, h4⟩ := g.bs.sto.at' n a xs h1 h2; ⟨vs, h _ _ h3, h4.lat (lat_hide np h) xs vs⟩⟩, g.bs.nodup, fun a ha e => by
      rcases List.mem_cons.mp ha with z | z
      · subst z; exact ht e
      · cases q : H a with
        | none => exact g.bs.inM a z q
        | some o => exact absurd ((h a o q).symm.trans e) (by simp), fun a ha hA => by
      rcases List.mem_cons.mp ha with z | z
      · subst z; exact g.inA a hA np
      · exact g.bs.disj a z hA, fun a ha vs e => by
      rcases List.mem_cons.mp ha with z | z
      · subst z; exact hu vs e
      · cases q : H a with
        | none => exact g.bs.inM a z q
        | some o => exact g.bs.noT a z vs (by rw [q, ← e]; exact (h a o q).symm)⟩
  slot := fun i s hs => by
    have q := g.slot i s hs
    cases s with
    | un => trivial
    | val v =>
      obtain ⟨y, h1, h2⟩ := q
      exact ⟨y, h1, h2.lat (lat_hide np h) v y⟩
    | own v =>
      obtain ⟨p', h1, h2, h3, h4⟩ := q
      obtain ⟨o, ho⟩ := h4.there
      exact ⟨p', h1, List.mem_cons_of_mem _ h2, h3, h4.lat (lat_hide np h) ((h p' o ho).trans ho.symm)⟩
  uniq := g.uniq
  ext0 := fun a o e n => h a o (g.ext0 a o e n)
  pre0 := g.pre0
  new0 := g.new0
  sub0 := fun a ha => List.mem_cons_of_mem _ (g.sub0 a ha)
  in0 := g.in0
  len := g.len
theorem getSet {α : Type} {l : List α} {i j : Nat} {a b : α} (h : (l.set i a)[j]? = some b) : (i = j ∧ b = a ∧ i < l.length) ∨ (i ≠ j ∧ l[j]? = some b) := by
  by_cases hj : i = j
  · subst hj
    by_cases hi : i < l.length
    · rw [List.getElem?_set_self hi] at h; cases h; exact .inl ⟨rfl, rfl, hi⟩
    · rw [List.getElem?_eq_none (by rw [List.length_set]; omega)] at h; cases h
  · rw [List.getElem?_set_ne hj] at h; exact .inr ⟨hj, h⟩
/-- a name stored -/
theorem Good.set {i : Nat} {x : V} {v : PV} (g : Good K ct G σ H env S) (r : Rep K ct H G.A G.M v x) : Good K ct G (σ.set i (some x)) H (env.set i (.val v)) S where
  bs := g.bs
  slot := fun j s hs => by
    rcases getSet hs with ⟨rfl, rfl, hi⟩ | ⟨hj, hs⟩
    · exact ⟨x, List.getElem?_set_self (by rw [← g.len]; exact hi), r⟩
    · have q := g.slot j s hs
      cases s with
      | un => trivial
      | val w => obtain ⟨y, h1, h2⟩ := q; exact ⟨y, (List.getElem?_set_ne hj).trans h1, h2⟩
      | own w => obtain ⟨p, h1, h2⟩ := q; exact ⟨p, (List.getElem?_set_ne hj).trans h1, h2⟩
  uniq := fun a b u w p h1 h2 h3 h4 => by
    rcases getSet h1 with ⟨_, h, _⟩ | ⟨ha, h1⟩
    · cases h
    · rcases getSet h2 with ⟨_, h, _⟩ | ⟨hb, h2⟩
      · cases h
      · rw [List.getElem?_set_ne ha] at h3
        rw [List.getElem?_set_ne hb] at h4
        exact g.uniq a b u w p h1 h2 h3 h4
  ext0 := g.ext0
  pre0 := g.pre0
  new0 := g.new0
  sub0 := g.sub0
  in0 := g.in0
  len := by rw [List.length_set, List.length_set]; exact g.len
/-- a name forgotten -/
theorem Good.setUn {i : Nat} (g : Good K ct G σ H env S) : Good K ct G (σ.set i none) H (env.set i .un) S where
  bs := g.bs
  slot := fun j s hs => by
    rcases getSet hs with ⟨rfl, rfl, hi⟩ | ⟨hj, hs⟩
    · trivial
    · have q := g.slot j s hs
      cases s with
      | un => trivial
      | val w => obtain ⟨y, h1, h2⟩ := q; exact ⟨y, (List.getElem?_set_ne hj).trans h1, h2⟩
      | own w => obtain ⟨p, h1, h2⟩ := q; exact ⟨p, (List.getElem?_set_ne hj).trans h1, h2⟩
  uniq := fun a b u w p h1 h2 h3 h4 => by
    rcases getSet h1 with ⟨_, h, _⟩ | ⟨ha, h1⟩
    · cases h
    · rcases getSet h2 with ⟨_, h, _⟩ | ⟨hb, h2⟩
      · cases h
      · rw [List.getElem?_set_ne ha] at h3
        rw [List.getElem?_set_ne hb] at h4
        exact g.uniq a b u w p h1 h2 h3 h4
  ext0 := g.ext0
  pre0 := g.pre0
  new0 := g.new0
  sub0 := g.sub0
  in0 := g.in0
  len := by rw [List.length_set, List.length_set]; exact g.len
/-- a name stored that owns what is hidden at p -/
theorem Good.setOwn {i : Nat} {p : Addr} {v : PV} (g : Good K ct G σ H env S) (hp : p ∈ G.M) (h0 : G.H0 p = none) (c : Cont K ct H G.A G.M p v) (hu : ∀ (j : Nat) (w : PV), j ≠ i → env[j]? = some (.own w) → σ[j]? ≠ some (some (.ref p))) :
    Good K ct G (σ.set i (some (.ref p))) H (env.set i (.own v)) S where
  bs := g.bs
  slot := fun j s hs => by
    rcases getSet hs with ⟨rfl, rfl, hi⟩ | ⟨hj, hs⟩
    · exact ⟨p, List.getElem?_set_self (by rw [← g.len]; exact hi), hp, h0, c⟩
    · have q := g.slot j s hs
      cases s with
      | un => trivial
      | val w => obtain ⟨y, h1, h2⟩ := q; exact ⟨y, (List.getElem?_set_ne hj).trans h1, h2⟩
      | own w => obtain ⟨p, h1, h2⟩ := q; exact ⟨p, (List.getElem?_set_ne hj).trans h1, h2⟩
  uniq := fun a b u w q h1 h2 h3 h4 => by
    rcases getSet h1 with ⟨ea, _, hi⟩ | ⟨ha, h1⟩
    · rcases getSet h2 with ⟨eb, _, _⟩ | ⟨hb, h2⟩
      · exact ea.symm.trans eb
      · subst ea
        rw [List.getElem?_set_self (by rw [← g.len]; exact hi)] at h3; cases h3
        rw [List.getElem?_set_ne hb] at h4
        exact absurd h4 (hu b w (Ne.symm hb) h2)
    · rcases getSet h2 with ⟨eb, _, hi⟩ | ⟨hb, h2⟩
      · subst eb
        rw [List.getElem?_set_self (by rw [← g.len]; exact hi)] at h4; cases h4
        rw [List.getElem?_set_ne ha] at h3
        exact absurd h3 (hu a u (Ne.symm ha) h1)
      · rw [List.getElem?_set_ne ha] at h3
        rw [List.getElem?_set_ne hb] at h4
        exact g.uniq a b u w q h1 h2 h3 h4
  ext0 := g.ext0
  pre0 := g.pre0
  new0 := g.new0
  sub0 := g.sub0
  in0 := g.in0
  len := by rw [List.length_set, List.length_set]; exact g.len
/-- what a name owns is changed -/
theorem Good.mutOwn {i : Nat} {p : Addr} {v w : PV} {o : HO} (g : Good K ct G σ H env S) (e : env[i]? = some (.own v)) (eσ : σ[i]? = some (some (.ref p))) (c : Cont K ct (upd H p o) G.A G.M p w) : Good K ct G σ (upd H p o) (env.set i (.own w)) S := by
  obtain ⟨p', h1, hp, h0, c0⟩ := g.slot i _ e
  rw [eσ] at h1; cases h1
  obtain ⟨o0, ho0⟩ := c0.there
  have l : Lat G.A G.M H G.A G.M (upd H p o) := lat_upd (.inr hp)
  have hi : i < σ.length := (List.getElem?_eq_some_iff.mp eσ).1
  refine ⟨⟨⟨g.bs.sto.len, fun n a xs h1 h2 => ?_⟩, g.bs.nodup, fun a ha => ?_, g.bs.disj, fun a ha vs ev => ?_⟩, fun j s hs => ?_, fun a b u w' q h1 h2 h3 h4 => ?_, fun a ob h n => ?_, g.pre0, g.new0, g.sub0, g.in0, by rw [List.length_set]; exact g.len⟩
  · obtain ⟨vs, h3, h4⟩ := g.bs.sto.at' n a xs h1 h2
    have hne : a ≠ p := fun z => g.bs.disj p hp (z ▸ List.mem_of_getElem? h1)
    exact ⟨vs, by rw [upd_ne hne]; exact h3, h4.lat l xs vs⟩
  · by_cases hap : a = p
    · subst hap; rw [upd_same]; simp
    · rw [upd_ne hap]; exact g.bs.inM a ha
  · by_cases hap : a = p
    · subst hap; exact c.noT vs ev
    · rw [upd_ne hap] at ev; exact g.bs.noT a ha vs ev
  · by_cases hj : i = j
    · subst hj
      rw [List.getElem?_set_self (by rw [g.len]; exact hi)] at hs
      cases hs
      exact ⟨p, eσ, hp, h0, c⟩
    · rw [List.getElem?_set_ne hj] at hs
      have q := g.slot j s hs
      cases s with
      | un => trivial
      | val u => obtain ⟨y, h1, h2⟩ := q; exact ⟨y, h1, h2.lat l u y⟩
      | own u =>
        obtain ⟨p', h1, h2, h3, h4⟩ := q
        have hne : p' ≠ p := fun z => by subst z; exact hj (g.uniq i j _ _ _ e hs eσ h1)
        exact ⟨p', h1, h2, h3, h4.lat l (by rw [upd_ne hne])⟩
  · have k1 : ∃ u', env[a]? = some (.own u') := by
      by_cases ha : i = a
      · subst ha; exact ⟨_, e⟩
      · rw [List.getElem?_set_ne ha] at h1; exact ⟨_, h1⟩
    have k2 : ∃ u', env[b]? = some (.own u') := by
      by_cases hb : i = b
      · subst hb; exact ⟨_, e⟩
      · rw [List.getElem?_set_ne hb] at h2; exact ⟨_, h2⟩
    obtain ⟨u1, k1⟩ := k1
    obtain ⟨u2, k2⟩ := k2
    exact g.uniq a b u1 u2 q k1 k2 h3 h4
  · have hne : a ≠ p := fun z => by subst z; rw [h0] at h; cases h
    rw [upd_ne hne]; exact g.ext0 a ob h n
end
end J
set_option Elab.async false
set_option linter.all false
set_option maxRecDepth 100000
/-! J: the judgements, basic expressions and statements. -/
namespace J
open PySem L2

inductive Res (α : Type) where
  | ok (a : α)
  | err
def Res.bind {α β : Type} : Res α → (α → Res β) → Res β
  | .ok a, f => f a
  | .err, _ => .err
theorem Res.bind_ok {α β : Type} {x : Res α} {f : α → Res β} {b : β} (h : x.bind f = .ok b) : ∃ a, x = .ok a ∧ f a = .ok b := by
  cases x with
  | ok a => exact ⟨a, rfl, h⟩
  | err => cases h
def ofO {α : Type} : Option α → Res α
  | some a => .ok a
  | none => .err
theorem ofO_ok {α : Type} {x : Option α} {a : α} (h : ofO x = .ok a) : x = some a := by
  cases x with
  | some b => cases h; rfl
  | none => cases h
abbrev FE := Env → Sto → Res (PV × Sto)
abbrev FT := Env → Sto → Res (Bool × Sto)
abbrev FA := Env → Sto → Res (List PV × Sto)
inductive Fl where
  | nx (e : Env) (S : Sto)
  | rt (v : PV) (S : Sto)
  | bk (e : Env) (S : Sto)
  | ct (e : Env) (S : Sto)
abbrev FS := Env → Sto → Res Fl

structure Hx (A M : List Addr) (H : Hp) : Prop where
  nd : A.Nodup
  inA : ∀ a ∈ A, H a ≠ none
  inM : ∀ a ∈ M, H a ≠ none
  noA : ∀ a ∈ A, ∀ vs, H a ≠ some (.tup vs)
  noM : ∀ a ∈ M, ∀ vs, H a ≠ some (.tup vs)
section
variable (K : PySem.W.Frag) (ct : Ct)
def rd (f : FE) : TE := fun σ H Q => ∃ G env S v S', Good K ct G σ H env S ∧ f env S = .ok (v, S') ∧
  ∀ x H' A', Post G.A H A' H' → StoOk K ct H' A' G.M S' → Rep K ct H' A' G.M v x → Q x H'
def rdT (f : FT) : TT := fun σ H Q => ∃ G env S v S', Good K ct G σ H env S ∧ f env S = .ok (v, S') ∧
  ∀ H' A', Post G.A H A' H' → StoOk K ct H' A' G.M S' → Q v H'
def rdA (f : FA) : TA := fun σ H Q => ∃ G env S v S', Good K ct G σ H env S ∧ f env S = .ok (v, S') ∧
  ∀ x H' A', Post G.A H A' H' → StoOk K ct H' A' G.M S' → RepL K ct H' A' G.M v x → Q x H'
/-- a new list or dict, hidden at once -/
def rdF (f : FE) : TE := fun σ H Q => ∃ G env S v S', Good K ct G σ H env S ∧ f env S = .ok (v, S') ∧
  ∀ p H' A', Post G.A H A' H' → H p = none → p ∉ A' → StoOk K ct H' A' (p :: G.M) S' → Cont K ct H' A' (p :: G.M) p v → Q (.ref p) H'
/-- what may be read at once, be it owned -/
def RepB (H : Hp) (A M : List Addr) (v : PV) (x : V) : Prop := Rep K ct H A M v x ∨ ∃ p, x = .ref p ∧ p ∈ M ∧ Cont K ct H A M p v
def rdB (f : FE) : TE := fun σ H Q => ∃ G env S v S', Good K ct G σ H env S ∧ f env S = .ok (v, S') ∧
  ∀ x H' A', Post G.A H A' H' → StoOk K ct H' A' G.M S' → RepB K ct H' A' G.M v x → Q x H'
def FlOk (G : Gh) (H : Hp) (D : Ends) : Fl → Prop
  | .nx e S => ∀ σ' H' A' M', Lat G.A G.M H A' M' H' → Good K ct { G with A := A', M := M' } σ' H' e S → D.nx σ' H'
  | .bk e S => ∀ σ' H' A' M', Lat G.A G.M H A' M' H' → Good K ct { G with A := A', M := M' } σ' H' e S → D.bk σ' H'
  | .ct e S => ∀ σ' H' A' M', Lat G.A G.M H A' M' H' → Good K ct { G with A := A', M := M' } σ' H' e S → D.ct σ' H'
  | .rt v S => ∀ x H' A', Post G.A0 G.H0 A' H' → StoOk K ct H' A' G.M0 S → Rep K ct H' A' G.M0 v x → D.rt x H'
def rdS (f : FS) : TS := fun D σ H => ∃ G env S fl, Good K ct G σ H env S ∧ f env S = .ok fl ∧ FlOk K ct G H D fl
end
structure JE (ct : Ct) (X : Cx) (e : Expr) (f : FE) : Prop where
  pe : PE X e (rd X.K ct f)
structure JF (ct : Ct) (X : Cx) (e : Expr) (f : FE) : Prop where
  pe : PE X e (rdF X.K ct f)
structure JB (ct : Ct) (X : Cx) (e : Expr) (f : FE) : Prop where
  pe : PE X e (rdB X.K ct f)
structure JT (ct : Ct) (X : Cx) (e : Expr) (f : FT) : Prop where
  pt : PT X e (rdT X.K ct f)
structure JW (ct : Ct) (X : Cx) (e : Expr) (f : FT) : Prop where
  pw : PW X e (rdT X.K ct f)
structure JA (ct : Ct) (X : Cx) (es : List Expr) (f : FA) : Prop where
  pa : PA X es (rdA X.K ct f)
structure JK (ct : Ct) (X : Cx) (es : List Keyword) (f : FA) : Prop where
  pk : PK X es (rdA X.K ct f)
structure JS (ct : Ct) (X : Cx) (st : Stmt) (f : FS) : Prop where
  ps : PS X st (rdS X.K ct f)
structure JSs (ct : Ct) (X : Cx) (st : List Stmt) (f : FS) : Prop where
  ps : PSs X st (rdS X.K ct f)

theorem _root_.L2.PE.imp {X : Cx} {e : Expr} {t t' : TE} (h : PE X e t) (i : ∀ σ H Q, t' σ H Q → t σ H Q) : PE X e t' := ⟨fun pins s σ H Q I q => h.run pins s σ H Q I (i σ H Q q)⟩
theorem _root_.L2.PT.imp {X : Cx} {e : Expr} {t t' : TT} (h : PT X e t) (i : ∀ σ H Q, t' σ H Q → t σ H Q) : PT X e t' := ⟨fun pins s σ H Q I q => h.run pins s σ H Q I (i σ H Q q)⟩
theorem _root_.L2.PW.imp {X : Cx} {e : Expr} {t t' : TT} (h : PW X e t) (i : ∀ σ H Q, t' σ H Q → t σ H Q) : PW X e t' := ⟨fun wh pins s σ H Q I q => h.run wh pins s σ H Q I (i σ H Q q)⟩
theorem _root_.L2.PA.imp {X : Cx} {e : List Expr} {t t' : TA} (h : PA X e t) (i : ∀ σ H Q, t' σ H Q → t σ H Q) : PA X e t' := ⟨fun pos pins s σ H Q I q => h.run pos pins s σ H Q I (i σ H Q q)⟩
theorem _root_.L2.PK.imp {X : Cx} {e : List Keyword} {t t' : TA} (h : PK X e t) (i : ∀ σ H Q, t' σ H Q → t σ H Q) : PK X e t' := ⟨fun pos pins s σ H Q I q => h.run pos pins s σ H Q I (i σ H Q q)⟩
theorem _root_.L2.PS.imp {X : Cx} {e : Stmt} {t t' : TS} (h : PS X e t) (i : ∀ D σ H, t' D σ H → t D σ H) : PS X e t' := ⟨fun pins s σ H Q I q => h.run pins s σ H Q I (i Q σ H q)⟩
theorem _root_.L2.PSs.imp {X : Cx} {e : List Stmt} {t t' : TS} (h : PSs X e t) (i : ∀ D σ H, t' D σ H → t D σ H) : PSs X e t' := ⟨fun pins s σ H Q I q => h.run pins s σ H Q I (i Q σ H q)⟩

theorem Good.hx {K : PySem.W.Frag} {ct : Ct} {G : Gh} {σ : St} {H : Hp} {env : Env} {S : Sto} (g : Good K ct G σ H env S) : Hx G.A G.M H := ⟨g.bs.nodup, g.inA, g.bs.inM, fun a ha vs e => by
  obtain ⟨n, hn, rfl⟩ := List.mem_iff_getElem.mp ha
  have hs : n < S.length := by rw [g.bs.sto.len]; exact hn
  obtain ⟨us, h, _⟩ := g.bs.sto.at' n _ S[n] (List.getElem?_eq_getElem hn) (List.getElem?_eq_getElem hs)
  exact absurd (e.symm.trans h) (by simp), g.bs.noT⟩

/-! ### the pure words -/
def eV (i : Nat) : FE := fun env S => match env[i]? with
  | some (.val v) => .ok (v, S)
  | _ => .err
/-- a name that owns, read at once -/
def eO (i : Nat) : FE := fun env S => match env[i]? with
  | some (.own v) => .ok (v, S)
  | _ => .err
def eC (v : PV) : FE := fun _ S => .ok (v, S)
def eX : FE := fun _ _ => .err
def eOp (op : PV → PV → Option PV) (a b : FE) : FE := fun env S => (a env S).bind fun x => (b env x.2).bind fun y => (ofO (op x.1 y.1)).bind fun z => .ok (z, y.2)
def eUn (op : PV → Option PV) (a : FE) : FE := fun env S => (a env S).bind fun x => (ofO (op x.1)).bind fun z => .ok (z, x.2)
def eAnd (a b : FE) : FE := fun env S => (a env S).bind fun x => match x.1 with
  | .bl true => b env x.2
  | .bl false => .ok (.bl false, x.2)
  | _ => .err
def eOr (a b : FE) : FE := fun env S => (a env S).bind fun x => match x.1 with
  | .bl true => .ok (.bl true, x.2)
  | .bl false => b env x.2
  | _ => .err
def pNot : PV → Option PV
  | .bl b => some (.bl (!b))
  | _ => none
def tV (a : FE) : FT := fun env S => (a env S).bind fun x => match x.1 with
  | .bl b => .ok (b, x.2)
  | _ => .err
def tAn (a b : FT) : FT := fun env S => (a env S).bind fun x => if x.1 then b env x.2 else .ok (false, x.2)
def tOrr (a b : FT) : FT := fun env S => (a env S).bind fun x => if x.1 then .ok (true, x.2) else b env x.2
def tNo (a : FT) : FT := fun env S => (a env S).bind fun x => .ok (!x.1, x.2)
def eIf (c : FT) (a b : FE) : FE := fun env S => (c env S).bind fun x => if x.1 then a env x.2 else b env x.2
def aNil : FA := fun _ S => .ok ([], S)
def aCons (a : FE) (r : FA) : FA := fun env S => (a env S).bind fun x => (r env x.2).bind fun y => .ok (x.1 :: y.1, y.2)
def eB (op : List PV → Option PV) (a : FA) : FE := fun env S => (a env S).bind fun x => (ofO (op x.1)).bind fun z => .ok (z, x.2)
def eCall (f : List PV → Sto → Res (PV × Sto)) (a : FA) : FE := fun env S => (a env S).bind fun x => f x.1 x.2
def sNext : FS := fun env S => .ok (.nx env S)
def sX : FS := fun _ _ => .err
def sBreak : FS := fun env S => .ok (.bk env S)
def sCont : FS := fun env S => .ok (.ct env S)
def sSeq (a b : FS) : FS := fun env S => (a env S).bind fun r => match r with
  | .nx e S' => b e S'
  | x => .ok x
def sRet (a : FE) : FS := fun env S => (a env S).bind fun x => .ok (.rt x.1 x.2)
def sIf (c : FT) (a b : FS) : FS := fun env S => (c env S).bind fun x => if x.1 then a env x.2 else b env x.2
def sSet (i : Nat) (a : FE) : FS := fun env S => (a env S).bind fun x => .ok (.nx (env.set i (.val x.1)) x.2)
def sOwn (i : Nat) (a : FE) : FS := fun env S => (a env S).bind fun x => .ok (.nx (env.set i (.own x.1)) x.2)
def sDrop (a : FE) : FS := fun env S => (a env S).bind fun x => .ok (.nx env x.2)
def frz (i : Nat) (env : Env) : Env := match env[i]? with
  | some (.own v) => env.set i (.val v)
  | _ => env
def sFrz (i : Nat) (a : FS) : FS := fun env S => a (frz i env) S

section
variable {ct : Ct} {X : Cx} {e a b c : Expr} {fa fb fe : FE} {pos : Pos}
theorem je_never : JE ct X e eX := ⟨⟨fun _ _ _ _ _ _ h => by obtain ⟨_, _, _, _, _, _, h, _⟩ := h; cases h⟩⟩
theorem je_var (i : Nat) {x : Str} (hN : X.N[i]? = some x := by rfl) (hv : Vis X.env.scope x := by first | exact Or.inl rfl | exact Or.inr (Or.inl rfl) | exact Or.inr (Or.inr rfl)) (hd : (x == ("__debug__" : Str)) = false := by decide) (hcd : (x == ("__classdict__" : Str)) = false := by decide) : JE ct X (.Name x pos) (eV i) := by
  refine ⟨(pe_var hN hv hd hcd).imp fun σ H Q h => ?_⟩
  obtain ⟨G, env, S, v, S', g, h1, q⟩ := h
  unfold eV at h1
  split at h1
  · rename_i w hw
    cases h1
    obtain ⟨x, h2, r⟩ := g.slot i _ hw
    exact ⟨x, h2, q x H G.A (Post.refl H g.bs.nodup) g.bs.sto r⟩
  · cases h1
theorem jb_own (i : Nat) {x : Str} (hN : X.N[i]? = some x := by rfl) (hv : Vis X.env.scope x := by first | exact Or.inl rfl | exact Or.inr (Or.inl rfl) | exact Or.inr (Or.inr rfl)) (hd : (x == ("__debug__" : Str)) = false := by decide) (hcd : (x == ("__classdict__" : Str)) = false := by decide) : JB ct X (.Name x pos) (eO i) := by
  refine ⟨(pe_var hN hv hd hcd).imp fun σ H Q h => ?_⟩
  obtain ⟨G, env, S, v, S', g, h1, q⟩ := h
  unfold eO at h1
  split at h1
  · rename_i w hw
    cases h1
    obtain ⟨p, h2, h3, h4, r⟩ := g.slot i _ hw
    exact ⟨.ref p, h2, q _ H G.A (Post.refl H g.bs.nodup) g.bs.sto (.inr ⟨p, rfl, h3, r⟩)⟩
  · cases h1
theorem je_const {v : PV} {x : V} (h : PE X e (tC x)) (r : ∀ H A M, Rep X.K ct H A M v x) : JE ct X e (eC v) := by
  refine ⟨h.imp fun σ H Q h => ?_⟩
  obtain ⟨G, env, S, v, S', g, h1, q⟩ := h
  cases h1
  exact q x H G.A (Post.refl H g.bs.nodup) g.bs.sto (r H G.A G.M)
theorem je_int {i : Int} {j} : JE ct X (.Constant (.int i) j pos) (eC (.int i)) := je_const pe_int fun _ _ _ => Rep.int_iff.mpr rfl
theorem je_bl {i : Bool} {j} : JE ct X (.Constant (.bool i) j pos) (eC (.bl i)) := je_const pe_bl fun _ _ _ => Rep.bl_iff.mpr rfl
theorem je_str {i : Str} {j} : JE ct X (.Constant (.str i) j pos) (eC (.str i)) := je_const pe_str fun _ _ _ => Rep.str_iff.mpr rfl
theorem je_non {j} : JE ct X (.Constant .none j pos) (eC .non) := je_const pe_non fun _ _ _ => Rep.non_iff.mpr rfl
theorem je_globI {x : Str} {i : Int} {t : Tok} (hg : Gl X x) (hm : X.mg x = some (.int i t)) (hd : (x == ("__debug__" : Str)) = false := by decide) : JE ct X (.Name x pos) (eC (.int i)) := je_const (pe_glob (v := .int i) hg hm ⟨t, rfl⟩ hd) fun _ _ _ => Rep.int_iff.mpr rfl
theorem je_globS {x : Str} {i : Str} {t : Tok} (hg : Gl X x) (hm : X.mg x = some (.str i t)) (hd : (x == ("__debug__" : Str)) = false := by decide) : JE ct X (.Name x pos) (eC (.str i)) := je_const (pe_glob (v := .str i) hg hm ⟨t, rfl⟩ hd) fun _ _ _ => Rep.str_iff.mpr rfl

/-- a two-place operation by values: r does what op says -/
def OpOk (K : PySem.W.Frag) (ct : Ct) (r : R2) (op : PV → PV → Option PV) : Prop := ∀ (H : Hp) (A M : List Addr) (x y : V) (vx vy v : PV) (Q : VK), Hx A M H → RepB K ct H A M vx x → RepB K ct H A M vy y → op vx vy = some v →
  (∀ z H', Same H H' → Rep K ct H' A M v z → Q z H') → r x y H Q
theorem je_jb (h : JE ct X e fe) : JB ct X e fe := ⟨h.pe.imp fun σ H Q ⟨G, env, S, v, S', g, h1, q⟩ => ⟨G, env, S, v, S', g, h1, fun x H' A' p s r => q x H' A' p s (.inl r)⟩⟩
theorem RepB.lat {K : PySem.W.Frag} {A M A' : List Addr} {H H' : Hp} {v : PV} {x : V} (p : Post A H A' H') (d : ∀ a ∈ M, a ∉ A) (h : RepB K ct H A M v x) : RepB K ct H' A' M v x := by
  rcases h with h | ⟨q, e, hq, c⟩
  · exact .inl (h.lat (p.lat M) v x)
  · obtain ⟨o, ho⟩ := c.there
    exact .inr ⟨q, e, hq, c.lat (p.lat M) ((p.ext q o ho (d q hq)).trans ho.symm)⟩
theorem rd_op {K : PySem.W.Frag} {op : PV → PV → Option PV} {r : R2} (ho : OpOk K ct r op) {σ : St} {H : Hp} {Q : VK} (h : rd K ct (eOp op fa fb) σ H Q) : tOp r (rdB K ct fa) (rdB K ct fb) σ H Q := by
  obtain ⟨G, env, S, v, S', g, h1, q⟩ := h
  obtain ⟨⟨x, S1⟩, e1, h1⟩ := Res.bind_ok h1
  obtain ⟨⟨y, S2⟩, e2, h1⟩ := Res.bind_ok h1
  obtain ⟨z, e3, h1⟩ := Res.bind_ok h1
  cases h1
  refine ⟨G, env, S, x, S1, g, e1, fun x' H1 A1 p1 s1 r1 => ⟨{ G with A := A1 }, env, S1, y, _, g.post p1 s1, e2, fun y' H2 A2 p2 s2 r2 => ?_⟩⟩
  have g2 := (g.post p1 s1).post p2 s2
  refine ho H2 A2 G.M x' y' x y v Q g2.hx (r1.lat p2 (g.post p1 s1).bs.disj) r2 (ofO_ok e3) fun z H3 sm r3 => q z H3 A2 ((p1.trans p2).trans (Post.grow g2.bs.nodup sm)) (s2.grow g2.bs.nodup sm) r3
theorem je_op {o : Operator} {r : R2} {op : PV → PV → Option PV} (hr : OpR X (binaryOp o) r) (ho : OpOk X.K ct r op) (ha : JB ct X a fa) (hb : JB ct X b fb) : JE ct X (.BinOp a o b pos) (eOp op fa fb) :=
  ⟨(pe_op hr ha.pe hb.pe).imp fun _ _ _ h => rd_op ho h⟩
theorem je_cmp {o : CmpOp} {r : R2} {op : PV → PV → Option PV} (hr : OpR X (compareOp o) r) (ho : OpOk X.K ct r op) (ha : JB ct X a fa) (hb : JB ct X b fb) (hm : behindInMarks o b = false := by first | exact nomark _ | rfl) : JE ct X (.Compare a [o] [b] pos) (eOp op fa fb) :=
  ⟨(pe_cmpR hr ha.pe hb.pe hm).imp fun _ _ _ h => rd_op ho h⟩
theorem rdT_tTest {K : PySem.W.Frag} {f : FE} {t : TE} (i : ∀ σ H Q, rd K ct f σ H Q → t σ H Q) {σ : St} {H : Hp} {Q : Bool → Hp → Prop} (h : rdT K ct (tV f) σ H Q) : tTest t σ H Q := by
  obtain ⟨G, env, S, v, S', g, h1, q⟩ := h
  obtain ⟨⟨x, S1⟩, e1, h1⟩ := Res.bind_ok h1
  refine i σ H _ ⟨G, env, S, x, S1, g, e1, fun y H' A' p s r => ?_⟩
  dsimp only at h1
  split at h1
  · rename_i b hb
    cases h1
    exact ⟨_, Rep.bl_iff.mp r, q H' A' p s⟩
  · cases h1
theorem jt_cmp {o : CmpOp} {r : R2} {op : PV → PV → Option PV} (hr : OpR X (compareOp o) r) (ho : OpOk X.K ct r op) (ha : JB ct X a fa) (hb : JB ct X b fb) (hm : behindInMarks o b = false := by first | exact nomark _ | rfl) : JT ct X (.Compare a [o] [b] pos) (tV (eOp op fa fb)) :=
  ⟨(pt_cmpR hr ha.pe hb.pe hm).imp fun _ _ _ h => rdT_tTest (fun _ _ _ z => rd_op ho z) h⟩
theorem jt_val (h : JE ct X e fe) (he : ∀ whole, isTrue e X.env whole = (do let v ← whole; standAt e.pos; holding [v] (truthy v)) := by intro _; rfl) : JT ct X e (tV fe) :=
  ⟨(pt_val h.pe he).imp fun _ _ _ h => rdT_tTest (fun _ _ _ z => z) h⟩
theorem je_un {o : UnaryOp} {r : V → Hp → VK → Prop} {op : PV → Option PV} (hr : UnR X (unaryOp o) r)
    (ho : ∀ (H : Hp) (A M : List Addr) (x : V) (vx v : PV) (Q : VK), Rep X.K ct H A M vx x → op vx = some v → (∀ z, (∀ H A M, Rep X.K ct H A M v z) → Q z H) → r x H Q) (ha : JE ct X a fa) : JE ct X (.UnaryOp o a pos) (eUn op fa) := by
  refine ⟨(pe_un hr ha.pe).imp fun σ H Q h => ?_⟩
  obtain ⟨G, env, S, v, S', g, h1, q⟩ := h
  obtain ⟨⟨x, S1⟩, e1, h1⟩ := Res.bind_ok h1
  obtain ⟨z, e3, h1⟩ := Res.bind_ok h1
  cases h1
  exact ⟨G, env, S, x, _, g, e1, fun x' H1 A1 p1 s1 r1 => ho H1 A1 G.M x' x v Q r1 (ofO_ok e3) fun z rz => q z H1 A1 p1 s1 (rz H1 A1 G.M)⟩
theorem je_not (ha : JE ct X a fa) : JE ct X (.UnaryOp .Not a pos) (eUn pNot fa) := by
  refine ⟨(pe_not ha.pe).imp fun σ H Q h => ?_⟩
  obtain ⟨G, env, S, v, S', g, h1, q⟩ := h
  obtain ⟨⟨x, S1⟩, e1, h1⟩ := Res.bind_ok h1
  obtain ⟨z, e3, h1⟩ := Res.bind_ok h1
  cases h1
  refine ⟨G, env, S, x, _, g, e1, fun x' H1 A1 p1 s1 r1 => ?_⟩
  have e4 := ofO_ok e3
  cases x with
  | bl b =>
    cases e4
    exact ⟨b, Rep.bl_iff.mp r1, q _ H1 A1 p1 s1 (Rep.bl_iff.mpr rfl)⟩
  | _ => cases e4
theorem je_one {o} (h : JE ct X a fa) : JE ct X (.BoolOp o [a] pos) fa := ⟨pe_one h.pe⟩
variable {rest : List Expr}
theorem je_and (ha : JE ct X a fa) (hb : JE ct X (.BoolOp .And (b :: rest) pos) fb) : JE ct X (.BoolOp .And (a :: b :: rest) pos) (eAnd fa fb) := by
  refine ⟨(pe_and ha.pe hb.pe).imp fun σ H Q h => ?_⟩
  obtain ⟨G, env, S, v, S', g, h1, q⟩ := h
  obtain ⟨⟨x, S1⟩, e1, h1⟩ := Res.bind_ok h1
  refine ⟨G, env, S, x, S1, g, e1, fun x' H1 A1 p1 s1 r1 => ?_⟩
  dsimp only at h1
  split at h1
  · refine ⟨true, Rep.bl_iff.mp r1, ?_⟩
    rw [if_pos rfl]
    exact ⟨{ G with A := A1 }, env, S1, v, S', g.post p1 s1, h1, fun y H2 A2 p2 s2 r2 => q y H2 A2 (p1.trans p2) s2 r2⟩
  · cases h1
    refine ⟨false, Rep.bl_iff.mp r1, ?_⟩
    rw [if_neg falseNe]
    exact q _ H1 A1 p1 s1 (Rep.bl_iff.mpr rfl)
  · cases h1
theorem je_or (ha : JE ct X a fa) (hb : JE ct X (.BoolOp .Or (b :: rest) pos) fb) : JE ct X (.BoolOp .Or (a :: b :: rest) pos) (eOr fa fb) := by
  refine ⟨(pe_or ha.pe hb.pe).imp fun σ H Q h => ?_⟩
  obtain ⟨G, env, S, v, S', g, h1, q⟩ := h
  obtain ⟨⟨x, S1⟩, e1, h1⟩ := Res.bind_ok h1
  refine ⟨G, env, S, x, S1, g, e1, fun x' H1 A1 p1 s1 r1 => ?_⟩
  dsimp only at h1
  split at h1
  · cases h1
    refine ⟨true, Rep.bl_iff.mp r1, ?_⟩
    rw [if_pos rfl]
    exact q _ H1 A1 p1 s1 (Rep.bl_iff.mpr rfl)
  · refine ⟨false, Rep.bl_iff.mp r1, ?_⟩
    rw [if_neg falseNe]
    exact ⟨{ G with A := A1 }, env, S1, v, S', g.post p1 s1, h1, fun y H2 A2 p2 s2 r2 => q y H2 A2 (p1.trans p2) s2 r2⟩
  · cases h1
variable {ta tb : FT}
theorem jw_and1 (h : JT ct X a ta) : JW ct X (.BoolOp .And [a] pos) ta := ⟨pw_and1 h.pt⟩
theorem jw_or1 (h : JT ct X a ta) : JW ct X (.BoolOp .Or [a] pos) ta := ⟨pw_or1 h.pt⟩
theorem jw_and (ha : JT ct X a ta) (hb : JW ct X (.BoolOp .And (b :: rest) pos) tb) : JW ct X (.BoolOp .And (a :: b :: rest) pos) (tAn ta tb) := by
  refine ⟨(pw_and ha.pt hb.pw).imp fun σ H Q h => ?_⟩
  obtain ⟨G, env, S, v, S', g, h1, q⟩ := h
  obtain ⟨⟨x, S1⟩, e1, h1⟩ := Res.bind_ok h1
  refine ⟨G, env, S, x, S1, g, e1, fun H1 A1 p1 s1 => ?_⟩
  cases x with
  | true =>
    rw [if_pos rfl]
    exact ⟨{ G with A := A1 }, env, S1, v, S', g.post p1 s1, h1, fun H2 A2 p2 s2 => q H2 A2 (p1.trans p2) s2⟩
  | false =>
    cases h1
    rw [if_neg falseNe]
    exact q H1 A1 p1 s1
theorem jw_or (ha : JT ct X a ta) (hb : JW ct X (.BoolOp .Or (b :: rest) pos) tb) : JW ct X (.BoolOp .Or (a :: b :: rest) pos) (tOrr ta tb) := by
  refine ⟨(pw_or ha.pt hb.pw).imp fun σ H Q h => ?_⟩
  obtain ⟨G, env, S, v, S', g, h1, q⟩ := h
  obtain ⟨⟨x, S1⟩, e1, h1⟩ := Res.bind_ok h1
  refine ⟨G, env, S, x, S1, g, e1, fun H1 A1 p1 s1 => ?_⟩
  cases x with
  | true =>
    cases h1
    rw [if_pos rfl]
    exact q H1 A1 p1 s1
  | false =>
    rw [if_neg falseNe]
    exact ⟨{ G with A := A1 }, env, S1, v, S', g.post p1 s1, h1, fun H2 A2 p2 s2 => q H2 A2 (p1.trans p2) s2⟩
theorem jt_w (h : JW ct X e ta) : JT ct X e ta := ⟨h.pw.pt⟩
theorem jt_not (h : JT ct X a ta) : JT ct X (.UnaryOp .Not a pos) (tNo ta) := by
  refine ⟨(pt_not h.pt).imp fun σ H Q h => ?_⟩
  obtain ⟨G, env, S, v, S', g, h1, q⟩ := h
  obtain ⟨⟨x, S1⟩, e1, h1⟩ := Res.bind_ok h1
  cases h1
  exact ⟨G, env, S, x, _, g, e1, q⟩
theorem je_if {c : Expr} {tc : FT} (hc : JT ct X c tc) (ha : JE ct X a fa) (hb : JE ct X b fb) : JE ct X (.IfExp c a b pos) (eIf tc fa fb) := by
  refine ⟨(pe_ifExp hc.pt ha.pe hb.pe).imp fun σ H Q h => ?_⟩
  obtain ⟨G, env, S, v, S', g, h1, q⟩ := h
  obtain ⟨⟨x, S1⟩, e1, h1⟩ := Res.bind_ok h1
  refine ⟨G, env, S, x, S1, g, e1, fun H1 A1 p1 s1 => ?_⟩
  cases x with
  | true =>
    rw [if_pos rfl]
    exact ⟨{ G with A := A1 }, env, S1, v, S', g.post p1 s1, h1, fun y H2 A2 p2 s2 r2 => q y H2 A2 (p1.trans p2) s2 r2⟩
  | false =>
    rw [if_neg falseNe]
    exact ⟨{ G with A := A1 }, env, S1, v, S', g.post p1 s1, h1, fun y H2 A2 p2 s2 r2 => q y H2 A2 (p1.trans p2) s2 r2⟩
/-! ### arguments, displays -/
variable {es : List Expr} {fr : FA}
theorem ja_nil : JA ct X [] aNil := by
  refine ⟨pa_nil.imp fun σ H Q h => ?_⟩
  obtain ⟨G, env, S, v, S', g, h1, q⟩ := h
  cases h1
  exact q [] H G.A (Post.refl H g.bs.nodup) g.bs.sto .nil
theorem rdA_cons {K : PySem.W.Frag} {σ : St} {H : Hp} {Q : List V → Hp → Prop} (h : rdA K ct (aCons fa fr) σ H Q) : tCons (rd K ct fa) (rdA K ct fr) σ H Q := by
  obtain ⟨G, env, S, v, S', g, h1, q⟩ := h
  obtain ⟨⟨x, S1⟩, e1, h1⟩ := Res.bind_ok h1
  obtain ⟨⟨y, S2⟩, e2, h1⟩ := Res.bind_ok h1
  cases h1
  refine ⟨G, env, S, x, S1, g, e1, fun x' H1 A1 p1 s1 r1 => ⟨{ G with A := A1 }, env, S1, y, _, g.post p1 s1, e2, fun y' H2 A2 p2 s2 r2 => ?_⟩⟩
  exact q _ H2 A2 (p1.trans p2) s2 (.cons (r1.lat (p2.lat G.M) x x') r2)
theorem ja_cons (ha : JE ct X a fa) (hr : JA ct X es fr) (hs : starEach (a :: es) X.env = (false, eval a X.env) :: starEach es X.env := by rfl) : JA ct X (a :: es) (aCons fa fr) :=
  ⟨(pa_cons ha.pe hr.pa hs).imp fun _ _ _ h => rdA_cons h⟩
theorem jk_nil : JK ct X [] aNil := by
  refine ⟨pk_nil.imp fun σ H Q h => ?_⟩
  obtain ⟨G, env, S, v, S', g, h1, q⟩ := h
  cases h1
  exact q [] H G.A (Post.refl H g.bs.nodup) g.bs.sto .nil
theorem jk_cons {nm : Option Str} {kpos : Pos} {kws : List Keyword} (ha : JE ct X a fa) (hr : JK ct X kws fr) : JK ct X (⟨nm, a, kpos⟩ :: kws) (aCons fa fr) := ⟨(pk_cons ha.pe hr.pk).imp fun _ _ _ h => rdA_cons h⟩
def szV (xs : List PV) : Bool := decide (xs.length ≤ sizeLine)
def pTup (xs : List PV) : Option PV := if xs.length ≤ 1000000 then some (.tup xs) else none
def pLst (xs : List PV) : Option PV := if xs.length ≤ 1000000 then some (.lst xs) else none
theorem sz_mil {n : Nat} (h : n ≤ 1000000) : n ≤ sizeLine := Nat.le_trans h (by decide)
theorem je_tup {k} (h : JA ct X es fr) : JE ct X (.Tuple es k pos) (eB pTup fr) := by
  refine ⟨(pe_tup h.pa).imp fun σ H Q h => ?_⟩
  obtain ⟨G, env, S, v, S', g, h1, q⟩ := h
  obtain ⟨⟨x, S1⟩, e1, h1⟩ := Res.bind_ok h1
  obtain ⟨z, e3, h1⟩ := Res.bind_ok h1
  cases h1
  have e4 := ofO_ok e3
  unfold pTup at e4
  split at e4
  · rename_i hz
    cases e4
    refine ⟨G, env, S, x, _, g, e1, fun xs H1 A1 p1 s1 r1 => ⟨by rw [r1.length]; exact sz_mil hz, fun p np => ?_⟩⟩
    have g1 := g.post p1 s1
    exact q _ _ A1 (p1.trans (Post.grow g1.bs.nodup (same_new np))) (s1.grow g1.bs.nodup (same_new np)) (Rep.new_tup r1 np g1.inA g1.bs.inM g1.bs.nodup)
  · cases e4
theorem jf_je (h : JF ct X e fe) : JE ct X e fe := by
  refine ⟨⟨fun pins s σ H Q I hq => ?_⟩⟩
  obtain ⟨G, env, S, v, S', g, h1, q⟩ := hq
  have hQ : rdF X.K ct fe σ H (fun x H' => ∃ p A', x = .ref p ∧ Post G.A H A' H' ∧ H p = none ∧ p ∉ A' ∧ StoOk X.K ct H' A' (p :: G.M) S' ∧ Cont X.K ct H' A' (p :: G.M) p v) := ⟨G, env, S, v, S', g, h1, fun p H' A' k1 k2 k3 k4 k5 => ⟨p, A', rfl, k1, k2, k3, k4, k5⟩⟩
  refine thn (h.pe.run pins s σ H _ I hQ) fun u s1 ⟨x, H', I', rv, p, A', ex, pp, np, hA, s, c⟩ => ?_
  subst ex
  have hM : p ∉ G.M := fun z => g.bs.inM p z np
  have l : Lat A' (p :: G.M) H' A' G.M H' := lat_less fun a ha => List.mem_cons_of_mem _ ha
  have s0 := s.less (M' := G.M) fun a ha => List.mem_cons_of_mem _ ha
  cases v with
  | lst xs =>
    obtain ⟨vs, h2, h3⟩ := c
    refine ⟨.ref p, H', I', rv, q _ H' A' pp s0 ?_⟩
    simp only [Rep]
    exact ⟨p, vs, rfl, ⟨h2, hA, hM⟩, h3.lat l xs vs⟩
  | dic tt ks xs =>
    have lock : ∀ (u0 : HO), H' p = some u0 → Mut (some u0) → ∃ od, Inv X pins σ (upd H' p (.frz od u0)) s1 := fun u0 e mu => I'.lock e mu
    have lu : ∀ (o' : HO), Lat A' (p :: G.M) H' A' G.M (upd H' p o') := fun o' => (lat_upd (o := o') (.inr List.mem_cons_self)).trans (lat_less fun a ha => List.mem_cons_of_mem _ ha)
    have pu : ∀ (o' : HO), Post G.A H A' (upd H' p o') := fun o' => ⟨pp.pre, fun a o k1 k2 => by
      rw [upd_ne (fun z => by subst z; rw [np] at k1; cases k1)]; exact pp.ext a o k1 k2, pp.new, pp.nodup⟩
    have su : ∀ (o' : HO), StoOk X.K ct (upd H' p o') A' G.M S' := fun o' => ⟨s.len, fun n a us k1 k2 => by
      obtain ⟨ws, k3, k4⟩ := s.at' n a us k1 k2
      exact ⟨ws, by rw [upd_ne (fun z => hA (by rw [← z]; exact List.mem_of_getElem? k1))]; exact k3, k4.lat (lu o') us ws⟩⟩
    rcases c with ⟨ht, ws, h2, h3, h4⟩ | ⟨ht, ws, h2, h3, h4⟩
    · obtain ⟨od, I2⟩ := lock _ h2 trivial
      refine ⟨.ref p, _, I2, rv, q _ _ A' (pu _) (su _) ?_⟩
      simp only [Rep]
      exact ⟨p, rfl, .inl ⟨ht, ws, ⟨⟨od, upd_same⟩, hA, hM⟩, h3, h4.lat (lu _) xs _⟩⟩
    · obtain ⟨od, I2⟩ := lock _ h2 trivial
      refine ⟨.ref p, _, I2, rv, q _ _ A' (pu _) (su _) ?_⟩
      simp only [Rep]
      exact ⟨p, rfl, .inr ⟨ht, ws, ⟨⟨od, upd_same⟩, hA, hM⟩, h3, h4.lat (lu _) xs _⟩⟩
  | _ => exact False.elim c
/-- from a new object's place in a reading -/
theorem fresh_lst {K : PySem.W.Frag} {G : Gh} {σ : St} {env : Env} {H H1 : Hp} {S S1 : Sto} {A1 : List Addr} {xs : List PV} {vs : List V} (g : Good K ct G σ H env S) (p1 : Post G.A H A1 H1) (s1 : StoOk K ct H1 A1 G.M S1) (r1 : RepL K ct H1 A1 G.M xs vs) {p : Addr} (np : H1 p = none) :
    Post G.A H A1 (upd H1 p (.lst vs)) ∧ H p = none ∧ p ∉ A1 ∧ StoOk K ct (upd H1 p (.lst vs)) A1 (p :: G.M) S1 ∧ Cont K ct (upd H1 p (.lst vs)) A1 (p :: G.M) p (.lst xs) := by
  have g1 := g.post p1 s1
  have sm : Same H1 (upd H1 p (.lst vs)) := same_new np
  refine ⟨p1.trans (Post.grow g1.bs.nodup sm), ?_, fun z => g1.inA p z np, ?_, vs, upd_same, r1.lat (lat_hide np sm) xs vs⟩
  · cases e : H p with
    | none => rfl
    | some o =>
      by_cases ha : p ∈ G.A
      · exact absurd np (g1.inA p (p1.pre.subset ha))
      · rw [p1.ext p o e ha] at np; cases np
  · exact (g1.hide np sm (by rw [upd_same]; simp) (by rw [upd_same]; simp)).bs.sto
theorem jf_lst (h : JA ct X es fr) : JF ct X (.List es pos) (eB pLst fr) := by
  refine ⟨(pe_lst h.pa).imp fun σ H Q h => ?_⟩
  obtain ⟨G, env, S, v, S', g, h1, q⟩ := h
  obtain ⟨⟨x, S1⟩, e1, h1⟩ := Res.bind_ok h1
  obtain ⟨z, e3, h1⟩ := Res.bind_ok h1
  cases h1
  have e4 := ofO_ok e3
  unfold pLst at e4
  split at e4
  · rename_i hz
    cases e4
    refine ⟨G, env, S, x, _, g, e1, fun xs H1 A1 p1 s1 r1 => ⟨by rw [r1.length]; exact sz_mil hz, fun p np => ?_⟩⟩
    obtain ⟨k1, k2, k3, k4, k5⟩ := fresh_lst g p1 s1 r1 np
    exact q p _ A1 k1 k2 k3 k4 k5
  · cases e4

/-! ### built-ins by values -/
def CallOk (K : PySem.W.Frag) (ct : Ct) (r : List V → Hp → VK → Prop) (op : List PV → Option PV) : Prop := ∀ (H : Hp) (A M : List Addr) (xs : List V) (vs : List PV) (v : PV) (Q : VK), Hx A M H → RepL K ct H A M vs xs → op vs = some v →
  (∀ z H', Same H H' → Rep K ct H' A M v z → Q z H') → r xs H Q
/-- one that makes a new list -/
def FreshOk (K : PySem.W.Frag) (ct : Ct) (r : List V → Hp → VK → Prop) (op : List PV → Option PV) : Prop := ∀ (H : Hp) (A M : List Addr) (xs : List V) (vs : List PV) (v : PV) (Q : VK), Hx A M H → RepL K ct H A M vs xs → op vs = some v →
  (∀ p ys zs, H p = none → v = .lst ys → RepL K ct H A M ys zs → Q (.ref p) (upd H p (.lst zs))) → r xs H Q
theorem rd_callB {K : PySem.W.Frag} {op : List PV → Option PV} {r : List V → Hp → VK → Prop} (ho : CallOk K ct r op) {σ : St} {H : Hp} {Q : VK} (h : rd K ct (eB op fr) σ H Q) : tCB r (rdA K ct fr) σ H Q := by
  obtain ⟨G, env, S, v, S', g, h1, q⟩ := h
  obtain ⟨⟨x, S1⟩, e1, h1⟩ := Res.bind_ok h1
  obtain ⟨z, e3, h1⟩ := Res.bind_ok h1
  cases h1
  refine ⟨G, env, S, x, _, g, e1, fun xs H1 A1 p1 s1 r1 => ?_⟩
  have g1 := g.post p1 s1
  exact ho H1 A1 G.M xs x v Q g1.hx r1 (ofO_ok e3) fun z H2 sm r2 => q z H2 A1 (p1.trans (Post.grow g1.bs.nodup sm)) (s1.grow g1.bs.nodup sm) r2
theorem rdF_callB {K : PySem.W.Frag} {op : List PV → Option PV} {r : List V → Hp → VK → Prop} (ho : FreshOk K ct r op) {σ : St} {H : Hp} {Q : VK} (h : rdF K ct (eB op fr) σ H Q) : tCB r (rdA K ct fr) σ H Q := by
  obtain ⟨G, env, S, v, S', g, h1, q⟩ := h
  obtain ⟨⟨x, S1⟩, e1, h1⟩ := Res.bind_ok h1
  obtain ⟨z, e3, h1⟩ := Res.bind_ok h1
  cases h1
  refine ⟨G, env, S, x, _, g, e1, fun xs H1 A1 p1 s1 r1 => ?_⟩
  have g1 := g.post p1 s1
  refine ho H1 A1 G.M xs x v Q g1.hx r1 (ofO_ok e3) fun p ys zs np ev ry => ?_
  subst ev
  obtain ⟨k1, k2, k3, k4, k5⟩ := fresh_lst g p1 s1 ry np
  exact q p _ A1 k1 k2 k3 k4 k5
variable {x : Str} {p : Pos} {id : String} {r : List V → Hp → VK → Prop} {op : List PV → Option PV}
theorem je_callB (hc : CallR X (.builtin id) r) (ho : CallOk X.K ct r op) (hm : X.mg x = none) (ha : JA ct X (a :: es) fr) (hg : Gl X x := by rfl) (hv : bootBuiltins x = some (.builtin id) := by decide +kernel) (hn : x ≠ "__name__" := by decide) (hdb : (x == ("__debug__" : Str)) = false := by decide)
    (he : starEach (a :: es) X.env = (false, eval a X.env) :: starEach es X.env := by rfl) (hpl : (backTo pos (starEach es X.env)).any (·.1) = false := by rfl) : JE ct X (.Call (.Name x p) (a :: es) [] pos) (eB op fr) :=
  ⟨(pe_callB hc hg hm hv ha.pa hn hdb he hpl).imp fun _ _ _ h => rd_callB ho h⟩
theorem je_callT (hc : CallR X (.type id) r) (ho : CallOk X.K ct r op) (hm : X.mg x = none) (ha : JA ct X (a :: es) fr) (hg : Gl X x := by rfl) (hv : bootBuiltins x = some (.type id) := by decide +kernel) (hn : x ≠ "__name__" := by decide) (hdb : (x == ("__debug__" : Str)) = false := by decide)
    (he : starEach (a :: es) X.env = (false, eval a X.env) :: starEach es X.env := by rfl) (hpl : (backTo pos (starEach es X.env)).any (·.1) = false := by rfl) : JE ct X (.Call (.Name x p) (a :: es) [] pos) (eB op fr) :=
  ⟨(pe_callTy hc hg hm hv ha.pa hn hdb he hpl).imp fun _ _ _ h => rd_callB ho h⟩
theorem jf_callB (hc : CallR X (.builtin id) r) (ho : FreshOk X.K ct r op) (hm : X.mg x = none) (ha : JA ct X (a :: es) fr) (hg : Gl X x := by rfl) (hv : bootBuiltins x = some (.builtin id) := by decide +kernel) (hn : x ≠ "__name__" := by decide) (hdb : (x == ("__debug__" : Str)) = false := by decide)
    (he : starEach (a :: es) X.env = (false, eval a X.env) :: starEach es X.env := by rfl) (hpl : (backTo pos (starEach es X.env)).any (·.1) = false := by rfl) : JF ct X (.Call (.Name x p) (a :: es) [] pos) (eB op fr) :=
  ⟨(pe_callB hc hg hm hv ha.pa hn hdb he hpl).imp fun _ _ _ h => rdF_callB ho h⟩
theorem jf_callT (hc : CallR X (.type id) r) (ho : FreshOk X.K ct r op) (hm : X.mg x = none) (ha : JA ct X (a :: es) fr) (hg : Gl X x := by rfl) (hv : bootBuiltins x = some (.type id) := by decide +kernel) (hn : x ≠ "__name__" := by decide) (hdb : (x == ("__debug__" : Str)) = false := by decide)
    (he : starEach (a :: es) X.env = (false, eval a X.env) :: starEach es X.env := by rfl) (hpl : (backTo pos (starEach es X.env)).any (·.1) = false := by rfl) : JF ct X (.Call (.Name x p) (a :: es) [] pos) (eB op fr) :=
  ⟨(pe_callTy hc hg hm hv ha.pa hn hdb he hpl).imp fun _ _ _ h => rdF_callB ho h⟩
end
end J
set_option Elab.async false
set_option linter.all false
set_option maxRecDepth 100000
/-! J: statements, targets, loops, comprehensions. -/
namespace J
open PySem L2

section
variable {K : PySem.W.Frag} {ct : Ct}
theorem FlOk.later {G : Gh} {H H' : Hp} {A' M' : List Addr} {D : Ends} {fl : Fl} (l : Lat G.A G.M H A' M' H') (h : FlOk K ct G H D fl) : FlOk K ct { G with A := A', M := M' } H' D fl := by
  cases fl with
  | nx e S => exact fun σ1 H1 A1 M1 l1 g1 => h σ1 H1 A1 M1 (l.trans l1) g1
  | bk e S => exact fun σ1 H1 A1 M1 l1 g1 => h σ1 H1 A1 M1 (l.trans l1) g1
  | ct e S => exact fun σ1 H1 A1 M1 l1 g1 => h σ1 H1 A1 M1 (l.trans l1) g1
  | rt v S => exact h
theorem Good.post0 {G : Gh} {σ : St} {H : Hp} {env : Env} {S : Sto} (g : Good K ct G σ H env S) : Post G.A0 G.H0 G.A H := ⟨g.pre0, g.ext0, g.new0, g.bs.nodup⟩
end

section
variable {ct : Ct} {X : Cx} {st : Stmt} {rest : List Stmt} {f g : FS} {e : Expr} {fe : FE} {pos : Pos}
theorem js_never : JS ct X st sX := ⟨⟨fun _ _ _ _ _ _ h => by obtain ⟨_, _, _, _, _, h, _⟩ := h; cases h⟩⟩
theorem jss_never {sts : List Stmt} : JSs ct X sts sX := ⟨⟨fun _ _ _ _ _ _ h => by obtain ⟨_, _, _, _, _, h, _⟩ := h; cases h⟩⟩
theorem next_ok {K : PySem.W.Frag} {D : Ends} {σ : St} {H : Hp} (h : rdS K ct sNext D σ H) : D.nx σ H := by
  obtain ⟨G, env, S, fl, g, e, h⟩ := h
  cases e
  exact h σ H G.A G.M (Lat.refl _ _ _) g
theorem jss_nil : JSs ct X [] sNext := ⟨pss_nil.imp fun _ _ _ h => next_ok h⟩
theorem js_pass : JS ct X (.Pass pos) sNext := ⟨ps_pass.imp fun _ _ _ h => next_ok h⟩
theorem js_break : JS ct X (.Break pos) sBreak := ⟨ps_break.imp fun D σ H h => by
  obtain ⟨G, env, S, fl, g, e, h⟩ := h
  cases e
  exact h σ H G.A G.M (Lat.refl _ _ _) g⟩
theorem js_cont : JS ct X (.Continue pos) sCont := ⟨ps_continue.imp fun D σ H h => by
  obtain ⟨G, env, S, fl, g, e, h⟩ := h
  cases e
  exact h σ H G.A G.M (Lat.refl _ _ _) g⟩
theorem jss_cons (h1 : JS ct X st f) (h2 : JSs ct X rest g) : JSs ct X (st :: rest) (sSeq f g) := by
  refine ⟨(pss_cons h1.ps h2.ps).imp fun D σ H h => ?_⟩
  obtain ⟨G, env, S, fl, gd, e, h⟩ := h
  obtain ⟨r, e1, e2⟩ := Res.bind_ok e
  refine ⟨G, env, S, r, gd, e1, ?_⟩
  cases r with
  | nx en S1 => exact fun σ1 H1 A1 M1 l g1 => ⟨_, en, S1, fl, g1, e2, h.later l⟩
  | rt v S1 => cases e2; exact h
  | bk v S1 => cases e2; exact h
  | ct v S1 => cases e2; exact h
theorem jss_one (h1 : JS ct X st f) : JSs ct X [st] f := ⟨pss_one h1.ps⟩
theorem js_ret (he : JE ct X e fe) : JS ct X (.Return (some e) pos) (sRet fe) := by
  refine ⟨(ps_ret he.pe).imp fun D σ H h => ?_⟩
  obtain ⟨G, env, S, fl, gd, e, h⟩ := h
  obtain ⟨⟨x, S1⟩, e1, e2⟩ := Res.bind_ok e
  cases e2
  refine ⟨G, env, S, x, S1, gd, e1, fun y H1 A1 p s r => ?_⟩
  have g1 := gd.post p s
  exact h y H1 A1 g1.post0 (s.less g1.sub0) (r.lat (lat_less g1.sub0) x y)
theorem js_retN : JS ct X (.Return none pos) (sRet (eC .non)) := by
  refine ⟨ps_retN.imp fun D σ H h => ?_⟩
  obtain ⟨G, env, S, fl, gd, e, h⟩ := h
  cases e
  exact h _ H G.A gd.post0 (gd.bs.sto.less gd.sub0) (Rep.non_iff.mpr rfl)
theorem js_if {c : Expr} {a b : List Stmt} {tc : FT} (hc : JT ct X c tc) (ha : JSs ct X a f) (hb : JSs ct X b g) : JS ct X (.If c a b pos) (sIf tc f g) := by
  refine ⟨(ps_if hc.pt ha.ps hb.ps).imp fun D σ H h => ?_⟩
  obtain ⟨G, env, S, fl, gd, e, h⟩ := h
  obtain ⟨⟨x, S1⟩, e1, e2⟩ := Res.bind_ok e
  refine ⟨G, env, S, x, S1, gd, e1, fun H1 A1 p s => ?_⟩
  cases x with
  | true => rw [if_pos rfl]; exact ⟨_, env, S1, fl, gd.post p s, e2, h.later (p.lat G.M)⟩
  | false => rw [if_neg Bool.false_ne_true]; exact ⟨_, env, S1, fl, gd.post p s, e2, h.later (p.lat G.M)⟩
theorem js_expr (he : JE ct X e fe) (hs : swapsWith e none pos.line X.env = pure false := by rfl) : JS ct X (.Expr e pos) (sDrop fe) := by
  refine ⟨(ps_expr he.pe hs).imp fun D σ H h => ?_⟩
  obtain ⟨G, env, S, fl, gd, e, h⟩ := h
  obtain ⟨⟨x, S1⟩, e1, e2⟩ := Res.bind_ok e
  cases e2
  exact ⟨G, env, S, x, S1, gd, e1, fun y H1 A1 p s r => h σ H1 A1 G.M (p.lat G.M) (gd.post p s)⟩
/-- a name that owned is a plain value from here on -/
theorem Good.freezeAt {K : PySem.W.Frag} {G : Gh} {σ : St} {H H1 : Hp} {env : Env} {S : Sto} {i : Nat} {p : Addr} {v : PV} (g : Good K ct G σ H env S) (hv : env[i]? = some (.own v)) (h1 : σ[i]? = some (some (.ref p))) (hH : ∀ a, a ≠ p → H1 a = H a)
    (rep : Rep K ct H1 G.A (G.M.filter (fun a => decide (a ≠ p))) v (.ref p)) : Lat G.A G.M H G.A (G.M.filter (fun a => decide (a ≠ p))) H1 ∧ Good K ct { G with M := G.M.filter (fun a => decide (a ≠ p)) } σ H1 (env.set i (.val v)) S := by
  obtain ⟨p', k1, h2, h3, c⟩ := g.slot i _ hv
  rw [h1] at k1; cases k1
  have sub : ∀ a ∈ G.M.filter (fun a => decide (a ≠ p)), a ∈ G.M := fun a ha => (List.mem_filter.mp ha).1
  have l : Lat G.A G.M H G.A (G.M.filter (fun a => decide (a ≠ p))) H1 := ⟨List.prefix_refl _, fun b o e n m => ⟨by
    rw [hH b (fun z => by subst z; exact m h2)]; exact e, n, fun z => m (sub b z)⟩⟩
  refine ⟨l, ⟨⟨g.bs.sto.len, fun n a xs k1 k2 => ?_⟩, g.bs.nodup, fun a ha => ?_, fun a ha => g.bs.disj a (sub a ha), fun a ha vs ev => ?_⟩, fun j s hs => ?_, fun a b u w q k1 k2 k3 k4 => ?_, fun a o k1 k2 => ?_, g.pre0, g.new0, fun a ha => ?_, g.in0, by rw [List.length_set]; exact g.len⟩
  · obtain ⟨vs, k3, k4⟩ := g.bs.sto.at' n a xs k1 k2
    exact ⟨vs, by rw [hH a (fun z => g.bs.disj p h2 (by rw [← z]; exact List.mem_of_getElem? k1))]; exact k3, k4.lat l xs vs⟩
  · have hne : a ≠ p := by simpa using (List.mem_filter.mp ha).2
    rw [hH a hne]; exact g.bs.inM a (sub a ha)
  · have hne : a ≠ p := by simpa using (List.mem_filter.mp ha).2
    rw [hH a hne] at ev; exact g.bs.noT a (sub a ha) vs ev
  · rcases getSet hs with ⟨rfl, rfl, hi⟩ | ⟨hj, hs⟩
    · exact ⟨_, h1, rep⟩
    · have q := g.slot j s hs
      cases s with
      | un => trivial
      | val w => obtain ⟨y, k1, k2⟩ := q; exact ⟨y, k1, k2.lat l w y⟩
      | own w =>
        obtain ⟨p', k1, k2, k3, k4⟩ := q
        have hne : p' ≠ p := fun z => by subst z; exact hj (g.uniq i j _ _ _ hv hs h1 k1)
        exact ⟨p', k1, List.mem_filter.mpr ⟨k2, decide_eq_true hne⟩, k3, k4.lat l (hH p' hne)⟩
  · rcases getSet k1 with ⟨_, h, _⟩ | ⟨_, k1⟩
    · cases h
    · rcases getSet k2 with ⟨_, h, _⟩ | ⟨_, k2⟩
      · cases h
      · exact g.uniq a b u w q k1 k2 k3 k4
  · rw [hH a (fun z => by subst z; rw [h3] at k1; cases k1)]; exact g.ext0 a o k1 k2
  · refine List.mem_filter.mpr ⟨g.sub0 a ha, decide_eq_true fun z => ?_⟩
    subst z
    exact g.in0 a ha h3
theorem frz_run {i : Nat} {pins : List (Addr × Obj)} {s : Shared} {σ : St} {H : Hp} {G : Gh} {env : Env} {S : Sto} (I : Inv X pins σ H s) (g : Good X.K ct G σ H env S) :
    ∃ H1 M', Inv X pins σ H1 s ∧ Lat G.A G.M H G.A M' H1 ∧ Good X.K ct { G with M := M' } σ H1 (frz i env) S := by
  unfold frz
  split
  · rename_i v hv
    obtain ⟨p, h1, h2, h3, c⟩ := g.slot i _ hv
    have np : p ∉ G.M.filter (fun a => decide (a ≠ p)) := fun z => by simpa using (List.mem_filter.mp z).2
    have sub : ∀ a ∈ G.M.filter (fun a => decide (a ≠ p)), a ∈ G.M := fun a ha => (List.mem_filter.mp ha).1
    cases v with
    | lst xs =>
      obtain ⟨vs, k1, k2⟩ := c
      obtain ⟨l, g'⟩ := g.freezeAt hv h1 (H1 := H) (fun _ _ => rfl) (by
        simp only [Rep]
        exact ⟨p, vs, rfl, ⟨k1, g.bs.disj p h2, np⟩, k2.lat (lat_less sub) xs vs⟩)
      exact ⟨H, _, I, l, g'⟩
    | dic tt ks xs =>
      have lu : ∀ (o' : HO), Lat G.A G.M H G.A (G.M.filter (fun a => decide (a ≠ p))) (upd H p o') := fun o' => (lat_upd (o := o') (.inr h2)).trans (lat_less sub)
      rcases c with ⟨ht, ws, k1, k2, k3⟩ | ⟨ht, ws, k1, k2, k3⟩
      · obtain ⟨od, I2⟩ := I.lock k1 trivial
        obtain ⟨l, g'⟩ := g.freezeAt hv h1 (H1 := upd H p (.frz od (.dK ws))) (fun _ hn => upd_ne hn) (by
          simp only [Rep]
          exact ⟨p, rfl, .inl ⟨ht, ws, ⟨⟨od, upd_same⟩, g.bs.disj p h2, np⟩, k2, k3.lat (lu _) xs _⟩⟩)
        exact ⟨_, _, I2, l, g'⟩
      · obtain ⟨od, I2⟩ := I.lock k1 trivial
        obtain ⟨l, g'⟩ := g.freezeAt hv h1 (H1 := upd H p (.frz od (.dT ws))) (fun _ hn => upd_ne hn) (by
          simp only [Rep]
          exact ⟨p, rfl, .inr ⟨ht, ws, ⟨⟨od, upd_same⟩, g.bs.disj p h2, np⟩, k2, k3.lat (lu _) xs _⟩⟩)
        exact ⟨_, _, I2, l, g'⟩
    | _ => exact False.elim c
  · exact ⟨H, G.M, I, Lat.refl _ _ _, g⟩
theorem js_frz (i : Nat) (h : JS ct X st f) : JS ct X st (sFrz i f) := by
  refine ⟨⟨fun pins s σ H D I hq => ?_⟩⟩
  obtain ⟨G, env, S, fl, gd, e, hq⟩ := hq
  obtain ⟨H1, M', I1, l, g'⟩ := frz_run (i := i) I gd
  exact h.ps.run pins s σ H1 D I1 ⟨_, frz i env, S, fl, g', e, hq.later l⟩
theorem jss_frz (i : Nat) {sts : List Stmt} (h : JSs ct X sts f) : JSs ct X sts (sFrz i f) := by
  refine ⟨⟨fun pins s σ H D I hq => ?_⟩⟩
  obtain ⟨G, env, S, fl, gd, e, hq⟩ := hq
  obtain ⟨H1, M', I1, l, g'⟩ := frz_run (i := i) I gd
  exact h.ps.run pins s σ H1 D I1 ⟨_, frz i env, S, fl, g', e, hq.later l⟩

/-! ### names stored -/
theorem asg_set {K : PySem.W.Frag} {i : Nat} {D : Ends} {σ : St} {H : Hp} (h : rdS K ct (sSet i fe) D σ H) : tAsg (rd K ct fe) (gName i) D σ H := by
  obtain ⟨G, env, S, fl, gd, e, h⟩ := h
  obtain ⟨⟨x, S1⟩, e1, e2⟩ := Res.bind_ok e
  cases e2
  exact ⟨G, env, S, x, S1, gd, e1, fun y H1 A1 p s r => h _ H1 A1 G.M (p.lat G.M) ((gd.post p s).set r)⟩
theorem asg_own {K : PySem.W.Frag} {i : Nat} {D : Ends} {σ : St} {H : Hp} (h : rdS K ct (sOwn i fe) D σ H) : tAsg (rdF K ct fe) (gName i) D σ H := by
  obtain ⟨G, env, S, fl, gd, e, h⟩ := h
  obtain ⟨⟨x, S1⟩, e1, e2⟩ := Res.bind_ok e
  cases e2
  refine ⟨G, env, S, x, S1, gd, e1, fun p H1 A1 pp np nA s c => ?_⟩
  have s0 : StoOk K ct H1 A1 G.M S1 := s.less fun a ha => List.mem_cons_of_mem _ ha
  have g1 := gd.post pp s0
  obtain ⟨o, ho⟩ := c.there
  have lat : Lat G.A G.M H A1 (p :: G.M) H1 := ⟨pp.pre, fun b u eb n m => ⟨pp.ext b u eb n, pp.out eb n, fun zZ => by
    rcases List.mem_cons.mp zZ with zZ | zZ
    · subst zZ; rw [np] at eb; cases eb
    · exact m zZ⟩⟩
  have g2 : Good K ct { G with A := A1, M := p :: G.M } σ H1 env S1 := by
    refine ⟨⟨s, g1.bs.nodup, fun a ha => ?_, fun a ha => ?_, fun a ha vs ev => ?_⟩, fun j sl hs => ?_, gd.uniq, g1.ext0, g1.pre0, g1.new0, fun a ha => List.mem_cons_of_mem _ (gd.sub0 a ha), gd.in0, gd.len⟩
    · rcases List.mem_cons.mp ha with zZ | zZ
      · subst zZ; rw [ho]; simp
      · exact g1.bs.inM a zZ
    · rcases List.mem_cons.mp ha with zZ | zZ
      · subst zZ; exact nA
      · exact g1.bs.disj a zZ
    · rcases List.mem_cons.mp ha with zZ | zZ
      · subst zZ; exact c.noT vs ev
      · exact g1.bs.noT a zZ vs ev
    · have q := gd.slot j sl hs
      cases sl with
      | un => trivial
      | val w => obtain ⟨y, k1, k2⟩ := q; exact ⟨y, k1, k2.lat lat w y⟩
      | own w =>
        obtain ⟨p', k1, k2, k3, k4⟩ := q
        obtain ⟨o', ho'⟩ := k4.there
        exact ⟨p', k1, List.mem_cons_of_mem _ k2, k3, k4.lat lat ((pp.ext p' o' ho' (gd.bs.disj p' k2)).trans ho'.symm)⟩
  refine h _ H1 A1 (p :: G.M) lat (g2.setOwn List.mem_cons_self (gd.fresh0 np) c fun j w hj ho' hz => ?_)
  obtain ⟨p', k1, k2, k3, k4⟩ := gd.slot j _ ho'
  rw [hz] at k1; cases k1
  exact gd.bs.inM p k2 np
theorem js_set (i : Nat) {x : Str} {pos' : Pos} (hN : X.N.Nodup) (he : JE ct X e fe) (hi : X.N[i]? = some x := by rfl) (hx : Loc X.env.scope x := by first | exact Or.inl rfl | exact Or.inr rfl) (hs : swapsWith e (some (.Name x pos')) pos.line X.env = pure false := by rfl)
    (hf : X.fn x = true ∨ X.env.scope.names.lookup x = some .local := by first | exact .inl rfl | exact .inr rfl | assumption) : JS ct X (.Assign [.Name x pos'] e pos) (sSet i fe) := ⟨(ps_set hN hi hx he.pe hs hf).imp fun _ _ _ h => asg_set h⟩
theorem js_own (i : Nat) {x : Str} {pos' : Pos} (hN : X.N.Nodup) (he : JF ct X e fe) (hi : X.N[i]? = some x := by rfl) (hx : Loc X.env.scope x := by first | exact Or.inl rfl | exact Or.inr rfl) (hs : swapsWith e (some (.Name x pos')) pos.line X.env = pure false := by rfl)
    (hf : X.fn x = true ∨ X.env.scope.names.lookup x = some .local := by first | exact .inl rfl | exact .inr rfl | assumption) : JS ct X (.Assign [.Name x pos'] e pos) (sOwn i fe) := ⟨(ps_set hN hi hx he.pe hs hf).imp fun _ _ _ h => asg_own h⟩

end
/-! ### targets that are names -/
abbrev GN := PV → Env → Option Env
abbrev GNs := List PV → Env → Option Env
section
variable (K : PySem.W.Frag) (ct : Ct)
def rdN (ws : List Nat) (g : GN) : TG := fun x σ H Q => ∃ G env S v env', Good K ct G σ H env S ∧ Rep K ct H G.A G.M v x ∧ g v env = some env' ∧
  ∀ σ', (∀ j, j ∉ ws → σ'[j]? = σ[j]?) → σ'.length = σ.length → Good K ct G σ' H env' S → Q σ' H
def rdNs (ws : List Nat) (g : GNs) : TGs := fun x σ H Q => ∃ G env S v env', Good K ct G σ H env S ∧ RepL K ct H G.A G.M v x ∧ g v env = some env' ∧
  ∀ σ', (∀ j, j ∉ ws → σ'[j]? = σ[j]?) → σ'.length = σ.length → Good K ct G σ' H env' S → Q σ' H
end
structure JN (ct : Ct) (X : Cx) (tg : Expr) (ws : List Nat) (g : GN) : Prop where
  pg : PG X tg (rdN X.K ct ws g)
structure JNs (ct : Ct) (X : Cx) (tg : List Expr) (ws : List Nat) (g : GNs) : Prop where
  pg : PGs X tg (rdNs X.K ct ws g)
def gN (i : Nat) : GN := fun v env => some (env.set i (.val v))
def gNn : GNs := fun vs env => match vs with
  | [] => some env
  | _ => none
def gNc (a : GN) (r : GNs) : GNs := fun vs env => match vs with
  | v :: rs => (a v env).bind (r rs)
  | [] => none
def gT (n : Nat) (r : GNs) : GN := fun v env => match v with
  | .tup xs => if xs.length = n then r xs env else none
  | .lst xs => if xs.length = n then r xs env else none
  | _ => none
theorem _root_.L2.PG.imp {X : Cx} {e : Expr} {t t' : TG} (h : PG X e t) (i : ∀ x σ H Q, t' x σ H Q → t x σ H Q) : PG X e t' := ⟨fun pins s σ H v u Q I r q => h.run pins s σ H v u Q I r (i v σ H Q q)⟩
theorem _root_.L2.PGs.imp {X : Cx} {e : List Expr} {t t' : TGs} (h : PGs X e t) (i : ∀ x σ H Q, t' x σ H Q → t x σ H Q) : PGs X e t' := ⟨fun pins s σ H v u Q I r q => h.run pins s σ H v u Q I r (i v σ H Q q)⟩
theorem _root_.L2.PG.or {X : Cx} {e : Expr} {t t' : TG} (h : PG X e t) (h' : PG X e t') : PG X e (fun x σ H Q => t x σ H Q ∨ t' x σ H Q) := ⟨fun pins s σ H v u Q I r q => q.elim (h.run pins s σ H v u Q I r) (h'.run pins s σ H v u Q I r)⟩
section
variable {ct : Ct} {X : Cx} {e : Expr} {es : List Expr} {pos : Pos} {ws us : List Nat} {g : GN} {gs : GNs}
theorem jn_name (i : Nat) {x : Str} (hN : X.N.Nodup) (hi : X.N[i]? = some x := by rfl) (hx : Loc X.env.scope x := by first | exact Or.inl rfl | exact Or.inr rfl) (hf : X.fn x = true ∨ X.env.scope.names.lookup x = some .local := by first | exact .inl rfl | exact .inr rfl | assumption) : JN ct X (.Name x pos) [i] (gN i) := by
  refine ⟨(pg_name hN hi hx hf).imp fun v σ H Q h => ?_⟩
  obtain ⟨G, env, S, v, env', gd, r, e, q⟩ := h
  cases e
  exact q _ (fun j hj => List.getElem?_set_ne fun z => hj (by simp [z])) (List.length_set ..) (gd.set r)
theorem jns_nil : JNs ct X [] [] gNn := by
  refine ⟨pgs_nil.imp fun v σ H Q h => ?_⟩
  obtain ⟨G, env, S, vs, env', gd, r, e, q⟩ := h
  cases vs with
  | nil => cases e; exact ⟨RepL.nil_iff.mp r, q σ (fun _ _ => rfl) rfl gd⟩
  | cons _ _ => cases e
theorem jns_cons (h1 : JN ct X e ws g) (h2 : JNs ct X es us gs) (hs : (assignEach (e :: es) X.env).map (·.2) = assign e X.env :: (assignEach es X.env).map (·.2) := by rfl) : JNs ct X (e :: es) (ws ++ us) (gNc g gs) := by
  refine ⟨(pgs_cons h1.pg h2.pg hs).imp fun v σ H Q h => ?_⟩
  obtain ⟨G, env, S, vs, env', gd, r, e, q⟩ := h
  cases vs with
  | nil => cases e
  | cons p ps =>
    obtain ⟨x, xs, rfl, r1, r2⟩ := r.inv
    obtain ⟨en, e1, e2⟩ := Option.bind_eq_some_iff.mp e
    refine ⟨x, xs, rfl, G, env, S, p, en, gd, r1, e1, fun σ1 k1 l1 g1 => ⟨G, en, S, ps, env', g1, r2, e2, fun σ2 k2 l2 g2 => q σ2 (fun j hj => ?_) (l2.trans l1) g2⟩⟩
    rw [k2 j (fun z => hj (List.mem_append_right _ z)), k1 j (fun z => hj (List.mem_append_left _ z))]
theorem jn_tup {k n : Nat} (hc : X.calm = true) (h : JNs ct X es ws gs) (hn : (assignEach es X.env).length = n := by rfl) (hst : (assignEach es X.env).findIdx? (·.1) = none := by rfl) : JN ct X (.Tuple es k pos) ws (gT n gs) := by
  refine ⟨((pg_tup hc h.pg hn hst).or (pg_unl hc h.pg hn hst)).imp fun v σ H Q h => ?_⟩
  obtain ⟨G, env, S, vs, env', gd, r, e, q⟩ := h
  cases vs with
  | tup xs =>
    obtain ⟨a, ys, rfl, hq, ry⟩ := r.tup_inv
    unfold gT at e
    dsimp only at e
    split at e
    · rename_i hl
      exact .inl ⟨a, ys, rfl, hq.sqT, by rw [ry.length]; exact hl, G, env, S, xs, env', gd, ry, e, q⟩
    · cases e
  | lst xs =>
    obtain ⟨a, ys, rfl, hq, ry⟩ := r.lst_inv
    unfold gT at e
    dsimp only at e
    split at e
    · rename_i hl
      exact .inr ⟨a, ys, rfl, hq.sqL, by rw [ry.length]; exact hl, G, env, S, xs, env', gd, ry, e, q⟩
    · cases e
  | _ => cases e
end
def sAsg (a : FE) (g : GN) : FS := fun env S => (a env S).bind fun x => (ofO (g x.1 env)).bind fun e => .ok (.nx e x.2)
section
variable {ct : Ct} {X : Cx} {e tg : Expr} {fe : FE} {es : List Expr} {pos : Pos} {ws us : List Nat} {g : GN} {gs : GNs}
theorem js_asg (he : JE ct X e fe) (hg : JN ct X tg ws g) (hs : swapsWithSole [tg] e pos.line X.env = pure false := by rfl) (hw : swappedStores [tg] e X.env = pure none := by rfl)
    (h1 : (assignEach [tg] X.env).map (·.2) = [assign tg X.env] := by rfl) : JS ct X (.Assign [tg] e pos) (sAsg fe g) := by
  refine ⟨(ps_asg he.pe hg.pg hs hw h1).imp fun D σ H h => ?_⟩
  obtain ⟨G, env, S, fl, gd, e, h⟩ := h
  obtain ⟨⟨x, S1⟩, e1, e2⟩ := Res.bind_ok e
  obtain ⟨en, e3, e2⟩ := Res.bind_ok e2
  cases e2
  exact ⟨G, env, S, x, S1, gd, e1, fun y H1 A1 p s r => ⟨_, env, S1, x, en, gd.post p s, r, ofO_ok e3, fun σ' _ _ g' => h σ' H1 A1 G.M (p.lat G.M) g'⟩⟩
end
/-- a, b = x, y of plain local names -/
def sPar (i j : Nat) (a : FA) : FS := fun env S => (a env S).bind fun x => match x.1 with
  | [u, v] => .ok (.nx ((env.set i (.val u)).set j (.val v)) x.2)
  | _ => .err
def sPar3 (i j l : Nat) (a : FA) : FS := fun env S => (a env S).bind fun x => match x.1 with
  | [u, v, w] => .ok (.nx (((env.set i (.val u)).set j (.val v)).set l (.val w)) x.2)
  | _ => .err
section
variable {ct : Ct} {X : Cx} {a b : Expr} {fa : FA} {pos : Pos}
theorem js_par (i j : Nat) {x y : Str} {px py pt : Pos} {kt k2 pt2} (hN : X.N.Nodup) (ha : JA ct X [a, b] fa) (hc : X.calm = true := by rfl) (hi : X.N[i]? = some x := by rfl) (hj : X.N[j]? = some y := by rfl) (hij : i ≠ j := by decide)
    (hx : X.env.scope.names.lookup x = some .local := by rfl) (hy : X.env.scope.names.lookup y = some .local := by rfl)
    (hw : swappedStores [.Tuple [.Name x px, .Name y py] kt pt] (.Tuple [a, b] k2 pt2) X.env = pure (some [x, y]) := by rfl)
    (hsZ : swapsWithSole [.Tuple [.Name x px, .Name y py] kt pt] (.Tuple [a, b] k2 pt2) pos.line X.env = pure false := by rfl) :
    JS ct X (.Assign [.Tuple [.Name x px, .Name y py] kt pt] (.Tuple [a, b] k2 pt2) pos) (sPar i j fa) := by
  refine ⟨(ps_par hc hN hi hj hij hx hy ha.pa hw hsZ).imp fun D σ H h => ?_⟩
  obtain ⟨G, env, S, fl, gd, e, h⟩ := h
  obtain ⟨⟨vs, S1⟩, e1, e2⟩ := Res.bind_ok e
  dsimp only at e2
  split at e2
  · rename_i u v
    cases e2
    refine ⟨G, env, S, _, S1, gd, e1, fun xs H1 A1 p s r => ?_⟩
    obtain ⟨p1, p2, rfl, r1, r2⟩ := r.two
    exact ⟨p1, p2, rfl, h _ H1 A1 G.M (p.lat G.M) (((gd.post p s).set r1).set r2)⟩
  · cases e2
end
/-! ### loops -/
def forL (g : GN) (b : FS) : List PV → Env → Sto → Res Fl
  | [], env, S => .ok (.nx env S)
  | x :: r, env, S => (ofO (g x env)).bind fun e => (b e S).bind fun fl => match fl with
    | .nx e' S' => forL g b r e' S'
    | .ct e' S' => forL g b r e' S'
    | .bk e' S' => .ok (.nx e' S')
    | .rt v S' => .ok (.rt v S')
def sFor (it : FA) (g : GN) (b : FS) : FS := fun env S => (it env S).bind fun xs => forL g b xs.1 env xs.2
def whL (c : FT) (b : FS) : Nat → Env → Sto → Res Fl
  | 0, _, _ => .err
  | n + 1, env, S => (c env S).bind fun x => if x.1 then (b env x.2).bind fun fl => match fl with
      | .nx e' S' => whL c b n e' S'
      | .ct e' S' => whL c b n e' S'
      | .bk e' S' => .ok (.nx e' S')
      | .rt v S' => .ok (.rt v S')
    else .ok (.nx env x.2)
def sWh (n : Nat) (c : FT) (b : FS) : FS := fun env S => whL c b n env S
section
variable (K : PySem.W.Frag) (ct : Ct)
/-- an iterator that gives xs, whatever the loop does to what it owns or shares -/
def ItOk (J : It) (A M : List Addr) (H : Hp) (xs : List PV) : Prop := ∀ (A' M' : List Addr) (H' : Hp), Lat A M H A' M' H' → Hx A' M' H' →
  (∀ i, i < xs.length → J.go i H') ∧ J.stop xs.length H' ∧ ∀ i x H'', i < xs.length → J.yld i H' x H'' → Same H' H'' ∧ ∃ v, xs[i]? = some v ∧ Rep K ct H'' A' M' v x
def rdI (f : FA) : TI := fun σ H R => ∃ G env S v S', Good K ct G σ H env S ∧ f env S = .ok (v, S') ∧
  ∀ J H' A', Post G.A H A' H' → StoOk K ct H' A' G.M S' → ItOk K ct J A' G.M H' v → R J H'
end
structure JI (ct : Ct) (X : Cx) (tg iter : Expr) (f : FA) : Prop where
  pi : PI X tg iter (rdI X.K ct f)
theorem _root_.L2.PI.imp {X : Cx} {tg e : Expr} {t t' : TI} (h : PI X tg e t) (i : ∀ σ H Q, t' σ H Q → t σ H Q) : PI X tg e t' := ⟨fun pins s σ H Q I q => h.run pins s σ H Q I (i σ H Q q)⟩
theorem _root_.L2.PI.or {X : Cx} {tg e : Expr} {t t' : TI} (h : PI X tg e t) (h' : PI X tg e t') : PI X tg e (fun σ H Q => t σ H Q ∨ t' σ H Q) := ⟨fun pins s σ H Q I q => q.elim (h.run pins s σ H Q I) (h'.run pins s σ H Q I)⟩
theorem drop_cons {α : Type} {xs : List α} {i : Nat} {v : α} (h : xs[i]? = some v) : xs.drop i = v :: xs.drop (i + 1) := by
  obtain ⟨hi, rfl⟩ := List.getElem?_eq_some_iff.mp h
  exact List.drop_eq_getElem_cons hi
section
variable {ct : Ct} {X : Cx} {tg iter : Expr} {body : List Stmt} {it : FA} {g : GN} {ws : List Nat} {b : FS} {pos : Pos}
theorem js_for (hi : JI ct X tg iter it) (hg : JN ct X tg ws g) (hb : JSs ct X body b) (hc : X.calm = true := by rfl) (hp : PassesOwn (model X.prog X.w) X.A X.env X.xe := by exact PassesOwn.never)
    (hs : ∀ x, foldedSetIterable iter X.env x = pure x := by intro _; rfl) : JS ct X (.For tg iter body [] pos) (sFor it g b) := by
  refine ⟨(ps_for hp hc hi.pi hg.pg hb.ps hs).imp fun D σ H h => ?_⟩
  obtain ⟨G, env, S, fl, gd, e, h⟩ := h
  obtain ⟨⟨xs, S1⟩, e1, e2⟩ := Res.bind_ok e
  refine ⟨G, env, S, xs, S1, gd, e1, fun J H1 A1 p s io => ?_⟩
  refine ⟨fun i m σ H => m = xs.length - i ∧ i ≤ xs.length ∧ ∃ A' M' env' S', Lat A1 G.M H1 A' M' H ∧ Good X.K ct { G with A := A', M := M' } σ H env' S' ∧ forL g b (xs.drop i) env' S' = .ok fl,
    ⟨xs.length, by simp, Nat.zero_le _, A1, G.M, env, S1, Lat.refl _ _ _, gd.post p s, by simpa using e2⟩, ?_⟩
  rintro i m σ2 H2 ⟨rfl, hi2, A2, M2, env2, S2, l2, g2, e2⟩
  obtain ⟨go, stop, yl⟩ := io A2 M2 H2 l2 g2.hx
  by_cases hlt : i < xs.length
  · refine .inr ⟨go i hlt, fun σ' H' => i + 1 ≤ xs.length ∧ ∃ A' M' env' S', Lat A1 G.M H1 A' M' H' ∧ Good X.K ct { G with A := A', M := M' } σ' H' env' S' ∧ forL g b (xs.drop (i + 1)) env' S' = .ok fl, fun σ' H' q => ⟨xs.length - (i + 1), by omega, rfl, q⟩, fun x H3 hy => ?_⟩
    obtain ⟨sm, v, hv, rv⟩ := yl i x H3 hlt hy
    rw [drop_cons hv] at e2
    obtain ⟨en, e3, e2⟩ := Res.bind_ok e2
    obtain ⟨fl3, e4, e2⟩ := Res.bind_ok e2
    have g3 := g2.grow sm
    refine ⟨_, env2, S2, v, en, g3, rv, ofO_ok e3, fun σ4 _ _ g4 => ⟨_, en, S2, fl3, g4, e4, ?_⟩⟩
    have l3 : Lat A1 G.M H1 A2 M2 H3 := l2.trans ((Post.grow g2.bs.nodup sm).lat M2)
    cases fl3 with
    | nx e' S' => exact fun σ5 H5 A5 M5 l5 g5 => ⟨hlt, A5, M5, e', S', l3.trans l5, g5, e2⟩
    | ct e' S' => exact fun σ5 H5 A5 M5 l5 g5 => ⟨hlt, A5, M5, e', S', l3.trans l5, g5, e2⟩
    | bk e' S' =>
      cases e2
      exact fun σ5 H5 A5 M5 l5 g5 => h σ5 H5 A5 M5 ((p.lat G.M).trans (l3.trans l5)) g5
    | rt v S' => cases e2; exact h
  · have hn : i = xs.length := by omega
    subst hn
    rw [List.drop_length] at e2
    cases e2
    exact .inl ⟨stop, h σ2 H2 A2 M2 ((p.lat G.M).trans l2) g2⟩
theorem js_while (n : Nat) {c : Expr} {tc : FT} (hc : JT ct X c tc) (hb : JSs ct X body b) (hp : PassesOwn (model X.prog X.w) X.A X.env X.xe := by exact PassesOwn.never) : JS ct X (.While c body [] pos) (sWh n tc b) := by
  refine ⟨(ps_while hp hc.pt hb.ps).imp fun D σ H h => ?_⟩
  obtain ⟨G, env, S, fl, gd, e, h⟩ := h
  refine ⟨fun m σ' H' => ∃ A' M' env' S', Lat G.A G.M H A' M' H' ∧ Good X.K ct { G with A := A', M := M' } σ' H' env' S' ∧ whL tc b m env' S' = .ok fl, ⟨n, G.A, G.M, env, S, Lat.refl _ _ _, gd, e⟩, ?_⟩
  rintro m σ2 H2 ⟨A2, M2, env2, S2, l2, g2, e2⟩
  cases m with
  | zero => cases e2
  | succ m =>
    obtain ⟨⟨x, S3⟩, e3, e2⟩ := Res.bind_ok e2
    refine ⟨_, env2, S2, x, S3, g2, e3, fun H3 A3 p3 s3 => ?_⟩
    have l3 : Lat G.A G.M H A3 M2 H3 := l2.trans (p3.lat M2)
    cases x with
    | true =>
      dsimp only at e2 ⊢
      rw [if_pos rfl] at e2 ⊢
      obtain ⟨fl3, e4, e2⟩ := Res.bind_ok e2
      refine ⟨fun σ' H' => ∃ A' M' env' S', Lat G.A G.M H A' M' H' ∧ Good X.K ct { G with A := A', M := M' } σ' H' env' S' ∧ whL tc b m env' S' = .ok fl, fun σ' H' q => ⟨m, Nat.lt_succ_self m, q⟩, _, env2, S3, fl3, g2.post p3 s3, e4, ?_⟩
      cases fl3 with
      | nx e' S' => exact fun σ5 H5 A5 M5 l5 g5 => ⟨A5, M5, e', S', l3.trans l5, g5, e2⟩
      | ct e' S' => exact fun σ5 H5 A5 M5 l5 g5 => ⟨A5, M5, e', S', l3.trans l5, g5, e2⟩
      | bk e' S' =>
        cases e2
        exact fun σ5 H5 A5 M5 l5 g5 => h σ5 H5 A5 M5 (l3.trans l5) g5
      | rt v S' => cases e2; exact h
    | false =>
      dsimp only at e2 ⊢
      rw [if_neg Bool.false_ne_true] at e2 ⊢
      cases e2
      exact h σ2 H3 A3 M2 l3 (g2.post p3 s3)
end
end J
set_option Elab.async false
set_option linter.all false
set_option maxRecDepth 100000
/-! enumerate over a tuple, for the layer's loops. -/
namespace J
open PySem L2
set_option maxHeartbeats 1100000 in
theorem meets_enumB {v : Value} {o : Obj} {H : Heap → Prop} (B : Begins v o H) :
    Meets (Builtin.«enumerate.__new__» ⟨[.type "enumerate", v], []⟩) (fun _ R s => H s.heap ∧
      R (.ok (.ret (.ref (s.heap.push o).objs.size))) { s with heap := (s.heap.push o).push ⟨.type "enumerate", none, .fields #[.none, .bool false, .ref s.heap.objs.size, rawInt 0, .none, .none], #[]⟩ }) :=
  .of_wp fun progZ w A R s h => by
    obtain ⟨hpZ, g, d, tk, os⟩ := s
    obtain ⟨h1, h⟩ := h
    have hsub := sub_enumerate
    have q1 : ∀ {A' : Around} {E : Value → Shared → Prop} {Q : Value → Shared → Prop}, Q (.ref hpZ.objs.size) ⟨hpZ.push o, g, d, tk, os⟩ → wpAny (model progZ w) A' (pyIter v) Q E ⟨hpZ, g, d, tk, os⟩ :=
      fun q => B.iter progZ w _ _ ⟨hpZ, g, d, tk, os⟩ _ h1 q
    wp_walk using q1
    refine wpAny_stack_any fun stZ => wpAny_pure ?_
    split
    · rename_i cZ _ _ _ _ _
      cases (cZ == Value.type "enumerate")
      · wp_walk using q1; exact ⟨_, rfl, h⟩
      · wp_walk using q1; exact ⟨_, rfl, h⟩
    · wp_walk using q1; exact ⟨_, rfl, h⟩
theorem call_enumB {prog : Program} {w : World} {A : Around} {E : Value → Shared → Prop} {s : Shared} {v : Value} {o : Obj} {H : Heap → Prop} {Q : Value → Shared → Prop} (B : Begins v o H) (h1 : H s.heap)
    (h : ∀ h', IsEnum h' (s.heap.objs.size + 1) s.heap.objs.size 0 .none → h'.get? s.heap.objs.size = some o → (∀ b u, s.heap.get? b = some u → h'.get? b = some u) → Q (.ref (s.heap.objs.size + 1)) { s with heap := h' }) :
    wpAny (model prog w) A (call (.type "enumerate") [v]) Q E s := by
  refine callType_new F.called_enumerate (by decide) (F.typeCall_enumerate_1 _) (F.newCall_enumerate_1 _) (fun obj => F.args_object_init_2 obj _) F.entry_enumerate_new (meets_enumB B) ⟨h1, ?_⟩
  have hzZ : (s.heap.push o).objs.size = s.heap.objs.size + 1 := Heap.size_push ..
  show _ ∧ _
  rw [hzZ]
  have he : IsEnum ((s.heap.push o).push ⟨.type "enumerate", none, .fields #[.none, .bool false, .ref s.heap.objs.size, rawInt 0, .none, .none], #[]⟩) (s.heap.objs.size + 1) s.heap.objs.size 0 .none := by
    have q := Heap.get?_push_size (s.heap.push o) (o := ⟨.type "enumerate", none, .fields #[.none, .bool false, .ref s.heap.objs.size, rawInt 0, .none, .none], #[]⟩) rfl
    rw [hzZ] at q
    exact q
  exact ⟨⟨_, he, rfl⟩, h _ he (Heap.get?_push_of_some _ (Heap.get?_push_size _ B.free)) fun b u x => Heap.get?_push_of_some _ (Heap.get?_push_of_some _ x)⟩
def IteT (K : PySem.W.Frag) (a : Addr) : It where
  go := fun i H => ∃ (xs : List V) (x : V), SqT K H a xs ∧ xs[i]? = some x
  yld := fun i H v H' => ∃ T x, v = .ref T ∧ H T = none ∧ H' = upd H T (.tup [.int (i : Nat), x]) ∧ ∀ xs, SqT K H a xs → xs[i]? = some x
  stop := fun i H => ∃ xs : List V, SqT K H a xs ∧ xs.length = i
theorem turn_enumT {P : Program} {w : World} {K : PySem.W.Frag} {elts : List Expr} {kk : Nat} {tpos : Pos} (a e it : Addr) :
    Turn P w K (.Tuple elts kk tpos) (IteT K a) [e, it] e (fun i h => (∃ old, IsEnum h e it ((i : Nat) : Int) old) ∧ h.IsTupleIter it a i ∧ e ≠ it ∧ a ≠ it ∧ e ≠ a) where
  mem := by simp
  obj := fun i h st b hb => by
    obtain ⟨⟨old, heZ⟩, ⟨o, ho, hc, hd⟩, _⟩ := st
    have eZ' : b = e ∨ b = it := by simpa using hb
    rcases eZ' with zZ | zZ
    · rw [zZ]; exact ⟨_, heZ, fun v q => nomatch q⟩
    · rw [zZ]; exact ⟨o, ho, fun v q => by rw [hd] at q; cases q⟩
  keep := fun i h h' st k => let ⟨⟨old, heZ⟩, hi, hne⟩ := st; ⟨⟨old, k e (by simp) _ heZ⟩, hi.at fun o q => k it (by simp) o q, hne⟩
  item := by
    intro XZ hP hw hK hc i pins s σ H E I hf st hg
    subst hP hw hK
    obtain ⟨⟨old, heZ⟩, hit, hne, hai, hea⟩ := st
    obtain ⟨xs, x, hq, hx⟩ := hg
    obtain ⟨itsZ, rv, p, hz⟩ := I.tuple hq
    obtain ⟨uZ, hu, ru⟩ := rv.get hx
    have hel : e < s.heap.objs.size := Heap.lt_size heZ
    have hilZ : it < s.heap.objs.size := by obtain ⟨_, q, _⟩ := hit; exact Heap.lt_size q
    have hD := Draws.tuple (prog := XZ.prog) (w := XZ.w) (A := XZ.A.in1) (I.ok.hd hc) it a hai itsZ.toArray
    have hlt : i < itsZ.toArray.size := by simpa using (List.getElem?_eq_some_iff.mp hu).1
    refine wpAny_pyNext_enum_itemD hD heZ ⟨hit, p⟩ hlt hne (by simp [hne, hea]) fun y h' tk hy ho hit' hT hsz hk => ?_
    have hyu : y = uZ := by
      rw [List.getElem?_toArray, hu] at hy
      exact (Option.some.inj hy).symm
    subst hyu
    refine ⟨_, rfl, wpAny_letOwnedTupleGo_enum (s := { s with heap := h', toks := tk + 1 }) ho fun h'' he' sb => ?_⟩
    have hT2 : h''.get? s.heap.objs.size = some ⟨.type "tuple", none, .seq #[.int i tk, y] 0, #[]⟩ := (sb.2 _ (Nat.ne_of_gt hel)).trans hT
    have new : ObjOk XZ.prog XZ.w (upd H s.heap.objs.size (.tup [.int (i : Nat), x])) h'' s.heap.objs.size (.tup [.int (i : Nat), x]) :=
      ⟨by show 2 ≤ sizeLine; decide, [.int i tk, y], .cons ⟨_, rfl⟩ (.cons ru .nil), ⟨_, hT2, rfl, _, rfl⟩⟩
    have I1 : Inv XZ pins σ (upd H s.heap.objs.size (.tup [.int (i : Nat), x])) { s with heap := h'', toks := tk + 1 } :=
      I.turnedNew (ch := [e, it]) (fun b ob hb q => (sb.2 b (fun zZ => hb (by simp [zZ]))).trans (hk b ob (fun zZ => hb (by simp [zZ])) (fun zZ => hb (by simp [zZ])) q)) hf (Nat.le_refl _) new
    refine ⟨.ref s.heap.objs.size, _, I1, rfl, ⟨_, x, rfl, I.hok.fresh (Nat.le_refl _), rfl, fun ys hy => by rw [I.tuple_inj hy hq]; exact hx⟩, ⟨⟨y, ?_⟩, hit'.1.at fun o q => (sb.2 it (Ne.symm hne)).trans q, hne, hai, hea⟩, fun b hb => ?_⟩
    · have e1Z : ((i + 1 : Nat) : Int) = (i : Int) + 1 := by omega
      rw [e1Z]; exact he'
    · have hbZ' : b < s.heap.objs.size := by
        have eZ' : b = e ∨ b = it := by simpa using hb
        rcases eZ' with zZ | zZ
        · rw [zZ]; exact hel
        · rw [zZ]; exact hilZ
      rw [upd_ne (Nat.ne_of_lt hbZ')]
      exact (hf b hb).1
  done := by
    intro XZ hP hw hK hc i pins s σ H E I hf st hg
    subst hP hw hK
    obtain ⟨⟨old, heZ⟩, hit, hne, hai, hea⟩ := st
    obtain ⟨xs, hq, hx⟩ := hg
    obtain ⟨itsZ, rv, p, hz⟩ := I.tuple hq
    obtain ⟨f0Z, f1, f2, f3, f4, f5⟩ := hf it (by simp)
    have hl := rv.length
    have hD := Draws.tuple (prog := XZ.prog) (w := XZ.w) (A := XZ.A.in1) (I.ok.hd hc) it a hai itsZ.toArray
    have hn : itsZ.toArray.size = i := by simp; omega
    refine wpAny_pyNext_enum_endD hD heZ (by rw [hn]; exact ⟨hit, p⟩) fun h' eb => ⟨rfl, I.turned (t' := s.toks) (fun b o hb q => eb b o hb q) f0Z f1 f3 f4 f5⟩
  self := fun A i s Q E st h => let ⟨⟨_, heZ⟩, _⟩ := st; wpAny_pyIter_enum heZ h
def iEnumT (K : PySem.W.Frag) (ta : TA) : TI := fun σ H R => ta σ H fun vs H1 => ∃ a xs, vs = [.ref a] ∧ SqT K H1 a xs ∧ R (IteT K a) H1
theorem pi_enumT {X : Cx} {e : Expr} {ta : TA} {p pos tpos : Pos} {elts : List Expr} {kk : Nat} (hg : Gl X "enumerate") (hm : X.mg "enumerate" = none) (ha : PA X [e] ta) (hs : starEach [e] X.env = [(false, eval e X.env)] := by rfl) :
    PI X (.Tuple elts kk tpos) (.Call (.Name "enumerate" p) [e] [] pos) (iEnumT X.K ta) := by
  refine ⟨fun pinsZ s σ H R I h => ?_⟩
  refine PyProof.Rows.Call_ (ld_blt I hg hm PyProof.Rows.boot_enumerate (PyProof.Rows.callWith_type1 (thn (ha.run pos pinsZ s σ H _ I h) fun us s1 ⟨vs, H1, I1, r1, q1⟩ => ?_) hs rfl))
  obtain ⟨aZ, xs, ex, hq, q⟩ := q1
  subst ex
  cases r1 with
  | cons r rr =>
    cases rr
    cases r
    obtain ⟨its, rv, p', hz⟩ := I1.tuple hq
    have hal : aZ < s1.heap.objs.size := p'.lt
    refine call_enumB (begins_tuple aZ its.toArray) p' fun h' he hit hk => wpAny_pyIter_enum he ?_
    have I2 : Inv X pinsZ σ H1 { s1 with heap := h' } := I1.kept (t' := s1.toks) hk
    refine ⟨s1.heap.objs.size + 1, [s1.heap.objs.size + 1, s1.heap.objs.size], _, _, H1, rfl, I2, turn_enumT aZ (s1.heap.objs.size + 1) s1.heap.objs.size, ⟨⟨.none, he⟩, ⟨_, hit, rfl, rfl⟩, Nat.succ_ne_self _, Nat.ne_of_lt hal, Nat.ne_of_gt (Nat.lt_succ_of_lt hal)⟩, fun b hb => ?_, q⟩
    have eZ' : b = s1.heap.objs.size + 1 ∨ b = s1.heap.objs.size := by simpa using hb
    have hleZ : s1.heap.objs.size ≤ b := by
      rcases eZ' with zZ | zZ
      · rw [zZ]; exact Nat.le_add_right _ _
      · rw [zZ]; exact Nat.le_refl _
    exact I1.fpOk hleZ (I1.hok.fresh hleZ)
end J
set_option Elab.async false
set_option linter.all false
set_option maxRecDepth 100000
/-! J: what is walked; comprehensions. -/
namespace J
open PySem L2

def iSeq (f : FE) : FA := fun env S => (f env S).bind fun x => match x.1 with
  | .lst xs => .ok (xs, x.2)
  | .tup xs => .ok (xs, x.2)
  | .scr ns => .ok (ns.map PV.int, x.2)
  | _ => .err
def rangeP (lo : Int) (n : Nat) : List PV := (List.range n).map fun (i : Nat) => PV.int (lo + (i : Int))
def bdI (i : Int) : Bool := decide (-(2 ^ 62) ≤ i) && decide (i < 2 ^ 62)
def iR1 (f : FA) : FA := fun env S => (f env S).bind fun x => match x.1 with
  | [.int j] => if bdI j then .ok (rangeP 0 j.toNat, x.2) else .err
  | _ => .err
def iR2 (f : FA) : FA := fun env S => (f env S).bind fun x => match x.1 with
  | [.int i, .int j] => if bdI i && bdI j then .ok (rangeP i (j - i).toNat, x.2) else .err
  | _ => .err
def rangeD (lo : Int) (n : Nat) : List PV := (List.range n).map fun (i : Nat) => PV.int (lo - (i : Int))
/-- range(i, j, -1) -/
def iR3 (f : FA) : FA := fun env S => (f env S).bind fun x => match x.1 with
  | [.int i, .int j, .int c] => if c = -1 ∧ bdI i = true ∧ bdI j = true then .ok (rangeD i (i - j).toNat, x.2) else .err
  | _ => .err
def enumP : Nat → List PV → List PV
  | _, [] => []
  | n, x :: r => .tup [.int (n : Int), x] :: enumP (n + 1) r
def zipP : List PV → List PV → List PV
  | x :: r, y :: s => .tup [x, y] :: zipP r s
  | _, _ => []
def iEn (f : FA) : FA := fun env S => (f env S).bind fun x => match x.1 with
  | [.lst xs] => .ok (enumP 0 xs, x.2)
  | [.tup xs] => .ok (enumP 0 xs, x.2)
  | _ => .err
def iZp (f : FA) : FA := fun env S => (f env S).bind fun x => match x.1 with
  | [.lst xs, .lst ys] => .ok (zipP xs ys, x.2)
  | [.tup xs, .tup ys] => .ok (zipP xs ys, x.2)
  | _ => .err
theorem enumP_length : ∀ (n : Nat) (xs : List PV), (enumP n xs).length = xs.length
  | _, [] => rfl
  | n, x :: r => by rw [enumP, List.length_cons, List.length_cons, enumP_length (n + 1) r]
theorem enumP_get : ∀ (n : Nat) (xs : List PV) (i : Nat), (enumP n xs)[i]? = (xs[i]?).map fun x => .tup [.int ((n + i : Nat) : Int), x]
  | _, [], i => by simp [enumP]
  | n, x :: r, 0 => by simp [enumP]
  | n, x :: r, i + 1 => by
    rw [enumP, List.getElem?_cons_succ, List.getElem?_cons_succ, enumP_get (n + 1) r i]
    have e : n + 1 + i = n + (i + 1) := by omega
    rw [e]
theorem zipP_length : ∀ (xs ys : List PV), (zipP xs ys).length = min xs.length ys.length
  | [], ys => by simp [zipP]
  | x :: r, [] => by simp [zipP]
  | x :: r, y :: s => by rw [zipP, List.length_cons, List.length_cons, List.length_cons, zipP_length r s]; omega
theorem zipP_get : ∀ (xs ys : List PV) (i : Nat) (x y : PV), xs[i]? = some x → ys[i]? = some y → (zipP xs ys)[i]? = some (.tup [x, y])
  | [], ys, i, x, y, h, _ => by simp at h
  | a :: r, [], i, x, y, _, h => by simp at h
  | a :: r, b :: s, 0, x, y, h1, h2 => by
    cases h1; cases h2; rfl
  | a :: r, b :: s, i + 1, x, y, h1, h2 => zipP_get r s i x y h1 h2
section
variable {K : PySem.W.Frag} {ct : Ct} {A M : List Addr} {H : Hp}
theorem it_list {a : Addr} {xs : List PV} {vs : List V} (h : Vw H A M a (.lst vs)) (r : RepL K ct H A M xs vs) : ItOk K ct (Itl K a) A M H xs := fun A' M' H' l hx => by
  have q : SqL K H' a vs := (h.lat l).sqL
  have r' := r.lat l xs vs
  have hl := r.length
  have w := walk_list (K := K) (a := a) (xs := vs)
  refine ⟨fun i hi => w.goes i H' (by omega) q, ?_, fun i x H'' hi y => ?_⟩
  · rw [← hl]; exact w.stops H' q
  · obtain ⟨e, y'⟩ := w.yields i H' x H'' (by omega) q y
    subst e
    exact ⟨Same.refl _, r'.getV y'⟩
theorem it_tup {a : Addr} {xs : List PV} {vs : List V} (h : Vw H A M a (.tup vs)) (r : RepL K ct H A M xs vs) : ItOk K ct (Itt K a) A M H xs := fun A' M' H' l hx => by
  have q : SqT K H' a vs := (h.lat l).sqT
  have r' := r.lat l xs vs
  have hl := r.length
  have w := walk_tup (K := K) (a := a) (xs := vs)
  refine ⟨fun i hi => w.goes i H' (by omega) q, ?_, fun i x H'' hi y => ?_⟩
  · rw [← hl]; exact w.stops H' q
  · obtain ⟨e, y'⟩ := w.yields i H' x H'' (by omega) q y
    subst e
    exact ⟨Same.refl _, r'.getV y'⟩
theorem it_scr {a : Addr} {ns : List Int} (h : VwR H A M a (.lst (ns.map V.int)) ∨ SqL K H00 a (ns.map V.int)) : ItOk K ct (Itl K a) A M H (ns.map PV.int) := fun A' M' H' l hx => by
  have q : SqL K H' a (ns.map V.int) := sq_scr (h.imp (VwR.lat l) id : VwR H' A' M' a (.lst (ns.map V.int)) ∨ _)
  have w := walk_list (K := K) (a := a) (xs := ns.map V.int)
  have hl : (ns.map V.int).length = (ns.map PV.int).length := by simp
  refine ⟨fun i hi => w.goes i H' (by omega) q, ?_, fun i x H'' hi y => ?_⟩
  · rw [← hl]; exact w.stops H' q
  · obtain ⟨e, y'⟩ := w.yields i H' x H'' (by omega) q y
    subst e
    exact ⟨Same.refl _, (RepL.of_ints ns).getV y'⟩
theorem pair_rep {H' H'' : Hp} {A' M' : List Addr} {T : Addr} {x y : V} {p q : PV} (hx : Hx A' M' H') (np : H' T = none) (rp : Rep K ct H' A' M' p x) (rq : Rep K ct H' A' M' q y) (e : H'' = upd H' T (.tup [x, y])) : Same H' H'' ∧ Rep K ct H'' A' M' (.tup [p, q]) (.ref T) := by
  subst e
  exact ⟨same_new np, Rep.new_tup (.cons rp (.cons rq .nil)) np hx.inA hx.inM hx.nd⟩
theorem it_enumL {a : Addr} {xs : List PV} {vs : List V} (h : Vw H A M a (.lst vs)) (r : RepL K ct H A M xs vs) : ItOk K ct (Ite K a) A M H (enumP 0 xs) := fun A' M' H' l hx => by
  have q : SqL K H' a vs := (h.lat l).sqL
  have r' := r.lat l xs vs
  have hl := r.length
  have w := walk_enum (K := K) (a := a) (xs := vs)
  rw [enumP_length]
  refine ⟨fun i hi => w.goes i H' (by omega) q, ?_, fun i x H'' hi y => ?_⟩
  · rw [← hl]; exact w.stops H' q
  · obtain ⟨T, u, z, e1, e2, e3, e4, e5⟩ := w.yields i H' x H'' (by omega) q y
    obtain ⟨p, h1, h2⟩ := r'.getV e5
    cases e4
    subst e1
    obtain ⟨k1, k2⟩ := pair_rep (ct := ct) (p := .int (i : Int)) hx e2 (Rep.int_iff.mpr rfl) h2 e3
    exact ⟨k1, _, by rw [enumP_get, h1]; simp, k2⟩
theorem it_enumT {a : Addr} {xs : List PV} {vs : List V} (h : Vw H A M a (.tup vs)) (r : RepL K ct H A M xs vs) : ItOk K ct (IteT K a) A M H (enumP 0 xs) := fun A' M' H' l hx => by
  have q : SqT K H' a vs := (h.lat l).sqT
  have r' := r.lat l xs vs
  have hl := r.length
  rw [enumP_length]
  refine ⟨fun i hi => ⟨vs, vs[i]'(by omega), q, by simp [show i < vs.length by omega]⟩, ⟨vs, q, by omega⟩, fun i x H'' hi y => ?_⟩
  obtain ⟨T, z, e1, e2, e3, e5⟩ := y
  obtain ⟨p, h1, h2⟩ := r'.getV (e5 vs q)
  subst e1
  obtain ⟨k1, k2⟩ := pair_rep (ct := ct) (p := .int (i : Int)) hx e2 (Rep.int_iff.mpr rfl) h2 e3
  exact ⟨k1, _, by rw [enumP_get, h1]; simp, k2⟩
theorem it_range {lo : Int} {n : Nat} : ItOk K ct (Itr lo n) A M H (rangeP lo n) := fun A' M' H' l hx => by
  have hl : (rangeP lo n).length = n := by simp [rangeP]
  rw [hl]
  refine ⟨fun i hi => hi, Nat.le_refl _, fun i x H'' hi y => ?_⟩
  obtain ⟨e, y⟩ := y
  subst e
  subst y
  exact ⟨Same.refl _, .int (lo + (i : Int)), by simp [rangeP, hi], Rep.int_iff.mpr rfl⟩
theorem it_rangeD {lo : Int} {n : Nat} : ItOk K ct (Itc lo (-1) n) A M H (rangeD lo n) := fun A' M' H' l hx => by
  have hl : (rangeD lo n).length = n := by simp [rangeD]
  rw [hl]
  refine ⟨fun i hi => hi, Nat.le_refl _, fun i x H'' hi y => ?_⟩
  obtain ⟨e, y⟩ := y
  subst e
  subst y
  refine ⟨Same.refl _, .int (lo - (i : Int)), by simp [rangeD, hi], Rep.int_iff.mpr ?_⟩
  congr 1
  omega
end
section
variable {ct : Ct} {X : Cx} {tg l a : Expr} {es : List Expr} {f : FE} {fa : FA} {pos p : Pos}
theorem ji_seq (h : JE ct X l f) : JI ct X tg l (iSeq f) := by
  refine ⟨((pi_list h.pe).or (pi_tup h.pe)).imp fun σ H R q => ?_⟩
  obtain ⟨G, env, S, v, S', g, h1, q⟩ := q
  obtain ⟨⟨x, S1⟩, e1, h1⟩ := Res.bind_ok h1
  cases x with
  | lst xs =>
    cases h1
    refine .inl ⟨G, env, S, _, _, g, e1, fun y H1 A1 p1 s1 r1 => ?_⟩
    obtain ⟨b, vs, e2, h3, h4⟩ := r1.lst_inv
    exact ⟨b, e2, ⟨vs, h3.sqL⟩, q _ H1 A1 p1 s1 (it_list h3 h4)⟩
  | tup xs =>
    cases h1
    refine .inr ⟨G, env, S, _, _, g, e1, fun y H1 A1 p1 s1 r1 => ?_⟩
    obtain ⟨b, vs, e2, h3, h4⟩ := r1.tup_inv
    exact ⟨b, e2, ⟨vs, h3.sqT⟩, q _ H1 A1 p1 s1 (it_tup h3 h4)⟩
  | scr ns =>
    cases h1
    refine .inl ⟨G, env, S, _, _, g, e1, fun y H1 A1 p1 s1 r1 => ?_⟩
    obtain ⟨b, e2, h2, h3⟩ := r1.scr_inv
    exact ⟨b, e2, ⟨_, h2⟩, q _ H1 A1 p1 s1 (it_scr h3)⟩
  | _ => cases h1
theorem bdI_ok {i : Int} (h : bdI i = true) : -(2 ^ 62) ≤ i ∧ i < 2 ^ 62 := by
  unfold bdI at h
  rw [Bool.and_eq_true, decide_eq_true_eq, decide_eq_true_eq] at h
  exact h
theorem ji_range1 (hm : X.mg "range" = none) (h : JA ct X [a] fa) (hg : Gl X "range" := by rfl) (hs : starEach [a] X.env = [(false, eval a X.env)] := by rfl) : JI ct X tg (.Call (.Name "range" p) [a] [] pos) (iR1 fa) := by
  refine ⟨(pi_range1 hg hm h.pa hs).imp fun σ H R q => ?_⟩
  obtain ⟨G, env, S, v, S', g, h1, q⟩ := q
  obtain ⟨⟨x, S1⟩, e1, h1⟩ := Res.bind_ok h1
  refine ⟨G, env, S, x, S1, g, e1, fun vs H1 A1 p1 s1 r1 => ?_⟩
  dsimp only at h1
  split at h1
  · rename_i j
    split at h1
    · rename_i hb
      cases h1
      obtain ⟨b1, b2⟩ := bdI_ok hb
      obtain ⟨v, rfl, rv⟩ := r1.one
      exact ⟨j, by rw [Rep.int_iff.mp rv], b1, b2, q _ H1 A1 p1 s1 it_range⟩
    · cases h1
  · cases h1
theorem ji_range2 {b : Expr} (hm : X.mg "range" = none) (h : JA ct X [a, b] fa) (hg : Gl X "range" := by rfl) (hs : starEach [a, b] X.env = [(false, eval a X.env), (false, eval b X.env)] := by rfl) (hs2 : starEach [b] X.env = [(false, eval b X.env)] := by rfl) : JI ct X tg (.Call (.Name "range" p) [a, b] [] pos) (iR2 fa) := by
  refine ⟨(pi_range2 hg hm h.pa hs hs2).imp fun σ H R q => ?_⟩
  obtain ⟨G, env, S, v, S', g, h1, q⟩ := q
  obtain ⟨⟨x, S1⟩, e1, h1⟩ := Res.bind_ok h1
  refine ⟨G, env, S, x, S1, g, e1, fun vs H1 A1 p1 s1 r1 => ?_⟩
  dsimp only at h1
  split at h1
  · rename_i i j
    split at h1
    · rename_i hb
      cases h1
      rw [Bool.and_eq_true] at hb
      obtain ⟨b1, b2⟩ := bdI_ok hb.1
      obtain ⟨b3, b4⟩ := bdI_ok hb.2
      obtain ⟨v, w, rfl, rv, rw'⟩ := r1.two
      exact ⟨i, j, by rw [Rep.int_iff.mp rv, Rep.int_iff.mp rw'], ⟨b1, b2, b3, b4⟩, q _ H1 A1 p1 s1 it_range⟩
    · cases h1
  · cases h1
theorem ji_range3 {b c : Expr} (hm : X.mg "range" = none) (h : JA ct X [a, b, c] fa) (hg : Gl X "range" := by rfl) (hs : starEach [a, b, c] X.env = (false, eval a X.env) :: starEach [b, c] X.env := by rfl) (hpl : (backTo pos (starEach [b, c] X.env)).any (·.1) = false := by rfl) : JI ct X tg (.Call (.Name "range" p) [a, b, c] [] pos) (iR3 fa) := by
  refine ⟨(pi_range3 hg hm h.pa hs hpl).imp fun σ H R q => ?_⟩
  obtain ⟨G, env, S, v, S', g, h1, q⟩ := q
  obtain ⟨⟨x, S1⟩, e1, h1⟩ := Res.bind_ok h1
  refine ⟨G, env, S, x, S1, g, e1, fun vs H1 A1 p1 s1 r1 => ?_⟩
  dsimp only at h1
  split at h1
  · rename_i i j c
    split at h1
    · rename_i hb
      cases h1
      obtain ⟨hc, hb1, hb2⟩ := hb
      subst hc
      obtain ⟨b1, b2⟩ := bdI_ok hb1
      obtain ⟨b3, b4⟩ := bdI_ok hb2
      obtain ⟨v, w, z, rfl, rv, rw', rz⟩ := r1.three
      exact ⟨i, j, -1, (i - j).toNat, by rw [Rep.int_iff.mp rv, Rep.int_iff.mp rw', Rep.int_iff.mp rz], RgC.neg b1 b2 b3 b4, q _ H1 A1 p1 s1 it_rangeD⟩
    · cases h1
  · cases h1
theorem ji_enum {elts : List Expr} {kk : Nat} {tpos : Pos} (hm : X.mg "enumerate" = none) (h : JA ct X [a] fa) (hg : Gl X "enumerate" := by rfl) (hs : starEach [a] X.env = [(false, eval a X.env)] := by rfl) : JI ct X (.Tuple elts kk tpos) (.Call (.Name "enumerate" p) [a] [] pos) (iEn fa) := by
  refine ⟨((pi_enum hg hm h.pa hs).or (pi_enumT hg hm h.pa hs)).imp fun σ H R q => ?_⟩
  obtain ⟨G, env, S, v, S', g, h1, q⟩ := q
  obtain ⟨⟨x, S1⟩, e1, h1⟩ := Res.bind_ok h1
  dsimp only at h1
  split at h1
  · cases h1
    refine .inl ⟨G, env, S, _, _, g, e1, fun y H1 A1 p1 s1 r1 => ?_⟩
    obtain ⟨z, rfl, r2⟩ := r1.one
    obtain ⟨b, vs, rfl, h3, h4⟩ := r2.lst_inv
    exact ⟨b, vs, rfl, h3.sqL, q _ H1 A1 p1 s1 (it_enumL h3 h4)⟩
  · cases h1
    refine .inr ⟨G, env, S, _, _, g, e1, fun y H1 A1 p1 s1 r1 => ?_⟩
    obtain ⟨z, rfl, r2⟩ := r1.one
    obtain ⟨b, vs, rfl, h3, h4⟩ := r2.tup_inv
    exact ⟨b, vs, rfl, h3.sqT, q _ H1 A1 p1 s1 (it_enumT h3 h4)⟩
  · cases h1
end

/-! ### comprehensions -/
def wipeE (env : Env) : List Nat → Env
  | [] => env
  | v :: vs => (wipeE env vs).set v .un
theorem Good.wipe {K : PySem.W.Frag} {ct : Ct} {G : Gh} {σ : St} {H : Hp} {env : Env} {S : Sto} (g : Good K ct G σ H env S) : ∀ vs : List Nat, Good K ct G (wipe σ vs) H (wipeE env vs) S
  | [] => g
  | v :: vs => (g.wipe vs).setUn
def lcL (g : GN) (t : FT) (e : FE) : List PV → Env → Sto → Res (List PV × Sto)
  | [], _, S => .ok ([], S)
  | x :: r, env, S => (ofO (g x env)).bind fun en => (t en S).bind fun b => if b.1 then (e en b.2).bind fun y => (lcL g t e r env y.2).bind fun z => .ok (y.1 :: z.1, z.2) else lcL g t e r env b.2
def eLc (vs : List Nat) (it : FA) (g : GN) (t : FT) (e : FE) : FE := fun env S => (it env S).bind fun xs => if xs.1.length ≤ 1000000 then (lcL g t e xs.1 (wipeE env vs) xs.2).bind fun ys => .ok (.lst ys.1, ys.2) else .err
def tT : FT := fun _ S => .ok (true, S)
structure JTs (ct : Ct) (X : Cx) (ifs : List Expr) (t : FT) : Prop where
  pts : PTs X ifs (rdT X.K ct t)
theorem _root_.L2.PTs.imp {X : Cx} {e : List Expr} {t t' : TT} (h : PTs X e t) (i : ∀ σ H Q, t' σ H Q → t σ H Q) : PTs X e t' := ⟨fun pins s σ H Q I q => h.run pins s σ H Q I (i σ H Q q)⟩
theorem jts_nil {ct : Ct} {X : Cx} : JTs ct X [] tT := ⟨pts_nil.imp fun σ H Q h => by
  obtain ⟨G, env, S, v, S', g, h1, q⟩ := h
  cases h1
  exact q H G.A (Post.refl H g.bs.nodup) g.bs.sto⟩
theorem jts_one {ct : Ct} {X : Cx} {c : Expr} {t : FT} (h : JT ct X c t) : JTs ct X [c] t := ⟨pts_one h.pt⟩
theorem lcL_len {g : GN} {t : FT} {e : FE} : ∀ {xs : List PV} {env : Env} {S : Sto} {ys : List PV} {S' : Sto}, lcL g t e xs env S = .ok (ys, S') → ys.length ≤ xs.length
  | [], env, S, ys, S', h => by cases h; exact Nat.le_refl _
  | x :: r, env, S, ys, S', h => by
    obtain ⟨en, e1, h⟩ := Res.bind_ok h
    obtain ⟨⟨b, S1⟩, e2, h⟩ := Res.bind_ok h
    cases b with
    | true =>
      obtain ⟨⟨y, S2⟩, e3, h⟩ := Res.bind_ok h
      obtain ⟨⟨z, S3⟩, e4, h⟩ := Res.bind_ok h
      cases h
      have := lcL_len e4
      simp only [List.length_cons]
      omega
    | false =>
      have := lcL_len (xs := r) h
      simp only [List.length_cons]
      omega
theorem wipe_same {σ σ' : St} {ws vs : List Nat} (h1 : ∀ j, j ∉ ws → σ'[j]? = (wipe σ vs)[j]?) (h2 : σ'.length = (wipe σ vs).length) (hs : ∀ j ∈ ws, j ∈ vs) : wipe σ' vs = wipe σ vs := by
  refine List.ext_getElem? fun (j : Nat) => ?_
  have key : ∀ (τ : St) (us : List Nat), (wipe τ us)[j]? = if j ∈ us then (if j < τ.length then some none else none) else τ[j]? := by
    intro τ us
    induction us with
    | nil => simp [wipe]
    | cons u us ih =>
      unfold wipe
      rw [List.getElem?_set]
      by_cases e : u = j
      · subst e; simp [wipe_length]
      · have e' : ¬ j = u := fun z => e z.symm
        rw [if_neg e, ih]
        simp [e']
  rw [key, key]
  by_cases hj : j ∈ vs
  · rw [if_pos hj, if_pos hj, h2, wipe_length]
  · rw [if_neg hj, if_neg hj, h1 j (fun z => hj (hs j z)), key, if_neg hj]
theorem rdF_lc {K : PySem.W.Frag} {ct : Ct} {vs ws : List Nat} {it : FA} {g : GN} {t : FT} {e : FE} (hw : ∀ j ∈ ws, j ∈ vs) {σ : St} {H : Hp} {Q : VK} (h : rdF K ct (eLc vs it g t e) σ H Q) :
    tLc (rdI K ct it) (rdN K ct ws g) (rdT K ct t) (rd K ct e) vs σ H Q := by
  obtain ⟨G, env, S, v, S', gd, h1, q⟩ := h
  obtain ⟨⟨xs, S1⟩, e1, h1⟩ := Res.bind_ok h1
  dsimp only at h1
  split at h1
  · rename_i hsz
    obtain ⟨⟨ys, S2⟩, e2, h1⟩ := Res.bind_ok h1
    cases h1
    refine ⟨G, env, S, xs, S1, gd, e1, fun J H1 A1 p1 s1 io D nD => ?_⟩
    have g1 := gd.post p1 s1
    have smD : Same H1 (upd H1 D (.lst [])) := same_new nD
    have nDH : H D = none := by
      cases eD : H D with
      | none => rfl
      | some o =>
        by_cases ha : D ∈ G.A
        · exact absurd nD (g1.inA D (p1.pre.subset ha))
        · rw [p1.ext D o eD ha] at nD; cases nD
    refine ⟨fun i m Hc => m = xs.length - i ∧ i ≤ xs.length ∧ ∃ A' S' acc accV zs, Good K ct { G with A := A', M := D :: G.M } (wipe σ vs) Hc (wipeE env vs) S' ∧ Lat A1 G.M H1 A' (D :: G.M) Hc ∧ Post G.A H A' Hc ∧ Hc D = some (.lst accV) ∧
      RepL K ct Hc A' (D :: G.M) acc accV ∧ lcL g t e (xs.drop i) (wipeE env vs) S' = .ok (zs, S2) ∧ ys = acc ++ zs, ⟨xs.length, by simp, Nat.zero_le _, A1, S1, [], [], ys, (g1.hide nD smD (by rw [upd_same]; simp) (by rw [upd_same]; simp)).wipe vs, lat_hide nD smD, p1.trans (Post.grow g1.bs.nodup smD), upd_same, .nil, by simpa using e2, rfl⟩, ?_⟩
    rintro i m Hc ⟨rfl, hi, Ac, Sc, acc, accV, zs, gc, lc, pc, hD, rD, ec, ey⟩
    obtain ⟨go, stop, yl⟩ := io Ac (D :: G.M) Hc lc gc.hx
    by_cases hlt : i < xs.length
    · refine .inr ⟨go i hlt, fun Hn => i + 1 ≤ xs.length ∧ ∃ A' S' acc accV zs, Good K ct { G with A := A', M := D :: G.M } (wipe σ vs) Hn (wipeE env vs) S' ∧ Lat A1 G.M H1 A' (D :: G.M) Hn ∧ Post G.A H A' Hn ∧ Hn D = some (.lst accV) ∧
        RepL K ct Hn A' (D :: G.M) acc accV ∧ lcL g t e (xs.drop (i + 1)) (wipeE env vs) S' = .ok (zs, S2) ∧ ys = acc ++ zs, fun Hn qn => ⟨xs.length - (i + 1), by omega, rfl, qn⟩, fun x H3 hy => ?_⟩
      obtain ⟨sm, v, hv, rv⟩ := yl i x H3 hlt hy
      rw [drop_cons hv] at ec
      obtain ⟨en, e3, ec⟩ := Res.bind_ok ec
      obtain ⟨⟨b, S4⟩, e4, ec⟩ := Res.bind_ok ec
      have g3 := gc.grow sm
      have pp3 : Post Ac Hc Ac H3 := Post.grow gc.bs.nodup sm
      refine ⟨_, _, Sc, v, en, g3, rv, ofO_ok e3, fun σ4 k1 k2 g4 => ⟨wipe_same k1 k2 hw, _, en, Sc, b, S4, g4, e4, fun H5 A5 p5 s5 => ?_⟩⟩
      have l5 : Lat A1 G.M H1 A5 (D :: G.M) H5 := lc.trans ((pp3.trans p5).lat _)
      have q5 : Post G.A H A5 H5 := pc.trans (pp3.trans p5)
      have nDA : D ∉ Ac := gc.bs.disj D List.mem_cons_self
      have hD5 : H5 D = some (.lst accV) := p5.ext D _ (sm D _ hD) nDA
      have r5 := rD.lat ((pp3.trans p5).lat (D :: G.M)) acc accV
      have g5w : Good K ct { G with A := A5, M := D :: G.M } (wipe σ vs) H5 (wipeE env vs) S4 := g3.post p5 s5
      cases b with
      | true =>
        dsimp only at ec ⊢
        rw [if_pos rfl] at ec ⊢
        obtain ⟨⟨y, S6⟩, e6, ec⟩ := Res.bind_ok ec
        obtain ⟨⟨z, S7⟩, e7, ec⟩ := Res.bind_ok ec
        cases ec
        refine ⟨_, en, S4, y, S6, g4.post p5 s5, e6, fun yv H8 A8 p8 s8 r8 => ?_⟩
        have g8w := g5w.post p8 s8
        have nDA5 : D ∉ A5 := g5w.bs.disj D List.mem_cons_self
        have hD8 : H8 D = some (.lst accV) := p8.ext D _ hD5 nDA5
        have r9 := r5.lat (p8.lat (D :: G.M)) acc accV
        refine ⟨accV, hD8, ?_, hlt, ?_⟩
        · have l1 := lcL_len e7
          have l2 := lcL_len e2
          have l3 := congrArg List.length ey
          rw [rD.length]
          simp only [List.length_append, List.length_cons] at l3
          exact Nat.lt_of_lt_of_le (show acc.length < 1000001 by omega) (by decide)
        · have hm : D ∈ D :: G.M := List.mem_cons_self
          have lu : Lat A8 (D :: G.M) H8 A8 (D :: G.M) (upd H8 D (.lst (accV ++ [yv]))) := lat_upd (.inr hm)
          have nDA8 : D ∉ A8 := g8w.bs.disj D hm
          refine ⟨A8, S6, acc ++ [y], accV ++ [yv], z, ?_, (l5.trans (p8.lat _)).trans lu, ?_, upd_same, (r9.append (.cons r8 .nil)).lat lu _ _, e7, by rw [ey]; simp⟩
          · refine ⟨⟨⟨g8w.bs.sto.len, fun n a us k1 k2 => ?_⟩, g8w.bs.nodup, fun a ha => ?_, g8w.bs.disj, fun a ha vs ev => ?_⟩, fun j sl hs => ?_, g8w.uniq, fun a o k1 k2 => ?_, g8w.pre0, g8w.new0, g8w.sub0, g8w.in0, g8w.len⟩
            · obtain ⟨ws', k3, k4⟩ := g8w.bs.sto.at' n a us k1 k2
              exact ⟨ws', by rw [upd_ne (fun zz => nDA8 (by rw [← zz]; exact List.mem_of_getElem? k1))]; exact k3, k4.lat lu us ws'⟩
            · by_cases hap : a = D
              · subst hap; rw [upd_same]; simp
              · rw [upd_ne hap]; exact g8w.bs.inM a ha
            · by_cases hap : a = D
              · subst hap; rw [upd_same] at ev; cases ev
              · rw [upd_ne hap] at ev; exact g8w.bs.noT a ha vs ev
            · have qs := g8w.slot j sl hs
              cases sl with
              | un => trivial
              | val w => obtain ⟨u, k1, k2⟩ := qs; exact ⟨u, k1, k2.lat lu w u⟩
              | own w =>
                obtain ⟨p', k1, k2, k3, k4⟩ := qs
                have hne : p' ≠ D := fun zz => by
                  subst zz
                  obtain ⟨p'', k5, k6, k7, k8⟩ := ((gd.wipe vs).slot j _ hs)
                  have : (wipe σ vs)[j]? = some (some (.ref p')) := k1
                  rw [this] at k5; cases k5
                  exact gd.bs.inM p' k6 nDH
                exact ⟨p', k1, k2, k3, k4.lat lu (by rw [upd_ne hne])⟩
            · have hne : a ≠ D := fun zz => by
                subst zz
                rw [gd.fresh0 nDH] at k1; cases k1
              rw [upd_ne hne]; exact g8w.ext0 a o k1 k2
          · have q8 : Post G.A H A8 H8 := q5.trans p8
            exact ⟨q8.pre, fun a o k1 k2 => by
              rw [upd_ne (fun zz => by subst zz; rw [nDH] at k1; cases k1)]; exact q8.ext a o k1 k2, q8.new, q8.nodup⟩
      | false =>
        dsimp only at ec ⊢
        rw [if_neg Bool.false_ne_true] at ec ⊢
        exact ⟨hlt, A5, S4, acc, accV, zs, g5w, l5, q5, hD5, r5, ec, ey⟩
    · have hn : i = xs.length := by omega
      subst hn
      rw [List.drop_length] at ec
      cases ec
      rw [List.append_nil] at ey
      subst ey
      refine .inl ⟨stop, q D Hc Ac pc nDH (gc.bs.disj D List.mem_cons_self) gc.bs.sto ⟨accV, hD, rD⟩⟩
  · cases h1
section
variable {ct : Ct} {X : Cx} {tg iter elt : Expr} {ifs : List Expr} {it : FA} {g : GN} {ws : List Nat} {t : FT} {fe : FE} {pos : Pos} {scope : Scope} {own : List (Str × Nat)}
theorem jf_lc (own : List (Str × Nat)) (hN : X.N.Nodup) (hi : JI ct X tg iter it) (ok : BlkOk X.N X.env.scope scope own)
    (hg : ∀ (s : Shared) (H : Hp) (C : Addr) (cl : List (Str × Addr)) (fp : List Addr), JN ct (X.blk s H scope (compEnvC scope cl C X.env) fp) tg ws g)
    (ht : ∀ (s : Shared) (H : Hp) (C : Addr) (cl : List (Str × Addr)) (fp : List Addr), JTs ct (X.blk s H scope (compEnvC scope cl C X.env) fp) ifs t)
    (he : ∀ (s : Shared) (H : Hp) (C : Addr) (cl : List (Str × Addr)) (fp : List Addr), JE ct (X.blk s H scope (compEnvC scope cl C X.env) fp) elt fe) (hc : X.calm = true := by rfl) (hw : ∀ j ∈ ws, j ∈ own.map (·.2) := by decide) (hs : ∀ x, foldedSetIterable iter X.env x = pure x := by intro _; rfl) :
    JF ct X (.ListComp elt [⟨tg, iter, ifs, 0⟩] scope pos) (eLc (own.map (·.2)) it g t fe) :=
  ⟨(pe_lc hc hN hi.pi ok (fun s H C cl fp => (hg s H C cl fp).pg) (fun s H C cl fp => (ht s H C cl fp).pts) (fun s H C cl fp => (he s H C cl fp).pe) hs).imp fun _ _ _ h => rdF_lc hw h⟩
theorem js_ownLc (i : Nat) (own : List (Str × Nat)) {y : Str} {py spos : Pos} (hN : X.N.Nodup) (hi : JI ct X tg iter it) (ok : BlkOk X.N X.env.scope scope own)
    (hg : ∀ (s : Shared) (H : Hp) (C : Addr) (cl : List (Str × Addr)) (fp : List Addr), JN ct (X.blk s H scope (compEnvC scope cl C X.env) fp) tg ws g)
    (ht : ∀ (s : Shared) (H : Hp) (C : Addr) (cl : List (Str × Addr)) (fp : List Addr), JTs ct (X.blk s H scope (compEnvC scope cl C X.env) fp) ifs t)
    (he : ∀ (s : Shared) (H : Hp) (C : Addr) (cl : List (Str × Addr)) (fp : List Addr), JE ct (X.blk s H scope (compEnvC scope cl C X.env) fp) elt fe) (hc : X.calm = true := by rfl) (hy : X.N[i]? = some y := by rfl) (hyl : X.env.scope.names.lookup y = some .local := by rfl)
    (hsw : swapsWith (.ListComp elt [⟨tg, iter, ifs, 0⟩] scope pos) (some (.Name y py)) spos.line X.env = pure true := by exact sw_true rfl rfl rfl (by decide +kernel)) (hw : ∀ j ∈ ws, j ∈ own.map (·.2) := by decide) (hs : ∀ x, foldedSetIterable iter X.env x = pure x := by intro _; rfl) :
    JS ct X (.Assign [.Name y py] (.ListComp elt [⟨tg, iter, ifs, 0⟩] scope pos) spos) (sOwn i (eLc (own.map (·.2)) it g t fe)) :=
  ⟨(ps_setLc hc hN hy hyl hsw hi.pi ok (fun s H C cl fp => (hg s H C cl fp).pg) (fun s H C cl fp => (ht s H C cl fp).pts) (fun s H C cl fp => (he s H C cl fp).pe) hs).imp fun D σ H h => rdF_lc hw (asg_own h)⟩
end
end J
set_option Elab.async false
set_option linter.all false
set_option maxRecDepth 100000
/-! J: defs and their calls. -/
namespace J
open L2 PySem PySem.Spec PyProof.Rows

structure FnG (P : Program) (w : World) (K : PySem.W.Frag) (mg : Str → Option Value) (base : Heap) (k : Nat) (f : Addr) (fd : FuncData) (ps : List Str) (sp : Sp) : Prop where
  len : ∀ (vs : List V) (H : Hp) Q E, sp vs H Q E → vs.length = ps.length
  run : ∀ (A : Around) (outer : List PySem.Env) (s : Shared) (H : Hp) (args : Args) (us : List Value) (vs : List V) (Q : VK) (E : XK), Room k A → A.guards = some [] → Env0 P w K mg base A outer s H →
    BindsTo s fd args (ps.zip us) → Vals vs us → sp vs H Q E → codeAny (model P w) A (.call (.ref f) args) (CR CX0 outer P w H s Q E) s
theorem FnG.mono {P : Program} {w : World} {K : PySem.W.Frag} {mg : Str → Option Value} {base : Heap} {j k : Nat} {f : Addr} {fd : FuncData} {ps : List Str} {sp : Sp} (F : FnG P w K mg base j f fd ps sp) (h : j ≤ k) : FnG P w K mg base k f fd ps sp :=
  ⟨F.len, fun A outer s H args us vs Q E hr => F.run A outer s H args us vs Q E (hr.mono h)⟩
/-- the pure promise -/
def spM (K : PySem.W.Frag) (ct : Ct) (n : Nat) (f : List PV → Sto → Res (PV × Sto)) : Sp := fun vs H Q _ => vs.length = n ∧ ∃ A M args S v S', Bs K ct A M H S ∧ RepL K ct H A M args vs ∧ f args S = .ok (v, S') ∧
  ∀ x H' A', Post A H A' H' → StoOk K ct H' A' M S' → Rep K ct H' A' M v x → Q x H'
def env0 (n : Nat) (args : List PV) : Env := args.map Slot.val ++ List.replicate (n - args.length) Slot.un
def runF (n : Nat) (F : FS) (args : List PV) (S : Sto) : Res (PV × Sto) := match F (env0 n args) S with
  | .ok (.rt v S') => .ok (v, S')
  | .ok (.nx _ S') => .ok (.non, S')
  | _ => .err
section
variable {P : Program} {w : World} {K : PySem.W.Frag} {mg : Str → Option Value} {base : Heap} {ct : Ct}
theorem good_start {A M : List Addr} {H : Hp} {S : Sto} {args : List PV} {vs : List V} {N : List Str} (b : Bs K ct A M H S) (r : RepL K ct H A M args vs) : Good K ct ⟨H, A, M, A, M⟩ (L2.start N vs) H (env0 N.length args) S where
  bs := b
  slot := fun i s hs => by
    unfold env0 at hs
    by_cases hi : i < args.length
    · rw [List.getElem?_append_left (by simpa using hi), List.getElem?_map, List.getElem?_eq_getElem hi] at hs
      cases hs
      obtain ⟨v, hv, rv⟩ := r.get (List.getElem?_eq_getElem hi)
      refine ⟨v, ?_, rv⟩
      unfold L2.start
      rw [List.getElem?_append_left (by rw [List.length_map, r.length]; exact hi), List.getElem?_map, hv]
      rfl
    · rw [List.getElem?_append_right (by simpa using hi), List.getElem?_replicate] at hs
      split at hs
      · cases hs; trivial
      · cases hs
  uniq := fun i j v w' p h1 h2 h3 h4 => by
    exfalso
    have hm : Slot.own v ∈ env0 N.length args := List.mem_of_getElem? h1
    unfold env0 at hm
    rcases List.mem_append.mp (show _ ∈ _ ++ _ from hm) with q | q
    · obtain ⟨x, _, e⟩ := List.mem_map.mp q
      cases e
    · rw [(List.mem_replicate.mp q).2] at h1
      have := (List.mem_replicate.mp q).2
      cases this
  ext0 := fun _ _ h _ => h
  pre0 := List.prefix_refl _
  new0 := fun _ h => .inl h
  sub0 := fun _ h => h
  in0 := b.inM
  len := by
    unfold env0 L2.start
    rw [List.length_append, List.length_append, List.length_map, List.length_map, List.length_replicate, List.length_replicate, r.length]
/-- a def of the text, where it stands -/
def Def1 (K : PySem.W.Frag) (mg : Str → Option Value) (x : Str) (st : Stmt) : Prop := ∃ f fd, FunD K x x (defArgs st) (defBody st) (defScope st) [] [] f fd ∧ mg x = some (.ref f)
def DefOk (ct : Ct) (P : Program) (w : World) (K : PySem.W.Frag) (mg : Str → Option Value) (base : Heap) (x : Str) (st : Stmt) (k : Nat) (ps : List Str) (f : List PV → Sto → Res (PV × Sto)) : Prop :=
  ∃ fa fd, FunD K x x (defArgs st) (defBody st) (defScope st) [] [] fa fd ∧ mg x = some (.ref fa) ∧ FnG P w K mg base k fa fd ps (spM K ct ps.length f)
theorem DefOk.mono {x : Str} {st : Stmt} {j k : Nat} {ps : List Str} {f : List PV → Sto → Res (PV × Sto)} (D : DefOk ct P w K mg base x st j ps f) (h : j ≤ k) : DefOk ct P w K mg base x st k ps f := by
  obtain ⟨fa, fd, F, g, G⟩ := D
  exact ⟨fa, fd, F, g, G.mono h⟩
/-- the same values by another function -/
theorem DefOk.sub {x : Str} {st : Stmt} {k : Nat} {ps : List Str} {f f' : List PV → Sto → Res (PV × Sto)} (D : DefOk ct P w K mg base x st k ps f) (h : ∀ args S v, f' args S = .ok v → f args S = .ok v) : DefOk ct P w K mg base x st k ps f' := by
  obtain ⟨fa, fd, F, g, G⟩ := D
  refine ⟨fa, fd, F, g, ⟨fun vs H Q E q => q.1, fun A outer s H args us vs Q E hr hg e0 hb hv hs => G.run A outer s H args us vs Q E hr hg e0 hb hv ?_⟩⟩
  obtain ⟨l, A1, M1, as, S, v, S', b, r, e, q⟩ := hs
  exact ⟨l, A1, M1, as, S, v, S', b, r, h _ _ _ e, q⟩
theorem def_ok {x : Str} {st : Stmt} {N ps : List Str} {k : Nat} {F : FS} (D : Def1 K mg x st) (S : FnScope N ps (defScope st))
    (body : ∀ (f : Addr) (cdv : Value) (A : Around) (outer : List PySem.Env) (s : Shared) (H : Hp) (E : XK), Room k (A.deeper (envOfC x (defScope st) s.heap.objs.size f cdv)) → A.guards = some [] →
      JSs ct (cxOf CX0 P w K mg base N x (defScope st) f cdv A outer s H E).nox (defBody st) F) : DefOk ct P w K mg base x st (k + 1) ps (runF N.length F) := by
  obtain ⟨f, fd, FD, g⟩ := D
  refine ⟨f, fd, FD, g, ⟨fun vs H Q E qZ => qZ.1, ?_⟩⟩
  obtain ⟨oc, od, dV, kV, doc, pm, an, cdv, ctv, osl, rfl, lk, hcd, hD, hK⟩ := FD.ex
  intro A outer s H args us vs Q E hr hg e0 hb r hsp
  have hl : vs.length = ps.length := hsp.1
  have KXZ : K.In s.heap := e0.mod.kin.keeps fun b o e => (e0.bs b o e).1
  have limZ : s.heap.NoLimit := e0.mod.nolimit.keeps fun b o e => (e0.bs b o e).1
  refine codeAny_call_function hr.depth (KXZ _ _ lk) rfl S.co S.gen rfl (PySem.W.codeRec_of KXZ hcd) (hb _ _ _ _ ?_)
  refine wpAny_newFunctionEnv_cells S.kind (fun y hy => ?_) fun env he s1 x1 => ?_
  · rcases S.par y.1 (List.of_mem_zip (show (y.1, y.2) ∈ ps.zip us from hy)).1 with qZ | qZ
    · exact .inl qZ
    · exact .inr ⟨qZ, PySem.W.cellsFrom_some _ _ _ (.inl qZ)⟩
  subst he
  refine ⟨limZ.keeps x1.toInCall.keep, codeAny_func ?_⟩
  obtain ⟨_, A1, M1, as, S1, v, S', b, ra, e, qZ⟩ := hsp
  have ht := (body f cdv A outer s H E (hr.deeper _) hg).ps.nox
  have I : Inv (cxOf CX0 P w K mg base N x (defScope st) f cdv A outer s H E) [] (L2.start N vs) H s1 := inv_start S hr.hd e0 hl r x1
  have gs : Good K ct ⟨H, A1, M1, A1, M1⟩ (L2.start N vs) H (env0 N.length as) S1 := good_start b ra
  have rd : rdS K ct F { nx := fun _ H' => Q .non H', rt := Q } (L2.start N vs) H := by
    unfold runF at e
    split at e
    · rename_i v1 S2 hF
      cases e
      exact ⟨_, _, S1, _, gs, hF, fun y H' A' p1 s1 r1 => qZ y H' A' p1 s1 r1⟩
    · rename_i en S2 hF
      cases e
      refine ⟨_, _, S1, _, gs, hF, fun σ' H' A' M' l g' => ?_⟩
      exact qZ .non H' A' g'.post0 (g'.bs.sto.less g'.sub0) (Rep.non_iff.mpr rfl)
    · cases e
  refine wpAny_mono (ht.run [] s1 (L2.start N vs) H _ I rd) (fun fl s' hs => ?_) fun e s' hs => hs
  have fin : ∀ {σ' : L2.St} {H' : Hp} {v : V} {u : Value}, Inv (cxOf CX0 P w K mg base N x (defScope st) f cdv A outer s H E) [] σ' H' s' → RelV v u → Q v H' → CE outer P w H s Q u s' := fun {σ' H' v u} J' rv qZ => ⟨v, H', J'.os, J'.bare, J'.base, J'.hok, rv, qZ⟩
  cases fl with
  | ret u => obtain ⟨v, σ', H', J', rv, qZ⟩ := hs; exact fin J' rv qZ
  | next => obtain ⟨σ', H', J', qZ⟩ := hs; exact fin (v := V.non) (u := Value.none) J' rfl qZ
  | brk => obtain ⟨_, _, _, qZ⟩ := hs; exact False.elim qZ
  | cont => obtain ⟨_, _, _, qZ⟩ := hs; exact False.elim qZ
end
section
variable {X : Cx} {k : Nat} {f : Addr} {fd : FuncData} {ps : List Str} {sp : Sp}
theorem run_fnG {pins : List (Addr × Obj)} {σ : L2.St} {H : Hp} {s : Shared} {Q : VK} {us : List Value} {kw : List (Str × Value)} {uz : List Value} {vs : List V} (F : FnG X.prog X.w X.K X.mg X.base k f fd ps sp) (hr : Room k X.A) (hG : X.A.guards = some [])
    (hb : BindsTo s fd ⟨us, kw⟩ (ps.zip uz)) (I : Inv X pins σ H s) (r : Vals vs uz) (h : sp vs H Q E0) : wpAny (model X.prog X.w) X.A (call (.ref f) us kw) (EP X pins σ Q) X.xe s := by
  refine wpAny_call (codeAny_mono (F.run X.A X.stack s H ⟨us, kw⟩ uz vs Q E0 hr hG I.env0 hb r h) fun r s' hqZ => ?_)
  cases r with
  | error e => exact False.elim hqZ
  | ok fl =>
    cases fl with
    | ret u => exact I.after hqZ
    | next => exact False.elim hqZ
    | brk => exact False.elim hqZ
    | cont => exact False.elim hqZ
end
/-- how a call's arguments bind: us by place, then the rest by name, in the parameters' order -/
def KwB (x : Str) (st : Stmt) (ps : List Str) (n : Nat) : Prop := ∀ (kV doc pm : Value) (an : Option Addr) (cdv ct : Value) (us ws : List Value), us.length = n → us.length + ws.length = ps.length →
  bindArgs (PySem.W.fnOf x x (defArgs st) (defBody st) (defScope st) .none kV doc pm an cdv ct) ⟨us, (ps.drop n).zip ws⟩ = pure (ps.zip (us ++ ws))
def PosB (x : Str) (st : Stmt) (ps : List Str) : Prop := ∀ (kV doc pm : Value) (an : Option Addr) (cdv ct : Value) (us : List Value), us.length = ps.length →
  bindArgs (PySem.W.fnOf x x (defArgs st) (defBody st) (defScope st) .none kV doc pm an cdv ct) ⟨us, []⟩ = pure (ps.zip us)
def eCallK (f : List PV → Sto → Res (PV × Sto)) (a b : FA) : FE := fun env S => (a env S).bind fun x => (b env x.2).bind fun y => f (x.1 ++ y.1) y.2
section
variable {ct : Ct} {X : Cx} {k : Nat} {ps : List Str} {f : List PV → Sto → Res (PV × Sto)} {x : Str} {st : Stmt} {e : Expr} {es : List Expr} {fa fk : FA} {pos p : Pos}
theorem call_of {K : PySem.W.Frag} {n : Nat} {G : Gh} {σ : L2.St} {env : Env} {H H1 : Hp} {S S1 S' : Sto} {A1 : List Addr} {xs : List PV} {vs : List V} {v : PV} {Q : VK} (gd : Good K ct G σ H env S) (p1 : Post G.A H A1 H1) (s1 : StoOk K ct H1 A1 G.M S1) (r1 : RepL K ct H1 A1 G.M xs vs) (hl : vs.length = n)
    (e : f xs S1 = .ok (v, S')) (q : ∀ x H' A', Post G.A H A' H' → StoOk K ct H' A' G.M S' → Rep K ct H' A' G.M v x → Q x H') : spM K ct n f vs H1 Q E0 :=
  ⟨hl, A1, G.M, xs, S1, v, S', (gd.post p1 s1).bs, r1, e, fun y H' A' p2 s2 r2 => q y H' A' (p1.trans p2) s2 r2⟩
theorem je_call (D : DefOk ct X.prog X.w X.K X.mg X.base x st k ps f) (hr : Room k X.A) (hG : X.A.guards = some []) (hP : PosB x st ps) (ha : JA ct X (e :: es) fa) (hn : (e :: es).length = ps.length := by rfl) (hl : ∀ env S xs S', fa env S = .ok (xs, S') → xs.length = (e :: es).length) (hg : Gl X x := by rfl) (hdb : (x == ("__debug__" : Str)) = false := by decide)
    (he : starEach (e :: es) X.env = (false, eval e X.env) :: starEach es X.env := by rfl) (hpl : (backTo pos (starEach es X.env)).any (·.1) = false := by rfl) : JE ct X (.Call (.Name x p) (e :: es) [] pos) (eCall f fa) := by
  obtain ⟨fad, fd, FD, hm, F⟩ := D
  refine ⟨⟨fun pins s σ H Q IZ h => ?_⟩⟩
  obtain ⟨G, env, S, v, S', gd, h1, q⟩ := h
  obtain ⟨⟨xs, S1⟩, e1, h1⟩ := Res.bind_ok h1
  refine wpAny_Call_Name_kw (ld_glob IZ hg hm ?_ hdb)
  have A0 : rdA X.K ct fa σ H (fun vs H1 => spM X.K ct ps.length f vs H1 Q E0) := ⟨G, env, S, xs, S1, gd, e1, fun vs H1 A1 p1 s1 r1 => call_of gd p1 s1 r1 (by rw [r1.length, hl _ _ _ _ e1, hn]) h1 q⟩
  refine PySem.W.callWith_K (h₀ := X.base) IZ.ok.mod.kin FD.kp (thn (ha.pa.run pos pins s σ H _ IZ A0) fun us s1 ⟨vs, H1, I1, r, q1⟩ => ⟨I1.kIn, ?_⟩) he hpl
  have hlu : us.length = ps.length := by rw [← r.length]; exact q1.1
  have hb : BindsTo s1 fd ⟨us, []⟩ (ps.zip us) := FD.bindsA hP s1 us hlu
  exact run_fnG F hr hG hb I1 r q1
theorem je_call0 (D : DefOk ct X.prog X.w X.K X.mg X.base x st k [] f) (hr : Room k X.A) (hG : X.A.guards = some []) (hP : PosB x st []) (hg : Gl X x := by rfl) (hdb : (x == ("__debug__" : Str)) = false := by decide) : JE ct X (.Call (.Name x p) [] [] pos) (eCall f aNil) := by
  obtain ⟨fad, fd, FD, hm, F⟩ := D
  refine ⟨⟨fun pins s σ H Q IZ h => ?_⟩⟩
  obtain ⟨G, env, S, v, S', gd, h1, q⟩ := h
  obtain ⟨⟨xs, S1⟩, e1, h1⟩ := Res.bind_ok h1
  cases e1
  refine wpAny_Call_Name_kw (ld_glob IZ hg hm ?_ hdb)
  have q1 : spM X.K ct 0 f [] H Q E0 := call_of gd (Post.refl H gd.bs.nodup) gd.bs.sto .nil rfl h1 q
  exact PySem.W.callWith_K0 IZ.kIn FD.kp (run_fnG (us := []) (uz := []) F hr hG (FD.bindsA hP s [] rfl) IZ .nil q1)
theorem je_callK {kws : List Keyword} (n : Nat) (D : DefOk ct X.prog X.w X.K X.mg X.base x st k ps f) (hr : Room k X.A) (hG : X.A.guards = some []) (hK : KwB x st ps n) (ha : JA ct X (e :: es) fa) (hk : JK ct X kws fk)
    (hl : ∀ env S xs S', fa env S = .ok (xs, S') → xs.length = n) (hl2 : ∀ env S xs S', fk env S = .ok (xs, S') → n + xs.length = ps.length)
    (hall : (backToKw pos (keywordEach kws X.env)).all (·.1.isSome) = true := by rfl) (hks : (backToKw pos (keywordEach kws X.env)).filterMap (·.1) = ps.drop n := by rfl) (hg : Gl X x := by rfl) (hdb : (x == ("__debug__" : Str)) = false := by decide)
    (he : starEach (e :: es) X.env = (false, eval e X.env) :: starEach es X.env := by rfl) (hpl : ((backTo pos (starEach (e :: es) X.env)).any (·.1) || (backToKw pos (keywordEach kws X.env)).any (·.1.isNone)) = false := by rfl) : JE ct X (.Call (.Name x p) (e :: es) kws pos) (eCallK f fa fk) := by
  obtain ⟨fad, fd, FD, hm, F⟩ := D
  refine ⟨⟨fun pins s σ H Q IZ h => ?_⟩⟩
  obtain ⟨G, env, S, v, S', gd, h1, q⟩ := h
  obtain ⟨⟨xs, S1⟩, e1, h1⟩ := Res.bind_ok h1
  obtain ⟨⟨zs, S2⟩, e2, h1⟩ := Res.bind_ok h1
  refine wpAny_Call_Name_kw (ld_glob IZ hg hm ?_ hdb)
  have A0 : rdA X.K ct fa σ H (fun vs H1 => rdA X.K ct fk σ H1 fun ws H2 => vs.length = n ∧ spM X.K ct ps.length f (vs ++ ws) H2 Q E0) := ⟨G, env, S, xs, S1, gd, e1, fun vs H1 A1 p1 s1 r1 => ⟨{ G with A := A1 }, env, S1, zs, S2, gd.post p1 s1, e2, fun ws H2 A2 p2 s2 r2 => ⟨by rw [r1.length, hl _ _ _ _ e1], call_of gd (p1.trans p2) s2 ((r1.lat (p2.lat G.M) xs vs).append r2) (by rw [List.length_append, r1.length, r2.length, hl _ _ _ _ e1, hl2 _ _ _ _ e2]) h1 q⟩⟩⟩
  refine PySem.W.callWith_KW (h₀ := X.base) IZ.ok.mod.kin FD.kp hall (thn (ha.pa.run pos pins s σ H _ IZ A0) fun us s1 ⟨vs, H1, I1, r, q1⟩ => ?_) hpl he
  refine thn (hk.pk.run pos pins s1 σ H1 _ I1 q1) fun ws s2 ⟨wv, H2, I2, rz, hvn, q2⟩ => ⟨I2.kIn, ?_⟩
  rw [hks]
  have l1 : us.length = n := by rw [← r.length]; exact hvn
  have l2 : us.length + ws.length = ps.length := by
    rw [← r.length, ← rz.length, ← List.length_append]; exact q2.1
  have hb : BindsTo s2 fd ⟨[] ++ us, (ps.drop n).zip ws⟩ (ps.zip (us ++ ws)) := by
    obtain ⟨oc, od, dV, kV, doc, pm, an, cdv, ctv, osl, rfl, lk, hcd, hDZ, hKK⟩ := FD.ex
    rcases hDZ with ⟨_, rfl⟩ | ⟨e, _⟩
    · exact .of_eq (hK kV doc pm an cdv ctv us ws l1 l2)
    · exact absurd rfl e
  exact run_fnG F hr hG hb I2 (r.append rz) q2
theorem je_callK0 {kws : List Keyword} (D : DefOk ct X.prog X.w X.K X.mg X.base x st k ps f) (hr : Room k X.A) (hG : X.A.guards = some []) (hK : KwB x st ps 0) (hk : JK ct X kws fk)
    (hl2 : ∀ env S xs S', fk env S = .ok (xs, S') → xs.length = ps.length)
    (hall : (backToKw pos (keywordEach kws X.env)).all (·.1.isSome) = true := by rfl) (hks : (backToKw pos (keywordEach kws X.env)).filterMap (·.1) = ps := by rfl) (hg : Gl X x := by rfl) (hdb : (x == ("__debug__" : Str)) = false := by decide)
    (hpl : ((backTo pos (starEach [] X.env)).any (·.1) || (backToKw pos (keywordEach kws X.env)).any (·.1.isNone)) = false := by rfl) : JE ct X (.Call (.Name x p) [] kws pos) (eCallK f aNil fk) := by
  obtain ⟨fad, fd, FD, hm, F⟩ := D
  refine ⟨⟨fun pins s σ H Q IZ h => ?_⟩⟩
  obtain ⟨G, env, S, v, S', gd, h1, q⟩ := h
  obtain ⟨⟨xs, S1⟩, e1, h1⟩ := Res.bind_ok h1
  cases e1
  obtain ⟨⟨zs, S2⟩, e2, h1⟩ := Res.bind_ok h1
  refine wpAny_Call_Name_kw (ld_glob IZ hg hm ?_ hdb)
  have A0 : rdA X.K ct fk σ H fun ws H2 => spM X.K ct ps.length f ws H2 Q E0 := ⟨G, env, _, zs, S2, gd, e2, fun ws H2 A2 p2 s2 r2 => call_of gd p2 s2 r2 (by rw [r2.length, hl2 _ _ _ _ e2]) h1 q⟩
  refine PySem.W.callWith_KW0 (h₀ := X.base) IZ.ok.mod.kin FD.kp hall (thn (hk.pk.run pos pins s σ H _ IZ A0) fun ws s2 ⟨wv, H2, I2, rz, q2⟩ => ⟨I2.kIn, ?_⟩) hpl
  rw [hks]
  have l2 : ws.length = ps.length := by rw [← rz.length]; exact q2.1
  have hb : BindsTo s2 fd ⟨[] ++ [], ps.zip ws⟩ (ps.zip ws) := by
    obtain ⟨oc, od, dV, kV, doc, pm, an, cdv, ctv, osl, rfl, lk, hcd, hDZ, hKK⟩ := FD.ex
    rcases hDZ with ⟨_, rfl⟩ | ⟨e, _⟩
    · exact .of_eq (hK kV doc pm an cdv ctv [] ws rfl (by simpa using l2))
    · exact absurd rfl e
  exact run_fnG F hr hG hb I2 rz q2
end
end J
set_option Elab.async false
set_option linter.all false
set_option maxRecDepth 100000
/-! J: operators and built-in functions by values. -/
namespace J
open PySem L2

section
variable {K : PySem.W.Frag} {ct : Ct} {H : Hp} {A M : List Addr}
theorem RepB.int {i : Int} {x : V} (h : RepB K ct H A M (.int i) x) : x = .int i := by
  rcases h with h | ⟨p, _, _, c⟩
  · exact Rep.int_iff.mp h
  · exact False.elim c
theorem RepB.bl {i : Bool} {x : V} (h : RepB K ct H A M (.bl i) x) : x = .bl i := by
  rcases h with h | ⟨p, _, _, c⟩
  · exact Rep.bl_iff.mp h
  · exact False.elim c
theorem RepB.str {i : Str} {x : V} (h : RepB K ct H A M (.str i) x) : x = .str i := by
  rcases h with h | ⟨p, _, _, c⟩
  · exact Rep.str_iff.mp h
  · exact False.elim c
theorem RepB.non {x : V} (h : RepB K ct H A M .non x) : x = .non := by
  rcases h with h | ⟨p, _, _, c⟩
  · exact Rep.non_iff.mp h
  · exact False.elim c
theorem RepB.tup {xs : List PV} {x : V} (h : RepB K ct H A M (.tup xs) x) : ∃ a vs, x = .ref a ∧ Vw H A M a (.tup vs) ∧ RepL K ct H A M xs vs := by
  rcases h with h | ⟨p, _, _, c⟩
  · exact h.tup_inv
  · exact False.elim c
theorem RepB.lst {xs : List PV} {x : V} (h : RepB K ct H A M (.lst xs) x) : ∃ a vs, x = .ref a ∧ H a = some (.lst vs) ∧ RepL K ct H A M xs vs := by
  rcases h with h | ⟨p, e, _, c⟩
  · obtain ⟨a, vs, h1, h2, h3⟩ := h.lst_inv
    exact ⟨a, vs, h1, h2.1, h3⟩
  · obtain ⟨vs, h1, h2⟩ := c
    exact ⟨p, vs, e, h1, h2⟩
theorem Hx.new_tup {xs : List PV} {vs : List V} {p : Addr} (hx : Hx A M H) (r : RepL K ct H A M xs vs) (np : H p = none) : Same H (upd H p (.tup vs)) ∧ Rep K ct (upd H p (.tup vs)) A M (.tup xs) (.ref p) := ⟨same_new np, Rep.new_tup r np hx.inA hx.inM hx.nd⟩
theorem Hx.new_lst {xs : List PV} {vs : List V} {p : Addr} (hx : Hx A M H) (r : RepL K ct H A M xs vs) (np : H p = none) : Same H (upd H p (.lst vs)) ∧ Rep K ct (upd H p (.lst vs)) A M (.lst xs) (.ref p) := ⟨same_new np, Rep.new_lst r np hx.inA hx.inM hx.nd⟩
end

/-! ### arithmetic -/
def okMul (i j : Int) : Bool := decide ((-(2 ^ 64) < i ∧ i < 2 ^ 64) ∨ (-(2 ^ 64) < j ∧ j < 2 ^ 64))
def pAdd : PV → PV → Option PV
  | .int i, .int j => some (.int (i + j))
  | .tup a, .tup b => if a.length + b.length ≤ 1000000 then some (.tup (a ++ b)) else none
  | .lst a, .lst b => if a.length + b.length ≤ 1000000 then some (.lst (a ++ b)) else none
  | .str a, .str b => if a.length + b.length ≤ 1000000 then some (.str (a ++ b)) else none
  | _, _ => none
def pSub : PV → PV → Option PV
  | .int i, .int j => some (.int (i - j))
  | _, _ => none
def pMul : PV → PV → Option PV
  | .int i, .int j => if okMul i j then some (.int (i * j)) else none
  | _, _ => none
def pMod : PV → PV → Option PV
  | .int i, .int j => if 0 < j then some (.int (i % j)) else none
  | _, _ => none
def pDiv : PV → PV → Option PV
  | .int i, .int j => if 0 < j ∧ j < 1073741824 then some (.int (i / j)) else none
  | _, _ => none
def pPow : PV → PV → Option PV
  | .int i, .int j => if 0 ≤ j ∧ j ≤ 1000 ∧ i.natAbs < 2 ^ 64 then some (.int (i ^ j.toNat)) else none
  | _, _ => none
def pNeg : PV → Option PV
  | .int i => some (.int (-i))
  | _ => none
def pCmp (f : Int → Int → Bool) : PV → PV → Option PV
  | .int i, .int j => some (.bl (f i j))
  | _, _ => none
abbrev pLt := pCmp fun i j => decide (i < j)
abbrev pLe := pCmp fun i j => decide (i ≤ j)
abbrev pGt := pCmp fun i j => decide (j < i)
abbrev pGe := pCmp fun i j => decide (j ≤ i)
/-- list + list, whatever stands there -/
def rAdd4 (K : PySem.W.Frag) : R2 := fun x y H Q => rI0 (fun i j => .int (i + j)) x y H Q ∨ rCatA K x y H Q ∨ rCat x y H Q ∨ ∃ i j, x = .str i ∧ y = .str j ∧ i.length + j.length ≤ sizeLine ∧ Q (.str (i ++ j)) H
section
variable {ct : Ct} {X : Cx} {K : PySem.W.Frag}
theorem or_add : OpR X (binaryOp .Add) (rAdd4 X.K) := op_add.or (op_catA.or (op_cat.or op_add_str))
theorem ok_add : OpOk K ct (rAdd4 K) pAdd := fun H A M x y vx vy v Q hx rx ry e q => by
  unfold pAdd at e
  split at e
  · cases e
    exact .inl ⟨_, _, rx.int, ry.int, q _ H (Same.refl H) (Rep.int_iff.mpr rfl)⟩
  · split at e
    · rename_i xs ys hz
      cases e
      obtain ⟨a, vs, rfl, h1, h2⟩ := rx.tup
      obtain ⟨b, ws, rfl, h3, h4⟩ := ry.tup
      have l1 := h2.length
      have l2 := h4.length
      refine .inr (.inl ⟨a, b, vs, ws, rfl, rfl, h1.sqT, h3.sqT, by rw [l1, l2]; exact sz_mil hz, fun e0 => ?_, fun _ e0 => ?_, fun _ _ p np => ?_⟩)
      · subst e0
        have : xs = [] := List.eq_nil_of_length_eq_zero (by simpa using l1.symm)
        subst this
        refine q _ H (Same.refl H) ?_
        simp only [Rep]
        exact ⟨b, ws, rfl, h3, h4⟩
      · subst e0
        have : ys = [] := List.eq_nil_of_length_eq_zero (by simpa using l2.symm)
        subst this
        refine q _ H (Same.refl H) ?_
        rw [List.append_nil]
        simp only [Rep]
        exact ⟨a, vs, rfl, h1, h2⟩
      · obtain ⟨k1, k2⟩ := hx.new_tup (h2.append h4) np
        exact q _ _ k1 k2
    · cases e
  · split at e
    · rename_i xs ys hz
      cases e
      obtain ⟨a, vs, rfl, h1, h2⟩ := rx.lst
      obtain ⟨b, ws, rfl, h3, h4⟩ := ry.lst
      refine .inr (.inr (.inl ⟨a, b, vs, ws, rfl, rfl, h1, h3, by rw [h2.length, h4.length]; exact sz_mil hz, fun p np => ?_⟩))
      obtain ⟨k1, k2⟩ := hx.new_lst (h2.append h4) np
      exact q _ _ k1 k2
    · cases e
  · split at e
    · rename_i xs ys hz
      cases e
      exact .inr (.inr (.inr ⟨_, _, rx.str, ry.str, sz_mil hz, q _ H (Same.refl H) (Rep.str_iff.mpr rfl)⟩))
    · cases e
  · cases e
theorem ok_sub : OpOk K ct (rI0 fun i j => .int (i - j)) pSub := fun H A M x y vx vy v Q hx rx ry e q => by
  unfold pSub at e
  split at e
  · cases e
    exact ⟨_, _, rx.int, ry.int, q _ H (Same.refl H) (Rep.int_iff.mpr rfl)⟩
  · cases e
theorem ok_mul : OpOk K ct (rI CMul fun i j => .int (i * j)) pMul := fun H A M x y vx vy v Q hx rx ry e q => by
  unfold pMul at e
  split at e
  · split at e
    · rename_i hz
      cases e
      exact ⟨_, _, rx.int, ry.int, by unfold okMul at hz; have h := of_decide_eq_true hz; exact h, q _ H (Same.refl H) (Rep.int_iff.mpr rfl)⟩
    · cases e
  · cases e
theorem ok_mod : OpOk K ct (rI (fun _ j => 0 < j) fun i j => .int (i % j)) pMod := fun H A M x y vx vy v Q hx rx ry e q => by
  unfold pMod at e
  split at e
  · split at e
    · rename_i hz
      cases e
      exact ⟨_, _, rx.int, ry.int, hz, q _ H (Same.refl H) (Rep.int_iff.mpr rfl)⟩
    · cases e
  · cases e
theorem ok_div : OpOk K ct (rI CDiv fun i j => .int (i / j)) pDiv := fun H A M x y vx vy v Q hx rx ry e q => by
  unfold pDiv at e
  split at e
  · split at e
    · rename_i hz
      cases e
      exact ⟨_, _, rx.int, ry.int, hz, q _ H (Same.refl H) (Rep.int_iff.mpr rfl)⟩
    · cases e
  · cases e
theorem ok_pow : OpOk K ct (rI CPow fun i j => .int (i ^ j.toNat)) pPow := fun H A M x y vx vy v Q hx rx ry e q => by
  unfold pPow at e
  split at e
  · split at e
    · rename_i hz
      cases e
      exact ⟨_, _, rx.int, ry.int, ⟨hz.1, by have := hz.2.1; omega, hz.2.2⟩, q _ H (Same.refl H) (Rep.int_iff.mpr rfl)⟩
    · cases e
  · cases e
theorem ok_cmp {f : Int → Int → Bool} : OpOk K ct (rI0 fun i j => .bl (f i j)) (pCmp f) := fun H A M x y vx vy v Q hx rx ry e q => by
  unfold pCmp at e
  split at e
  · cases e
    exact ⟨_, _, rx.int, ry.int, q _ H (Same.refl H) (Rep.bl_iff.mpr rfl)⟩
  · cases e
variable {a b c : Expr} {fa fb fc : FE} {pos : Pos}
theorem je_add (ha : JB ct X a fa) (hb : JB ct X b fb) : JE ct X (.BinOp a .Add b pos) (eOp pAdd fa fb) := je_op or_add ok_add ha hb
theorem je_sub (ha : JB ct X a fa) (hb : JB ct X b fb) : JE ct X (.BinOp a .Sub b pos) (eOp pSub fa fb) := je_op op_sub ok_sub ha hb
theorem je_mul (ha : JB ct X a fa) (hb : JB ct X b fb) : JE ct X (.BinOp a .Mult b pos) (eOp pMul fa fb) := je_op op_mul ok_mul ha hb
theorem je_mod (ha : JB ct X a fa) (hb : JB ct X b fb) : JE ct X (.BinOp a .Mod b pos) (eOp pMod fa fb) := je_op op_mod ok_mod ha hb
theorem je_div (ha : JB ct X a fa) (hb : JB ct X b fb) : JE ct X (.BinOp a .FloorDiv b pos) (eOp pDiv fa fb) := je_op op_fdiv ok_div ha hb
theorem je_pow (ha : JB ct X a fa) (hb : JB ct X b fb) : JE ct X (.BinOp a .Pow b pos) (eOp pPow fa fb) := je_op op_pow ok_pow ha hb
theorem je_neg (ha : JE ct X a fa) : JE ct X (.UnaryOp .USub a pos) (eUn pNeg fa) := je_un un_neg (fun H A M x vx v Q r e q => by
  cases vx with
  | int i => cases e; exact ⟨i, Rep.int_iff.mp r, q _ fun _ _ _ => Rep.int_iff.mpr rfl⟩
  | _ => cases e) ha
theorem je_lt (ha : JB ct X a fa) (hb : JB ct X b fb) : JE ct X (.Compare a [.Lt] [b] pos) (eOp pLt fa fb) := je_cmp op_lt ok_cmp ha hb
theorem je_le (ha : JB ct X a fa) (hb : JB ct X b fb) : JE ct X (.Compare a [.LtE] [b] pos) (eOp pLe fa fb) := je_cmp op_le ok_cmp ha hb
theorem je_gt (ha : JB ct X a fa) (hb : JB ct X b fb) : JE ct X (.Compare a [.Gt] [b] pos) (eOp pGt fa fb) := je_cmp op_gt ok_cmp ha hb
theorem je_ge (ha : JB ct X a fa) (hb : JB ct X b fb) : JE ct X (.Compare a [.GtE] [b] pos) (eOp pGe fa fb) := je_cmp op_ge ok_cmp ha hb
theorem jt_lt (ha : JB ct X a fa) (hb : JB ct X b fb) : JT ct X (.Compare a [.Lt] [b] pos) (tV (eOp pLt fa fb)) := jt_cmp op_lt ok_cmp ha hb
theorem jt_le (ha : JB ct X a fa) (hb : JB ct X b fb) : JT ct X (.Compare a [.LtE] [b] pos) (tV (eOp pLe fa fb)) := jt_cmp op_le ok_cmp ha hb
theorem jt_gt (ha : JB ct X a fa) (hb : JB ct X b fb) : JT ct X (.Compare a [.Gt] [b] pos) (tV (eOp pGt fa fb)) := jt_cmp op_gt ok_cmp ha hb
theorem jt_ge (ha : JB ct X a fa) (hb : JB ct X b fb) : JT ct X (.Compare a [.GtE] [b] pos) (tV (eOp pGe fa fb)) := jt_cmp op_ge ok_cmp ha hb
/-- a op b op' c -/
def eChain (op op' : PV → PV → Option PV) (a b c : FE) : FE := fun env S => (a env S).bind fun x => (b env x.2).bind fun y => (ofO (op x.1 y.1)).bind fun z => match z with
  | .bl true => (c env y.2).bind fun u => (ofO (op' y.1 u.1)).bind fun t => .ok (t, u.2)
  | .bl false => .ok (.bl false, y.2)
  | _ => .err
theorem rd_chain {op op' : PV → PV → Option PV} {r r' : R2} (ho : OpOk K ct r op) (ho' : OpOk K ct r' op') (hb1 : ∀ x y v, op x y = some v → ∃ k, v = .bl k) {σ : St} {H : Hp} {Q : VK} (h : rd K ct (eChain op op' fa fb fc) σ H Q) : tChain r r' (rd K ct fa) (rd K ct fb) (rd K ct fc) σ H Q := by
  obtain ⟨G, env, S, v, S', g, h1, q⟩ := h
  obtain ⟨⟨x, S1⟩, e1, h1⟩ := Res.bind_ok h1
  obtain ⟨⟨y, S2⟩, e2, h1⟩ := Res.bind_ok h1
  obtain ⟨z, e3, h1⟩ := Res.bind_ok h1
  refine ⟨G, env, S, x, S1, g, e1, fun x' H1 A1 p1 s1 r1 => ⟨{ G with A := A1 }, env, S1, y, _, g.post p1 s1, e2, fun y' H2 A2 p2 s2 r2 => ?_⟩⟩
  have g2 := (g.post p1 s1).post p2 s2
  have e3' := ofO_ok e3
  refine ho H2 A2 G.M x' y' x y z _ g2.hx (.inl (r1.lat (p2.lat G.M) x x')) (.inl r2) e3' fun z' H3 sm r3 => ?_
  obtain ⟨k, rfl⟩ := hb1 _ _ _ e3'
  refine ⟨k, Rep.bl_iff.mp r3, ?_⟩
  have p3 : Post A2 H2 A2 H3 := Post.grow g2.bs.nodup sm
  have s3 := s2.grow g2.bs.nodup sm
  cases k with
  | true =>
    rw [if_pos rfl]
    obtain ⟨⟨u, S4⟩, e4, h1⟩ := Res.bind_ok h1
    obtain ⟨t, e5, h1⟩ := Res.bind_ok h1
    cases h1
    refine ⟨_, env, S2, u, _, g2.post p3 s3, e4, fun u' H4 A4 p4 s4 r4 => ?_⟩
    have g4 := (g2.post p3 s3).post p4 s4
    refine ho' H4 A4 G.M y' u' y u v Q g4.hx (.inl ((r2.lat (p3.lat G.M) y y').lat (p4.lat G.M) y y')) (.inl r4) (ofO_ok e5) fun t' H5 sm5 r5 => ?_
    exact q _ H5 A4 ((((p1.trans p2).trans p3).trans p4).trans (Post.grow g4.bs.nodup sm5)) (s4.grow g4.bs.nodup sm5) r5
  | false =>
    rw [if_neg falseNe]
    cases h1
    exact q _ H3 A2 ((p1.trans p2).trans p3) s3 (Rep.bl_iff.mpr rfl)
theorem pCmp_bl {f : Int → Int → Bool} {x y v : PV} (h : pCmp f x y = some v) : ∃ k, v = .bl k := by
  unfold pCmp at h
  split at h
  · cases h; exact ⟨_, rfl⟩
  · cases h
theorem je_chain {op op' : CmpOp} {f f' : Int → Int → Bool} (ho : OpR X (compareOp op) (rI0 fun i j => .bl (f i j))) (ho' : OpR X (compareOp op') (rI0 fun i j => .bl (f' i j))) (ha : JE ct X a fa) (hb : JE ct X b fb) (hc : JE ct X c fc) (hm : lastMarks [op, op'] [b, c] = false := by with_unfolding_all rfl) :
    JE ct X (.Compare a [op, op'] [b, c] pos) (eChain (pCmp f) (pCmp f') fa fb fc) := ⟨(pe_chain ho ho' ha.pe hb.pe hc.pe hm).imp fun _ _ _ h => rd_chain ok_cmp ok_cmp (fun _ _ _ => pCmp_bl) h⟩
theorem jt_chain {op op' : CmpOp} {f f' : Int → Int → Bool} (ho : OpR X (compareOp op) (rI0 fun i j => .bl (f i j))) (ho' : OpR X (compareOp op') (rI0 fun i j => .bl (f' i j))) (ha : JE ct X a fa) (hb : JE ct X b fb) (hc : JE ct X c fc) (hm : lastMarks [op, op'] [b, c] = false := by with_unfolding_all rfl) :
    JT ct X (.Compare a [op, op'] [b, c] pos) (tV (eChain (pCmp f) (pCmp f') fa fb fc)) := ⟨(pt_chain ho ho' ha.pe hb.pe hc.pe hm).imp fun _ _ _ h => rdT_tTest (fun _ _ _ z => rd_chain ok_cmp ok_cmp (fun _ _ _ => pCmp_bl) z) h⟩
end

/-! ### equality of data -/
mutual
def isD : PV → Bool
  | .non => true
  | .bl _ => true
  | .int _ => true
  | .str x => PyData.strOk x
  | .tup xs => isDL xs
  | .lst xs => isDL xs
  | _ => false
def isDL : List PV → Bool
  | [] => true
  | x :: r => isD x && isDL r
end
mutual
def toD : PV → PyData
  | .bl b => .bool b
  | .int i => .int i
  | .str x => .str x
  | .tup xs => .tuple (toDL xs)
  | .lst xs => .list (toDL xs)
  | _ => .none
def toDL : List PV → List PyData
  | [] => []
  | x :: r => toD x :: toDL r
end
-- == as Python has it
mutual
def eqP : PV → PV → Bool
  | .non, .non => true
  | .bl a, .bl b => a == b
  | .bl a, .int j => (if a then 1 else 0) == j
  | .int i, .bl b => i == (if b then 1 else 0)
  | .int i, .int j => i == j
  | .str x, .str y => x == y
  | .lst xs, .lst ys => eqPL xs ys
  | .tup xs, .tup ys => eqPL xs ys
  | _, _ => false
def eqPL : List PV → List PV → Bool
  | [], [] => true
  | x :: xs, y :: ys => eqP x y && eqPL xs ys
  | _, _ => false
end
mutual
theorem eqv_toD : ∀ (a b : PV), isD a = true → isD b = true → PyData.eqv (toD a) (toD b) = eqP a b
  | .non, b, _, hb => by cases b <;> first | rfl | cases hb
  | .bl a, b, _, hb => by cases b <;> first | rfl | cases hb
  | .int a, b, _, hb => by cases b <;> first | rfl | cases hb
  | .str a, b, _, hb => by cases b <;> first | rfl | cases hb
  | .tup xs, b, ha, hb => by
    cases b with
    | tup ys =>
      simp only [toD, eqP, PyData.eqv]
      exact eqvAll_toD xs ys (by simpa only [isD] using ha) (by simpa only [isD] using hb)
    | dic _ _ _ => cases hb
    | ins _ _ => cases hb
    | obj _ => cases hb
    | scr _ => cases hb
    | _ => rfl
  | .lst xs, b, ha, hb => by
    cases b with
    | lst ys =>
      simp only [toD, eqP, PyData.eqv]
      exact eqvAll_toD xs ys (by simpa only [isD] using ha) (by simpa only [isD] using hb)
    | dic _ _ _ => cases hb
    | ins _ _ => cases hb
    | obj _ => cases hb
    | scr _ => cases hb
    | _ => rfl
  | .dic _ _ _, _, ha, _ => by cases ha
  | .ins _ _, _, ha, _ => by cases ha
  | .obj _, _, ha, _ => by cases ha
  | .scr _, _, ha, _ => by cases ha
theorem eqvAll_toD : ∀ (xs ys : List PV), isDL xs = true → isDL ys = true → PyData.eqvAll (toDL xs) (toDL ys) = eqPL xs ys
  | [], [], _, _ => rfl
  | [], _ :: _, _, _ => rfl
  | _ :: _, [], _, _ => rfl
  | x :: xs, y :: ys, hx, hy => by
    simp only [isDL, Bool.and_eq_true] at hx hy
    simp only [toDL, eqPL, PyData.eqvAll]
    rw [eqv_toD x y hx.1 hy.1, eqvAll_toD xs ys hx.2 hy.2]
end
mutual
def dpP : PV → Nat
  | .tup xs => dpPL xs + 1
  | .lst xs => dpPL xs + 1
  | _ => 0
def dpPL : List PV → Nat
  | [] => 0
  | x :: r => max (dpP x) (dpPL r)
end
mutual
theorem depth_toD : ∀ (a : PV), (toD a).depth = dpP a
  | .tup xs => by simp only [toD, dpP, PyData.depth]; rw [depth_toDL xs]
  | .lst xs => by simp only [toD, dpP, PyData.depth]; rw [depth_toDL xs]
  | .non => rfl
  | .bl _ => rfl
  | .int _ => rfl
  | .str _ => rfl
  | .dic _ _ _ => rfl
  | .ins _ _ => rfl
  | .obj _ => rfl
  | .scr _ => rfl
theorem depth_toDL : ∀ (xs : List PV), PyData.depthAll (toDL xs) = dpPL xs
  | [] => rfl
  | x :: r => by simp only [toDL, dpPL, PyData.depthAll]; rw [depth_toD x, depth_toDL r]
end
mutual
theorem lay_toD : ∀ (a : PV), isD a = true → (toD a).canLay0 = true
  | .tup xs, h => by simp only [toD, PyData.canLay0]; exact lay_toDL xs (by simpa only [isD] using h)
  | .lst xs, h => by simp only [toD, PyData.canLay0]; exact lay_toDL xs (by simpa only [isD] using h)
  | .non, _ => rfl
  | .bl _, _ => rfl
  | .int _, _ => rfl
  | .str _, h => h
  | .dic _ _ _, h => by cases h
  | .ins _ _, h => by cases h
  | .obj _, h => by cases h
  | .scr _, h => by cases h
theorem lay_toDL : ∀ (xs : List PV), isDL xs = true → PyData.canLayAll0 (toDL xs) = true
  | [], _ => rfl
  | x :: r, h => by
    simp only [isDL, Bool.and_eq_true] at h
    simp only [toDL, PyData.canLayAll0, Bool.and_eq_true]
    exact ⟨lay_toD x h.1, lay_toDL r h.2⟩
end
section
variable {K : PySem.W.Frag} {ct : Ct} {H : Hp} {A M : List Addr}
mutual
theorem Rep.dp : ∀ (v : PV) (x : V), isD v = true → Rep K ct H A M v x → Dp K H x (toD v)
  | .non, x, _, r => by rw [Rep.non_iff.mp r]; exact .non
  | .bl b, x, _, r => by rw [Rep.bl_iff.mp r]; exact .bl b
  | .int i, x, _, r => by rw [Rep.int_iff.mp r]; exact .int i
  | .str i, x, _, r => by rw [Rep.str_iff.mp r]; exact .str i
  | .tup xs, x, h, r => by
    obtain ⟨a, vs, rfl, h1, h2⟩ := r.tup_inv
    simp only [toD]
    exact .tup h1.sqT (RepL.dp xs vs (by simpa only [isD] using h) h2)
  | .lst xs, x, h, r => by
    obtain ⟨a, vs, rfl, h1, h2⟩ := r.lst_inv
    simp only [toD]
    exact .lst h1.sqL (RepL.dp xs vs (by simpa only [isD] using h) h2)
  | .dic _ _ _, _, h, _ => by cases h
  | .ins _ _, _, h, _ => by cases h
  | .obj _, _, h, _ => by cases h
  | .scr _, _, h, _ => by cases h
theorem RepL.dp : ∀ (xs : List PV) (vs : List V), isDL xs = true → RepL K ct H A M xs vs → DpAll K H vs (toDL xs)
  | [], vs, _, r => by rw [RepL.nil_iff.mp r]; exact .nil
  | x :: xs, vs, h, r => by
    obtain ⟨v, ws, rfl, h1, h2⟩ := r.inv
    simp only [isDL, Bool.and_eq_true] at h
    simp only [toDL]
    exact .cons (Rep.dp x v h.1 h1) (RepL.dp xs ws h.2 h2)
end
theorem RepB.dp {v : PV} {x : V} (h : isD v = true) (r : RepB K ct H A M v x) : Dp K H x (toD v) := by
  rcases r with r | ⟨p, rfl, _, c⟩
  · exact r.dp v x h
  · cases v with
    | lst xs =>
      obtain ⟨vs, h1, h2⟩ := c
      simp only [toD]
      exact .lst (.inl (.inl h1)) (RepL.dp xs vs (by simpa only [isD] using h) h2)
    | dic _ _ _ => cases h
    | _ => exact False.elim c
end
def dOK (v : PV) : Bool := isD v && decide (dpP v ≤ 60)
theorem dOK.shaped {v : PV} (h : dOK v = true) : isD v = true ∧ SeqAt.shaped (toD v) = true := by
  unfold dOK at h
  simp only [Bool.and_eq_true, decide_eq_true_eq (p := dpP v ≤ 60)] at h
  refine ⟨h.1, ?_⟩
  unfold SeqAt.shaped
  rw [Bool.and_eq_true, decide_eq_true_eq, depth_toD]
  exact ⟨lay_toD v h.1, Nat.le_trans h.2 (by decide)⟩
def pEq (a b : PV) : Option PV := if dOK a && dOK b then some (.bl (eqP a b)) else none
def pNe (a b : PV) : Option PV := if dOK a && dOK b then some (.bl (!eqP a b)) else none
section
variable {ct : Ct} {X : Cx} {K : PySem.W.Frag} {a b : Expr} {fa fb : FE} {pos : Pos}
theorem ok_eq : OpOk K ct (rEqD K) pEq := fun H A M x y vx vy v Q hx rx ry e q => by
  unfold pEq at e
  split at e
  · rename_i h
    cases e
    rw [Bool.and_eq_true] at h
    obtain ⟨a1, a2⟩ := dOK.shaped h.1
    obtain ⟨b1, b2⟩ := dOK.shaped h.2
    refine ⟨_, _, rx.dp a1, ry.dp b1, a2, b2, ?_⟩
    rw [eqv_toD _ _ a1 b1]
    exact q _ H (Same.refl H) (Rep.bl_iff.mpr rfl)
  · cases e
theorem ok_ne : OpOk K ct (rNeD K) pNe := fun H A M x y vx vy v Q hx rx ry e q => by
  unfold pNe at e
  split at e
  · rename_i h
    cases e
    rw [Bool.and_eq_true] at h
    obtain ⟨a1, a2⟩ := dOK.shaped h.1
    obtain ⟨b1, b2⟩ := dOK.shaped h.2
    refine ⟨_, _, rx.dp a1, ry.dp b1, a2, b2, ?_⟩
    rw [eqv_toD _ _ a1 b1]
    exact q _ H (Same.refl H) (Rep.bl_iff.mpr rfl)
  · cases e
theorem je_eq {k : Nat} (hr : Room k X.A) (ha : JB ct X a fa) (hb : JB ct X b fb) : JE ct X (.Compare a [.Eq] [b] pos) (eOp pEq fa fb) := je_cmp (op_eqD hr.units) ok_eq ha hb
theorem je_ne {k : Nat} (hr : Room k X.A) (ha : JB ct X a fa) (hb : JB ct X b fb) : JE ct X (.Compare a [.NotEq] [b] pos) (eOp pNe fa fb) := je_cmp (op_neD hr.units) ok_ne ha hb
theorem jt_eq {k : Nat} (hr : Room k X.A) (ha : JB ct X a fa) (hb : JB ct X b fb) : JT ct X (.Compare a [.Eq] [b] pos) (tV (eOp pEq fa fb)) := jt_cmp (op_eqD hr.units) ok_eq ha hb
theorem jt_ne {k : Nat} (hr : Room k X.A) (ha : JB ct X a fa) (hb : JB ct X b fb) : JT ct X (.Compare a [.NotEq] [b] pos) (tV (eOp pNe fa fb)) := jt_cmp (op_neD hr.units) ok_ne ha hb
/-- is None, is not None -/
def nonP : PV → Bool
  | .non => true
  | _ => false
def pIsN : PV → PV → Option PV
  | x, .non => some (.bl (nonP x))
  | _, _ => none
def pNotN : PV → PV → Option PV
  | x, .non => some (.bl (!nonP x))
  | _, _ => none
theorem RepB.isNon {H : Hp} {A M : List Addr} {v : PV} {x : V} (r : RepB K ct H A M v x) : decide (x = .non) = nonP v := by
  cases v with
  | non => have e := r.non; subst e; rfl
  | bl b => have e := r.bl; subst e; rfl
  | int b => have e := r.int; subst e; rfl
  | str b => have e := r.str; subst e; rfl
  | tup xs => obtain ⟨_, _, rfl, _⟩ := r.tup; rfl
  | lst xs => obtain ⟨_, _, rfl, _⟩ := r.lst; rfl
  | dic t ks xs =>
    rcases r with r | ⟨p, rfl, _⟩
    · simp only [Rep] at r
      obtain ⟨a, rfl, _⟩ := r
      rfl
    · rfl
  | ins c fs =>
    rcases r with r | ⟨p, rfl, _⟩
    · simp only [Rep] at r
      obtain ⟨a, _, _, _, _, rfl, _⟩ := r
      rfl
    · rfl
  | obj n =>
    rcases r with r | ⟨p, rfl, _⟩
    · simp only [Rep] at r
      obtain ⟨a, rfl, _⟩ := r
      rfl
    · rfl
  | scr n =>
    rcases r with r | ⟨p, rfl, _⟩
    · simp only [Rep] at r
      obtain ⟨a, rfl, _⟩ := r
      rfl
    · rfl
theorem ok_isN : OpOk K ct (fun x y H Q => y = .non ∧ Q (.bl (decide (x = .non))) H) pIsN := fun H A M x y vx vy v Q hx rx ry e q => by
  cases vy with
  | non =>
    cases e
    refine ⟨ry.non, ?_⟩
    rw [rx.isNon]
    exact q _ H (Same.refl H) (Rep.bl_iff.mpr rfl)
  | _ => cases e
theorem ok_notN : OpOk K ct (fun x y H Q => y = .non ∧ Q (.bl (!decide (x = .non))) H) pNotN := fun H A M x y vx vy v Q hx rx ry e q => by
  cases vy with
  | non =>
    cases e
    refine ⟨ry.non, ?_⟩
    rw [rx.isNon]
    exact q _ H (Same.refl H) (Rep.bl_iff.mpr rfl)
  | _ => cases e
theorem je_is (ha : JB ct X a fa) (hb : JB ct X b fb) : JE ct X (.Compare a [.Is] [b] pos) (eOp pIsN fa fb) := je_cmp op_isN ok_isN ha hb
theorem jt_is (ha : JB ct X a fa) (hb : JB ct X b fb) : JT ct X (.Compare a [.Is] [b] pos) (tV (eOp pIsN fa fb)) := jt_cmp op_isN ok_isN ha hb
theorem je_isnot (ha : JB ct X a fa) (hb : JB ct X b fb) : JE ct X (.Compare a [.IsNot] [b] pos) (eOp pNotN fa fb) := je_cmp op_notN ok_notN ha hb
theorem jt_isnot (ha : JB ct X a fa) (hb : JB ct X b fb) : JT ct X (.Compare a [.IsNot] [b] pos) (tV (eOp pNotN fa fb)) := jt_cmp op_notN ok_notN ha hb
end
end J
set_option Elab.async false
set_option linter.all false
set_option maxRecDepth 100000
/-! J: subscripts, slices, membership, dicts read. -/
namespace J
open PySem L2

theorem _root_.L2.PE.or {X : Cx} {e : Expr} {t t' : TE} (h : PE X e t) (h' : PE X e t') : PE X e (fun σ H Q => t σ H Q ∨ t' σ H Q) := ⟨fun pins s σ H Q I q => q.elim (h.run pins s σ H Q I) (h'.run pins s σ H Q I)⟩
theorem _root_.L2.PC.or {X : Cx} {op : CmpOp} {a b : Expr} {t t' : TE} (h : PC X op a b t) (h' : PC X op a b t') : PC X op a b (fun σ H Q => t σ H Q ∨ t' σ H Q) := ⟨fun pins s σ H Q I q => q.elim (h.run pins s σ H Q I) (h'.run pins s σ H Q I)⟩

/-! ### dicts, read -/
def keyOf : PV → Option Key
  | .int i => some (.inl i)
  | .str x => some (.inr x)
  | _ => none
def keysOf : List PV → Option (List Key)
  | [] => some []
  | p :: r => (keyOf p).bind fun k => (keysOf r).map fun ks => k :: ks
theorem keyOf_eq {p : PV} {k : Key} (h : keyOf p = some k) : p = keyV k := by
  cases p with
  | int i => cases h; rfl
  | str i => cases h; rfl
  | _ => cases h
theorem keysOf_eq : ∀ {ps : List PV} {ks : List Key}, keysOf ps = some ks → ps = ks.map keyV
  | [], ks, h => by cases h; rfl
  | p :: r, ks, h => by
    unfold keysOf at h
    obtain ⟨k, e1, h⟩ := Option.bind_eq_some_iff.mp h
    obtain ⟨l, e2, rfl⟩ := Option.map_eq_some_iff.mp h
    rw [keyOf_eq e1, keysOf_eq e2]; rfl
theorem keyV_inj {a b : Key} (h : keyV a = keyV b) : a = b := by
  cases a <;> cases b <;> cases h <;> rfl
theorem mapKey_inj : ∀ {a b : List Key}, a.map keyV = b.map keyV → a = b
  | [], [], _ => rfl
  | [], _ :: _, hZ => by cases hZ
  | _ :: _, [], hZ => by cases hZ
  | x :: a, y :: b, hZ => by
    simp only [List.map_cons, List.cons.injEq] at hZ
    rw [keyV_inj hZ.1, mapKey_inj hZ.2]
theorem tupKey_inj {a b : List Key} (h : PV.tup (a.map keyV) = PV.tup (b.map keyV)) : a = b := mapKey_inj (PV.tup.inj h)
def dGet : List PV → List PV → PV → Option PV
  | k' :: ks, v :: vs, k => if k' = k then some v else dGet ks vs k
  | _, _, _ => none
/-- a key that a dict of this kind takes -/
def keyFit (t : Bool) (k : PV) : Bool := match t, k with
  | false, p => (keyOf p).isSome
  | true, .tup ps => (keysOf ps).isSome
  | _, _ => false
section
variable {K : PySem.W.Frag} {ct : Ct} {H : Hp} {A M : List Addr}
theorem dGet_val {κ : Type} [DecidableEq κ] {e : κ → PV} (inj : ∀ a b, e a = e b → a = b) (k : κ) : ∀ (ws : List (κ × V)) (vs : List PV), RepL K ct H A M vs (ws.map (·.2)) →
    (∃ v x, dGet (ws.map fun w => e w.1) vs (e k) = some v ∧ valV ws k = some x ∧ Rep K ct H A M v x) ∨ (dGet (ws.map fun w => e w.1) vs (e k) = none ∧ valV ws k = none)
  | [], vs, r => .inr ⟨by unfold dGet; rfl, rfl⟩
  | w :: ws, vs, r => by
    cases vs with
    | nil => have := r.length; simp at this
    | cons v vs =>
      obtain ⟨x, xs, e0, h1, h2⟩ := r.inv
      simp only [List.map_cons, List.cons.injEq] at e0
      obtain ⟨e1, e2⟩ := e0
      subst e1 e2
      simp only [List.map_cons, dGet]
      by_cases hk : w.1 = k
      · left
        refine ⟨v, w.2, by rw [if_pos (by rw [hk])], valV_pos hk, h1⟩
      · rw [if_neg (fun z => hk (inj _ _ z)), valV_neg hk]
        exact dGet_val inj k ws vs h2
theorem RepL.keys : ∀ {ks : List Key} {vs : List V}, RepL K ct H A M (ks.map keyV) vs → vs = ks.map kV
  | [], vs, h => by rw [RepL.nil_iff.mp h]; rfl
  | k :: ks, vs, h => by
    obtain ⟨v, r, rfl, h1, h2⟩ := RepL.inv (by simpa only [List.map_cons] using h)
    rw [h2.keys]
    cases k with
    | inl i => rw [show keyV (.inl i) = .int i from rfl] at h1; rw [Rep.int_iff.mp h1]; rfl
    | inr i => rw [show keyV (.inr i) = .str i from rfl] at h1; rw [Rep.str_iff.mp h1]; rfl
theorem RepL.of_keys : ∀ (ks : List Key), RepL K ct H A M (ks.map keyV) (ks.map kV)
  | [] => .nil
  | .inl i :: ks => .cons (Rep.int_iff.mpr rfl) (RepL.of_keys ks)
  | .inr i :: ks => .cons (Rep.str_iff.mpr rfl) (RepL.of_keys ks)
theorem Rep.key {k : Key} {x : V} (h : Rep K ct H A M (keyV k) x) : x = kV k := by
  cases k with
  | inl i => exact Rep.int_iff.mp h
  | inr i => exact Rep.str_iff.mp h
/-- what a dict says of a key -/
theorem dict_get {t : Bool} {ks vs : List PV} {x : V} {k : PV} {y : V} (r : RepB K ct H A M (.dic t ks vs) x) (ry : Rep K ct H A M k y) (hf : keyFit t k = true) :
    ∃ a o, x = .ref a ∧ DGet H a y o ∧ ((∃ v z, dGet ks vs k = some v ∧ o = some z ∧ Rep K ct H A M v z) ∨ (dGet ks vs k = none ∧ o = none)) := by
  have both : ∃ a, x = .ref a ∧ ((t = false ∧ ∃ ws : List (Key × V), Rd H a (.dK ws) ∧ ks = ws.map (fun w => keyV w.1) ∧ RepL K ct H A M vs (ws.map (·.2))) ∨
      t = true ∧ ∃ ws : List (List Key × V), Rd H a (.dT ws) ∧ ks = ws.map (fun w => .tup (w.1.map keyV)) ∧ RepL K ct H A M vs (ws.map (·.2))) := by
    rcases r with r | ⟨p, rfl, _, c⟩
    · simp only [Rep] at r
      obtain ⟨a, rfl, r⟩ := r
      rcases r with ⟨ht, ws, h1, h2, h3⟩ | ⟨ht, ws, h1, h2, h3⟩
      · exact ⟨a, rfl, .inl ⟨ht, ws, h1.rd, h2, h3⟩⟩
      · exact ⟨a, rfl, .inr ⟨ht, ws, h1.rd, h2, h3⟩⟩
    · rcases c with ⟨ht, ws, h1, h2, h3⟩ | ⟨ht, ws, h1, h2, h3⟩
      · exact ⟨p, rfl, .inl ⟨ht, ws, .inl h1, h2, h3⟩⟩
      · exact ⟨p, rfl, .inr ⟨ht, ws, .inl h1, h2, h3⟩⟩
  obtain ⟨a, rfl, both⟩ := both
  rcases both with ⟨rfl, ws, h1, rfl, h3⟩ | ⟨rfl, ws, h1, rfl, h3⟩
  · have hf : (keyOf k).isSome = true := hf
    obtain ⟨k', hk'⟩ := Option.isSome_iff_exists.mp hf
    have ek := keyOf_eq hk'
    subst ek
    have ey := ry.key
    subst ey
    refine ⟨a, valV ws k', rfl, .inl ⟨ws, k', h1, rfl, rfl⟩, ?_⟩
    rcases dGet_val (e := keyV) (fun _ _ z => keyV_inj z) k' ws vs h3 with ⟨v, z, e1, e2, e3⟩ | ⟨e1, e2⟩
    · exact .inl ⟨v, z, e1, e2, e3⟩
    · exact .inr ⟨e1, e2⟩
  · cases k with
    | tup ps =>
      have hf : (keysOf ps).isSome = true := hf
      obtain ⟨k', hk'⟩ := Option.isSome_iff_exists.mp hf
      have ek := keysOf_eq hk'
      subst ek
      obtain ⟨b, us, rfl, hb, hu⟩ := ry.tup_inv
      have eu := hu.keys
      subst eu
      refine ⟨a, valV ws k', rfl, .inr ⟨ws, k', b, h1, rfl, hb.1, rfl⟩, ?_⟩
      rcases dGet_val (e := fun l : List Key => PV.tup (l.map keyV)) (fun _ _ z => tupKey_inj z) k' ws vs h3 with ⟨v, z, e1, e2, e3⟩ | ⟨e1, e2⟩
      · exact .inl ⟨v, z, e1, e2, e3⟩
      · exact .inr ⟨e1, e2⟩
    | _ => cases hf
end

/-! ### subscripts -/
def pIx : PV → PV → Option PV
  | .lst xs, .int i => atI xs i
  | .tup xs, .int i => atI xs i
  | .scr ns, .int i => (atI ns i).map PV.int
  | .str z, .int i => if z.length ≤ 1000000 then (atI z.cps.toList i).map fun c => .str ⟨#[c]⟩ else none
  | .dic t ks vs, k => if keyFit t k then dGet ks vs k else none
  | _, _ => none
def eIx (a b : FE) : FE := fun env S => (a env S).bind fun x => (b env x.2).bind fun y => match x.1 with
  | .obj n => (ofO ((y.2[n]?).bind fun xs => pIx (.lst xs) y.1)).bind fun z => .ok (z, y.2)
  | v => (ofO (pIx v y.1)).bind fun z => .ok (z, y.2)
section
variable {K : PySem.W.Frag} {ct : Ct} {H : Hp} {A M : List Addr}
theorem atI_rep {xs : List PV} {vs : List V} {i : Int} {v : PV} (r : RepL K ct H A M xs vs) (h : atI xs i = some v) : ∃ x, atI vs i = some x ∧ Rep K ct H A M v x := by
  unfold atI at h ⊢
  rw [r.length]
  obtain ⟨j, e1, e2⟩ := Option.bind_eq_some_iff.mp h
  obtain ⟨x, e3, rx⟩ := r.get e2
  exact ⟨x, by rw [e1]; exact e3, rx⟩
theorem atI_map {α β : Type} {f : α → β} {xs : List α} {i : Int} {v : α} (h : atI xs i = some v) : atI (xs.map f) i = some (f v) := by
  unfold atI at h ⊢
  rw [List.length_map]
  obtain ⟨j, e1, e2⟩ := Option.bind_eq_some_iff.mp h
  rw [e1]
  show (xs.map f)[j]? = some (f v)
  rw [List.getElem?_map, e2]; rfl
end
section
variable {ct : Ct} {X : Cx} {a b : Expr} {fa fb : FE} {pos : Pos}
theorem je_ix {k : Nat} (hr : Room k X.A) (ha : JB ct X a fa) (hb : JE ct X b fb) (hs : PlainIx b := by exact fun _ _ => rfl) : JE ct X (.Subscript a b pos) (eIx fa fb) := by
  refine ⟨((pe_ix ix_seq ha.pe hb.pe hs).or (pe_dget (hu_of hr) ha.pe hb.pe hs)).imp fun σ H Q h => ?_⟩
  obtain ⟨G, env, S, v, S', g, h1, q⟩ := h
  obtain ⟨⟨x, S1⟩, e1, h1⟩ := Res.bind_ok h1
  obtain ⟨⟨y, S2⟩, e2, h1⟩ := Res.bind_ok h1
  -- the two operands
  have two : ∀ (R : V → V → Hp → Prop), (∀ x' y' H2 A2, Post G.A H A2 H2 → StoOk X.K ct H2 A2 G.M S2 → RepB X.K ct H2 A2 G.M x x' → Rep X.K ct H2 A2 G.M y y' → R x' y' H2) →
      rdB X.K ct fa σ H fun x' H1 => rd X.K ct fb σ H1 fun y' H2 => R x' y' H2 := fun R hR =>
    ⟨G, env, S, x, S1, g, e1, fun x' H1 A1 p1 s1 r1 => ⟨{ G with A := A1 }, env, S1, y, S2, g.post p1 s1, e2, fun y' H2 A2 p2 s2 r2 => hR x' y' H2 A2 (p1.trans p2) s2 (r1.lat p2 (g.post p1 s1).bs.disj) r2⟩⟩
  cases x with
  | obj n =>
    obtain ⟨z, e3, h1⟩ := Res.bind_ok h1
    cases h1
    obtain ⟨xs, e4, e5⟩ := Option.bind_eq_some_iff.mp (ofO_ok e3)
    refine .inl (two _ fun x' y' H2 A2 p s rx ry => ?_)
    cases y with
    | int i =>
      rcases rx with rx | ⟨_, _, _, c⟩
      · simp only [Rep] at rx
        obtain ⟨ad, rfl, hA⟩ := rx
        obtain ⟨vs, k1, k2⟩ := s.at' n ad xs hA e4
        obtain ⟨w, k3, k4⟩ := atI_rep k2 e5
        exact .inl ⟨ad, vs, i, w, rfl, Rep.int_iff.mp ry, .inl (.inl k1), k3, q w H2 A2 p s k4⟩
      · exact False.elim c
    | _ => cases e5
  | lst xs =>
    obtain ⟨z, e3, h1⟩ := Res.bind_ok h1
    cases h1
    refine .inl (two _ fun x' y' H2 A2 p s rx ry => ?_)
    cases y with
    | int i =>
      obtain ⟨ad, vs, rfl, k1, k2⟩ := rx.lst
      obtain ⟨w, k3, k4⟩ := atI_rep k2 (ofO_ok e3)
      exact .inl ⟨ad, vs, i, w, rfl, Rep.int_iff.mp ry, .inl (.inl k1), k3, q w H2 A2 p s k4⟩
    | _ => cases e3
  | tup xs =>
    obtain ⟨z, e3, h1⟩ := Res.bind_ok h1
    cases h1
    refine .inl (two _ fun x' y' H2 A2 p s rx ry => ?_)
    cases y with
    | int i =>
      obtain ⟨ad, vs, rfl, k1, k2⟩ := rx.tup
      obtain ⟨w, k3, k4⟩ := atI_rep k2 (ofO_ok e3)
      exact .inr (.inl ⟨ad, vs, i, w, rfl, Rep.int_iff.mp ry, k1.sqT, k3, q w H2 A2 p s k4⟩)
    | _ => cases e3
  | scr ns =>
    obtain ⟨z, e3, h1⟩ := Res.bind_ok h1
    cases h1
    refine .inl (two _ fun x' y' H2 A2 p s rx ry => ?_)
    cases y with
    | int i =>
      rcases rx with rx | ⟨_, _, _, c⟩
      · obtain ⟨ad, rfl, k1, _⟩ := rx.scr_inv
        obtain ⟨j, e4, rfl⟩ := Option.map_eq_some_iff.mp (ofO_ok e3)
        exact .inl ⟨ad, _, i, _, rfl, Rep.int_iff.mp ry, k1, atI_map e4, q _ H2 A2 p s (Rep.int_iff.mpr rfl)⟩
      · exact False.elim c
    | _ => cases e3
  | str z0 =>
    obtain ⟨z, e3, h1⟩ := Res.bind_ok h1
    cases h1
    refine .inl (two _ fun x' y' H2 A2 p s rx ry => ?_)
    cases y with
    | int i =>
      have e4 := ofO_ok e3
      unfold pIx at e4
      dsimp only at e4
      split at e4
      · rename_i hz
        obtain ⟨c, e5, rfl⟩ := Option.map_eq_some_iff.mp e4
        exact .inr (.inr ⟨z0, i, c, rx.str, Rep.int_iff.mp ry, sz_mil hz, e5, q _ H2 A2 p s (Rep.str_iff.mpr rfl)⟩)
      · cases e4
    | _ => cases e3
  | dic t ks vs =>
    obtain ⟨z, e3, h1⟩ := Res.bind_ok h1
    cases h1
    refine .inr (two _ fun x' y' H2 A2 p s rx ry => ?_)
    have e4 := ofO_ok e3
    unfold pIx at e4
    dsimp only at e4
    split at e4
    · rename_i hf
      obtain ⟨ad, o, rfl, dg, c⟩ := dict_get rx ry hf
      rcases c with ⟨v', z', c1, rfl, c3⟩ | ⟨c1, _⟩
      · rw [e4] at c1; cases c1
        exact ⟨ad, z', rfl, dg, q z' H2 A2 p s c3⟩
      · rw [e4] at c1; cases c1
    · cases e4
  | non => obtain ⟨z, e3, h1⟩ := Res.bind_ok h1; cases e3
  | bl _ => obtain ⟨z, e3, h1⟩ := Res.bind_ok h1; cases e3
  | int _ => obtain ⟨z, e3, h1⟩ := Res.bind_ok h1; cases e3
  | ins _ _ => obtain ⟨z, e3, h1⟩ := Res.bind_ok h1; cases e3
end
/-! ### slices -/
def cutP {α : Type} (xs : List α) (lo hi : Option Int) : List α := (xs.drop (HT.sIx xs.length 0 lo)).take (HT.sIx xs.length xs.length hi - HT.sIx xs.length 0 lo)
def pSl (v : PV) (lo hi : Option Int) : Option PV := match v with
  | .lst xs => some (.lst (cutP xs lo hi))
  | .tup xs => some (.tup (cutP xs lo hi))
  | .scr ns => some (.lst ((cutP ns lo hi).map PV.int))
  | .str z => if z.length ≤ 1000000 then some (.str (cutS z lo hi)) else none
  | _ => none
abbrev FO := Env → Sto → Res (Option Int × Sto)
def oNo : FO := fun _ S => .ok (none, S)
def oSo (a : FE) : FO := fun env S => (a env S).bind fun x => match x.1 with
  | .int i => .ok (some i, x.2)
  | _ => .err
def eSl (a : FE) (l h : FO) : FE := fun env S => (a env S).bind fun x => (l env x.2).bind fun y => (h env y.2).bind fun z => (ofO (pSl x.1 y.1 z.1)).bind fun r => .ok (r, z.2)
section
variable (K : PySem.W.Frag) (ct : Ct)
def rdO (f : FO) : TO := fun σ H Q => ∃ G env S v S', Good K ct G σ H env S ∧ f env S = .ok (v, S') ∧ ∀ H' A', Post G.A H A' H' → StoOk K ct H' A' G.M S' → Q v H'
end
structure JO (ct : Ct) (X : Cx) (e : Option Expr) (f : FO) : Prop where
  po : PO X e (rdO X.K ct f)
theorem _root_.L2.PO.imp {X : Cx} {e : Option Expr} {t t' : TO} (h : PO X e t) (i : ∀ σ H Q, t' σ H Q → t σ H Q) : PO X e t' := ⟨fun pins s σ H Q I q => h.run pins s σ H Q I (i σ H Q q)⟩
section
variable {ct : Ct} {X : Cx} {a b : Expr} {fa fb : FE} {pos : Pos} {lo hi : Option Expr} {fl fh : FO} {p2 : Pos}
theorem jo_none : JO ct X none oNo := ⟨po_none.imp fun σ H Q h => by
  obtain ⟨G, env, S, v, S', g, h1, q⟩ := h
  cases h1
  exact q H G.A (Post.refl H g.bs.nodup) g.bs.sto⟩
theorem jo_some (ha : JE ct X a fa) : JO ct X (some a) (oSo fa) := ⟨(po_some ha.pe).imp fun σ H Q h => by
  obtain ⟨G, env, S, v, S', g, h1, q⟩ := h
  obtain ⟨⟨x, S1⟩, e1, h1⟩ := Res.bind_ok h1
  refine ⟨G, env, S, x, S1, g, e1, fun x' H1 A1 p1 s1 r1 => ?_⟩
  cases x with
  | int i => cases h1; exact ⟨i, Rep.int_iff.mp r1, q H1 A1 p1 s1⟩
  | _ => cases h1⟩
theorem cutP_rep {K : PySem.W.Frag} {H : Hp} {A M : List Addr} {xs : List PV} {vs : List V} {lo hi : Option Int} (r : RepL K ct H A M xs vs) : RepL K ct H A M (cutP xs lo hi) (cutV vs lo hi) := by
  unfold cutP cutV
  rw [r.length]
  exact (r.drop _).take _
theorem cutV_map {α : Type} {f : α → V} {xs : List α} {lo hi : Option Int} : cutV (xs.map f) lo hi = (cutP xs lo hi).map f := by
  unfold cutP cutV
  rw [List.length_map, List.map_take, List.map_drop]
theorem je_sl (ha : JB ct X a fa) (hl : JO ct X lo fl) (hh : JO ct X hi fh) : JE ct X (.Subscript a (.Slice lo hi none p2) pos) (eSl fa fl fh) := by
  refine ⟨(pe_slice (sl_list.or (sl_tupA.or sl_str)) ha.pe hl.po hh.po).imp fun σ H Q h => ?_⟩
  obtain ⟨G, env, S, v, S', g, h1, q⟩ := h
  obtain ⟨⟨x, S1⟩, e1, h1⟩ := Res.bind_ok h1
  obtain ⟨⟨y, S2⟩, e2, h1⟩ := Res.bind_ok h1
  obtain ⟨⟨z, S3⟩, e3, h1⟩ := Res.bind_ok h1
  obtain ⟨r, e4, h1⟩ := Res.bind_ok h1
  cases h1
  refine ⟨G, env, S, x, S1, g, e1, fun x' H1 A1 p1 s1 r1 => ⟨{ G with A := A1 }, env, S1, y, S2, g.post p1 s1, e2, fun H2 A2 p2 s2 => ⟨{ G with A := A2 }, env, S2, z, _, (g.post p1 s1).post p2 s2, e3, fun H3 A3 p3 s3 => ?_⟩⟩⟩
  have g3 := ((g.post p1 s1).post p2 s2).post p3 s3
  have rx := (r1.lat p2 (g.post p1 s1).bs.disj).lat p3 ((g.post p1 s1).post p2 s2).bs.disj
  have pp := (p1.trans p2).trans p3
  have fin : ∀ (w : V) (H4 : Hp), Same H3 H4 → Rep X.K ct H4 A3 G.M v w → Q w H4 := fun w H4 sm rw' => q w H4 A3 (pp.trans (Post.grow g3.bs.nodup sm)) (s3.grow g3.bs.nodup sm) rw'
  have e5 := ofO_ok e4
  cases x with
  | lst xs =>
    cases e5
    obtain ⟨ad, vs, rfl, k1, k2⟩ := rx.lst
    refine .inl ⟨ad, vs, rfl, .inl (.inl k1), fun p np => ?_⟩
    obtain ⟨k3, k4⟩ := g3.hx.new_lst (cutP_rep (lo := y) (hi := z) k2) np
    exact fin _ _ k3 k4
  | tup xs =>
    cases e5
    obtain ⟨ad, vs, rfl, k1, k2⟩ := rx.tup
    refine .inr (.inl ⟨ad, vs, rfl, k1.sqT, fun hc => ?_, fun _ p np => ?_⟩)
    · refine fin _ H3 (Same.refl H3) ?_
      have hl := k2.length
      have : cutP xs y z = xs := by
        unfold cutP
        rw [← hl, hc.1, hc.2, List.drop_zero, Nat.sub_zero]
        exact List.take_of_length_le (by omega)
      rw [this]
      simp only [Rep]
      exact ⟨ad, vs, rfl, k1, k2⟩
    · obtain ⟨k3, k4⟩ := g3.hx.new_tup (cutP_rep (lo := y) (hi := z) k2) np
      exact fin _ _ k3 k4
  | scr ns =>
    cases e5
    rcases rx with rx | ⟨_, _, _, c⟩
    · obtain ⟨ad, rfl, k1, _⟩ := rx.scr_inv
      refine .inl ⟨ad, _, rfl, k1, fun p np => ?_⟩
      rw [cutV_map]
      obtain ⟨k3, k4⟩ := g3.hx.new_lst (RepL.of_ints (cutP ns y z)) np
      exact fin _ _ k3 k4
    · exact False.elim c
  | str z0 =>
    unfold pSl at e5
    dsimp only at e5
    split at e5
    · rename_i hz
      cases e5
      exact .inr (.inr ⟨z0, rx.str, sz_mil hz, fin _ H3 (Same.refl H3) (Rep.str_iff.mpr rfl)⟩)
    · cases e5
  | _ => cases e5
/-- xs[::-1] of a list -/
def pRev : PV → Option PV
  | .lst xs => some (.lst xs.reverse)
  | _ => none
theorem je_revL {k : Nat} {q1 q2 q3 : Pos} (ha : JB ct X a fa) : JE ct X (.Subscript a (.Slice none none (some (.UnaryOp .USub (.Constant (.int 1) k q1) q2)) q3) pos) (eUn pRev fa) := by
  refine ⟨(pe_revL ha.pe).imp fun σ H Q h => ?_⟩
  obtain ⟨G, env, S, v, S', g, h1, q⟩ := h
  obtain ⟨⟨x, S1⟩, e1, h1⟩ := Res.bind_ok h1
  obtain ⟨z, e3, h1⟩ := Res.bind_ok h1
  cases h1
  refine ⟨G, env, S, x, _, g, e1, fun x' H1 A1 p1 s1 r1 => ?_⟩
  have g1 := g.post p1 s1
  have e4 := ofO_ok e3
  cases x with
  | lst xs =>
    cases e4
    obtain ⟨ad, vs, rfl, k1, k2⟩ := r1.lst
    refine ⟨ad, vs, rfl, .inl (.inl k1), fun p np => ?_⟩
    obtain ⟨k3, k4⟩ := g1.hx.new_lst k2.reverse np
    exact q _ _ A1 (p1.trans (Post.grow g1.bs.nodup k3)) (s1.grow g1.bs.nodup k3) k4
  | _ => cases e4
end
end J
set_option Elab.async false
set_option linter.all false
set_option maxRecDepth 100000
/-! J: built-in functions. -/
namespace J
open PySem L2

/-! ### lengths of argument lists -/
def AL (n : Nat) (f : FA) : Prop := ∀ env S xs S', f env S = .ok (xs, S') → xs.length = n
theorem al_nil : AL 0 aNil := fun _ _ _ _ h => by cases h; rfl
theorem al_cons {n : Nat} {a : FE} {r : FA} (h : AL n r) : AL (n + 1) (aCons a r) := fun env S xs S' e => by
  obtain ⟨⟨x, S1⟩, e1, e⟩ := Res.bind_ok e
  obtain ⟨⟨y, S2⟩, e2, e⟩ := Res.bind_ok e
  cases e
  exact congrArg Nat.succ (h _ _ _ _ e2)

/-! ### len -/
def pLen : PV → Option PV
  | .lst xs => some (.int xs.length)
  | .tup xs => some (.int xs.length)
  | .scr xs => some (.int xs.length)
  | .str z => if z.length ≤ 1000000 then some (.int z.length) else none
  | _ => none
section
variable {ct : Ct} {X : Cx} {a b : Expr} {fa fb : FE} {pos p : Pos}
theorem rd_un {K : PySem.W.Frag} {op : PV → Option PV} {r : List V → Hp → VK → Prop} (ho : ∀ (H : Hp) (A M : List Addr) (x : V) (vx v : PV) (Q : VK), Hx A M H → RepB K ct H A M vx x → op vx = some v → (∀ z H', Same H H' → Rep K ct H' A M v z → Q z H') → r [x] H Q)
    {σ : St} {H : Hp} {Q : VK} (h : rd K ct (eUn op fa) σ H Q) : tCB r (tCons (rdB K ct fa) tNil) σ H Q := by
  obtain ⟨G, env, S, v, S', g, h1, q⟩ := h
  obtain ⟨⟨x, S1⟩, e1, h1⟩ := Res.bind_ok h1
  obtain ⟨z, e3, h1⟩ := Res.bind_ok h1
  cases h1
  refine ⟨G, env, S, x, _, g, e1, fun x' H1 A1 p1 s1 r1 => ?_⟩
  have g1 := g.post p1 s1
  exact ho H1 A1 G.M x' x v Q g1.hx r1 (ofO_ok e3) fun z H' sm rz => q z H' A1 (p1.trans (Post.grow g1.bs.nodup sm)) (s1.grow g1.bs.nodup sm) rz
theorem je_len (hm : X.mg "len" = none) (ha : JB ct X a fa) (hg : Gl X "len" := by rfl) (he : starEach [a] X.env = (false, eval a X.env) :: starEach [] X.env := by rfl) : JE ct X (.Call (.Name "len" p) [a] [] pos) (eUn pLen fa) := by
  refine ⟨(pe_callB call_len hg hm PySem.boot_len (pa_cons ha.pe pa_nil he) (by decide) (by decide) he rfl).imp fun σ H Q h => rd_un (fun H A M x vx v Q hx r e q => ?_) h⟩
  cases vx with
  | lst xs =>
    cases e
    obtain ⟨ad, vs, rfl, k1, k2⟩ := r.lst
    refine ⟨_, vs.length, rfl, .inl ⟨vs, .inl (.inl k1), rfl⟩, ?_⟩
    rw [k2.length]
    exact q _ H (Same.refl H) (Rep.int_iff.mpr rfl)
  | tup xs =>
    cases e
    obtain ⟨ad, vs, rfl, k1, k2⟩ := r.tup
    refine ⟨_, vs.length, rfl, .inr ⟨vs, k1.sqT, rfl⟩, ?_⟩
    rw [k2.length]
    exact q _ H (Same.refl H) (Rep.int_iff.mpr rfl)
  | scr ns =>
    cases e
    rcases r with r | ⟨_, _, _, c⟩
    · obtain ⟨ad, rfl, k1, _⟩ := r.scr_inv
      refine ⟨_, (ns.map V.int).length, rfl, .inl ⟨_, k1, rfl⟩, ?_⟩
      rw [List.length_map]
      exact q _ H (Same.refl H) (Rep.int_iff.mpr rfl)
    · exact False.elim c
  | str z =>
    unfold pLen at e
    dsimp only at e
    split at e
    · rename_i hz
      cases e
      have ex := r.str
      subst ex
      exact ⟨_, z.length, rfl, ⟨sz_mil hz, rfl⟩, q _ H (Same.refl H) (Rep.int_iff.mpr rfl)⟩
    · cases e
  | _ => cases e
/-! ### isinstance of a built-in type -/
def tyP : PV → Option String
  | .non => some "NoneType"
  | .bl _ => some "bool"
  | .int _ => some "int"
  | .str _ => some "str"
  | .tup _ => some "tuple"
  | .lst _ => some "list"
  | _ => none
def pIsT (T : String) (v : PV) : Option PV := (tyP v).bind fun s => (kitB s T).map PV.bl
theorem je_isT {T : Str} {U : String} {p1 : Pos} (hm : X.mg "isinstance" = none) (ht : X.mg T = none) (ha : JE ct X a fa) (hv : bootBuiltins T = some (.type U) := by decide +kernel) (hg : Gl X "isinstance" := by rfl) (hgT : Gl X T := by rfl) (hn : T ≠ "__name__" := by decide) (hd : (T == ("__debug__" : Str)) = false := by decide)
    (he : starEach [a, .Name T p1] X.env = (false, eval a X.env) :: starEach [.Name T p1] X.env := by rfl) (he2 : starEach [.Name T p1] X.env = (false, eval (.Name T p1) X.env) :: starEach [] X.env := by rfl) (hpl : (backTo pos (starEach [.Name T p1] X.env)).any (·.1) = false := by rfl) :
    JE ct X (.Call (.Name "isinstance" p) [a, .Name T p1] [] pos) (eUn (pIsT U) fa) := by
  refine ⟨(pe_callB call_isi hg hm (by decide +kernel) (pa_cons ha.pe (pa_cons (pe_bltn (v := .ty U) hgT ht hv rfl hn hd) pa_nil he2) he) (by decide) (by decide) he hpl).imp fun σ H Q h => ?_⟩
  obtain ⟨G, env, S, v, S', g, h1, q⟩ := h
  obtain ⟨⟨x, S1⟩, e1, h1⟩ := Res.bind_ok h1
  obtain ⟨z, e3, h1⟩ := Res.bind_ok h1
  cases h1
  refine ⟨G, env, S, x, _, g, e1, fun x' H1 A1 p1 s1 r1 => ?_⟩
  obtain ⟨ty, e4, e5⟩ := Option.bind_eq_some_iff.mp (ofO_ok e3)
  obtain ⟨bb, e6, rfl⟩ := Option.map_eq_some_iff.mp e5
  refine ⟨x', .ty U, .type ty, .type U, bb, rfl, .ty U, ?_, kit_ty e6, q _ H1 A1 p1 s1 (Rep.bl_iff.mpr rfl)⟩
  cases x with
  | non => cases e4; rw [Rep.non_iff.mp r1]; exact .base .non
  | bl i => cases e4; rw [Rep.bl_iff.mp r1]; exact .base (.bl i)
  | int i => cases e4; rw [Rep.int_iff.mp r1]; exact .base (.int i)
  | str i => cases e4; rw [Rep.str_iff.mp r1]; exact .base (.str i)
  | tup xs =>
    cases e4
    obtain ⟨ad, vs, rfl, k1, _⟩ := r1.tup_inv
    exact .base (.tup k1.1)
  | lst xs =>
    cases e4
    obtain ⟨ad, vs, rfl, k1, _⟩ := r1.lst_inv
    exact .base (.lst k1.1)
  | _ => cases e4
end
/-! ### lists of intsP and bools -/
def intsP : List PV → Option (List Int)
  | [] => some []
  | .int i :: r => (intsP r).map (i :: ·)
  | _ => none
def bls : List PV → Option (List Bool)
  | [] => some []
  | .bl i :: r => (bls r).map (i :: ·)
  | _ => none
theorem intsP_eq : ∀ {ps : List PV} {ns : List Int}, intsP ps = some ns → ps = ns.map PV.int
  | [], ns, h => by cases h; rfl
  | .int i :: r, ns, h => by
    simp only [intsP] at h
    obtain ⟨l, e, rfl⟩ := Option.map_eq_some_iff.mp h
    rw [intsP_eq e]; rfl
  | .non :: _, _, h => by cases h
  | .bl _ :: _, _, h => by cases h
  | .str _ :: _, _, h => by cases h
  | .tup _ :: _, _, h => by cases h
  | .lst _ :: _, _, h => by cases h
  | .dic _ _ _ :: _, _, h => by cases h
  | .ins _ _ :: _, _, h => by cases h
  | .obj _ :: _, _, h => by cases h
  | .scr _ :: _, _, h => by cases h
theorem bls_eq : ∀ {ps : List PV} {ns : List Bool}, bls ps = some ns → ps = ns.map PV.bl
  | [], ns, h => by cases h; rfl
  | .bl i :: r, ns, h => by
    simp only [bls] at h
    obtain ⟨l, e, rfl⟩ := Option.map_eq_some_iff.mp h
    rw [bls_eq e]; rfl
  | .non :: _, _, h => by cases h
  | .int _ :: _, _, h => by cases h
  | .str _ :: _, _, h => by cases h
  | .tup _ :: _, _, h => by cases h
  | .lst _ :: _, _, h => by cases h
  | .dic _ _ _ :: _, _, h => by cases h
  | .ins _ _ :: _, _, h => by cases h
  | .obj _ :: _, _, h => by cases h
  | .scr _ :: _, _, h => by cases h
def pSum : PV → Option PV
  | .lst xs => (intsP xs).map fun ns => .int ns.sum
  | .tup xs => (intsP xs).map fun ns => .int ns.sum
  | _ => none
def pAll : PV → Option PV
  | .lst xs => (bls xs).map fun bs => .bl (bs.all id)
  | _ => none
def pAny : PV → Option PV
  | .lst xs => (bls xs).map fun bs => .bl (bs.any id)
  | _ => none
def maxI : List Int → Int
  | [] => 0
  | [x] => x
  | x :: r => max x (maxI r)
def minI : List Int → Int
  | [] => 0
  | [x] => x
  | x :: r => min x (minI r)
def pMaxL : PV → Option PV
  | .lst xs => (intsP xs).bind fun ns => if ns = [] then none else some (.int (maxI ns))
  | _ => none
def pMinL : PV → Option PV
  | .lst xs => (intsP xs).bind fun ns => if ns = [] then none else some (.int (minI ns))
  | _ => none
theorem maxI_spec : ∀ {ns : List Int}, ns ≠ [] → maxI ns ∈ ns ∧ ∀ y ∈ ns, y ≤ maxI ns
  | [], h => absurd rfl h
  | [x], _ => by simp [maxI]
  | x :: y :: r, _ => by
    obtain ⟨h1, h2⟩ := maxI_spec (ns := y :: r) (by simp)
    simp only [maxI]
    constructor
    · by_cases h : x ≤ maxI (y :: r)
      · rw [Int.max_eq_right h]; exact List.mem_cons_of_mem _ h1
      · rw [Int.max_eq_left (by omega)]; exact List.mem_cons_self
    · intro z hzZ
      rcases List.mem_cons.mp hzZ with e | hzZ
      · subst e; omega
      · have := h2 z hzZ; omega
theorem minI_spec : ∀ {ns : List Int}, ns ≠ [] → minI ns ∈ ns ∧ ∀ y ∈ ns, minI ns ≤ y
  | [], h => absurd rfl h
  | [x], _ => by simp [minI]
  | x :: y :: r, _ => by
    obtain ⟨h1, h2⟩ := minI_spec (ns := y :: r) (by simp)
    simp only [minI]
    constructor
    · by_cases h : x ≤ minI (y :: r)
      · rw [Int.min_eq_left h]; exact List.mem_cons_self
      · rw [Int.min_eq_right (by omega)]; exact List.mem_cons_of_mem _ h1
    · intro z hzZ
      rcases List.mem_cons.mp hzZ with e | hzZ
      · subst e; omega
      · have := h2 z hzZ; omega
/-- sum(t) of a tuple of intsP -/
def rSumT (K : PySem.W.Frag) : List V → Hp → VK → Prop := fun vs H Q => ∃ (a : Addr) (ns : List Int), vs = [V.ref a] ∧ SqT K H a (ns.map V.int) ∧ Q (.int ns.sum) H
theorem cr_sumT {X : Cx} (hc : X.calm = true) : CallR X (.builtin "sum") (rSumT X.K) := by
  intro pinsZ s σ H vs us Q I r h
  obtain ⟨aZ, ns, rfl, hs, q⟩ := h
  obtain ⟨its, rv, hl, _⟩ := I.tuple hs
  rw [Vals.ref1 r]
  have hi := rv.ints
  obtain ⟨xsZ, e⟩ := hi.allInts.items
  have hnZ : numsOf (intItems xsZ).toList = ns := by rw [← e]; exact hi.numsOf
  rw [nums_intItems] at hnZ
  rw [e] at hl
  refine PySem.W.ktm_sumG (I.ok.hd hc) hl fun h' tk t' hk => ?_
  refine ⟨.int ns.sum, H, I.kept hk, ⟨t', ?_⟩, q⟩
  rw [preSum_eq, List.take_of_length_le (by simp), hnZ]
section
variable {ct : Ct} {X : Cx} {a b : Expr} {fa fb : FE} {pos p : Pos}
theorem je_sum (hm : X.mg "sum" = none) (ha : JB ct X a fa) (hc : X.calm = true := by rfl) (hg : Gl X "sum" := by rfl) (he : starEach [a] X.env = (false, eval a X.env) :: starEach [] X.env := by rfl) : JE ct X (.Call (.Name "sum" p) [a] [] pos) (eUn pSum fa) := by
  refine ⟨(pe_callB ((cr_sum hc).or (cr_sumT hc)) hg hm (by decide +kernel) (pa_cons ha.pe pa_nil he) (by decide) (by decide) he rfl).imp fun σ H Q h => rd_un (fun H A M x vx v Q hx r e q => ?_) h⟩
  cases vx with
  | lst xs =>
    obtain ⟨ns, e1, rfl⟩ := Option.map_eq_some_iff.mp e
    have ex := intsP_eq e1
    subst ex
    obtain ⟨ad, vs, rfl, k1, k2⟩ := r.lst
    have ev := k2.ints
    subst ev
    exact .inl ⟨ad, ns, rfl, .inl (.inl k1), q _ H (Same.refl H) (Rep.int_iff.mpr rfl)⟩
  | tup xs =>
    obtain ⟨ns, e1, rfl⟩ := Option.map_eq_some_iff.mp e
    have ex := intsP_eq e1
    subst ex
    obtain ⟨ad, vs, rfl, k1, k2⟩ := r.tup
    have ev := k2.ints
    subst ev
    exact .inr ⟨ad, ns, rfl, k1.sqT, q _ H (Same.refl H) (Rep.int_iff.mpr rfl)⟩
  | _ => cases e
theorem je_all (hm : X.mg "all" = none) (ha : JB ct X a fa) (hc : X.calm = true := by rfl) (hg : Gl X "all" := by rfl) (he : starEach [a] X.env = (false, eval a X.env) :: starEach [] X.env := by rfl) : JE ct X (.Call (.Name "all" p) [a] [] pos) (eUn pAll fa) := by
  refine ⟨(pe_callB (cr_all hc) hg hm (by decide +kernel) (pa_cons ha.pe pa_nil he) (by decide) (by decide) he rfl).imp fun σ H Q h => rd_un (fun H A M x vx v Q hx r e q => ?_) h⟩
  cases vx with
  | lst xs =>
    obtain ⟨ns, e1, rfl⟩ := Option.map_eq_some_iff.mp e
    have ex := bls_eq e1
    subst ex
    obtain ⟨ad, vs, rfl, k1, k2⟩ := r.lst
    have ev := k2.bls
    subst ev
    exact ⟨ad, ns, rfl, .inl (.inl k1), q _ H (Same.refl H) (Rep.bl_iff.mpr rfl)⟩
  | _ => cases e
theorem je_any (hm : X.mg "any" = none) (ha : JB ct X a fa) (hc : X.calm = true := by rfl) (hg : Gl X "any" := by rfl) (he : starEach [a] X.env = (false, eval a X.env) :: starEach [] X.env := by rfl) : JE ct X (.Call (.Name "any" p) [a] [] pos) (eUn pAny fa) := by
  refine ⟨(pe_callB (cr_any hc) hg hm (by decide +kernel) (pa_cons ha.pe pa_nil he) (by decide) (by decide) he rfl).imp fun σ H Q h => rd_un (fun H A M x vx v Q hx r e q => ?_) h⟩
  cases vx with
  | lst xs =>
    obtain ⟨ns, e1, rfl⟩ := Option.map_eq_some_iff.mp e
    have ex := bls_eq e1
    subst ex
    obtain ⟨ad, vs, rfl, k1, k2⟩ := r.lst
    have ev := k2.bls
    subst ev
    exact ⟨ad, ns, rfl, .inl (.inl k1), q _ H (Same.refl H) (Rep.bl_iff.mpr rfl)⟩
  | _ => cases e
theorem je_maxL (hm : X.mg "max" = none) (ha : JB ct X a fa) (hc : X.calm = true := by rfl) (hg : Gl X "max" := by rfl) (he : starEach [a] X.env = (false, eval a X.env) :: starEach [] X.env := by rfl) : JE ct X (.Call (.Name "max" p) [a] [] pos) (eUn pMaxL fa) := by
  refine ⟨(pe_callB (cr_max hc) hg hm (by decide +kernel) (pa_cons ha.pe pa_nil he) (by decide) (by decide) he rfl).imp fun σ H Q h => rd_un (fun H A M x vx v Q hx r e q => ?_) h⟩
  cases vx with
  | lst xs =>
    obtain ⟨ns, e1, e2⟩ := Option.bind_eq_some_iff.mp e
    have ex := intsP_eq e1
    subst ex
    obtain ⟨ad, vs, rfl, k1, k2⟩ := r.lst
    have ev := k2.ints
    subst ev
    split at e2
    · cases e2
    · rename_i hne
      cases e2
      obtain ⟨m1, m2⟩ := maxI_spec hne
      refine ⟨ad, ns, rfl, .inl (.inl k1), List.length_pos_iff.mpr hne, fun m h1 h2 => ?_⟩
      have : m = maxI ns := Int.le_antisymm (m2 m h1) (h2 _ m1)
      subst this
      exact q _ H (Same.refl H) (Rep.int_iff.mpr rfl)
  | _ => cases e
theorem je_minL (hm : X.mg "min" = none) (ha : JB ct X a fa) (hc : X.calm = true := by rfl) (hg : Gl X "min" := by rfl) (he : starEach [a] X.env = (false, eval a X.env) :: starEach [] X.env := by rfl) : JE ct X (.Call (.Name "min" p) [a] [] pos) (eUn pMinL fa) := by
  refine ⟨(pe_callB (cr_min hc) hg hm (by decide +kernel) (pa_cons ha.pe pa_nil he) (by decide) (by decide) he rfl).imp fun σ H Q h => rd_un (fun H A M x vx v Q hx r e q => ?_) h⟩
  cases vx with
  | lst xs =>
    obtain ⟨ns, e1, e2⟩ := Option.bind_eq_some_iff.mp e
    have ex := intsP_eq e1
    subst ex
    obtain ⟨ad, vs, rfl, k1, k2⟩ := r.lst
    have ev := k2.ints
    subst ev
    split at e2
    · cases e2
    · rename_i hne
      cases e2
      obtain ⟨m1, m2⟩ := minI_spec hne
      refine ⟨ad, ns, rfl, .inl (.inl k1), List.length_pos_iff.mpr hne, fun m h1 h2 => ?_⟩
      have : m = minI ns := Int.le_antisymm (h2 _ m1) (m2 m h1)
      subst this
      exact q _ H (Same.refl H) (Rep.int_iff.mpr rfl)
  | _ => cases e
/-! ### tuple(..), list(..), abs, int -/
def pTupC : PV → Option PV
  | .lst xs => some (.tup xs)
  | .tup xs => some (.tup xs)
  | _ => none
theorem je_tuple (hm : X.mg "tuple" = none) (ha : JB ct X a fa) (hg : Gl X "tuple" := by rfl) (he : starEach [a] X.env = (false, eval a X.env) :: starEach [] X.env := by rfl) : JE ct X (.Call (.Name "tuple" p) [a] [] pos) (eUn pTupC fa) := by
  refine ⟨(pe_callTy call_tuple_of hg hm (by decide +kernel) (pa_cons ha.pe pa_nil he) (by decide) (by decide) he rfl).imp fun σ H Q h => rd_un (fun H A M x vx v Q hx r e q => ?_) h⟩
  cases vx with
  | lst xs =>
    cases e
    obtain ⟨ad, vs, rfl, k1, k2⟩ := r.lst
    refine ⟨ad, vs, rfl, .inl ⟨.inl (.inl k1), fun l nl => ?_⟩⟩
    obtain ⟨k3, k4⟩ := hx.new_tup k2 nl
    exact q _ _ k3 k4
  | tup xs =>
    cases e
    obtain ⟨ad, vs, rfl, k1, k2⟩ := r.tup
    refine ⟨ad, vs, rfl, .inr ⟨k1.sqT, q _ H (Same.refl H) ?_⟩⟩
    simp only [Rep]
    exact ⟨ad, vs, rfl, k1, k2⟩
  | _ => cases e
def pLstC : PV → Option PV
  | .lst xs => some (.lst xs)
  | .tup xs => some (.lst xs)
  | .scr ns => some (.lst (ns.map PV.int))
  | _ => none
theorem jf_list (hm : X.mg "list" = none) (ha : JB ct X a fa) (hg : Gl X "list" := by rfl) (he : starEach [a] X.env = (false, eval a X.env) :: starEach [] X.env := by rfl) : JF ct X (.Call (.Name "list" p) [a] [] pos) (eUn pLstC fa) := by
  refine ⟨(pe_callTy call_list_of hg hm (by decide +kernel) (pa_cons ha.pe pa_nil he) (by decide) (by decide) he rfl).imp fun σ H Q h => ?_⟩
  obtain ⟨G, env, S, v, S', g, h1, q⟩ := h
  obtain ⟨⟨x, S1⟩, e1, h1⟩ := Res.bind_ok h1
  obtain ⟨z, e3, h1⟩ := Res.bind_ok h1
  cases h1
  refine ⟨G, env, S, x, _, g, e1, fun x' H1 A1 p1 s1 r1 => ?_⟩
  have e4 := ofO_ok e3
  have fin : ∀ {ys : List PV} {us : List V}, v = .lst ys → RepL X.K ct H1 A1 G.M ys us → ∀ l, H1 l = none → Q (.ref l) (upd H1 l (.lst us)) := fun {ys us} ev ry l nl => by
    subst ev
    obtain ⟨k1, k2, k3, k4, k5⟩ := fresh_lst g p1 s1 ry nl
    exact q l _ A1 k1 k2 k3 k4 k5
  cases x with
  | lst xs =>
    cases e4
    obtain ⟨ad, vs, rfl, k1, k2⟩ := r1.lst
    exact ⟨ad, vs, rfl, .inl (.inl (.inl k1)), fin rfl k2⟩
  | tup xs =>
    cases e4
    obtain ⟨ad, vs, rfl, k1, k2⟩ := r1.tup
    exact ⟨ad, vs, rfl, .inr k1.sqT, fin rfl k2⟩
  | scr ns =>
    cases e4
    rcases r1 with r1 | ⟨_, _, _, c⟩
    · obtain ⟨ad, rfl, k1, _⟩ := r1.scr_inv
      exact ⟨ad, _, rfl, .inl k1, fin rfl (RepL.of_ints ns)⟩
    · exact False.elim c
  | _ => cases e4
def pAbs : PV → Option PV
  | .int z => some (.int (if z < 0 then -z else z))
  | _ => none
theorem je_abs (hm : X.mg "abs" = none) (ha : JB ct X a fa) (hg : Gl X "abs" := by rfl) (he : starEach [a] X.env = (false, eval a X.env) :: starEach [] X.env := by rfl) : JE ct X (.Call (.Name "abs" p) [a] [] pos) (eUn pAbs fa) := by
  refine ⟨(pe_callB call_abs hg hm (by decide +kernel) (pa_cons ha.pe pa_nil he) (by decide) (by decide) he rfl).imp fun σ H Q h => rd_un (fun H A M x vx v Q hx r e q => ?_) h⟩
  cases vx with
  | int i => cases e; exact ⟨i, by rw [r.int], q _ H (Same.refl H) (Rep.int_iff.mpr rfl)⟩
  | _ => cases e
def pInt : PV → Option PV
  | .int i => some (.int i)
  | .bl k => some (.int (if k then 1 else 0))
  | _ => none
theorem je_intC (hm : X.mg "int" = none) (ha : JB ct X a fa) (hg : Gl X "int" := by rfl) (he : starEach [a] X.env = (false, eval a X.env) :: starEach [] X.env := by rfl) : JE ct X (.Call (.Name "int" p) [a] [] pos) (eUn pInt fa) := by
  refine ⟨(pe_callTy call_int1 hg hm (by decide +kernel) (pa_cons ha.pe pa_nil he) (by decide) (by decide) he rfl).imp fun σ H Q h => rd_un (fun H A M x vx v Q hx r e q => ?_) h⟩
  cases vx with
  | int i => cases e; exact .inl ⟨i, by rw [r.int], q _ H (Same.refl H) (Rep.int_iff.mpr rfl)⟩
  | bl i => cases e; exact .inr ⟨i, by rw [r.bl], q _ H (Same.refl H) (Rep.int_iff.mpr rfl)⟩
  | _ => cases e
/-! ### two arguments -/
variable {fr : FA}
def pMax2 : List PV → Option PV
  | [.int i, .int j] => some (.int (if j > i then j else i))
  | _ => none
def pMin2 : List PV → Option PV
  | [.int i, .int j] => some (.int (if j < i then j else i))
  | _ => none
def pDivmod : List PV → Option PV
  | [.int i, .int j] => if 0 < j ∧ j < 1073741824 then some (.tup [.int (i / j), .int (i % j)]) else none
  | _ => none
theorem two_ints {K : PySem.W.Frag} {H : Hp} {A M : List Addr} {i j : Int} {xs : List V} (r : RepL K ct H A M [.int i, .int j] xs) : xs = [.int i, .int j] := by
  obtain ⟨v, w, rfl, h1, h2⟩ := r.two
  rw [Rep.int_iff.mp h1, Rep.int_iff.mp h2]
theorem ok_max2 {K : PySem.W.Frag} : CallOk K ct (fun xs H Q => ∃ i j, xs = [.int i, .int j] ∧ Q (.int (if j > i then j else i)) H) pMax2 := fun H A M xs vs v Q hx r e q => by
  unfold pMax2 at e
  split at e
  · cases e; exact ⟨_, _, two_ints r, q _ H (Same.refl H) (Rep.int_iff.mpr rfl)⟩
  · cases e
theorem ok_min2 {K : PySem.W.Frag} : CallOk K ct (fun xs H Q => ∃ i j, xs = [.int i, .int j] ∧ Q (.int (if j < i then j else i)) H) pMin2 := fun H A M xs vs v Q hx r e q => by
  unfold pMin2 at e
  split at e
  · cases e; exact ⟨_, _, two_ints r, q _ H (Same.refl H) (Rep.int_iff.mpr rfl)⟩
  · cases e
theorem ok_divmod {K : PySem.W.Frag} : CallOk K ct (fun xs H Q => ∃ i j, xs = [.int i, .int j] ∧ CDiv i j ∧ ∀ p, H p = none → Q (.ref p) (upd H p (.tup [.int (i / j), .int (i % j)]))) pDivmod := fun H A M xs vs v Q hx r e q => by
  unfold pDivmod at e
  split at e
  · split at e
    · rename_i hz
      cases e
      refine ⟨_, _, two_ints r, hz, fun p np => ?_⟩
      obtain ⟨k1, k2⟩ := hx.new_tup (.cons (Rep.int_iff.mpr rfl) (.cons (Rep.int_iff.mpr rfl) .nil)) np
      exact q _ _ k1 k2
    · cases e
  · cases e
theorem je_max2 (hm : X.mg "max" = none) (ha : JA ct X [a, b] fr) (hc : X.calm = true := by rfl) (hg : Gl X "max" := by rfl) (he : starEach [a, b] X.env = (false, eval a X.env) :: starEach [b] X.env := by rfl) (hpl : (backTo pos (starEach [b] X.env)).any (·.1) = false := by rfl) : JE ct X (.Call (.Name "max" p) [a, b] [] pos) (eB pMax2 fr) :=
  je_callB (call_max2 hc) ok_max2 hm ha hg (by decide +kernel) (by decide) (by decide) he hpl
theorem je_min2 (hm : X.mg "min" = none) (ha : JA ct X [a, b] fr) (hc : X.calm = true := by rfl) (hg : Gl X "min" := by rfl) (he : starEach [a, b] X.env = (false, eval a X.env) :: starEach [b] X.env := by rfl) (hpl : (backTo pos (starEach [b] X.env)).any (·.1) = false := by rfl) : JE ct X (.Call (.Name "min" p) [a, b] [] pos) (eB pMin2 fr) :=
  je_callB (call_min2 hc) ok_min2 hm ha hg (by decide +kernel) (by decide) (by decide) he hpl
theorem je_divmod (hm : X.mg "divmod" = none) (ha : JA ct X [a, b] fr) (hg : Gl X "divmod" := by rfl) (he : starEach [a, b] X.env = (false, eval a X.env) :: starEach [b] X.env := by rfl) (hpl : (backTo pos (starEach [b] X.env)).any (·.1) = false := by rfl) : JE ct X (.Call (.Name "divmod" p) [a, b] [] pos) (eB pDivmod fr) :=
  je_callB call_divmod ok_divmod hm ha hg (by decide +kernel) (by decide) (by decide) he hpl
end
end J
set_option Elab.async false
set_option linter.all false
set_option maxRecDepth 100000
/-! J: membership, order of data. -/
namespace J
open PySem L2

mutual
theorem plain_toD : ∀ (a : PV), isD a = true → (toD a).plain = true
  | .tup xs, h => by simp only [toD, PyData.plain]; exact plain_toDL xs (by simpa only [isD] using h)
  | .lst xs, h => by simp only [toD, PyData.plain]; exact plain_toDL xs (by simpa only [isD] using h)
  | .non, _ => rfl
  | .bl _, _ => rfl
  | .int _, _ => rfl
  | .str _, h => rfl
  | .dic _ _ _, h => by cases h
  | .ins _ _, h => by cases h
  | .obj _, h => by cases h
  | .scr _, h => by cases h
theorem plain_toDL : ∀ (xs : List PV), isDL xs = true → PyData.plainAll (toDL xs) = true
  | [], _ => rfl
  | x :: r, h => by
    simp only [isDL, Bool.and_eq_true] at h
    simp only [toDL, PyData.plainAll, Bool.and_eq_true]
    exact ⟨plain_toD x h.1, plain_toDL r h.2⟩
end
def inP (x : PV) : List PV → Bool
  | [] => false
  | y :: r => eqP y x || inP x r
theorem any_inP (x : PV) (hx : isD x = true) : ∀ (ys : List PV), isDL ys = true → ((toDL ys).any fun y => PyData.eqv y (toD x)) = inP x ys
  | [], _ => rfl
  | y :: r, h => by
    simp only [isDL, Bool.and_eq_true] at h
    simp only [toDL, List.any_cons, inP]
    rw [eqv_toD y x h.1 hx, any_inP x hx r h.2]
/-- x in y -/
def inPV (x : PV) : PV → Option Bool
  | .lst ys => if dOK x && dOK (.lst ys) then some (inP x ys) else none
  | .tup ys => if dOK x && dOK (.tup ys) then some (inP x ys) else none
  | .scr ns => if dOK x then some (inP x (ns.map PV.int)) else none
  | .dic t ks vs => if keyFit t x then some (dGet ks vs x).isSome else none
  | _ => none
def pIn (x y : PV) : Option PV := (inPV x y).map PV.bl
def pNotIn (x y : PV) : Option PV := (inPV x y).map fun b => PV.bl (!b)
def rInD (K : PySem.W.Frag) (neg : Bool) : R2 := fun x y H Q => ∃ d ds, Dp K H x d ∧ (Dp K H y (.list ds) ∨ Dp K H y (.tuple ds)) ∧ d.plain = true ∧ PyData.plainAll ds = true ∧ d.depth ≤ 60 ∧ Q (.bl (if neg then !(ds.any fun z => PyData.eqv z d) else ds.any fun z => PyData.eqv z d)) H
theorem op_inD {X : Cx} (hu : X.A.units + 64 < cLine) : OpR X (compareOp .In) (rInD X.K false) := by
  intro pinsZ s σ H x y v u Q I rx ry h
  obtain ⟨d, ds, hd, he, p1, p2, dp, q⟩ := h
  obtain ⟨asZ, r1⟩ := Dp.reads I d x v hd rx
  rcases he with he | he
  · obtain ⟨bs, r2⟩ := Dp.reads I _ y u he ry
    exact SeqAt.in_list_data r2 r1 p2 p1 (by have := Nat.min_le_right (PyData.depthAll ds) d.depth; omega) ⟨.bl _, H, I, rfl, q⟩
  · obtain ⟨bs, r2⟩ := Dp.reads I _ y u he ry
    exact SeqAt.in_tuple_data r2 r1 p2 p1 (by have := Nat.min_le_right (PyData.depthAll ds) d.depth; omega) ⟨.bl _, H, I, rfl, q⟩
theorem op_notInD {X : Cx} (hu : X.A.units + 64 < cLine) : OpR X (compareOp .NotIn) (rInD X.K true) := by
  intro pinsZ s σ H x y v u Q I rx ry h
  obtain ⟨d, ds, hd, he, p1, p2, dp, q⟩ := h
  obtain ⟨asZ, r1⟩ := Dp.reads I d x v hd rx
  rcases he with he | he
  · obtain ⟨bs, r2⟩ := Dp.reads I _ y u he ry
    exact SeqAt.notIn_list_data r2 r1 p2 p1 (by have := Nat.min_le_right (PyData.depthAll ds) d.depth; omega) ⟨.bl _, H, I, rfl, q⟩
  · obtain ⟨bs, r2⟩ := Dp.reads I _ y u he ry
    exact SeqAt.notIn_tuple_data r2 r1 p2 p1 (by have := Nat.min_le_right (PyData.depthAll ds) d.depth; omega) ⟨.bl _, H, I, rfl, q⟩
theorem dOK.two {v : PV} (h : dOK v = true) : isD v = true ∧ dpP v ≤ 60 := by
  unfold dOK at h
  simp only [Bool.and_eq_true, decide_eq_true_eq (p := dpP v ≤ 60)] at h
  exact h
section
variable {ct : Ct} {X : Cx} {a b : Expr} {fa fb : FE} {pos : Pos}
def isDic : PV → Bool
  | .dic _ _ _ => true
  | _ => false
theorem scr_dp {K : PySem.W.Frag} {H : Hp} {A M : List Addr} {ns : List Int} {y : V} (r : RepB K ct H A M (.scr ns) y) : Dp K H y (.list (toDL (ns.map PV.int))) := by
  rcases r with r | ⟨_, _, _, c⟩
  · obtain ⟨ad, rfl, k1, _⟩ := r.scr_inv
    have hd : ∀ (l : List Int), DpAll K H (l.map V.int) (toDL (l.map PV.int)) := fun l => by
      induction l with
      | nil => exact .nil
      | cons n l ih => exact .cons (.int n) ih
    exact .lst k1 (hd ns)
  · exact False.elim c
theorem isDL_ints : ∀ (ns : List Int), isDL (ns.map PV.int) = true
  | [] => rfl
  | n :: ns => by
    simp only [List.map_cons, isDL, isDL_ints ns]; rfl
/-- the values' side of in, not in -/
theorem in_ok {K : PySem.W.Frag} {H : Hp} {A M : List Addr} {x y : V} {vx vy : PV} {k : Bool} (hd : isDic vy = false) (rx : RepB K ct H A M vx x) (ry : RepB K ct H A M vy y) (e : inPV vx vy = some k) :
    ∃ d ds, Dp K H x d ∧ (Dp K H y (.list ds) ∨ Dp K H y (.tuple ds)) ∧ d.plain = true ∧ PyData.plainAll ds = true ∧ d.depth ≤ 60 ∧ (ds.any fun z => PyData.eqv z d) = k := by
  cases vy with
  | lst ys =>
    simp only [inPV] at e
    split at e
    · rename_i hz
      cases e
      rw [Bool.and_eq_true] at hz
      obtain ⟨h1, h2⟩ := dOK.two hz.1
      obtain ⟨h3, h4⟩ := dOK.two hz.2
      have h5 : isDL ys = true := by simpa only [isD] using h3
      have dy := ry.dp h3
      simp only [toD] at dy
      exact ⟨_, toDL ys, rx.dp h1, .inl dy, plain_toD _ h1, plain_toDL _ h5, by rw [depth_toD]; exact h2, any_inP _ h1 _ h5⟩
    · cases e
  | tup ys =>
    simp only [inPV] at e
    split at e
    · rename_i hz
      cases e
      rw [Bool.and_eq_true] at hz
      obtain ⟨h1, h2⟩ := dOK.two hz.1
      obtain ⟨h3, h4⟩ := dOK.two hz.2
      have h5 : isDL ys = true := by simpa only [isD] using h3
      have dy := ry.dp h3
      simp only [toD] at dy
      exact ⟨_, toDL ys, rx.dp h1, .inr dy, plain_toD _ h1, plain_toDL _ h5, by rw [depth_toD]; exact h2, any_inP _ h1 _ h5⟩
    · cases e
  | scr ns =>
    simp only [inPV] at e
    split at e
    · rename_i hz
      cases e
      obtain ⟨h1, h2⟩ := dOK.two hz
      exact ⟨_, toDL (ns.map PV.int), rx.dp h1, .inl (scr_dp ry), plain_toD _ h1, plain_toDL _ (isDL_ints ns), by rw [depth_toD]; exact h2, any_inP _ h1 _ (isDL_ints ns)⟩
    · cases e
  | dic t ks vs => cases hd
  | _ => cases e
theorem rd_in {K : PySem.W.Frag} {neg : Bool} {σ : St} {H : Hp} {Q : VK} (h : rd K ct (eOp (fun x y => (inPV x y).map fun k => PV.bl (if neg then !k else k)) fa fb) σ H Q) :
    tOp (rInD K neg) (rd K ct fa) (rdB K ct fb) σ H Q ∨ rd K ct fa σ H fun y H1 => rdB K ct fb σ H1 fun x H2 => ∃ a o, x = .ref a ∧ DGet H2 a y o ∧ Q (.bl (if neg then !o.isSome else o.isSome)) H2 := by
  obtain ⟨G, env, S, v, S', g, h1, q⟩ := h
  obtain ⟨⟨x, S1⟩, e1, h1⟩ := Res.bind_ok h1
  obtain ⟨⟨y, S2⟩, e2, h1⟩ := Res.bind_ok h1
  obtain ⟨z, e3, h1⟩ := Res.bind_ok h1
  cases h1
  obtain ⟨k, e4, ek⟩ := Option.map_eq_some_iff.mp (ofO_ok e3)
  subst ek
  have two : ∀ (R : V → V → Hp → Prop), (∀ x' y' H2 A2, Post G.A H A2 H2 → StoOk K ct H2 A2 G.M S2 → Rep K ct H2 A2 G.M x x' → RepB K ct H2 A2 G.M y y' → R x' y' H2) →
      rd K ct fa σ H fun x' H1 => rdB K ct fb σ H1 fun y' H2 => R x' y' H2 := fun R hR =>
    ⟨G, env, S, x, S1, g, e1, fun x' H1 A1 p1 s1 r1 => ⟨{ G with A := A1 }, env, S1, y, S2, g.post p1 s1, e2, fun y' H2 A2 p2 s2 r2 => hR x' y' H2 A2 (p1.trans p2) s2 (r1.lat (p2.lat G.M) x x') r2⟩⟩
  cases hd : isDic y with
  | false =>
    refine .inl (two _ fun x' y' H2 A2 p s rx ry => ?_)
    obtain ⟨d, ds, k1, k2, k3, k4, k5, k6⟩ := in_ok hd (.inl rx) ry e4
    refine ⟨d, ds, k1, k2, k3, k4, k5, ?_⟩
    rw [k6]
    exact q _ H2 A2 p s (Rep.bl_iff.mpr rfl)
  | true =>
    cases y with
    | dic t ks vs =>
      refine .inr (two _ fun x' y' H2 A2 p s rx ry => ?_)
      simp only [inPV] at e4
      split at e4
      · rename_i hf
        cases e4
        obtain ⟨ad, o, ea, dg, hh⟩ := dict_get ry rx hf
        refine ⟨ad, o, ea, dg, ?_⟩
        have eo : o.isSome = (dGet ks vs x).isSome := by
          rcases hh with ⟨v, w, c1, c2, _⟩ | ⟨c1, c2⟩
          · rw [c1, c2]; rfl
          · rw [c1, c2]; rfl
        rw [eo]
        exact q _ H2 A2 p s (Rep.bl_iff.mpr rfl)
      · cases e4
    | _ => cases hd
theorem pIn_eq : pIn = fun x y => (inPV x y).map fun k => PV.bl (if false then !k else k) := by
  funext x y; rfl
theorem pNotIn_eq : pNotIn = fun x y => (inPV x y).map fun k => PV.bl (if true then !k else k) := by
  funext x y; rfl
theorem je_in {k : Nat} (hr : Room k X.A) (ha : JE ct X a fa) (hb : JB ct X b fb) (hm : behindInMarks .In b = false := by rfl) : JE ct X (.Compare a [.In] [b] pos) (eOp pIn fa fb) :=
  ⟨((pe_cmpR (op_inD hr.units) ha.pe hb.pe hm).or (pe_cmp (pc_din (hu_of hr) ha.pe hb.pe) hm)).imp fun _ _ _ h => by rw [pIn_eq] at h; exact rd_in h⟩
theorem je_notIn {k : Nat} (hr : Room k X.A) (ha : JE ct X a fa) (hb : JB ct X b fb) (hm : behindInMarks .NotIn b = false := by rfl) : JE ct X (.Compare a [.NotIn] [b] pos) (eOp pNotIn fa fb) :=
  ⟨((pe_cmpR (op_notInD hr.units) ha.pe hb.pe hm).or (pe_cmp (pc_dnotin (hu_of hr) ha.pe hb.pe) hm)).imp fun _ _ _ h => by rw [pNotIn_eq] at h; exact rd_in h⟩
theorem _root_.L2.PT.or {X : Cx} {e : Expr} {t t' : TT} (h : PT X e t) (h' : PT X e t') : PT X e (fun σ H Q => t σ H Q ∨ t' σ H Q) := ⟨fun pins s σ H Q I q => q.elim (h.run pins s σ H Q I) (h'.run pins s σ H Q I)⟩
theorem jt_in {k : Nat} (hr : Room k X.A) (ha : JE ct X a fa) (hb : JB ct X b fb) (hm : behindInMarks .In b = false := by rfl) : JT ct X (.Compare a [.In] [b] pos) (tV (eOp pIn fa fb)) :=
  ⟨((pt_cmpR (op_inD hr.units) ha.pe hb.pe hm).or (pt_cmp (pc_din (hu_of hr) ha.pe hb.pe) hm)).imp fun _ _ _ h => rdT_tTest (t := fun σ H Q => tOp (rInD X.K false) (rd X.K ct fa) (rdB X.K ct fb) σ H Q ∨ tDIn (rd X.K ct fa) (rdB X.K ct fb) σ H Q) (fun _ _ _ z => by rw [pIn_eq] at z; exact rd_in z) h⟩
theorem jt_notIn {k : Nat} (hr : Room k X.A) (ha : JE ct X a fa) (hb : JB ct X b fb) (hm : behindInMarks .NotIn b = false := by rfl) : JT ct X (.Compare a [.NotIn] [b] pos) (tV (eOp pNotIn fa fb)) :=
  ⟨((pt_cmpR (op_notInD hr.units) ha.pe hb.pe hm).or (pt_cmp (pc_dnotin (hu_of hr) ha.pe hb.pe) hm)).imp fun _ _ _ h => rdT_tTest (t := fun σ H Q => tOp (rInD X.K true) (rd X.K ct fa) (rdB X.K ct fb) σ H Q ∨ tDNotIn (rd X.K ct fa) (rdB X.K ct fb) σ H Q) (fun _ _ _ z => by rw [pNotIn_eq] at z; exact rd_in z) h⟩
end
end J
set_option Elab.async false
set_option linter.all false
set_option maxRecDepth 100000
/-! J: shared lists, what a name owns changed, targets of any form. -/
namespace J
open PySem L2

theorem nodup_at {α : Type} : ∀ {l : List α} {i j : Nat} {a : α}, l.Nodup → l[i]? = some a → l[j]? = some a → i = j
  | [], i, j, a, _, h, _ => by simp at h
  | x :: r, 0, 0, a, _, _, _ => rfl
  | x :: r, 0, j + 1, a, n, h1, h2 => by
    cases h1
    exact absurd (List.mem_of_getElem? (by simpa using h2)) (List.nodup_cons.mp n).1
  | x :: r, i + 1, 0, a, n, h1, h2 => by
    cases h2
    exact absurd (List.mem_of_getElem? (by simpa using h1)) (List.nodup_cons.mp n).1
  | x :: r, i + 1, j + 1, a, n, h1, h2 => congrArg Nat.succ (nodup_at (List.nodup_cons.mp n).2 (by simpa using h1) (by simpa using h2))
section
variable {K : PySem.W.Frag} {ct : Ct} {G : Gh} {σ : St} {H : Hp} {env : Env} {S : Sto}
/-- a shared list is written -/
theorem Good.mutSto {n : Nat} {a : Addr} {xs xs' : List PV} {vs' : List V} (g : Good K ct G σ H env S) (hA : G.A[n]? = some a) (hS : S[n]? = some xs) (r : RepL K ct H G.A G.M xs' vs') :
    Lat G.A G.M H G.A G.M (upd H a (.lst vs')) ∧ Good K ct G σ (upd H a (.lst vs')) env (S.set n xs') := by
  have ha : a ∈ G.A := List.mem_of_getElem? hA
  have l : Lat G.A G.M H G.A G.M (upd H a (.lst vs')) := lat_upd (.inl ha)
  have hM : ∀ p ∈ G.M, p ≠ a := fun p hp z => g.bs.disj p hp (z ▸ ha)
  refine ⟨l, ⟨⟨by rw [List.length_set]; exact g.bs.sto.len, fun m b ys h1 h2 => ?_⟩, g.bs.nodup, fun p hp => ?_, g.bs.disj, fun p hp vs ev => ?_⟩, fun j s hs => ?_, g.uniq, fun b o h0 hn => ?_, g.pre0, g.new0, g.sub0, g.in0, g.len⟩
  · rcases getSet h2 with ⟨rfl, rfl, _⟩ | ⟨hm, h2⟩
    · rw [hA] at h1; cases h1
      exact ⟨vs', upd_same, r.lat l _ _⟩
    · obtain ⟨us, h3, h4⟩ := g.bs.sto.at' m b ys h1 h2
      have hne : b ≠ a := fun z => by
        subst z
        exact hm (nodup_at g.bs.nodup hA h1)
      exact ⟨us, by rw [upd_ne hne]; exact h3, h4.lat l ys us⟩
  · rw [upd_ne (hM p hp)]; exact g.bs.inM p hp
  · rw [upd_ne (hM p hp)] at ev; exact g.bs.noT p hp vs ev
  · have q := g.slot j s hs
    cases s with
    | un => trivial
    | val v => obtain ⟨y, h1, h2⟩ := q; exact ⟨y, h1, h2.lat l v y⟩
    | own v => obtain ⟨p, h1, h2, h3, h4⟩ := q; exact ⟨p, h1, h2, h3, h4.lat l (upd_ne (hM p h2))⟩
  · have hne : b ≠ a := fun z => by
      subst z
      rcases g.new0 b ha with q | q
      · exact hn q
      · rw [q] at h0; cases h0
    rw [upd_ne hne]; exact g.ext0 b o h0 hn
end
/-! ### a new shared list -/
def eNew (a : FA) : FE := fun env S => (a env S).bind fun x => if x.1.length ≤ 1000000 then .ok (.obj x.2.length, x.2 ++ [x.1]) else .err
section
variable {ct : Ct} {X : Cx} {es : List Expr} {fr : FA} {pos : Pos}
theorem je_new (h : JA ct X es fr) : JE ct X (.List es pos) (eNew fr) := by
  refine ⟨(pe_lst h.pa).imp fun σ H Q h => ?_⟩
  obtain ⟨G, env, S, v, S', g, h1, q⟩ := h
  obtain ⟨⟨x, S1⟩, e1, h1⟩ := Res.bind_ok h1
  dsimp only at h1
  split at h1
  · rename_i hz
    cases h1
    refine ⟨G, env, S, x, _, g, e1, fun xs H1 A1 p1 s1 r1 => ⟨by rw [r1.length]; exact sz_mil hz, fun p np => ?_⟩⟩
    have g1 := g.post p1 s1
    have nA : p ∉ A1 := fun z => g1.inA p z np
    have sm : Same H1 (upd H1 p (.lst xs)) := same_new np
    have l : Lat A1 G.M H1 (A1 ++ [p]) G.M (upd H1 p (.lst xs)) := ⟨List.prefix_append _ _, fun b o e n m => ⟨sm b o e, (fun z => by
      rcases List.mem_append.mp z with z | z
      · exact n z
      · rw [List.mem_singleton] at z; subst z; rw [np] at e; cases e), m⟩⟩
    have po : Post A1 H1 (A1 ++ [p]) (upd H1 p (.lst xs)) := ⟨List.prefix_append _ _, fun b o e _ => sm b o e, fun b hb => by
      rcases List.mem_append.mp hb with z | z
      · exact .inl z
      · rw [List.mem_singleton] at z; subst z; exact .inr np, by
      rw [List.nodup_append]
      exact ⟨g1.bs.nodup, by simp, fun a ha b hb => by rw [List.mem_singleton] at hb; subst hb; exact fun z => nA (z ▸ ha)⟩⟩
    refine q _ _ (A1 ++ [p]) (p1.trans po) ⟨by rw [List.length_append, List.length_append, s1.len]; rfl, fun n a ys k1 k2 => ?_⟩ ?_
    · by_cases hn : n < A1.length
      · rw [List.getElem?_append_left hn] at k1
        rw [List.getElem?_append_left (by rw [s1.len]; exact hn)] at k2
        obtain ⟨vs, k3, k4⟩ := s1.at' n a ys k1 k2
        exact ⟨vs, sm _ _ k3, k4.lat l ys vs⟩
      · rw [List.getElem?_append_right (by omega)] at k1
        rw [List.getElem?_append_right (by rw [s1.len]; omega), s1.len] at k2
        cases hk : n - A1.length with
        | zero =>
          rw [hk] at k1 k2
          cases k1; cases k2
          exact ⟨xs, upd_same, r1.lat l _ _⟩
        | succ m => rw [hk] at k1; cases k1
    · simp only [Rep]
      exact ⟨p, rfl, by rw [s1.len, List.getElem?_append_right (Nat.le_refl _)]; simp⟩
  · cases h1
end
/-! ### targets of any form -/
abbrev GG := PV → Env → Sto → Res (Env × Sto)
abbrev GGs := List PV → Env → Sto → Res (Env × Sto)
section
variable (K : PySem.W.Frag) (ct : Ct)
def rdG (g : GG) : TG := fun x σ H Q => ∃ G env S v env' S', Good K ct G σ H env S ∧ Rep K ct H G.A G.M v x ∧ g v env S = .ok (env', S') ∧
  ∀ σ' H' A' M', Lat G.A G.M H A' M' H' → Good K ct { G with A := A', M := M' } σ' H' env' S' → Q σ' H'
def rdGs (g : GGs) : TGs := fun x σ H Q => ∃ G env S v env' S', Good K ct G σ H env S ∧ RepL K ct H G.A G.M v x ∧ g v env S = .ok (env', S') ∧
  ∀ σ' H' A' M', Lat G.A G.M H A' M' H' → Good K ct { G with A := A', M := M' } σ' H' env' S' → Q σ' H'
end
structure JG (ct : Ct) (X : Cx) (tg : Expr) (g : GG) : Prop where
  pg : PG X tg (rdG X.K ct g)
structure JGs (ct : Ct) (X : Cx) (tg : List Expr) (g : GGs) : Prop where
  pg : PGs X tg (rdGs X.K ct g)
def gOf (g : GN) : GG := fun v env S => (ofO (g v env)).bind fun e => .ok (e, S)
def ggNil : GGs := fun vs env S => match vs with
  | [] => .ok (env, S)
  | _ => .err
def ggCons (a : GG) (r : GGs) : GGs := fun vs env S => match vs with
  | v :: rs => (a v env S).bind fun x => r rs x.1 x.2
  | [] => .err
def ggT (n : Nat) (r : GGs) : GG := fun v env S => match v with
  | .tup xs => if xs.length = n then r xs env S else .err
  | _ => .err
def gDrop : GG := fun _ env S => .ok (env, S)
/-- o[i] = v of a shared list -/
def gSubO (fo fi : FE) : GG := fun v env S => (fo env S).bind fun o => (fi env o.2).bind fun i => match o.1, i.1 with
  | .obj n, .int k => match i.2[n]? with
    | some xs => (ofO (ixN xs.length k)).bind fun j => .ok (env, i.2.set n (xs.set j v))
    | none => .err
  | _, _ => .err
def dHas (ks : List PV) (k : PV) : Bool := ks.any fun x => decide (x = k)
def dSetV : List PV → List PV → PV → PV → List PV
  | k' :: ks, u :: vs, k, v => (if k' = k then v else u) :: dSetV ks vs k v
  | _, _, _, _ => []
def dPutK (ks : List PV) (k : PV) : List PV := if dHas ks k then ks else ks ++ [k]
def dPutV (ks vs : List PV) (k v : PV) : List PV := if dHas ks k then dSetV ks vs k v else vs ++ [v]
/-- x[i] = v, x owns a list or a dict -/
def gOwn (s : Nat) (fi : FE) : GG := fun v env S => (fi env S).bind fun i => match env[s]? with
  | some (.own (.lst xs)) => match i.1 with
    | .int k => (ofO (ixN xs.length k)).bind fun j => .ok (env.set s (.own (.lst (xs.set j v))), i.2)
    | _ => .err
  | some (.own (.dic t ks vs)) => if keyFit t i.1 && decide (ks.length < 1000000) then .ok (env.set s (.own (.dic t (dPutK ks i.1) (dPutV ks vs i.1 v))), i.2) else .err
  | _ => .err
section
variable {K : PySem.W.Frag} {ct : Ct} {H : Hp} {A M : List Addr}
theorem dHas_put {κ : Type} [DecidableEq κ] {e : κ → PV} (inj : ∀ a b, e a = e b → a = b) (k : κ) : ∀ (ws : List (κ × V)), dHas (ws.map fun w => e w.1) (e k) = ws.any fun kv => decide (kv.1 = k)
  | [] => rfl
  | w :: ws => by
    have ih := dHas_put inj k ws
    unfold dHas at ih ⊢
    rw [List.map_cons, List.any_cons, List.any_cons, ih]
    have : (decide (e w.1 = e k)) = decide (w.1 = k) := by
      by_cases h : w.1 = k
      · rw [decide_eq_true h, decide_eq_true (congrArg e h)]
      · rw [decide_eq_false h, decide_eq_false (fun z => h (inj _ _ z))]
    rw [this]
theorem dSet_rep {κ : Type} [DecidableEq κ] {e : κ → PV} (inj : ∀ a b, e a = e b → a = b) {k : κ} {v : PV} {x : V} (r : Rep K ct H A M v x) : ∀ (ws : List (κ × V)) (vs : List PV), RepL K ct H A M vs (ws.map (·.2)) →
    (ws.map fun kv => if kv.1 = k then (kv.1, x) else kv).map (fun w => e w.1) = ws.map (fun w => e w.1) ∧ RepL K ct H A M (dSetV (ws.map fun w => e w.1) vs (e k) v) ((ws.map fun kv => if kv.1 = k then (kv.1, x) else kv).map (·.2))
  | [], vs, h => by
    refine ⟨rfl, ?_⟩
    rw [List.map_nil, dSetV]
    exact .nil
    intros; simp_all
  | w :: ws, vs, h => by
    cases vs with
    | nil => have := h.length; simp at this
    | cons u vs =>
      obtain ⟨y, ys, e0, h1, h2⟩ := h.inv
      simp only [List.map_cons, List.cons.injEq] at e0
      obtain ⟨rfl, rfl⟩ := e0
      obtain ⟨i1, i2⟩ := dSet_rep inj r ws vs h2
      simp only [List.map_cons, dSetV]
      by_cases hk : w.1 = k
      · rw [if_pos hk, if_pos (congrArg e hk)]
        exact ⟨by rw [i1], .cons r i2⟩
      · rw [if_neg hk, if_neg (fun z => hk (inj _ _ z))]
        exact ⟨by rw [i1], .cons h1 i2⟩
theorem dPut_rep {κ : Type} [DecidableEq κ] {e : κ → PV} (inj : ∀ a b, e a = e b → a = b) {k : κ} {v : PV} {x : V} (r : Rep K ct H A M v x) (ws : List (κ × V)) (vs : List PV) (h : RepL K ct H A M vs (ws.map (·.2))) :
    dPutK (ws.map fun w => e w.1) (e k) = (putK ws k x).map (fun w => e w.1) ∧ RepL K ct H A M (dPutV (ws.map fun w => e w.1) vs (e k) v) ((putK ws k x).map (·.2)) := by
  unfold dPutK dPutV putK
  rw [dHas_put inj]
  by_cases hb : (ws.any fun kv => decide (kv.1 = k)) = true
  · rw [if_pos hb, if_pos hb, if_pos hb]
    obtain ⟨i1, i2⟩ := dSet_rep inj r ws vs h
    exact ⟨i1.symm, i2⟩
  · rw [if_neg hb, if_neg hb, if_neg hb]
    refine ⟨by simp, ?_⟩
    rw [List.map_append]
    exact h.append (.cons r .nil)
end
def rSetD : V → V → V → Hp → (Hp → Prop) → Prop := fun o i v H Q => ∃ a H', o = .ref a ∧ DPut H a i v H' ∧ Q H'
theorem set_dict {X : Cx} (hu : X.A.units + 1 < cLine) : PSet X rSetD := by
  intro pinsZ s σ H o i v ov iv u Q IZ ro ri rv h
  obtain ⟨a, H', rfl, g, q⟩ := h
  cases ro
  exact d_setItem hu IZ g ri rv fun s' I' => ⟨H', I', q⟩
def PSet.or {X : Cx} {t t' : TSet} (h : PSet X t) (h' : PSet X t') : PSet X (fun o i v H Q => t o i v H Q ∨ t' o i v H Q) := fun pins s σ H o i v ov iv u Q I ro ri rv q => q.elim (h pins s σ H o i v ov iv u Q I ro ri rv) (h' pins s σ H o i v ov iv u Q I ro ri rv)
section
variable {ct : Ct} {X : Cx} {e o i : Expr} {es : List Expr} {pos : Pos} {ws : List Nat} {g : GN} {gg : GG} {gs : GGs} {fo fi : FE}
theorem jg_n (h : JN ct X e ws g) : JG ct X e (gOf g) := by
  refine ⟨h.pg.imp fun v σ H Q h => ?_⟩
  obtain ⟨G, env, S, v, env', S', gd, r, e, q⟩ := h
  obtain ⟨en, e1, e2⟩ := Res.bind_ok e
  cases e2
  exact ⟨G, env, S, v, _, gd, r, ofO_ok e1, fun σ' _ _ g' => q σ' H G.A G.M (Lat.refl _ _ _) g'⟩
theorem jgs_nil : JGs ct X [] ggNil := by
  refine ⟨pgs_nil.imp fun v σ H Q h => ?_⟩
  obtain ⟨G, env, S, vs, env', S', gd, r, e, q⟩ := h
  cases vs with
  | nil => cases e; exact ⟨RepL.nil_iff.mp r, q σ H G.A G.M (Lat.refl _ _ _) gd⟩
  | cons _ _ => cases e
theorem jgs_cons (h1 : JG ct X e gg) (h2 : JGs ct X es gs) (hs : (assignEach (e :: es) X.env).map (·.2) = assign e X.env :: (assignEach es X.env).map (·.2) := by rfl) : JGs ct X (e :: es) (ggCons gg gs) := by
  refine ⟨(pgs_cons h1.pg h2.pg hs).imp fun v σ H Q h => ?_⟩
  obtain ⟨G, env, S, vs, env', S', gd, r, e, q⟩ := h
  cases vs with
  | nil => cases e
  | cons p ps =>
    obtain ⟨x, xs, rfl, r1, r2⟩ := r.inv
    obtain ⟨⟨en, S1⟩, e1, e2⟩ := Res.bind_ok e
    exact ⟨x, xs, rfl, G, env, S, p, en, S1, gd, r1, e1, fun σ1 H1 A1 M1 l1 g1 => ⟨_, en, S1, ps, env', S', g1, r2.lat l1 ps xs, e2, fun σ2 H2 A2 M2 l2 g2 => q σ2 H2 A2 M2 (l1.trans l2) g2⟩⟩
theorem jg_tup {k n : Nat} (hc : X.calm = true) (h : JGs ct X es gs) (hn : (assignEach es X.env).length = n := by rfl) (hst : (assignEach es X.env).findIdx? (·.1) = none := by rfl) : JG ct X (.Tuple es k pos) (ggT n gs) := by
  refine ⟨(pg_tup hc h.pg hn hst).imp fun v σ H Q h => ?_⟩
  obtain ⟨G, env, S, vs, env', S', gd, r, e, q⟩ := h
  cases vs with
  | tup xs =>
    obtain ⟨a, ys, rfl, hq, ry⟩ := r.tup_inv
    unfold ggT at e
    dsimp only at e
    split at e
    · rename_i hl
      exact ⟨a, ys, rfl, hq.sqT, by rw [ry.length]; exact hl, G, env, S, xs, env', S', gd, ry, e, q⟩
    · cases e
  | _ => cases e
theorem jg_sub (ho : JE ct X o fo) (hi : JE ct X i fi)
    (ha : ∀ u, assign (.Subscript o i pos) X.env u = (do let ou ← holding [u] (eval o X.env); let iu ← holding [u, ou] (eval i X.env); standAt pos; holding [u, ou, iu] (setItem ou iu u); release [u, ou, iu] []) := by intro _; rfl) : JG ct X (.Subscript o i pos) (gSubO fo fi) := by
  refine ⟨(pg_sub ho.pe hi.pe set_list ha).imp fun x σ H Q h => ?_⟩
  obtain ⟨G, env, S, v, env', S', gd, r, e, q⟩ := h
  obtain ⟨⟨ov, S1⟩, e1, e⟩ := Res.bind_ok e
  obtain ⟨⟨iv, S2⟩, e2, e⟩ := Res.bind_ok e
  refine ⟨G, env, S, ov, S1, gd, e1, fun x' H1 A1 p1 s1 r1 => ⟨{ G with A := A1 }, env, S1, iv, S2, gd.post p1 s1, e2, fun y' H2 A2 p2 s2 r2 => ?_⟩⟩
  have g2 := (gd.post p1 s1).post p2 s2
  have rv := (r.lat (p1.lat G.M) v x).lat (p2.lat G.M) v x
  have ro := r1.lat (p2.lat G.M) ov x'
  cases ov with
  | obj n =>
    cases iv with
    | int k =>
      dsimp only at e
      cases hxs : S2[n]? with
      | some xs =>
        rw [hxs] at e
        obtain ⟨j, e3, e⟩ := Res.bind_ok e
        cases e
        simp only [Rep] at ro
        obtain ⟨a, rfl, hA⟩ := ro
        obtain ⟨vs, hH, rx⟩ := g2.bs.sto.at' n a xs hA hxs
        rw [Rep.int_iff.mp r2]
        obtain ⟨l, g3⟩ := g2.mutSto hA hxs (rx.set j rv)
        exact ⟨a, vs, k, j, rfl, rfl, hH, by rw [rx.length]; exact ofO_ok e3, q σ _ A2 G.M (((p1.trans p2).lat G.M).trans l) g3⟩
      | none => rw [hxs] at e; cases e
    | _ => cases e
  | _ => cases e
theorem jg_own (s : Nat) {k : Nat} {z : Str} {pos' : Pos} (hr : Room k X.A) (hi : JE ct X i fi) (hN : X.N[s]? = some z := by rfl) (hv : Vis X.env.scope z := by first | exact Or.inl rfl | exact Or.inr (Or.inl rfl) | exact Or.inr (Or.inr rfl)) (hd : (z == ("__debug__" : Str)) = false := by decide) (hcd : (z == ("__classdict__" : Str)) = false := by decide)
    (ha : ∀ v, assign (.Subscript (.Name z pos') i pos) X.env v = (do
      let ov ← holding [v] (eval (.Name z pos') X.env)
      let ivZ ← holding [v, ov] (eval i X.env)
      standAt pos
      holding [v, ov, ivZ] (setItem ov ivZ v)
      release [v, ov, ivZ] []) := by intro _; rfl) : JG ct X (.Subscript (.Name z pos') i pos) (gOwn s fi) := by
  refine ⟨(pg_sub (pe_var hN hv hd hcd) hi.pe (PSet.or set_list (set_dict (hu_of hr))) ha).imp fun x σ H Q h => ?_⟩
  obtain ⟨G, env, S, v, env', S', gd, r, e, q⟩ := h
  obtain ⟨⟨ivZ, S1⟩, e1, e⟩ := Res.bind_ok e
  dsimp only at e
  cases hs : env[s]? with
  | none => rw [hs] at e; cases e
  | some sl =>
    rw [hs] at e
    cases sl with
    | un => cases e
    | val w => cases e
    | own w =>
      obtain ⟨p, hp, hM, h0, c⟩ := gd.slot s _ hs
      refine ⟨.ref p, hp, G, env, S, ivZ, S1, gd, e1, fun y' H1 A1 p1 s1 r1 => ?_⟩
      have g1 := gd.post p1 s1
      have rv := r.lat (p1.lat G.M) v x
      obtain ⟨p', hp', hM', h0', c1⟩ := g1.slot s _ hs
      rw [hp] at hp'; cases hp'
      cases w with
      | lst xs =>
        cases ivZ with
        | int k =>
          obtain ⟨j, e3, e⟩ := Res.bind_ok e
          cases e
          obtain ⟨vs, hH, rx⟩ := c1
          rw [Rep.int_iff.mp r1]
          refine .inl ⟨p, vs, k, j, rfl, rfl, hH, by rw [rx.length]; exact ofO_ok e3, ?_⟩
          exact q σ _ A1 G.M ((p1.lat G.M).trans (lat_upd (.inr hM))) (g1.mutOwn hs hp ⟨_, upd_same, (rx.set j rv).lat (lat_upd (.inr hM)) _ _⟩)
        | _ => cases e
      | dic t ks us =>
        dsimp only at e
        split at e
        · rename_i hz
          cases e
          rw [Bool.and_eq_true, decide_eq_true_eq] at hz
          have hlen : ∀ {n : Nat}, ks.length = n → n < sizeLine := fun {n} en => en ▸ Nat.lt_of_lt_of_le hz.2 (by decide)
          rcases c1 with ⟨rfl, ws, hH, rfl, rx⟩ | ⟨rfl, ws, hH, rfl, rx⟩
          · have hf : (keyOf ivZ).isSome = true := hz.1
            obtain ⟨k', hk'⟩ := Option.isSome_iff_exists.mp hf
            have ek := keyOf_eq hk'
            subst ek
            have ey := r1.key
            subst ey
            obtain ⟨i1, i2⟩ := dPut_rep (e := keyV) (fun _ _ z => keyV_inj z) (k := k') rv ws us rx
            refine .inr ⟨p, _, rfl, .inl ⟨ws, k', hH, rfl, hlen (by simp), rfl⟩, ?_⟩
            refine q σ _ A1 G.M ((p1.lat G.M).trans (lat_upd (.inr hM))) (g1.mutOwn hs hp (.inl ⟨rfl, _, upd_same, ?_, ?_⟩))
            · exact i1
            · exact i2.lat (lat_upd (.inr hM)) _ _
          · cases ivZ with
            | tup ps =>
              have hf : (keysOf ps).isSome = true := hz.1
              obtain ⟨k', hk'⟩ := Option.isSome_iff_exists.mp hf
              have ek := keysOf_eq hk'
              subst ek
              obtain ⟨b, bs, rfl, hb, hu⟩ := r1.tup_inv
              have eu := hu.keys
              subst eu
              obtain ⟨i1, i2⟩ := dPut_rep (e := fun l : List Key => PV.tup (l.map keyV)) (fun _ _ z => tupKey_inj z) (k := k') rv ws us rx
              refine .inr ⟨p, _, rfl, .inr ⟨ws, k', b, hH, rfl, hb.1, hlen (by simp), rfl⟩, ?_⟩
              refine q σ _ A1 G.M ((p1.lat G.M).trans (lat_upd (.inr hM))) (g1.mutOwn hs hp (.inr ⟨rfl, _, upd_same, ?_, ?_⟩))
              · exact i1
              · exact i2.lat (lat_upd (.inr hM)) _ _
            | _ => cases hz.1
        · cases e
      | _ => exact False.elim c
end
def sAsgG (a : FE) (g : GG) : FS := fun env S => (a env S).bind fun x => (g x.1 env x.2).bind fun r => .ok (.nx r.1 r.2)
section
variable {ct : Ct} {X : Cx} {e tg : Expr} {fe : FE} {es : List Expr} {pos : Pos} {gg : GG}
theorem js_asgG (he : JE ct X e fe) (hg : JG ct X tg gg) (hs : swapsWithSole [tg] e pos.line X.env = pure false := by rfl) (hw : swappedStores [tg] e X.env = pure none := by rfl)
    (h1 : (assignEach [tg] X.env).map (·.2) = [assign tg X.env] := by rfl) : JS ct X (.Assign [tg] e pos) (sAsgG fe gg) := by
  refine ⟨(ps_asg he.pe hg.pg hs hw h1).imp fun D σ H h => ?_⟩
  obtain ⟨G, env, S, fl, gd, e, h⟩ := h
  obtain ⟨⟨x, S1⟩, e1, e2⟩ := Res.bind_ok e
  obtain ⟨⟨en, S2⟩, e3, e2⟩ := Res.bind_ok e2
  cases e2
  exact ⟨G, env, S, x, S1, gd, e1, fun y H1 A1 p s r => ⟨_, env, S1, x, en, S2, gd.post p s, r, e3, fun σ' H' A' M' l g' => h σ' H' A' M' ((p.lat G.M).trans l) g'⟩⟩
end
end J
set_option Elab.async false
set_option linter.all false
set_option maxRecDepth 100000
/-! J: methods of what a name owns; dicts made, asked, gone through; repeats. -/
namespace J
open PySem L2

/-- x.append(e) -/
def sApp (i : Nat) (fe : FE) : FS := fun env S => (fe env S).bind fun x => match env[i]? with
  | some (.own (.lst xs)) => if xs.length < 1000000 then .ok (.nx (env.set i (.own (.lst (xs ++ [x.1])))) x.2) else .err
  | _ => .err
/-- target = x.pop() -/
def sPop (i : Nat) (g : GG) : FS := fun env S => match env[i]? with
  | some (.own (.lst xs)) => match xs[xs.length - 1]? with
    | some y => (g y (env.set i (.own (.lst xs.dropLast))) S).bind fun r => .ok (.nx r.1 r.2)
    | none => .err
  | _ => .err
theorem RepL.dropLast {K : PySem.W.Frag} {ct : Ct} {H : Hp} {A M : List Addr} {ps : List PV} {vs : List V} (h : RepL K ct H A M ps vs) : RepL K ct H A M ps.dropLast vs.dropLast := by
  rw [List.dropLast_eq_take, List.dropLast_eq_take, h.length]
  exact h.take _
section
variable {ct : Ct} {X : Cx} {e tg : Expr} {fe : FE} {apos cpos pos : Pos} {gg : GG}
theorem js_append (i : Nat) {z : Str} {pos' : Pos} (he : JE ct X e fe) (hN : X.N[i]? = some z := by rfl) (hv : Vis X.env.scope z := by first | exact Or.inl rfl | exact Or.inr (Or.inl rfl) | exact Or.inr (Or.inr rfl)) (hd : (z == ("__debug__" : Str)) = false := by decide) (hcd : (z == ("__classdict__" : Str)) = false := by decide)
    (hs : swapsWith (.Call (.Attribute (.Name z pos') "append" apos) [e] [] cpos) none pos.line X.env = pure false := by rfl)
    (hbase : attributeBase (.Name z pos') "append" X.env (eval (.Name z pos') X.env) = eval (.Name z pos') X.env := by rfl)
    (hfewZ : ((backTo cpos (starEach [e] X.env)).all (fun x => !x.1) && (backToKw cpos (keywordEach [] X.env)).all (fun x => x.1.isSome) && decide (([e] : List Expr).length + ([] : List Keyword).length + (if ([] : List Keyword).isEmpty then 0 else 1) < 30)) = true := by rfl)
    (hline : (apos.endLine == cpos.line) = true := by rfl) (hst : starEach [e] X.env = (false, eval e X.env) :: starEach [] X.env := by rfl) : JS ct X (.Expr (.Call (.Attribute (.Name z pos') "append" apos) [e] [] cpos) pos) (sApp i fe) := by
  refine ⟨(ps_expr (pe_bm F.plainAttrs_list F.slot_list_append F.type_list_append mt_append (pe_var hN hv hd hcd) (ja_cons he ja_nil hst).pa hbase hfewZ hline hst rfl) hs).imp fun D σ H h => ?_⟩
  obtain ⟨G, env, S, fl, g, e0, h⟩ := h
  obtain ⟨⟨y, S1⟩, e1, e2⟩ := Res.bind_ok e0
  dsimp only at e2
  cases hsl : env[i]? with
  | none => rw [hsl] at e2; cases e2
  | some sl =>
    rw [hsl] at e2
    cases sl with
    | un => cases e2
    | val w => cases e2
    | own w =>
      obtain ⟨p, hp, hM, h0, c⟩ := g.slot i _ hsl
      cases w with
      | lst xs =>
        dsimp only at e2
        split at e2
        · rename_i hz
          cases e2
          obtain ⟨vs, hH, rx⟩ := c
          refine ⟨.ref p, hp, .inl ⟨rfl, vs, .inl (.inl hH)⟩, G, env, S, [y], S1, g, ?_, fun ys H1 A1 p1 s1 r1 => ?_⟩
          · show (fe env S).bind _ = _
            rw [e1]; rfl
          have g1 := g.post p1 s1
          obtain ⟨p', hp', hM', h0', c1⟩ := g1.slot i _ hsl
          rw [hp] at hp'; cases hp'
          obtain ⟨vs1, hH1, rx1⟩ := c1
          obtain ⟨yv, rfl, ry⟩ := r1.one
          refine ⟨p, vs1, yv, rfl, rfl, hH1, ?_, ?_⟩
          · rw [rx1.length]; exact Nat.lt_of_lt_of_le hz (by decide)
          · exact h σ _ A1 G.M ((p1.lat G.M).trans (lat_upd (.inr hM))) (g1.mutOwn hsl hp ⟨_, upd_same, (rx1.append (.cons ry .nil)).lat (lat_upd (.inr hM)) _ _⟩)
        · cases e2
      | _ => cases e2
theorem js_pop (i : Nat) {z : Str} {pos' : Pos} (hg : JG ct X tg gg) (hN : X.N[i]? = some z := by rfl) (hv : Vis X.env.scope z := by first | exact Or.inl rfl | exact Or.inr (Or.inl rfl) | exact Or.inr (Or.inr rfl)) (hd : (z == ("__debug__" : Str)) = false := by decide) (hcd : (z == ("__classdict__" : Str)) = false := by decide)
    (hs : swapsWithSole [tg] (.Call (.Attribute (.Name z pos') "pop" apos) [] [] cpos) pos.line X.env = pure false := by rfl) (hw : swappedStores [tg] (.Call (.Attribute (.Name z pos') "pop" apos) [] [] cpos) X.env = pure none := by rfl)
    (h1 : (assignEach [tg] X.env).map (·.2) = [assign tg X.env] := by rfl)
    (hbase : attributeBase (.Name z pos') "pop" X.env (eval (.Name z pos') X.env) = eval (.Name z pos') X.env := by rfl)
    (hline : (apos.endLine == cpos.line) = true := by rfl) : JS ct X (.Assign [tg] (.Call (.Attribute (.Name z pos') "pop" apos) [] [] cpos) pos) (sPop i gg) := by
  refine ⟨(ps_asg (pe_bm0 F.plainAttrs_list F.slot_list_pop F.type_list_pop mt_pop (pe_var hN hv hd hcd) hbase hline) hg.pg hs hw h1).imp fun D σ H h => ?_⟩
  obtain ⟨G, env, S, fl, g, e0, h⟩ := h
  unfold sPop at e0
  cases hsl : env[i]? with
  | none => rw [hsl] at e0; cases e0
  | some sl =>
    rw [hsl] at e0
    cases sl with
    | un => cases e0
    | val w => cases e0
    | own w =>
      obtain ⟨p, hp, hM, h0, c⟩ := g.slot i _ hsl
      cases w with
      | lst xs =>
        dsimp only at e0
        cases hy : xs[xs.length - 1]? with
        | none => rw [hy] at e0; cases e0
        | some y =>
          rw [hy] at e0
          obtain ⟨⟨en, S2⟩, e3, e4⟩ := Res.bind_ok e0
          cases e4
          obtain ⟨vs, hH, rx⟩ := c
          obtain ⟨yv, hyv, ry⟩ := rx.get hy
          refine ⟨.ref p, hp, .inl ⟨rfl, vs, .inl (.inl hH)⟩, p, vs, yv, rfl, rfl, hH, by rw [rx.length]; exact hyv, ?_⟩
          have l : Lat G.A G.M H G.A G.M (upd H p (.lst vs.dropLast)) := lat_upd (.inr hM)
          exact ⟨G, env.set i (.own (.lst xs.dropLast)), S, y, en, S2, g.mutOwn (w := .lst xs.dropLast) hsl hp ⟨_, upd_same, rx.dropLast.lat l _ _⟩, ry.lat l y yv, e3, fun σ' H' A' M' l' g' => h σ' H' A' M' (l.trans l') g'⟩
      | _ => cases e0
end
/-! ### dicts made and asked -/
theorem fresh_dic {K : PySem.W.Frag} {ct : Ct} {G : Gh} {σ : St} {env : Env} {H : Hp} {S : Sto} {p : Addr} {o : HO} {v : PV} (g : Good K ct G σ H env S) (np : H p = none) (ho : ∀ vs, o ≠ .tup vs) (c : Cont K ct (upd H p o) G.A (p :: G.M) p v) :
    Post G.A H G.A (upd H p o) ∧ p ∉ G.A ∧ StoOk K ct (upd H p o) G.A (p :: G.M) S := by
  have sm : Same H (upd H p o) := same_new np
  exact ⟨Post.grow g.bs.nodup sm, fun z => g.inA p z np, (g.hide np sm (by rw [upd_same]; simp) (by rw [upd_same]; intro vs e; exact ho vs (Option.some.inj e))).bs.sto⟩
section
variable {ct : Ct} {X : Cx} {a b c : Expr} {fa fb fc : FE} {pos apos cpos : Pos}
theorem jf_dict (t : Bool) : JF ct X (.Dict [] [] pos) (eC (.dic t [] [])) := by
  cases t with
  | false =>
    refine ⟨pe_dnewK.imp fun σ H Q h => ?_⟩
    obtain ⟨G, env, S, v, S', g, h1, q⟩ := h
    cases h1
    intro p np
    have c : Cont X.K ct (upd H p (.dK [])) G.A (p :: G.M) p (.dic false [] []) := .inl ⟨rfl, [], upd_same, rfl, .nil⟩
    obtain ⟨k1, k2, k3⟩ := fresh_dic g np (fun _ => by simp) c
    exact q p _ G.A k1 np k2 k3 c
  | true =>
    refine ⟨pe_dnewT.imp fun σ H Q h => ?_⟩
    obtain ⟨G, env, S, v, S', g, h1, q⟩ := h
    cases h1
    intro p np
    have c : Cont X.K ct (upd H p (.dT [])) G.A (p :: G.M) p (.dic true [] []) := .inr ⟨rfl, [], upd_same, rfl, .nil⟩
    obtain ⟨k1, k2, k3⟩ := fresh_dic g np (fun _ => by simp) c
    exact q p _ G.A k1 np k2 k3 c
theorem RepB.isD {K : PySem.W.Frag} {H : Hp} {A M : List Addr} {t : Bool} {ks vs : List PV} {x : V} (r : RepB K ct H A M (.dic t ks vs) x) : ∃ a, x = .ref a ∧ IsD H a := by
  rcases r with r | ⟨p, rfl, _, c⟩
  · simp only [Rep] at r
    obtain ⟨a, rfl, r⟩ := r
    rcases r with ⟨ht, ws, h1, h2, h3⟩ | ⟨ht, ws, h1, h2, h3⟩
    · exact ⟨a, rfl, .inl ⟨ws, h1.rd⟩⟩
    · exact ⟨a, rfl, .inr ⟨ws, h1.rd⟩⟩
  · rcases c with ⟨ht, ws, h1, h2, h3⟩ | ⟨ht, ws, h1, h2, h3⟩
    · exact ⟨p, rfl, .inl ⟨ws, .inl h1⟩⟩
    · exact ⟨p, rfl, .inr ⟨ws, .inl h1⟩⟩
/-- d.get(k, x) -/
def eGet (fd fk fx : FE) : FE := fun env S => (fd env S).bind fun d => (fk env d.2).bind fun k => (fx env k.2).bind fun x => match d.1 with
  | .dic t ks vs => if keyFit t k.1 then .ok ((dGet ks vs k.1).getD x.1, x.2) else .err
  | _ => .err
theorem je_get {k : Nat} (hr : Room k X.A) (ha : JB ct X a fa) (hb : JE ct X b fb) (hc : JE ct X c fc) (m : M2 X a "get" apos b c cpos := by exact ⟨rfl, rfl, rfl, rfl⟩) : JE ct X (.Call (.Attribute a "get" apos) [b, c] [] cpos) (eGet fa fb fc) := by
  refine ⟨(pe_dget2 (hu_of hr) ha.pe hb.pe hc.pe m).imp fun σ H Q h => ?_⟩
  obtain ⟨G, env, S, v, S', g, h1, q⟩ := h
  obtain ⟨⟨d, S1⟩, e1, h1⟩ := Res.bind_ok h1
  obtain ⟨⟨y, S2⟩, e2, h1⟩ := Res.bind_ok h1
  obtain ⟨⟨x, S3⟩, e3, h1⟩ := Res.bind_ok h1
  cases d with
  | dic t ks vs =>
    dsimp only at h1
    split at h1
    · rename_i hf
      cases h1
      refine ⟨G, env, S, _, S1, g, e1, fun d' H1 A1 p1 s1 r1 => ?_⟩
      obtain ⟨ad, rfl, isd⟩ := r1.isD
      have g1 := g.post p1 s1
      refine ⟨ad, rfl, isd, ⟨{ G with A := A1 }, env, S1, y, S2, g1, e2, fun y' H2 A2 p2 s2 r2 => ⟨{ G with A := A2 }, env, S2, x, _, g1.post p2 s2, e3, fun x' H3 A3 p3 s3 r3 => ?_⟩⟩⟩
      have g2 := g1.post p2 s2
      have rd3 := (r1.lat p2 g1.bs.disj).lat p3 g2.bs.disj
      have ry3 := r2.lat (p3.lat G.M) y y'
      obtain ⟨ad', o, ea, dg, hh⟩ := dict_get rd3 ry3 hf
      cases ea
      refine ⟨o, dg, ?_⟩
      have po := (p1.trans p2).trans p3
      rcases hh with ⟨v, w, c1, c2, c3⟩ | ⟨c1, c2⟩
      · subst c2
        exact q _ H3 A3 po s3 (by rw [c1]; exact c3)
      · subst c2
        exact q _ H3 A3 po s3 (by rw [c1]; exact r3)
    · cases h1
  | _ => cases h1
end
/-! ### for k in d -/
def iKey (f : FE) : FA := fun env S => (f env S).bind fun x => match x.1 with
  | .dic _ ks _ => .ok (ks, x.2)
  | _ => .err
section
variable {ct : Ct} {X : Cx} {tg e : Expr} {f : FE}
theorem it_keysK {K : PySem.W.Frag} {A M : List Addr} {H : Hp} {d : Addr} {o : Obj} {ws : List (Key × V)} (h : H d = some (.frz o (.dK ws))) (nA : d ∉ A) (nM : d ∉ M) : ItOk K ct (Itk d o ws) A M H (ws.map fun w => keyV w.1) := fun A' M' H' l hx => by
  obtain ⟨h', _, _⟩ := l.vis d _ h nA nM
  rw [List.length_map]
  refine ⟨fun i hi => ⟨h', hi⟩, ⟨h', Nat.le_refl _⟩, fun i x H'' hi y => ?_⟩
  obtain ⟨e, k, v, e1, e2⟩ := y
  subst e e2
  refine ⟨Same.refl _, keyV k, by rw [List.getElem?_map, e1]; rfl, ?_⟩
  cases k with
  | inl i => exact Rep.int_iff.mpr rfl
  | inr i => exact Rep.str_iff.mpr rfl
theorem it_keysT {K : PySem.W.Frag} {A M : List Addr} {H : Hp} {d : Addr} {o : Obj} {ws : List (List Key × V)} (h : H d = some (.frz o (.dT ws))) (nA : d ∉ A) (nM : d ∉ M) : ItOk K ct (Itkt d o ws) A M H (ws.map fun w => .tup (w.1.map keyV)) := fun A' M' H' l hx => by
  obtain ⟨h', _, _⟩ := l.vis d _ h nA nM
  rw [List.length_map]
  refine ⟨fun i hi => ⟨h', hi⟩, ⟨h', Nat.le_refl _⟩, fun i x H'' hi y => ?_⟩
  obtain ⟨e, k, v, q, e1, e2, e3⟩ := y
  subst e e2
  refine ⟨Same.refl _, .tup (k.map keyV), by rw [List.getElem?_map, e1]; rfl, ?_⟩
  simp only [Rep]
  exact ⟨q, _, rfl, ⟨e3, fun z => hx.noA q z _ e3, fun z => hx.noM q z _ e3⟩, RepL.of_keys k⟩
theorem ji_keys (h : JE ct X e f) : JI ct X tg e (iKey f) := by
  refine ⟨(pi_keys h.pe).imp fun σ H R q => ?_⟩
  obtain ⟨G, env, S, v, S', g, h1, q⟩ := q
  obtain ⟨⟨x, S1⟩, e1, h1⟩ := Res.bind_ok h1
  cases x with
  | dic t ks vs =>
    cases h1
    refine ⟨G, env, S, _, _, g, e1, fun y H1 A1 p1 s1 r1 => ?_⟩
    simp only [Rep] at r1
    obtain ⟨a, rfl, r1⟩ := r1
    rcases r1 with ⟨ht, ws, ⟨⟨o, h8⟩, h2, h3⟩, rfl, h5⟩ | ⟨ht, ws, ⟨⟨o, h8⟩, h2, h3⟩, rfl, h5⟩
    · exact ⟨a, o, rfl, .inl ⟨ws, h8, q _ H1 A1 p1 s1 (it_keysK h8 h2 h3)⟩⟩
    · exact ⟨a, o, rfl, .inr ⟨ws, h8, q _ H1 A1 p1 s1 (it_keysT h8 h2 h3)⟩⟩
  | _ => cases h1
end
/-! ### repeats -/
def repP (n : Nat) (xs : List PV) : List PV := (List.replicate n xs).flatten
theorem RepL.rep {K : PySem.W.Frag} {ct : Ct} {H : Hp} {A M : List Addr} {ps : List PV} {vs : List V} (h : RepL K ct H A M ps vs) : ∀ n, RepL K ct H A M (repP n ps) (List.replicate n vs).flatten
  | 0 => by unfold repP; exact .nil
  | n + 1 => by
    unfold repP
    simp only [List.replicate_succ, List.flatten_cons]
    exact h.append (h.rep n)
def pRep : PV → PV → Option PV
  | .lst xs, .int k => if -1000000 ≤ k ∧ k ≤ 1000000 ∧ xs.length * k.toNat ≤ 1000000 then some (.lst (repP k.toNat xs)) else none
  | .tup xs, .int k => if xs.length = 1 ∧ 0 ≤ k ∧ k ≤ 1000 ∧ 2 ≤ k then some (.tup (repP k.toNat xs)) else none
  | _, _ => none
section
variable {ct : Ct} {X : Cx} {a b : Expr} {fa fb : FE} {pos : Pos}
theorem ok_rep {K : PySem.W.Frag} : OpOk K ct (fun x y H Q => rRep x y H Q ∨ rRepT K x y H Q) pRep := fun H A M x y vx vy v Q hx rx ry e q => by
  unfold pRep at e
  split at e
  · rename_i xs k
    split at e
    · rename_i hz
      cases e
      rw [ry.int]
      obtain ⟨ad, vs, rfl, k1, k2⟩ := rx.lst
      refine .inl ⟨ad, k, vs, rfl, rfl, k1, by omega, by omega, by rw [k2.length]; exact sz_mil hz.2.2, fun p np => ?_⟩
      obtain ⟨k3, k4⟩ := hx.new_lst (k2.rep k.toNat) np
      exact q _ _ k3 k4
    · cases e
  · rename_i xs k
    split at e
    · rename_i hz
      cases e
      rw [ry.int]
      obtain ⟨ad, vs, rfl, k1, k2⟩ := rx.tup
      refine .inr ⟨ad, k, vs, rfl, rfl, k1.sqT, ?_, by omega, by omega, by rw [k2.length]; omega, fun p np => ?_⟩
      · intro z; have := k2.length; rw [z] at this; simp at this; omega
      obtain ⟨k3, k4⟩ := hx.new_tup (k2.rep k.toNat) np
      exact q _ _ k3 k4
    · cases e
  · cases e
theorem OpR.or {X : Cx} {f : Value → Value → Sem Value} {r r' : R2} (h : OpR X f r) (h' : OpR X f r') : OpR X f (fun x y H Q => r x y H Q ∨ r' x y H Q) := fun pins s σ H x y v u Q I rx ry q => q.elim (h pins s σ H x y v u Q I rx ry) (h' pins s σ H x y v u Q I rx ry)
theorem je_rep (ha : JB ct X a fa) (hb : JB ct X b fb) : JE ct X (.BinOp a .Mult b pos) (eOp pRep fa fb) := je_op (OpR.or op_rep op_repT) ok_rep ha hb
end
end J
set_option Elab.async false
set_option linter.all false
set_option maxRecDepth 100000
/-! J: the order of data, sorted. -/
namespace J
open PySem L2

/-- what a value of the data may look like -/
inductive Ty where
  | int
  | str
  | seq (t : Ty)
  | lseq (t : Ty)
  | two (a b : Ty)
  | three (a b c : Ty)
def hasTy : Ty → PV → Bool
  | .int, .int _ => true
  | .str, .str x => isD (.str x)
  | .seq t, .tup xs => xs.all (hasTy t)
  | .lseq t, .lst xs => xs.all (hasTy t)
  | .two a b, .tup [x, y] => hasTy a x && hasTy b y
  | .three a b c, .tup [x, y, z] => hasTy a x && (hasTy b y && hasTy c z)
  | _, _ => false
def tyD : Ty → Nat
  | .int => 0
  | .str => 0
  | .seq t => tyD t + 1
  | .lseq t => tyD t + 1
  | .two a b => max (tyD a) (tyD b) + 1
  | .three a b c => max (tyD a) (max (tyD b) (tyD c)) + 1
mutual
def ltP : PV → PV → Bool
  | .int i, .int j => decide (i < j)
  | .str x, .str y => decide (x.cps.toList < y.cps.toList)
  | .tup xs, .tup ys => ltPL xs ys
  | .lst xs, .lst ys => ltPL xs ys
  | _, _ => false
def ltPL : List PV → List PV → Bool
  | [], [] => false
  | [], _ :: _ => true
  | _ :: _, [] => false
  | x :: xs, y :: ys => if eqP x y then ltPL xs ys else ltP x y
end
theorem all_isDL {f : PV → Bool} (h : ∀ x, f x = true → isD x = true) : ∀ (xs : List PV), xs.all f = true → isDL xs = true
  | [], _ => rfl
  | x :: r, e => by
    rw [List.all_cons, Bool.and_eq_true] at e
    simp only [isDL, Bool.and_eq_true]
    exact ⟨h x e.1, all_isDL h r e.2⟩
theorem hasTy_int {v : PV} (h : hasTy .int v = true) : ∃ i, v = .int i := by
  cases v with
  | int i => exact ⟨i, rfl⟩
  | _ => cases h
theorem hasTy_str {v : PV} (h : hasTy .str v = true) : ∃ x, v = .str x ∧ isD (.str x) = true := by
  cases v with
  | str x => exact ⟨x, rfl, h⟩
  | _ => cases h
theorem hasTy_seq {t : Ty} {v : PV} (h : hasTy (.seq t) v = true) : ∃ xs, v = .tup xs ∧ xs.all (hasTy t) = true := by
  cases v with
  | tup xs => exact ⟨xs, rfl, h⟩
  | _ => cases h
theorem hasTy_lseq {t : Ty} {v : PV} (h : hasTy (.lseq t) v = true) : ∃ xs, v = .lst xs ∧ xs.all (hasTy t) = true := by
  cases v with
  | lst xs => exact ⟨xs, rfl, h⟩
  | _ => cases h
theorem hasTy_two {a b : Ty} {v : PV} (h : hasTy (.two a b) v = true) : ∃ x y, v = .tup [x, y] ∧ hasTy a x = true ∧ hasTy b y = true := by
  cases v with
  | tup xs =>
    match xs, h with
    | [x, y], h =>
      have h' : (hasTy a x && hasTy b y) = true := h
      rw [Bool.and_eq_true] at h'
      exact ⟨x, y, rfl, h'.1, h'.2⟩
    | [], h => cases h
    | [_], h => cases h
    | _ :: _ :: _ :: _, hq => cases hq
  | _ => cases h
theorem hasTy_three {a b c : Ty} {v : PV} (h : hasTy (.three a b c) v = true) : ∃ x y z, v = .tup [x, y, z] ∧ hasTy a x = true ∧ hasTy b y = true ∧ hasTy c z = true := by
  cases v with
  | tup xs =>
    match xs, h with
    | [x, y, z], h =>
      have hZ' : (hasTy a x && (hasTy b y && hasTy c z)) = true := h
      rw [Bool.and_eq_true, Bool.and_eq_true] at hZ'
      exact ⟨x, y, z, rfl, hZ'.1, hZ'.2.1, hZ'.2.2⟩
    | [], h => cases h
    | [_], h => cases h
    | [_, _], h => cases h
    | _ :: _ :: _ :: _ :: _, hq => cases hq
  | _ => cases h
theorem hasTy_isD : ∀ (t : Ty) (v : PV), hasTy t v = true → isD v = true
  | .int, v, h => by obtain ⟨i, rfl⟩ := hasTy_int h; rfl
  | .str, v, h => by obtain ⟨i, rfl, h⟩ := hasTy_str h; exact h
  | .seq t, v, h => by
    obtain ⟨xs, rfl, h⟩ := hasTy_seq h
    simp only [isD]; exact all_isDL (hasTy_isD t) xs h
  | .lseq t, v, h => by
    obtain ⟨xs, rfl, h⟩ := hasTy_lseq h
    simp only [isD]; exact all_isDL (hasTy_isD t) xs h
  | .two a b, v, h => by
    obtain ⟨x, y, rfl, h1, h2⟩ := hasTy_two h
    simp only [isD, isDL, Bool.and_true, Bool.and_eq_true]
    exact ⟨hasTy_isD a x h1, hasTy_isD b y h2⟩
  | .three a b c, v, h => by
    obtain ⟨x, y, z, rfl, h1, h2, h3⟩ := hasTy_three h
    simp only [isD, isDL, Bool.and_true, Bool.and_eq_true]
    exact ⟨hasTy_isD a x h1, hasTy_isD b y h2, hasTy_isD c z h3⟩
theorem all_dp {f : PV → Bool} {n : Nat} (h : ∀ x, f x = true → dpP x ≤ n) : ∀ (xs : List PV), xs.all f = true → dpPL xs ≤ n
  | [], _ => by simp [dpPL]
  | x :: r, e => by
    rw [List.all_cons, Bool.and_eq_true] at e
    simp only [dpPL]
    have := h x e.1
    have := all_dp h r e.2
    omega
theorem hasTy_dp : ∀ (t : Ty) (v : PV), hasTy t v = true → dpP v ≤ tyD t
  | .int, v, h => by obtain ⟨i, rfl⟩ := hasTy_int h; simp [dpP]
  | .str, v, h => by obtain ⟨i, rfl, h⟩ := hasTy_str h; simp [dpP]
  | .seq t, v, h => by
    obtain ⟨xs, rfl, h⟩ := hasTy_seq h
    simp only [dpP, tyD]
    have := all_dp (hasTy_dp t) xs h
    omega
  | .lseq t, v, h => by
    obtain ⟨xs, rfl, h⟩ := hasTy_lseq h
    simp only [dpP, tyD]
    have := all_dp (hasTy_dp t) xs h
    omega
  | .two a b, v, h => by
    obtain ⟨x, y, rfl, h1, h2⟩ := hasTy_two h
    simp only [dpP, dpPL, tyD]
    have := hasTy_dp a x h1
    have := hasTy_dp b y h2
    omega
  | .three a b c, v, h => by
    obtain ⟨x, y, z, rfl, h1, h2, h3⟩ := hasTy_three h
    simp only [dpP, dpPL, tyD]
    have := hasTy_dp a x h1
    have := hasTy_dp b y h2
    have := hasTy_dp c z h3
    omega
theorem all_alike {f : PV → Bool} (h : ∀ x y, f x = true → f y = true → W.alike (toD x) (toD y) = true) : ∀ (xs ys : List PV), xs.all f = true → ys.all f = true → W.alikeAll (toDL xs) (toDL ys) = true
  | [], _, _, _ => by simp only [toDL, W.alikeAll]
  | x :: r, [], _, _ => by simp only [toDL, W.alikeAll]
  | x :: r, y :: s, e1, e2 => by
    rw [List.all_cons, Bool.and_eq_true] at e1 e2
    simp only [toDL, W.alikeAll, Bool.and_eq_true]
    exact ⟨h x y e1.1 e2.1, all_alike h r s e1.2 e2.2⟩
theorem hasTy_alike : ∀ (t : Ty) (u v : PV), hasTy t u = true → hasTy t v = true → W.alike (toD u) (toD v) = true
  | .int, u, v, h, k => by obtain ⟨i, rfl⟩ := hasTy_int h; obtain ⟨j, rfl⟩ := hasTy_int k; simp only [toD, W.alike]
  | .str, u, v, h, k => by obtain ⟨i, rfl, _⟩ := hasTy_str h; obtain ⟨j, rfl, _⟩ := hasTy_str k; simp only [toD, W.alike]
  | .seq t, u, v, h, k => by
    obtain ⟨xs, rfl, h⟩ := hasTy_seq h
    obtain ⟨ys, rfl, k⟩ := hasTy_seq k
    simp only [toD, W.alike]; exact all_alike (hasTy_alike t) xs ys h k
  | .lseq t, u, v, h, k => by
    obtain ⟨xs, rfl, h⟩ := hasTy_lseq h
    obtain ⟨ys, rfl, k⟩ := hasTy_lseq k
    simp only [toD, W.alike]; exact all_alike (hasTy_alike t) xs ys h k
  | .two a b, u, v, h, k => by
    obtain ⟨x, y, rfl, h1, h2⟩ := hasTy_two h
    obtain ⟨x', y', rfl, k1, k2⟩ := hasTy_two k
    simp only [toD, toDL, W.alike, W.alikeAll, Bool.and_true, Bool.and_eq_true]
    exact ⟨hasTy_alike a x x' h1 k1, hasTy_alike b y y' h2 k2⟩
  | .three a b c, u, v, h, k => by
    obtain ⟨x, y, z, rfl, h1, h2, h3⟩ := hasTy_three h
    obtain ⟨x', y', z', rfl, k1, k2, k3⟩ := hasTy_three k
    simp only [toD, toDL, W.alike, W.alikeAll, Bool.and_true, Bool.and_eq_true]
    exact ⟨hasTy_alike a x x' h1 k1, hasTy_alike b y y' h2 k2, hasTy_alike c z z' h3 k3⟩
theorem eqv_ty {t : Ty} {x y : PV} (hx : hasTy t x = true) (hy : hasTy t y = true) : PyData.eqv (toD x) (toD y) = eqP x y := eqv_toD x y (hasTy_isD t x hx) (hasTy_isD t y hy)
abbrev lexD (xs ys : List PyData) : Bool := PyProof.Rows.lexLt PyProof.Rows.itemOrd (W.keyToksAll xs) (W.keyToksAll ys)
theorem lexD_nil : lexD [] [] = false := PyProof.Rows.lex_irrefl _
theorem lexD_nc (y : PyData) (ys : List PyData) : lexD [] (y :: ys) = true := by
  unfold lexD
  rw [W.toks_all_cons]
  simp only [W.keyToksAll]
  rw [PyProof.Rows.lex_diff (O := PyProof.Rows.itemOrd) (by simp)]
  rfl
theorem lexD_cn (y : PyData) (ys : List PyData) : lexD (y :: ys) [] = false := by
  unfold lexD
  rw [W.toks_all_cons]
  simp only [W.keyToksAll]
  rw [PyProof.Rows.lex_diff (O := PyProof.Rows.itemOrd) (by simp)]
  rfl
theorem lexD_cc {t : Ty} {x y : PV} (hx : hasTy t x = true) (hy : hasTy t y = true) (e : W.dataLt (toD x) (toD y) = ltP x y) (xs ys : List PyData) : lexD (toD x :: xs) (toD y :: ys) = if eqP x y then lexD xs ys else ltP x y := by
  unfold lexD
  rw [W.dataLt_cons (hasTy_alike t x y hx hy), eqv_ty hx hy, e]
theorem lexD_all {t : Ty} (ih : ∀ x y, hasTy t x = true → hasTy t y = true → W.dataLt (toD x) (toD y) = ltP x y) : ∀ (xs ys : List PV), xs.all (hasTy t) = true → ys.all (hasTy t) = true → lexD (toDL xs) (toDL ys) = ltPL xs ys
  | [], [], _, _ => by simp only [toDL, ltPL]; exact lexD_nil
  | [], y :: ys, _, _ => by simp only [toDL, ltPL]; exact lexD_nc _ _
  | x :: xs, [], _, _ => by simp only [toDL, ltPL]; exact lexD_cn _ _
  | x :: xs, y :: ys, h, k => by
    rw [List.all_cons, Bool.and_eq_true] at h k
    simp only [toDL, ltPL]
    rw [lexD_cc h.1 k.1 (ih x y h.1 k.1), lexD_all ih xs ys h.2 k.2]
theorem lt_ty : ∀ (t : Ty) (u v : PV), hasTy t u = true → hasTy t v = true → W.dataLt (toD u) (toD v) = ltP u v
  | .int, u, v, h, k => by obtain ⟨i, rfl⟩ := hasTy_int h; obtain ⟨j, rfl⟩ := hasTy_int k; simp only [toD, ltP]; exact W.dataLt_int i j
  | .str, u, v, h, k => by obtain ⟨i, rfl, _⟩ := hasTy_str h; obtain ⟨j, rfl, _⟩ := hasTy_str k; simp only [toD, ltP]; exact W.dataLt_str i j
  | .seq t, u, v, h, k => by
    obtain ⟨xs, rfl, h⟩ := hasTy_seq h
    obtain ⟨ys, rfl, k⟩ := hasTy_seq k
    simp only [toD, ltP]
    rw [W.dataLt_tuple]; exact lexD_all (lt_ty t) xs ys h k
  | .lseq t, u, v, h, k => by
    obtain ⟨xs, rfl, h⟩ := hasTy_lseq h
    obtain ⟨ys, rfl, k⟩ := hasTy_lseq k
    simp only [toD, ltP]
    rw [W.dataLt_list]; exact lexD_all (lt_ty t) xs ys h k
  | .two a b, u, v, h, k => by
    obtain ⟨x, y, rfl, h1, h2⟩ := hasTy_two h
    obtain ⟨x', y', rfl, k1, k2⟩ := hasTy_two k
    simp only [toD, toDL, ltP, ltPL]
    rw [W.dataLt_tuple]
    show lexD _ _ = _
    rw [lexD_cc h1 k1 (lt_ty a x x' h1 k1), lexD_cc h2 k2 (lt_ty b y y' h2 k2), lexD_nil]
  | .three a b c, u, v, h, k => by
    obtain ⟨x, y, z, rfl, h1, h2, h3⟩ := hasTy_three h
    obtain ⟨x', y', z', rfl, k1, k2, k3⟩ := hasTy_three k
    simp only [toD, toDL, ltP, ltPL]
    rw [W.dataLt_tuple]
    show lexD _ _ = _
    rw [lexD_cc h1 k1 (lt_ty a x x' h1 k1), lexD_cc h2 k2 (lt_ty b y y' h2 k2), lexD_cc h3 k3 (lt_ty c z z' h3 k3), lexD_nil]
/-! ### the order is total -/
theorem eq_all {t : Ty} (ih : ∀ x y, hasTy t x = true → hasTy t y = true → eqP x y = true → x = y) : ∀ (xs ys : List PV), xs.all (hasTy t) = true → ys.all (hasTy t) = true → eqPL xs ys = true → xs = ys
  | [], [], _, _, _ => rfl
  | [], y :: ys, _, _, e => by simp [eqPL] at e
  | x :: xs, [], _, _, e => by simp [eqPL] at e
  | x :: xs, y :: ys, h, k, e => by
    rw [List.all_cons, Bool.and_eq_true] at h k
    simp only [eqPL, Bool.and_eq_true] at e
    rw [ih x y h.1 k.1 e.1, eq_all ih xs ys h.2 k.2 e.2]
theorem eq_ty : ∀ (t : Ty) (u v : PV), hasTy t u = true → hasTy t v = true → eqP u v = true → u = v
  | .int, u, v, h, k, e => by obtain ⟨i, rfl⟩ := hasTy_int h; obtain ⟨j, rfl⟩ := hasTy_int k; simpa [eqP] using e
  | .str, u, v, h, k, e => by obtain ⟨i, rfl, _⟩ := hasTy_str h; obtain ⟨j, rfl, _⟩ := hasTy_str k; simpa [eqP] using e
  | .seq t, u, v, h, k, e => by
    obtain ⟨xs, rfl, h⟩ := hasTy_seq h
    obtain ⟨ys, rfl, k⟩ := hasTy_seq k
    simp only [eqP] at e
    rw [eq_all (eq_ty t) xs ys h k e]
  | .lseq t, u, v, h, k, e => by
    obtain ⟨xs, rfl, h⟩ := hasTy_lseq h
    obtain ⟨ys, rfl, k⟩ := hasTy_lseq k
    simp only [eqP] at e
    rw [eq_all (eq_ty t) xs ys h k e]
  | .two a b, u, v, h, k, e => by
    obtain ⟨x, y, rfl, h1, h2⟩ := hasTy_two h
    obtain ⟨x', y', rfl, k1, k2⟩ := hasTy_two k
    simp only [eqP, eqPL, Bool.and_true, Bool.and_eq_true] at e
    rw [eq_ty a x x' h1 k1 e.1, eq_ty b y y' h2 k2 e.2]
  | .three a b c, u, v, h, k, e => by
    obtain ⟨x, y, z, rfl, h1, h2, h3⟩ := hasTy_three h
    obtain ⟨x', y', z', rfl, k1, k2, k3⟩ := hasTy_three k
    simp only [eqP, eqPL, Bool.and_true, Bool.and_eq_true] at e
    rw [eq_ty a x x' h1 k1 e.1, eq_ty b y y' h2 k2 e.2.1, eq_ty c z z' h3 k3 e.2.2]
theorem eqP_comm (x y : PV) (hx : isD x = true) (hy : isD y = true) : eqP x y = eqP y x := by
  rw [← eqv_toD x y hx hy, ← eqv_toD y x hy hx]; exact W.eqv_comm _ _
theorem tri_all {t : Ty} (ih : ∀ x y, hasTy t x = true → hasTy t y = true → ltP x y = false → ltP y x = false → eqP x y = true) : ∀ (xs ys : List PV), xs.all (hasTy t) = true → ys.all (hasTy t) = true → ltPL xs ys = false → ltPL ys xs = false → eqPL xs ys = true
  | [], [], _, _, _, _ => rfl
  | [], y :: ys, _, _, e, _ => by simp [ltPL] at e
  | x :: xs, [], _, _, _, e => by simp [ltPL] at e
  | x :: xs, y :: ys, h, k, e, f => by
    rw [List.all_cons, Bool.and_eq_true] at h k
    simp only [ltPL] at e f
    rw [eqP_comm y x (hasTy_isD t y k.1) (hasTy_isD t x h.1)] at f
    simp only [eqPL, Bool.and_eq_true]
    cases hq : eqP x y with
    | true =>
      rw [hq] at e f
      exact ⟨rfl, tri_all ih xs ys h.2 k.2 e f⟩
    | false =>
      rw [hq] at e f
      rw [ih x y h.1 k.1 e f] at hq; cases hq
theorem tri_cc {t : Ty} {x y : PV} {p q : Bool} (h : hasTy t x = true) (k : hasTy t y = true) (ih : ltP x y = false → ltP y x = false → eqP x y = true) (e : (if eqP x y then p else ltP x y) = false) (f : (if eqP y x then q else ltP y x) = false) : eqP x y = true ∧ p = false ∧ q = false := by
  rw [eqP_comm y x (hasTy_isD t y k) (hasTy_isD t x h)] at f
  cases hq : eqP x y with
  | true => rw [hq] at e f; exact ⟨rfl, e, f⟩
  | false => rw [hq] at e f; rw [ih e f] at hq; cases hq
theorem tri_ty : ∀ (t : Ty) (u v : PV), hasTy t u = true → hasTy t v = true → ltP u v = false → ltP v u = false → eqP u v = true
  | .int, u, v, h, k, e, f => by
    obtain ⟨i, rfl⟩ := hasTy_int h; obtain ⟨j, rfl⟩ := hasTy_int k
    simp only [ltP, decide_eq_false_iff_not] at e f
    simp only [eqP, beq_iff_eq]; omega
  | .str, u, v, h, k, e, f => by
    obtain ⟨i, rfl, _⟩ := hasTy_str h; obtain ⟨j, rfl, _⟩ := hasTy_str k
    simp only [ltP, decide_eq_false_iff_not, List.not_lt] at e f
    have := W.str_of_cps (List.le_antisymm f e)
    simp only [eqP, beq_iff_eq]; exact this
  | .seq t, u, v, h, k, e, f => by
    obtain ⟨xs, rfl, h⟩ := hasTy_seq h
    obtain ⟨ys, rfl, k⟩ := hasTy_seq k
    simp only [ltP] at e f
    simp only [eqP]
    exact tri_all (tri_ty t) xs ys h k e f
  | .lseq t, u, v, h, k, e, f => by
    obtain ⟨xs, rfl, h⟩ := hasTy_lseq h
    obtain ⟨ys, rfl, k⟩ := hasTy_lseq k
    simp only [ltP] at e f
    simp only [eqP]
    exact tri_all (tri_ty t) xs ys h k e f
  | .two a b, u, v, h, k, e, f => by
    obtain ⟨x, y, rfl, h1, h2⟩ := hasTy_two h
    obtain ⟨x', y', rfl, k1, k2⟩ := hasTy_two k
    simp only [ltP, ltPL] at e f
    obtain ⟨c1, e, f⟩ := tri_cc h1 k1 (tri_ty a x x' h1 k1) e f
    obtain ⟨c2, e, f⟩ := tri_cc h2 k2 (tri_ty b y y' h2 k2) e f
    simp only [eqP, eqPL, c1, c2, Bool.and_true]
  | .three a b c, u, v, h, k, e, f => by
    obtain ⟨x, y, z, rfl, h1, h2, h3⟩ := hasTy_three h
    obtain ⟨x', y', z', rfl, k1, k2, k3⟩ := hasTy_three k
    simp only [ltP, ltPL] at e f
    obtain ⟨c1, e, f⟩ := tri_cc h1 k1 (tri_ty a x x' h1 k1) e f
    obtain ⟨c2, e, f⟩ := tri_cc h2 k2 (tri_ty b y y' h2 k2) e f
    obtain ⟨c3, e, f⟩ := tri_cc h3 k3 (tri_ty c z z' h3 k3) e f
    simp only [eqP, eqPL, c1, c2, c3, Bool.and_true]
/-! ### sorting by insertion -/
def insP (lt : PV → PV → Bool) (x : PV) : List PV → List PV
  | [] => [x]
  | y :: r => if lt y x then y :: insP lt x r else x :: y :: r
def isort (lt : PV → PV → Bool) : List PV → List PV
  | [] => []
  | x :: r => insP lt x (isort lt r)
theorem insP_perm (lt : PV → PV → Bool) (x : PV) : ∀ xs, (insP lt x xs).Perm (x :: xs)
  | [] => .refl _
  | y :: r => by
    unfold insP
    split
    · exact ((insP_perm lt x r).cons y).trans (.swap x y r)
    · exact .refl _
theorem isort_perm (lt : PV → PV → Bool) : ∀ xs, (isort lt xs).Perm xs
  | [] => .refl _
  | x :: r => (insP_perm lt x _).trans ((isort_perm lt r).cons x)
theorem insP_congr {lt lt' : PV → PV → Bool} {x : PV} : ∀ {xs : List PV}, (∀ y ∈ xs, lt y x = lt' y x) → insP lt x xs = insP lt' x xs
  | [], _ => rfl
  | y :: r, h => by
    unfold insP
    rw [h y List.mem_cons_self, insP_congr fun z hz => h z (List.mem_cons_of_mem _ hz)]
theorem isort_congr {lt lt' : PV → PV → Bool} : ∀ {xs : List PV}, (∀ x ∈ xs, ∀ y ∈ xs, lt y x = lt' y x) → isort lt xs = isort lt' xs
  | [], _ => rfl
  | x :: r, h => by
    unfold isort
    rw [isort_congr fun a ha b hb => h a (List.mem_cons_of_mem _ ha) b (List.mem_cons_of_mem _ hb)]
    exact insP_congr fun y hy => h x List.mem_cons_self y (List.mem_cons_of_mem _ ((isort_perm lt' r).mem_iff.mp hy))
def leD (a b : PV) : Bool := !W.dataLt (toD b) (toD a)
theorem leD_eq : W.dataLe false toD = leD := rfl
theorem leD_total : W.TotalLe leD := W.sortLe_total (PyProof.Rows.listOrd PyProof.Rows.itemOrd) false fun b => W.keyToks (toD b)
theorem insP_sorted (x : PV) : ∀ (xs : List PV), xs.Pairwise (fun a b => leD a b = true) → (insP (fun a b => W.dataLt (toD a) (toD b)) x xs).Pairwise (fun a b => leD a b = true)
  | [], _ => by simp [insP]
  | y :: r, h => by
    rw [List.pairwise_cons] at h
    unfold insP
    cases hl : W.dataLt (toD y) (toD x) with
    | true =>
      rw [if_pos rfl, List.pairwise_cons]
      refine ⟨fun z hz => ?_, insP_sorted x r h.2⟩
      rcases List.mem_cons.mp ((insP_perm _ x r).mem_iff.mp hz) with rfl | hz
      · have t := leD_total.total y z
        have : leD z y = false := by unfold leD; rw [hl]; rfl
        rcases t with t | t
        · exact t
        · rw [this] at t; cases t
      · exact h.1 z hz
    | false =>
      rw [if_neg (by simp), List.pairwise_cons, List.pairwise_cons]
      have hxy : leD x y = true := by unfold leD; rw [hl]; rfl
      refine ⟨fun z hz => ?_, h.1, h.2⟩
      rcases List.mem_cons.mp (show _ ∈ _ :: _ from hz) with rfl | hz
      · exact hxy
      · exact leD_total.trans x y z hxy (h.1 z hz)
theorem isort_sorted : ∀ (xs : List PV), (isort (fun a b => W.dataLt (toD a) (toD b)) xs).Pairwise (fun a b => leD a b = true)
  | [] => by simp [isort]
  | x :: r => insP_sorted x _ (isort_sorted r)
theorem sort_ty {t : Ty} {xs : List PV} (h : xs.all (hasTy t) = true) : xs.mergeSort (W.dataLe false toD) = isort ltP xs := by
  rw [List.all_eq_true] at h
  rw [leD_eq, ← isort_congr (lt := fun a b => W.dataLt (toD a) (toD b)) fun x hx y hy => lt_ty t y x (h y hy) (h x hx)]
  refine List.Perm.eq_of_pairwise (le := fun a b => leD a b = true) (fun a b ha hb h1 h2 => ?_) (List.pairwise_mergeSort leD_total.trans (fun a b => by rw [Bool.or_eq_true]; exact leD_total.total a b) xs) (isort_sorted xs) ((List.mergeSort_perm xs _).trans (isort_perm _ xs).symm)
  have ma := h a ((List.mergeSort_perm xs _).mem_iff.mp ha)
  have mb := h b ((isort_perm _ xs).mem_iff.mp hb)
  unfold leD at h1 h2
  rw [Bool.not_eq_true', lt_ty t _ _ mb ma] at h1
  rw [Bool.not_eq_true', lt_ty t _ _ ma mb] at h2
  exact eq_ty t a b ma mb (tri_ty t a b ma mb h2 h1)

/-! ### sorted(..) -/
mutual
theorem reads_lt {h : Heap} : ∀ (b : PV) (v : Value) (as : List Addr), Reads h v (toD b) as → ∀ a ∈ as, a < h.objs.size
  | .tup xs, v, as, r, a, haZ => by
    simp only [toD] at r
    cases r with
    | tuple h1 h2 h3 h4 => exact readsL_lt xs _ _ h4 a haZ
  | .lst xs, v, as, r, a, haZ => by
    simp only [toD] at r
    cases r with
    | list h1 h2 h3 h4 =>
      rcases List.mem_cons.mp haZ with rfl | haZ
      · exact Heap.lt_size h1
      · exact readsL_lt xs _ _ h4 a haZ
  | .non, v, as, r, a, haZ => by simp only [toD] at r; cases r; cases haZ
  | .bl _, v, as, r, a, haZ => by simp only [toD] at r; cases r; cases haZ
  | .int _, v, as, r, a, haZ => by simp only [toD] at r; cases r; cases haZ
  | .str _, v, as, r, a, haZ => by simp only [toD] at r; cases r; cases haZ
  | .dic _ _ _, v, as, r, a, haZ => by simp only [toD] at r; cases r; cases haZ
  | .ins _ _, v, as, r, a, haZ => by simp only [toD] at r; cases r; cases haZ
  | .obj _, v, as, r, a, haZ => by simp only [toD] at r; cases r; cases haZ
  | .scr _, v, as, r, a, haZ => by simp only [toD] at r; cases r; cases haZ
theorem readsL_lt {h : Heap} : ∀ (bs : List PV) (vs : List Value) (as : List Addr), ReadsAll h vs (toDL bs) as → ∀ a ∈ as, a < h.objs.size
  | [], vs, as, r, a, haZ => by simp only [toDL] at r; cases r; cases haZ
  | b :: bs, vs, as, r, a, haZ => by
    simp only [toDL] at r
    cases r with
    | cons h1 h2 =>
      rcases List.mem_append.mp haZ with haZ | haZ
      · exact reads_lt b _ _ h1 a haZ
      · exact readsL_lt bs _ _ h2 a haZ
end
section
open PySem.W PyProof.Rows
variable {prog : Program} {w : World} {A : Around} {E : Value → Shared → Prop} {s : Shared} {bs : List PV} {R : Value → PV → Prop}
/-- sorted of what is gathered -/
theorem sorted_src {l : Addr} {Q : Value → Shared → Prop} {C : List Value → Prop} (hcol : ∀ (R' : List Value → Shared → Prop) (E' : Value → Shared → Prop), (∀ h' tk vs, C vs → (∀ b o, s.heap.get? b = some o → h'.get? b = some o) → R' vs { s with heap := h', toks := tk }) → wpAny (model prog w) A.in1 (collect (.ref l)) R' E' s)
    (hC : ∀ vs, C vs → EachIs R vs bs ∧ EachIs (fun v b => ∃ as, Reads s.heap v (toD b) as) vs bs)
    (hL : bs.length ≤ sizeLine) (hal : AllAlike (bs.map toD)) (hk : 2 ≤ bs.length → Sortable (bs.map toD)) (hu : ∀ b, b ∈ bs → A.units + 64 + (toD b).depth < cLine + 60)
    (h : ∀ (h' h'' : Heap) (tk : Nat) (out : List Value), EachIs R out (bs.mergeSort (dataLe false toD)) → (∀ b o, s.heap.get? b = some o → h'.get? b = some o) → (∀ b o, h'.get? b = some o → h''.get? b = some o) → (∃ n, h''.get? h'.objs.size = some (seqObj "list" out.toArray n)) → Q (.ref h'.objs.size) { s with heap := h'', toks := tk }) : wpAny (model prog w) A (call (.builtin "sorted") [.ref l]) Q E s := by
  apply Calls.call_function_entry kind_sorted plain_sorted entry_sorted (args_sorted1 _)
  unfold Builtin.«sorted»
  refine wpAny_bind (m := checkCount "sorted" 1 1 _) (wpAny_pure ?_); refine wpAny_bind (hcol _ _ fun h' tk vs c hk' => ?_)
  obtain ⟨e, er⟩ := hC vs c
  have hlen : vs.length = bs.length := e.length
  refine wpAny_bind (wpAny_newList ?_ (by rw [hlen]; exact hL))
  have hoL : (h'.push (seqObj "list" vs.toArray 0)).get? h'.objs.size = some (seqObj "list" vs.toArray 0) := Heap.get?_push_size _ rfl
  have old : ∀ (out : List Value) b o, h'.get? b = some o → (sortedHeap (h'.push (seqObj "list" vs.toArray 0)) h'.objs.size vs out.toArray).get? b = some o := fun out b o q => by
    have hb : b < h'.objs.size := Heap.lt_size q
    rw [sortedHeap_old (Nat.ne_of_lt hb) (by rw [size_push']; exact Nat.lt_succ_of_lt hb)]
    exact (Heap.get?_push_of_some _ q)
  have fin : ∀ out, EachIs R out (bs.mergeSort (dataLe false toD)) → Q (.ref h'.objs.size) { s with heap := sortedHeap (h'.push (seqObj "list" vs.toArray 0)) h'.objs.size vs (List.toArray out), toks := tk } := fun out eo =>
    h h' _ tk out eo hk' (old out) (sortedHeap_at hoL)
  by_cases h2 : 2 ≤ bs.length
  · refine wpAny_bind (wpAny_holding (list_sort_data (s := { s with heap := h'.push (seqObj "list" vs.toArray 0), toks := tk }) hoL e ?_ hal (hk h2) hL (fun b hb => ?_) fun out ho eo => wpAny_pure ⟨_, rfl, fin out eo⟩))
    · refine (each_mem er).mono fun v b ⟨⟨as, r⟩, _⟩ => ?_
      have r1 : Reads h' v (toD b) as := PyProof.Rows.Reads.keeps hk' r
      exact ⟨as, PyProof.Rows.Reads.keeps (fun b o q => Heap.get?_push_of_some _ q) r1, fun z => Nat.lt_irrefl _ (reads_lt b v as r1 _ z)⟩
    · have := hu b hb
      show A.units + 1 + 1 + _ < cLine
      omega
  · refine wpAny_bind (wpAny_holding (wpAny_call_entry slot_list_sort ⟨_, hoL, rfl⟩ entry_list_sort (SrtO.list_sort_ord (ltv := fun _ _ => false) (s := { s with heap := h'.push (seqObj "list" vs.toArray 0), toks := tk }) ⟨fun _ _ h => absurd h (by simp), fun _ _ _ _ _ => rfl⟩ hoL (by rw [hlen]; exact hL) (fun z => absurd z (by omega)) fun out _ hb => ⟨_, rfl, ?_⟩) (args_list_sort _)))
    refine wpAny_pure ⟨_, rfl, fin out ?_⟩
    have hp := hb.perm
    have e1 : out = vs := by
      match vs, hlen, hp with
      | [], _, hp => exact hp.eq_nil
      | [v], _, hp => exact List.perm_singleton.mp hp
      | _ :: _ :: _, hl, _ => simp at hl; omega
    have e2 : bs.mergeSort (dataLe false toD) = bs := by
      match bs, h2 with
      | [], _ => simp
      | [v], _ => simp
      | _ :: _ :: _, h2 => simp at h2
    rw [e1, e2]
    exact e
end

def srtOk (t : Ty) (xs : List PV) : Bool := decide (xs.length ≤ 1000000) && (xs.all (hasTy t) && (decide (tyD t ≤ 50) && (decide (xs.length < 2) || (xs.all fun x => match x with
  | .tup [] => false
  | .tup (_ :: _) => true
  | _ => false) || xs.all fun x => match x with
  | .tup _ => false
  | _ => true)))
section
variable {K : PySem.W.Frag} {ct : Ct} {H : Hp} {A M : List Addr}
theorem srtOk.parts {t : Ty} {xs : List PV} (h : srtOk t xs = true) : xs.length ≤ 1000000 ∧ xs.all (hasTy t) = true ∧ tyD t ≤ 50 ∧ W.AllAlike (xs.map toD) ∧ (2 ≤ xs.length → W.Sortable (xs.map toD)) := by
  unfold srtOk at h
  simp only [decide_eq_true_eq, Bool.and_eq_true] at h
  obtain ⟨h1, h2, h3, h4⟩ := h
  have h2' := List.all_eq_true.mp h2
  refine ⟨h1, h2, h3, fun d hd d' hd' => ?_, fun hl => ?_⟩
  · obtain ⟨bZ, hb, rfl⟩ := List.mem_map.mp hd
    obtain ⟨b', hb', rfl⟩ := List.mem_map.mp hd'
    exact hasTy_alike t bZ b' (h2' bZ hb) (h2' b' hb')
  · simp only [Bool.or_eq_true, decide_eq_true_eq] at h4
    rcases h4 with (h4 | h4) | h4
    · omega
    · rw [List.all_eq_true] at h4
      refine .inl fun d hd => ?_
      obtain ⟨bZ, hb, rfl⟩ := List.mem_map.mp hd
      have := h4 bZ hb
      match bZ, this with
      | .tup (x :: r), _ => exact ⟨toD x, toDL r, by simp only [toD, toDL]⟩
    · rw [List.all_eq_true] at h4
      refine .inr fun d hd => ?_
      obtain ⟨bZ, hb, rfl⟩ := List.mem_map.mp hd
      have hn := h4 bZ hb
      have ht := h2' bZ hb
      constructor
      · intro z
        cases t with
        | int => obtain ⟨i, rfl⟩ := hasTy_int ht; simp [toD] at z
        | str => obtain ⟨i, rfl, _⟩ := hasTy_str ht; simp [toD] at z
        | seq t => obtain ⟨i, rfl, _⟩ := hasTy_seq ht; simp [toD] at z
        | lseq t => obtain ⟨i, rfl, _⟩ := hasTy_lseq ht; simp [toD] at z
        | two _ _ => obtain ⟨i, j, rfl, _⟩ := hasTy_two ht; simp [toD] at z
        | three _ _ _ => obtain ⟨i, j, k, rfl, _⟩ := hasTy_three ht; simp [toD] at z
      · intro ys z
        cases bZ with
        | tup xs => simp at hn
        | _ => simp [toD] at z
theorem each_rep {X : Cx} {pins : List (Addr × Obj)} {σ : St} {s : Shared} (I : Inv X pins σ H s) : ∀ {ps : List PV} {xs : List V} {vs : List Value}, isDL ps = true → RepL X.K ct H A M ps xs → Vals xs vs →
    W.EachIs (fun v b => ∃ x, RelV x v ∧ Rep X.K ct H A M b x) vs ps ∧ W.EachIs (fun v b => ∃ as, Reads s.heap v (toD b) as) vs ps
  | [], xs, vs, _, r, rv => by
    rw [RepL.nil_iff.mp r] at rv
    cases rv
    exact ⟨.nil, .nil⟩
  | p :: ps, xs, vs, hd, r, rv => by
    obtain ⟨x, ys, rfl, r1, r2⟩ := r.inv
    simp only [isDL, Bool.and_eq_true] at hd
    cases rv with
    | cons v1 v2 =>
      obtain ⟨k1, k2⟩ := each_rep I hd.2 r2 v2
      exact ⟨.cons ⟨x, v1, r1⟩ k1, .cons (Dp.reads I _ x _ (r1.dp p x hd.1) v1) k2⟩
theorem rep_each {K : PySem.W.Frag} : ∀ {ps : List PV} {vs : List Value}, W.EachIs (fun v b => ∃ x, RelV x v ∧ Rep K ct H A M b x) vs ps → ∃ xs, Vals xs vs ∧ RepL K ct H A M ps xs
  | _, _, .nil => ⟨[], .nil, .nil⟩
  | _, _, .cons h t => by
    obtain ⟨x, r1, r2⟩ := h
    obtain ⟨xs, k1, k2⟩ := rep_each t
    exact ⟨x :: xs, .cons r1 k1, .cons r2 k2⟩
end
/-- where the items of a stand: a list, a tuple, a dict's keys -/
def Items (K : PySem.W.Frag) (ct : Ct) (H : Hp) (A M : List Addr) (a : Addr) (bs : List PV) : Prop := (∃ xs, (SqL K H a xs ∨ SqT K H a xs) ∧ RepL K ct H A M bs xs) ∨ (∃ kvs : List (Key × V), Rd H a (.dK kvs) ∧ bs = kvs.map fun w => keyV w.1) ∨
  ∃ kvs : List (List Key × V), Rd H a (.dT kvs) ∧ bs = kvs.map fun w => .tup (w.1.map keyV)
def rSrt (K : PySem.W.Frag) (ct : Ct) : List V → Hp → VK → Prop := fun vs H Q => ∃ (a : Addr) (A M : List Addr) (bs : List PV) (t : Ty), vs = [.ref a] ∧ Hx A M H ∧ Items K ct H A M a bs ∧ srtOk t bs = true ∧
  ∀ p zs, H p = none → RepL K ct H A M (isort ltP bs) zs → Q (.ref p) (upd H p (.lst zs))
theorem RepL.keysT {K : PySem.W.Frag} {ct : Ct} {H : Hp} {A M : List Addr} (hx : Hx A M H) : ∀ {kvs : List (List Key × V)} {bs : List Addr}, IsKeys H kvs bs → RepL K ct H A M (kvs.map fun w => .tup (w.1.map keyV)) (bs.map V.ref) := fun {kvs bs} h => by
  unfold IsKeys at h
  induction h with
  | nil => exact .nil
  | @cons p b ps bs h t ih =>
    refine .cons ?_ ih
    simp only [Rep]
    exact ⟨b, _, rfl, ⟨h, fun z => hx.noA b z _ h, fun z => hx.noM b z _ h⟩, RepL.of_keys p.1⟩
theorem RepL.keysK {K : PySem.W.Frag} {ct : Ct} {H : Hp} {A M : List Addr} : ∀ (kvs : List (Key × V)), RepL K ct H A M (kvs.map fun w => keyV w.1) (kvs.map fun w => kV w.1)
  | [] => .nil
  | ⟨.inl i, v⟩ :: r => .cons (Rep.int_iff.mpr rfl) (RepL.keysK r)
  | ⟨.inr i, v⟩ :: r => .cons (Rep.str_iff.mpr rfl) (RepL.keysK r)
section
open PyProof.Rows
variable {X : Cx} {pins : List (Addr × Obj)} {s : Shared} {H : Hp} {σ : L2.St}
/-- how a's items are gathered -/
theorem collect_items {ct : Ct} {A M : List Addr} {a : Addr} {bs : List PV} (hcalm : X.calm = true) (I : Inv X pins σ H s) (hx : Hx A M H) (hi : Items X.K ct H A M a bs) :
    ∃ (xs : List V), RepL X.K ct H A M bs xs ∧ ∀ (R' : List Value → Shared → Prop) (E' : Value → Shared → Prop), (∀ h' tk vs, Vals xs vs → (∀ b o, s.heap.get? b = some o → h'.get? b = some o) → R' vs { s with heap := h', toks := tk }) → wpAny (model X.prog X.w) X.A.in1 (collect (.ref a)) R' E' s := by
  rcases hi with ⟨xs, hq | hq, r⟩ | ⟨kvs, hd, rfl⟩ | ⟨kvs, hd, rfl⟩
  · obtain ⟨its, rv, pl, hz⟩ := I.list hq
    refine ⟨xs, r, fun R' E' h => collect_list pl.isList (h _ s.toks its rv fun b o e => ?_) (by rw [← rv.length]; exact hz)⟩
    rw [Heap.get?_update_ne _ _ _ _ (Nat.ne_of_lt (Heap.lt_size e))]
    exact (Heap.get?_push_of_some _ e)
  · obtain ⟨its, rv, ⟨o, ho, hc, n, hdt⟩, hz⟩ := I.tuple hq
    refine ⟨xs, r, fun R' E' h => wpAny_collect_seq a (.inr rfl) ho hc hdt (fun h' kZ => ?_) (by rw [List.size_toArray, ← rv.length]; exact hz)⟩
    exact h h' s.toks _ (by simpa using rv) kZ
  · obtain ⟨z, lo, vs, rel, dd⟩ := dk_rd I.hok hd
    obtain ⟨ep, hat⟩ := dd.dictAt
    refine ⟨kvs.map fun w => kV w.1, RepL.keysK kvs, fun R' E' h => PySem.W.kdu_collect (A := X.A.in1) (PySem.W.kdl_dict (knd := mixKind X.prog X.w) (kvs := vs) (ep := ep) lo) (I.ok.hd hcalm) hat (by rw [← rel.length]; exact z) fun h' tk acc hk hacc => h h' tk _ ?_ hk⟩
    have hal : acc.toList.length = vs.length := by rw [Array.length_toList, hacc.1]
    have hv : Vals (vs.map fun p => kV p.1) acc.toList := keys_at hal fun j v e => by
      obtain ⟨kZ, x, e1, e2⟩ := hacc.2 j v (by rw [← Array.getElem?_toList]; exact e)
      exact ⟨kZ, x, e1, e2⟩
    have ek : (kvs.map fun w => kV w.1) = vs.map fun p => kV p.1 := by
      have := congrArg (List.map kV) rel.keys
      rw [List.map_map, List.map_map] at this
      exact this
    rw [ek]
    exact hv
  · obtain ⟨z, hs, ks, pr, o, es, ep, ho, hx', hdt, he, hn⟩ := (show ObjOk X.prog X.w H s.heap a (.dT kvs) from hd.ok I.hok)
    have l1Z : es.size = ks.length := size_of_entries he
    have l2Z : kvs.length = ks.length := Paired.length pr
    refine ⟨(ks.map fun x => x.2.1).map V.ref, RepL.keysT hx (isKeys_of pr), fun R' E' h => PySem.W.kdu_collect (A := X.A.in1) (kdl_raw hs hx' hdt) (I.ok.hd hcalm) ho (by omega) fun h' tk acc' kp it => h h' tk _ ?_ kp⟩
    have eaZ : acc'.toList = ks.map fun x => Value.ref x.2.1 := by
      have hl : acc'.toList.length = ks.length := by rw [Array.length_toList, it.1]; exact l1Z
      apply List.ext_getElem?
      intro j
      rw [List.getElem?_map]
      cases hjZ : acc'.toList[j]? with
      | none =>
        have h1 := List.getElem?_eq_none_iff.mp hjZ
        rw [List.getElem?_eq_none (show _ ≤ _ by omega)]
        all_goals rfl
      | some v =>
        obtain ⟨enZ, hen, hv⟩ := it.2 j v (by rw [← Array.getElem?_toList]; exact hjZ)
        have qe := entry_at he j
        rw [hen] at qe
        cases hb : ks[j]? with
        | none =>
          rw [hb] at qe
          exact nomatch (show some enZ = none from qe)
        | some b =>
          rw [hb] at qe
          have e2 : enZ = entryOfKey (tupleKind (mixKind X.prog X.w)) b := Option.some.inj qe
          rw [hv, e2]
          all_goals rfl
    have eb : acc'.toList = (ks.map fun x => x.2.1).map Value.ref := by rw [eaZ, List.map_map]; all_goals rfl
    rw [eb]; exact vals_refs _
theorem cr_srt {ct : Ct} (hcalm : X.calm = true) (hu : X.A.units + 64 < cLine) : CallR X (.builtin "sorted") (rSrt X.K ct) := by
  intro pinsZ s σ H vs us Q I r h
  obtain ⟨a, A, M, bs, t, rfl, hx, hi, hok, q⟩ := h
  rw [Vals.ref1 r]
  obtain ⟨xs, rx, hcol⟩ := collect_items hcalm I hx hi
  obtain ⟨o1, o2, o3, o4, o5⟩ := srtOk.parts hok
  have hD := all_isDL (hasTy_isD t) bs o2
  refine sorted_src (C := fun vs => Vals xs vs) hcol (fun vs c => each_rep I hD rx c) (sz_mil o1) o4 o5 (fun b hb => ?_) fun h' h'' tk out eo k1 k2 ⟨n, k3⟩ => ?_
  · rw [depth_toD]
    have := hasTy_dp t b (List.all_eq_true.mp o2 b hb)
    omega
  · obtain ⟨zs, v1, v2⟩ := rep_each eo
    rw [sort_ty o2] at v2
    have I1 : L2.Inv X pinsZ σ H { s with heap := h', toks := tk } := I.kept k1
    have hl : zs.length ≤ sizeLine := by rw [v2.length, (isort_perm ltP bs).length_eq]; exact sz_mil o1
    exact ⟨.ref h'.objs.size, upd H h'.objs.size (.lst zs), I1.laid (t' := tk) k2 (Nat.le_refl _) ⟨hl, out, n, v1, k3⟩, rfl, q _ zs (I1.hok.fresh (Nat.le_refl _)) v2⟩
end
/-! ### the expression -/
def keyP : PV → Option (List PV)
  | .lst xs => some xs
  | .tup xs => some xs
  | .scr ns => some (ns.map PV.int)
  | .dic _ ks _ => some ks
  | _ => none
def pSrt (t : Ty) (v : PV) : Option PV := (keyP v).bind fun xs => if srtOk t xs then some (.lst (isort ltP xs)) else none
theorem items_of {K : PySem.W.Frag} {ct : Ct} {H : Hp} {A M : List Addr} {v : PV} {x : V} {bs : List PV} (r : RepB K ct H A M v x) (e : keyP v = some bs) : ∃ a, x = .ref a ∧ Items K ct H A M a bs := by
  cases v with
  | lst xs =>
    cases e
    obtain ⟨ad, vs, rfl, k1, k2⟩ := r.lst
    exact ⟨ad, rfl, .inl ⟨vs, .inl (.inl (.inl k1)), k2⟩⟩
  | tup xs =>
    cases e
    obtain ⟨ad, vs, rfl, k1, k2⟩ := r.tup
    exact ⟨ad, rfl, .inl ⟨vs, .inr k1.sqT, k2⟩⟩
  | scr ns =>
    cases e
    rcases r with r | ⟨_, _, _, c⟩
    · obtain ⟨ad, rfl, k1, _⟩ := r.scr_inv
      exact ⟨ad, rfl, .inl ⟨_, .inl k1, RepL.of_ints ns⟩⟩
    · exact False.elim c
  | dic t ks vs =>
    cases e
    rcases r with r | ⟨p, rfl, _, c⟩
    · simp only [Rep] at r
      obtain ⟨a, rfl, r⟩ := r
      rcases r with ⟨ht, ws, h1, rfl, h3⟩ | ⟨ht, ws, h1, rfl, h3⟩
      · exact ⟨a, rfl, .inr (.inl ⟨ws, h1.rd, rfl⟩)⟩
      · exact ⟨a, rfl, .inr (.inr ⟨ws, h1.rd, rfl⟩)⟩
    · rcases c with ⟨ht, ws, h1, rfl, h3⟩ | ⟨ht, ws, h1, rfl, h3⟩
      · exact ⟨p, rfl, .inr (.inl ⟨ws, .inl h1, rfl⟩)⟩
      · exact ⟨p, rfl, .inr (.inr ⟨ws, .inl h1, rfl⟩)⟩
  | _ => cases e
section
variable {ct : Ct} {X : Cx} {a : Expr} {fa : FE} {pos p : Pos}
theorem jf_sorted (t : Ty) {k : Nat} (hr : Room k X.A) (hm : X.mg "sorted" = none) (ha : JB ct X a fa) (hc : X.calm = true := by rfl) (hg : Gl X "sorted" := by rfl) (he : starEach [a] X.env = (false, eval a X.env) :: starEach [] X.env := by rfl) : JF ct X (.Call (.Name "sorted" p) [a] [] pos) (eUn (pSrt t) fa) := by
  refine ⟨(pe_callB (cr_srt (ct := ct) hc hr.units) hg hm (by decide +kernel) (pa_cons ha.pe pa_nil he) (by decide) (by decide) he rfl).imp fun σ H Q h => ?_⟩
  obtain ⟨G, env, S, v, S', g, h1, q⟩ := h
  obtain ⟨⟨x, S1⟩, e1, h1⟩ := Res.bind_ok h1
  obtain ⟨z, e3, h1⟩ := Res.bind_ok h1
  cases h1
  refine ⟨G, env, S, x, _, g, e1, fun x' H1 A1 p1 s1 r1 => ?_⟩
  obtain ⟨bs, e4, e5⟩ := Option.bind_eq_some_iff.mp (ofO_ok e3)
  split at e5
  · rename_i hok
    cases e5
    obtain ⟨ad, rfl, hi⟩ := items_of r1 e4
    refine ⟨ad, A1, G.M, bs, t, rfl, (g.post p1 s1).hx, hi, hok, fun p zs np rz => ?_⟩
    obtain ⟨k1, k2, k3, k4, k5⟩ := fresh_lst g p1 s1 rz np
    exact q p _ A1 k1 k2 k3 k4 k5
  · cases e5
end
end J
set_option Elab.async false
set_option linter.all false
set_option maxRecDepth 100000
/-! J: repr(a) == repr(b), repr(a) != repr(b) where a and b are the same data. -/
namespace J
open PySem L2

mutual
def shOk : PV → Bool
  | .int i => decide (i.natAbs < 10 ^ 11)
  | .non => true
  | .bl _ => true
  | .str x => isD (.str x)
  | .tup xs => shOkL xs
  | .lst xs => shOkL xs
  | _ => false
def shOkL : List PV → Bool
  | [] => true
  | x :: r => shOk x && shOkL r
end
mutual
def wtP : PV → Nat
  | .int _ => 38
  | .str x => x.length
  | .tup xs => wtPL xs
  | .lst xs => wtPL xs
  | _ => 0
def wtPL : List PV → Nat
  | [] => 0
  | x :: r => wtP x + 1 + wtPL r
end
theorem log_lt {n k : Nat} (hk : 0 < k) (h : n < 2 ^ k) : n.log2 < k := by
  by_cases h0Z : n = 0
  · subst h0Z
    have : Nat.log2 0 = 0 := by decide
    omega
  · exact (Nat.log2_lt h0Z).mpr h
mutual
theorem shOk.isD : ∀ (v : PV), shOk v = true → isD v = true
  | .int i, _ => rfl
  | .non, _ => rfl
  | .bl _, _ => rfl
  | .str x, h => h
  | .tup xs, h => by simp only [J.isD]; exact shOkL.isDL xs (by simpa only [shOk] using h)
  | .lst xs, h => by simp only [J.isD]; exact shOkL.isDL xs (by simpa only [shOk] using h)
  | .dic _ _ _, h => by cases h
  | .ins _ _, h => by cases h
  | .obj _, h => by cases h
  | .scr _, h => by cases h
theorem shOkL.isDL : ∀ (xs : List PV), shOkL xs = true → isDL xs = true
  | [], _ => rfl
  | x :: r, h => by
    simp only [shOkL, Bool.and_eq_true] at h
    simp only [J.isDL, Bool.and_eq_true]
    exact ⟨shOk.isD x h.1, shOkL.isDL r h.2⟩
end
mutual
theorem shOk.parts : ∀ (v : PV), shOk v = true → (toD v).weight ≤ wtP v ∧ (toD v).intsShort 13 = true ∧ (toD v).showable = true ∧ (toD v).hasDict = false
  | .int i, h => by
    simp only [shOk, decide_eq_true_eq] at h
    have h2 : i.natAbs < 2 ^ 37 := Nat.lt_of_lt_of_le h (by decide)
    have h3 := log_lt (by decide) h2
    simp only [toD, wtP, PyData.weight, PyData.intsShort, PyData.showable, PyData.hasDict, decide_eq_true_eq]
    refine ⟨?_, ?_, by omega, trivial⟩
    · split <;> omega
    · show (Str.ofString (toString i)).length ≤ 13
      rw [ofString_length]
      have := int_text_length_le10 (by decide) h
      omega
  | .non, _ => ⟨Nat.le_refl _, rfl, rfl, rfl⟩
  | .bl _, _ => ⟨Nat.le_refl _, rfl, rfl, rfl⟩
  | .str x, _ => ⟨Nat.le_refl _, rfl, rfl, rfl⟩
  | .tup xs, h => by
    simp only [toD, wtP, PyData.weight, PyData.intsShort, PyData.showable, PyData.hasDict]
    exact shOkL.parts xs (by simpa only [shOk] using h)
  | .lst xs, h => by
    simp only [toD, wtP, PyData.weight, PyData.intsShort, PyData.showable, PyData.hasDict]
    exact shOkL.parts xs (by simpa only [shOk] using h)
  | .dic _ _ _, h => by cases h
  | .ins _ _, h => by cases h
  | .obj _, h => by cases h
  | .scr _, h => by cases h
theorem shOkL.parts : ∀ (xs : List PV), shOkL xs = true → PyData.weightAll (toDL xs) ≤ wtPL xs ∧ PyData.intsShortAll 13 (toDL xs) = true ∧ PyData.showableAll (toDL xs) = true ∧ PyData.hasDictAll (toDL xs) = false
  | [], _ => ⟨Nat.le_refl _, rfl, rfl, rfl⟩
  | x :: r, h => by
    simp only [shOkL, Bool.and_eq_true] at h
    obtain ⟨a1, a2, a3, a4⟩ := shOk.parts x h.1
    obtain ⟨b1, b2, b3, b4⟩ := shOkL.parts r h.2
    simp only [toDL, wtPL, PyData.weightAll, PyData.intsShortAll, PyData.showableAll, PyData.hasDictAll, a2, a3, a4, b2, b3, b4]
    exact ⟨by omega, rfl, rfl, rfl⟩
end
def rpOk (v : PV) : Bool := shOk v && (decide (wtP v ≤ 1000000) && decide (dpP v ≤ 60))
def rRpr (K : PySem.W.Frag) : List V → Hp → VK → Prop := fun xs H Q => ∃ (a : Addr) (v : PV), xs = [.ref a] ∧ Dp K H (.ref a) (toD v) ∧ rpOk v = true ∧ Q (.str (toD v).shown) H
theorem rpOk.parts {v : PV} (h : rpOk v = true) : isD v = true ∧ (toD v).shown.length ≤ sizeLine ∧ (toD v).showable = true ∧ (toD v).hasDict = false ∧ dpP v ≤ 60 := by
  unfold rpOk at h
  simp only [decide_eq_true_eq, Bool.and_eq_true] at h
  obtain ⟨a1, a2, a3, a4⟩ := shOk.parts v h.1
  have hd := shOk.isD v h.1
  refine ⟨hd, ?_, a3, a4, h.2.2⟩
  have hl : PyData.layable0 (toD v) = true := by
    show (PyData.canLay0 (toD v) && decide (PyData.depth (toD v) ≤ 64) && decide (PyData.weight (toD v) ≤ 2 ^ 20)) = true
    simp only [decide_eq_true_eq, Bool.and_eq_true]
    exact ⟨⟨lay_toD v hd, by rw [depth_toD]; omega⟩, by omega⟩
  exact Nat.le_trans (PyProof.Rows.shown_le13 hl a2) (by decide)
theorem cr_rpr {X : Cx} (hG : X.A.guards = some []) (hu : X.A.units + 64 < cLine) : CallR X (.builtin "repr") (rRpr X.K) := by
  intro pinsZ s σ H xs us Q I r h
  obtain ⟨a, v, rfl, hd, hok, q⟩ := h
  rw [Vals.ref1 r]
  obtain ⟨k1, k2, k3, k4, k5⟩ := rpOk.parts hok
  obtain ⟨as, rd⟩ := Dp.reads I _ _ (.ref a) hd rfl
  refine repr_of_reads' rd k3 (by rw [k4]; intro z; cases z) hG (by rw [depth_toD]; omega) (fun _ _ e => e) (fun h' u tk hk => ?_) k2
  exact ⟨.str _, H, I.kept hk, ⟨u, rfl⟩, q⟩
def isRef : PV → Bool
  | .tup _ => true
  | .lst _ => true
  | _ => false
/-- repr(a) == repr(b), told only where a and b are the same -/
def pRpr (k : Bool) (a b : PV) : Option PV := if isRef a && (rpOk a && decide (a = b)) then some (.bl k) else none
section
variable {ct : Ct} {X : Cx} {a b : Expr} {fa fb : FE} {pos p1 p2 q1 q2 : Pos}
theorem RepB.ref {K : PySem.W.Frag} {H : Hp} {A M : List Addr} {v : PV} {x : V} (hv : isRef v = true) (r : RepB K ct H A M v x) : ∃ a, x = .ref a := by
  cases v with
  | tup xs => obtain ⟨ad, vs, rfl, _⟩ := r.tup; exact ⟨ad, rfl⟩
  | lst xs => obtain ⟨ad, vs, rfl, _⟩ := r.lst; exact ⟨ad, rfl⟩
  | _ => cases hv
theorem rd_rpr {K : PySem.W.Frag} {k : Bool} {R : R2} (hR : ∀ z H Q, Q (.bl k) H → R (.str z) (.str z) H Q) {σ : St} {H : Hp} {Q : VK} (h : rd K ct (eOp (pRpr k) fa fb) σ H Q) :
    tOp R (tCB (rRpr K) (tCons (rdB K ct fa) tNil)) (tCB (rRpr K) (tCons (rdB K ct fb) tNil)) σ H Q := by
  obtain ⟨G, env, S, v, S', g, h1, q⟩ := h
  obtain ⟨⟨x, S1⟩, e1, h1⟩ := Res.bind_ok h1
  obtain ⟨⟨y, S2⟩, e2, h1⟩ := Res.bind_ok h1
  obtain ⟨z, e3, h1⟩ := Res.bind_ok h1
  cases h1
  have e4 := ofO_ok e3
  unfold pRpr at e4
  split at e4
  · rename_i hz
    cases e4
    simp only [decide_eq_true_eq, Bool.and_eq_true] at hz
    obtain ⟨hz1, hz2, hz3⟩ := hz
    subst hz3
    obtain ⟨k1, k2, k3, k4, k5⟩ := rpOk.parts hz2
    refine ⟨G, env, S, x, S1, g, e1, fun x' H1 A1 p1 s1 r1 => ?_⟩
    obtain ⟨ad, rfl⟩ := r1.ref hz1
    refine ⟨ad, x, rfl, r1.dp k1, hz2, ⟨{ G with A := A1 }, env, S1, x, _, g.post p1 s1, e2, fun y' H2 A2 p2 s2 r2 => ?_⟩⟩
    obtain ⟨ad2, rfl⟩ := r2.ref hz1
    exact ⟨ad2, x, rfl, r2.dp k1, hz2, hR _ _ _ (q _ H2 A2 (p1.trans p2) s2 (Rep.bl_iff.mpr rfl))⟩
  · cases e4
theorem pe_rpr (hG : X.A.guards = some []) {k : Nat} (hr : Room k X.A) (hm : X.mg "repr" = none) (ha : JB ct X a fa) (hg : Gl X "repr" := by rfl) (he : starEach [a] X.env = (false, eval a X.env) :: starEach [] X.env := by rfl) : PE X (.Call (.Name "repr" p1) [a] [] p2) (tCB (rRpr X.K) (tCons (rdB X.K ct fa) tNil)) :=
  pe_callB (cr_rpr hG hr.units) hg hm (by decide +kernel) (pa_cons ha.pe pa_nil he) (by decide) (by decide) he rfl
theorem jt_rprNe (hG : X.A.guards = some []) {k : Nat} (hr : Room k X.A) (hm : X.mg "repr" = none) (ha : JB ct X a fa) (hb : JB ct X b fb) (hg : Gl X "repr" := by rfl) (he : starEach [a] X.env = (false, eval a X.env) :: starEach [] X.env := by rfl) (he2 : starEach [b] X.env = (false, eval b X.env) :: starEach [] X.env := by rfl) :
    JT ct X (.Compare (.Call (.Name "repr" p1) [a] [] p2) [.NotEq] [.Call (.Name "repr" q1) [b] [] q2] pos) (tV (eOp (pRpr false) fa fb)) :=
  ⟨(pt_cmpR op_ne (pe_rpr hG hr hm ha hg he) (pe_rpr hG hr hm hb hg he2) (by first | exact nomark _ | rfl)).imp fun _ _ _ h => rdT_tTest (fun _ _ _ z => rd_rpr (fun z H Q q => ⟨rfl, by simpa using q⟩) z) h⟩
theorem je_rprNe (hG : X.A.guards = some []) {k : Nat} (hr : Room k X.A) (hm : X.mg "repr" = none) (ha : JB ct X a fa) (hb : JB ct X b fb) (hg : Gl X "repr" := by rfl) (he : starEach [a] X.env = (false, eval a X.env) :: starEach [] X.env := by rfl) (he2 : starEach [b] X.env = (false, eval b X.env) :: starEach [] X.env := by rfl) :
    JE ct X (.Compare (.Call (.Name "repr" p1) [a] [] p2) [.NotEq] [.Call (.Name "repr" q1) [b] [] q2] pos) (eOp (pRpr false) fa fb) :=
  ⟨(pe_cmpR op_ne (pe_rpr hG hr hm ha hg he) (pe_rpr hG hr hm hb hg he2) (by first | exact nomark _ | rfl)).imp fun _ _ _ z => rd_rpr (fun z H Q q => ⟨rfl, by simpa using q⟩) z⟩
theorem jt_rprEq (hG : X.A.guards = some []) {k : Nat} (hr : Room k X.A) (hm : X.mg "repr" = none) (ha : JB ct X a fa) (hb : JB ct X b fb) (hg : Gl X "repr" := by rfl) (he : starEach [a] X.env = (false, eval a X.env) :: starEach [] X.env := by rfl) (he2 : starEach [b] X.env = (false, eval b X.env) :: starEach [] X.env := by rfl) :
    JT ct X (.Compare (.Call (.Name "repr" p1) [a] [] p2) [.Eq] [.Call (.Name "repr" q1) [b] [] q2] pos) (tV (eOp (pRpr true) fa fb)) :=
  ⟨(pt_cmpR op_eq (pe_rpr hG hr hm ha hg he) (pe_rpr hG hr hm hb hg he2) (by first | exact nomark _ | rfl)).imp fun _ _ _ h => rdT_tTest (fun _ _ _ z => rd_rpr (fun z H Q q => ⟨rfl, by simpa using q⟩) z) h⟩
theorem je_rprEq (hG : X.A.guards = some []) {k : Nat} (hr : Room k X.A) (hm : X.mg "repr" = none) (ha : JB ct X a fa) (hb : JB ct X b fb) (hg : Gl X "repr" := by rfl) (he : starEach [a] X.env = (false, eval a X.env) :: starEach [] X.env := by rfl) (he2 : starEach [b] X.env = (false, eval b X.env) :: starEach [] X.env := by rfl) :
    JE ct X (.Compare (.Call (.Name "repr" p1) [a] [] p2) [.Eq] [.Call (.Name "repr" q1) [b] [] q2] pos) (eOp (pRpr true) fa fb) :=
  ⟨(pe_cmpR op_eq (pe_rpr hG hr hm ha hg he) (pe_rpr hG hr hm hb hg he2) (by first | exact nomark _ | rfl)).imp fun _ _ _ z => rd_rpr (fun z H Q q => ⟨rfl, by simpa using q⟩) z⟩
end
end J
set_option Elab.async false
set_option linter.all false
set_option maxRecDepth 100000
/-! J: dict(pairs) and {k: v, ..}, keys ints, texts or tuples of them. -/
namespace J
open PySem L2

def mergeT {κ : Type} [DecidableEq κ] (acc more : List (κ × V)) : List (κ × V) := more.foldl (fun a kv => putK a kv.1 kv.2) acc
/-- the pairs stored one by one -/
def dAll (t : Bool) : List PV → List PV → List (PV × PV) → Option (List PV × List PV)
  | ks, vs, [] => some (ks, vs)
  | ks, vs, (k, v) :: r => if keyFit t k then dAll t (dPutK ks k) (dPutV ks vs k v) r else none
def prsOf : List PV → Option (List (PV × PV))
  | [] => some []
  | .tup [k, v] :: r => (prsOf r).map fun q => (k, v) :: q
  | _ => none
theorem length_mergeT {κ : Type} [DecidableEq κ] : ∀ (more acc : List (κ × V)), (mergeT acc more).length ≤ acc.length + more.length
  | [], acc => by simp [mergeT]
  | p :: r, acc => by
    have h1 := length_mergeT r (putK acc p.1 p.2)
    have h2 := length_putK acc p.1 p.2
    have e : mergeT acc (p :: r) = mergeT (putK acc p.1 p.2) r := rfl
    rw [e, List.length_cons]; omega
section
variable {K : PySem.W.Frag} {ct : Ct} {H : Hp} {A M : List Addr}
/-- the pairs' keys and values, as the heap has them -/
theorem dAll_rep {κ : Type} [DecidableEq κ] {e : κ → PV} (inj : ∀ a b, e a = e b → a = b) {t : Bool} : ∀ (more : List (κ × V)) (prs : List (PV × PV)) (acc : List (κ × V)) (vs : List PV) (ks' vs' : List PV), prs.map (·.1) = more.map (fun w => e w.1) → RepL K ct H A M (prs.map (·.2)) (more.map (·.2)) → RepL K ct H A M vs (acc.map (·.2)) →
    dAll t (acc.map fun w => e w.1) vs prs = some (ks', vs') → ks' = (mergeT acc more).map (fun w => e w.1) ∧ RepL K ct H A M vs' ((mergeT acc more).map (·.2))
  | [], prs, acc, vs, ks', vs', h1, h2, h3, h4 => by
    cases prs with
    | nil => cases h4; exact ⟨rfl, h3⟩
    | cons p r => simp at h1
  | w :: more, prs, acc, vs, ks', vs', h1, h2, h3, h4 => by
    cases prs with
    | nil => simp at h1
    | cons p r =>
      simp only [List.map_cons, List.cons.injEq] at h1
      obtain ⟨x, xs, e0, r1, r2⟩ := h2.inv
      simp only [List.map_cons, List.cons.injEq] at e0
      obtain ⟨rfl, rfl⟩ := e0
      unfold dAll at h4
      split at h4
      · obtain ⟨i1, i2⟩ := dPut_rep inj (k := w.1) r1 acc vs h3
        rw [h1.1] at h4
        rw [i1] at h4
        exact dAll_rep inj more _ (putK acc w.1 w.2) _ ks' vs' h1.2 r2 i2 h4
      · cases h4
end
theorem KT.merge {H : Hp} : ∀ (ps : List (List Key × Addr × V)) (prs acc : List (List Key × Addr × Value)) (kvs : List (List Key × V)), Paired (fun (p : List Key × Addr × V) (q : List Key × Addr × Value) => q.1 = p.1 ∧ q.2.1 = p.2.1 ∧ H p.2.1 = some (.tup (p.1.map kV)) ∧ RelV p.2.2 q.2.2) ps prs → KT H kvs acc →
    KT H (mergeT kvs (ps.map fun p => (p.1, p.2.2))) (storedAllH acc prs) := fun ps prs acc kvs h => by
  induction h generalizing acc kvs with
  | nil => intro r; exact r
  | @cons p q ps qs h t ih =>
    intro r
    obtain ⟨e1, e2, e3, e4⟩ := h
    have := ih (storedH acc q.1 q.2.1 q.2.2) (putK kvs p.1 p.2.2) (by rw [e1, e2]; exact r.put p.1 e3 e4)
    exact this
/-- dict(xs) of pairs whose keys are tuples -/
def rDT (K : PySem.W.Frag) : List V → Hp → VK → Prop := fun vs H Q => ∃ (a : Addr) (ts : List Addr) (ps : List (List Key × Addr × V)), vs = [.ref a] ∧ SqL K H a (ts.map V.ref) ∧ Paired (fun t (p : List Key × Addr × V) => SqT K H t [.ref p.2.1, p.2.2] ∧ H p.2.1 = some (.tup (p.1.map kV))) ts ps ∧
  ∀ q, H q = none → Q (.ref q) (upd H q (.dT (mergeT [] (ps.map fun p => (p.1, p.2.2)))))
theorem pairs_ofT {X : Cx} {pins : List (Addr × Obj)} {σ : St} {H : Hp} {s : Shared} (I : Inv X pins σ H s) : ∀ {ts : List Addr} {ps : List (List Key × Addr × V)}, Paired (fun t (p : List Key × Addr × V) => SqT X.K H t [.ref p.2.1, p.2.2] ∧ H p.2.1 = some (.tup (p.1.map kV))) ts ps →
    ∃ prs : List (List Key × Addr × Value), Paired (fun (p : List Key × Addr × V) (q : List Key × Addr × Value) => q.1 = p.1 ∧ q.2.1 = p.2.1 ∧ H p.2.1 = some (.tup (p.1.map kV)) ∧ RelV p.2.2 q.2.2) ps prs ∧ prs.length = ts.length ∧
      ∀ (j : Nat) (q : List Key × Addr × Value), prs[j]? = some q → ∃ t : Addr, ts[j]? = some t ∧ PySem.PairAt s.heap t (.ref q.2.1) q.2.2 := fun {ts ps} h => by
  induction h with
  | nil => exact ⟨[], .nil, rfl, fun j q e => by simp at e⟩
  | @cons t p ts ps h r ih =>
    obtain ⟨prs, r1, r2, r3⟩ := ih
    obtain ⟨h1, h2⟩ := h
    obtain ⟨its, rv, tup, _⟩ := I.tuple h1
    obtain ⟨u, y, rfl, ru, ry⟩ := rv.two
    cases (show u = Value.ref p.2.1 from ru)
    refine ⟨(p.1, p.2.1, y) :: prs, .cons ⟨rfl, rfl, h2, ry⟩ r1, by rw [List.length_cons, List.length_cons, r2], fun j q e => ?_⟩
    cases j with
    | zero =>
      cases (Option.some.inj e)
      exact ⟨t, rfl, .inl tup⟩
    | succ j => exact r3 j q e
theorem keysAt {H : Hp} {ps : List (List Key × Addr × V)} {prs : List (List Key × Addr × Value)} (rel : Paired (fun (p : List Key × Addr × V) (q : List Key × Addr × Value) => q.1 = p.1 ∧ q.2.1 = p.2.1 ∧ H p.2.1 = some (.tup (p.1.map kV)) ∧ RelV p.2.2 q.2.2) ps prs) : ∀ x ∈ prs, H x.2.1 = some (.tup (x.1.map kV)) := by
  induction rel with
  | nil => intro x hxZ; cases hxZ
  | cons h t ih =>
    intro x hxZ
    rcases List.mem_cons.mp hxZ with rfl | hxZ
    · rw [h.1, h.2.1]; exact h.2.2.1
    · exact ih x hxZ
theorem cr_dictT {X : Cx} (hcalm : X.calm = true) (hu : X.A.units + 64 < cLine) : CallR X (.type "dict") (rDT X.K) := by
  intro pinsZ s σ H vs us Q I r h
  obtain ⟨a, ts, ps, rfl, hq, hp, q⟩ := h
  rw [Vals.ref1 r]
  obtain ⟨itsZ, rv, pl, hz⟩ := I.list hq
  have ei := refs_at rv
  subst ei
  rw [List.length_map] at hz
  obtain ⟨prs, rel, hl, hpr⟩ := pairs_ofT I hp
  obtain ⟨oZ, n, ho, hc, hd, hdat⟩ := pl
  have hlt : prs.length ≤ sizeLine := by rw [hl]; exact hz
  have hkeys := keysAt rel
  refine call_dict_pairsH (knd := tupleKind (mixKind X.prog X.w)) (ps := prs) (PairArg.list a _ (fun j => (ts[j]?).getD 0) (prs.map fun p => (.ref p.2.1, p.2.2))) (I.ok.hd hcalm) ?_ ⟨⟨oZ, n, ho, hc, hd, hdat⟩, ?_, fun j k v e => ?_⟩ ⟨by rw [List.length_map], fun i key v e => ?_⟩ (fun h' hk x hx => ?_) (by rw [List.length_map]; exact hlt) fun h' tk hd' k => ?_
  · exact tupleKind_room_in1 (A := X.A.in1) (by show X.A.units + 1 + 1 < cLine; omega)
  · simp [hl]
  · rw [List.getElem?_map] at e
    cases hj : prs[j]? with
    | none => rw [hj] at e; cases e
    | some q =>
      rw [hj] at e
      cases e
      obtain ⟨t, e1, e2⟩ := hpr j q hj
      simp only [e1]
      exact ⟨by simp [e1], e2⟩
  · rw [PairRel, List.getElem?_map] at e
    cases hj : prs[i]? with
    | none => rw [hj] at e; cases e
    | some q =>
      rw [hj] at e
      cases e
      exact ⟨q.1, q.2.1, rfl, rfl⟩
  · obtain ⟨o', its', n', k1, k2, k3, k4⟩ := key_of I.hok (hkeys x hx)
    exact ⟨o', its', n', hk _ _ (Nat.ne_of_lt (Heap.lt_size k1)) (by simp) k1, k2, k3, k4⟩
  · have hmZ : (s.heap.objs.size == sysModules) = false := beq_eq_false_iff_ne.mpr (Nat.ne_of_gt I.big)
    have hnZ := I.hok.fresh (Nat.le_refl s.heap.objs.size)
    obtain ⟨q', es, ep, hq', h2, h3, h4, _, h5⟩ := hd'
    have hlen : (mergeT [] (ps.map fun p => (p.1, p.2.2))).length ≤ sizeLine := by
      refine Nat.le_trans (length_mergeT _ []) ?_
      rw [List.length_nil, Nat.zero_add, List.length_map, rel.length]
      exact hlt
    have kt := (KT.merge ps prs [] [] rel .nil).keeps (H' := upd H s.heap.objs.size (.dT (mergeT [] (ps.map fun p => (p.1, p.2.2))))) fun c ys ec => by
      rw [upd_ne (fun z => by subst z; rw [hnZ] at ec; cases ec)]; exact ec
    exact ⟨.ref s.heap.objs.size, upd H s.heap.objs.size (.dT (mergeT [] (ps.map fun p => (p.1, p.2.2)))), I.laid (t' := tk) (fun b u e => k b u (by simp) e) (Nat.le_refl _) (show ObjOk X.prog X.w _ _ _ (.dT (mergeT [] (ps.map fun p => (p.1, p.2.2)))) from ⟨hlen, hmZ, _, kt, q', es, ep, hq', h2, h3, h4, h5⟩), rfl, q _ hnZ⟩
/-! ### the expression -/
theorem dAll_fit {t : Bool} : ∀ {prs : List (PV × PV)} {ks vs : List PV} {r : List PV × List PV}, dAll t ks vs prs = some r → ∀ p ∈ prs, keyFit t p.1 = true
  | [], _, _, _, _, p, hpZ => by cases hpZ
  | q :: prs, ks, vs, r, h, p, hpZ => by
    unfold dAll at h
    split at h
    · rename_i hk
      rcases List.mem_cons.mp hpZ with rfl | hpZ
      · exact hk
      · exact dAll_fit h p hpZ
    · cases h
theorem prsOf_cons {x : PV} {r : List PV} {prs : List (PV × PV)} (h : prsOf (x :: r) = some prs) : ∃ k v q, x = .tup [k, v] ∧ prsOf r = some q ∧ prs = (k, v) :: q := by
  unfold prsOf at h
  split at h
  · rename_i he; cases he
  · rename_i k v r' he
    simp only [List.cons.injEq] at he
    obtain ⟨rfl, rfl⟩ := he
    obtain ⟨q, e1, rfl⟩ := Option.map_eq_some_iff.mp h
    exact ⟨k, v, q, rfl, e1, rfl⟩
  · cases h
section
variable {K : PySem.W.Frag} {ct : Ct} {H : Hp} {A M : List Addr}
theorem prs_repK : ∀ {xs : List PV} {vs : List V} {prs : List (PV × PV)}, RepL K ct H A M xs vs → prsOf xs = some prs → (∀ p ∈ prs, keyFit false p.1 = true) →
    ∃ (ts : List Addr) (kvs : List (Key × V)), vs = ts.map V.ref ∧ Paired (fun t kv => SqT K H t [kV kv.1, kv.2]) ts kvs ∧ prs.map (·.1) = kvs.map (fun w => keyV w.1) ∧ RepL K ct H A M (prs.map (·.2)) (kvs.map (·.2))
  | [], vs, prs, r, e, _ => by
    cases e
    exact ⟨[], [], RepL.nil_iff.mp r, .nil, rfl, .nil⟩
  | x :: xs, vs, prs, r, e, hf => by
    obtain ⟨k, v, q, rfl, e1, rfl⟩ := prsOf_cons e
    obtain ⟨y, ys, rfl, r1, r2⟩ := r.inv
    obtain ⟨ts, kvs, rfl, h2, h3, h4⟩ := prs_repK r2 e1 fun p hp => hf p (List.mem_cons_of_mem _ hp)
    obtain ⟨a, us, rfl, ha, hu⟩ := r1.tup_inv
    obtain ⟨u1, u2, rfl, hu1, hu2⟩ := hu.two
    have hk : (keyOf k).isSome = true := hf _ List.mem_cons_self
    obtain ⟨k', hk'⟩ := Option.isSome_iff_exists.mp hk
    have ek := keyOf_eq hk'
    subst ek
    have eu := hu1.key
    subst eu
    exact ⟨a :: ts, (k', u2) :: kvs, rfl, .cons ha.sqT h2, by rw [List.map_cons, List.map_cons, h3], .cons hu2 h4⟩
theorem prs_repT : ∀ {xs : List PV} {vs : List V} {prs : List (PV × PV)}, RepL K ct H A M xs vs → prsOf xs = some prs → (∀ p ∈ prs, keyFit true p.1 = true) →
    ∃ (ts : List Addr) (ps : List (List Key × Addr × V)), vs = ts.map V.ref ∧ Paired (fun t (p : List Key × Addr × V) => SqT K H t [.ref p.2.1, p.2.2] ∧ H p.2.1 = some (.tup (p.1.map kV))) ts ps ∧ prs.map (·.1) = (ps.map fun p => (p.1, p.2.2)).map (fun w => PV.tup (w.1.map keyV)) ∧ RepL K ct H A M (prs.map (·.2)) ((ps.map fun p => (p.1, p.2.2)).map (·.2))
  | [], vs, prs, r, e, _ => by
    cases e
    exact ⟨[], [], RepL.nil_iff.mp r, .nil, rfl, .nil⟩
  | x :: xs, vs, prs, r, e, hf => by
    obtain ⟨k, v, q, rfl, e1, rfl⟩ := prsOf_cons e
    obtain ⟨y, ys, rfl, r1, r2⟩ := r.inv
    obtain ⟨ts, ps, rfl, h2, h3, h4⟩ := prs_repT r2 e1 fun p hp => hf p (List.mem_cons_of_mem _ hp)
    obtain ⟨a, us, rfl, ha, hu⟩ := r1.tup_inv
    obtain ⟨u1, u2, rfl, hu1, hu2⟩ := hu.two
    have hk := hf _ List.mem_cons_self
    cases k with
    | tup ks =>
      have hk : (keysOf ks).isSome = true := hk
      obtain ⟨k', hk'⟩ := Option.isSome_iff_exists.mp hk
      have ek := keysOf_eq hk'
      subst ek
      obtain ⟨b, bs, rfl, hb, hbs⟩ := hu1.tup_inv
      have eb := hbs.keys
      subst eb
      exact ⟨a :: ts, (k', b, u2) :: ps, rfl, .cons ⟨ha.sqT, hb.1⟩ h2, by rw [List.map_cons, List.map_cons, List.map_cons, h3], .cons hu2 h4⟩
    | _ => cases hk
end
/-- dict(pairs) -/
def pDic (t : Bool) : PV → Option PV
  | .lst xs => if xs.length ≤ 1000000 then (prsOf xs).bind fun prs => (dAll t [] [] prs).map fun r => .dic t r.1 r.2 else none
  | _ => none
theorem fresh_dic1 {K : PySem.W.Frag} {ct : Ct} {G : Gh} {σ : St} {env : Env} {H H1 : Hp} {S S1 : Sto} {A1 : List Addr} {p : Addr} {o : HO} {v : PV} (g : Good K ct G σ H env S) (p1 : Post G.A H A1 H1) (s1 : StoOk K ct H1 A1 G.M S1) (np : H1 p = none) (ho : ∀ vs, o ≠ .tup vs) (c : Cont K ct (upd H1 p o) A1 (p :: G.M) p v) :
    Post G.A H A1 (upd H1 p o) ∧ H p = none ∧ p ∉ A1 ∧ StoOk K ct (upd H1 p o) A1 (p :: G.M) S1 := by
  have g1 := g.post p1 s1
  obtain ⟨k1, k2, k3⟩ := fresh_dic g1 np ho c
  refine ⟨p1.trans k1, ?_, k2, k3⟩
  cases e : H p with
  | none => rfl
  | some o =>
    by_cases ha : p ∈ G.A
    · exact absurd np (g1.inA p (p1.pre.subset ha))
    · rw [p1.ext p o e ha] at np; cases np
section
variable {ct : Ct} {X : Cx} {a : Expr} {fa : FE} {pos p : Pos}
theorem jf_dictC (t : Bool) {k : Nat} (hr : Room k X.A) (hm : X.mg "dict" = none) (ha : JB ct X a fa) (hc : X.calm = true := by rfl) (hg : Gl X "dict" := by rfl) (he : starEach [a] X.env = (false, eval a X.env) :: starEach [] X.env := by rfl) : JF ct X (.Call (.Name "dict" p) [a] [] pos) (eUn (pDic t) fa) := by
  refine ⟨(pe_callTy ((call_dictP hc).or (cr_dictT hc hr.units)) hg hm (by decide +kernel) (pa_cons ha.pe pa_nil he) (by decide) (by decide) he rfl).imp fun σ H Q h => ?_⟩
  obtain ⟨G, env, S, v, S', g, h1, q⟩ := h
  obtain ⟨⟨x, S1⟩, e1, h1⟩ := Res.bind_ok h1
  obtain ⟨z, e3, h1⟩ := Res.bind_ok h1
  cases h1
  have e4 := ofO_ok e3
  refine ⟨G, env, S, x, _, g, e1, fun x' H1 A1 p1 s1 r1 => ?_⟩
  cases x with
  | lst xs =>
    unfold pDic at e4
    dsimp only at e4
    split at e4
    · obtain ⟨prs, e5, e6⟩ := Option.bind_eq_some_iff.mp e4
      obtain ⟨⟨ks, vs⟩, e7, rfl⟩ := Option.map_eq_some_iff.mp e6
      obtain ⟨ad, us, rfl, k1, k2⟩ := r1.lst
      have hf := dAll_fit e7
      have lt : ∀ (pp : Addr) (o : HO), H1 pp = none → Lat A1 G.M H1 A1 (pp :: G.M) (upd H1 pp o) := fun pp o np => lat_hide np (same_new np)
      cases t with
      | false =>
        obtain ⟨ts, kvs, rfl, m1, m2, m3⟩ := prs_repK k2 e5 hf
        obtain ⟨n1, n2⟩ := dAll_rep (e := keyV) (fun _ _ z => keyV_inj z) kvs prs [] [] ks vs m2 m3 .nil e7
        refine .inl ⟨ad, ts, kvs, rfl, .inl (.inl k1), m1, fun pp np => ?_⟩
        have c : Cont X.K ct (upd H1 pp (.dK (mergeK [] kvs))) A1 (pp :: G.M) pp (.dic false ks vs) := .inl ⟨rfl, _, upd_same, n1, n2.lat (lt pp _ np) _ _⟩
        obtain ⟨c1, c2, c3, c4⟩ := fresh_dic1 g p1 s1 np (fun _ => by simp) c
        exact q pp _ A1 c1 c2 c3 c4 c
      | true =>
        obtain ⟨ts, ps, rfl, m1, m2, m3⟩ := prs_repT k2 e5 hf
        obtain ⟨n1, n2⟩ := dAll_rep (e := fun l : List Key => PV.tup (l.map keyV)) (fun _ _ z => tupKey_inj z) _ prs [] [] ks vs m2 m3 .nil e7
        refine .inr ⟨ad, ts, ps, rfl, .inl (.inl k1), m1, fun pp np => ?_⟩
        have c : Cont X.K ct (upd H1 pp (.dT (mergeT [] (ps.map fun p => (p.1, p.2.2))))) A1 (pp :: G.M) pp (.dic true ks vs) := .inr ⟨rfl, _, upd_same, n1, n2.lat (lt pp _ np) _ _⟩
        obtain ⟨c1, c2, c3, c4⟩ := fresh_dic1 g p1 s1 np (fun _ => by simp) c
        exact q pp _ A1 c1 c2 c3 c4 c
    · cases e4
  | _ => cases e4
end
end J
set_option Elab.async false
set_option linter.all false
set_option maxRecDepth 100000
/-! J: {k: v, ..}. -/
namespace J
open PySem L2

abbrev FP := Env → Sto → Res (List (PV × PV) × Sto)
section
variable (K : PySem.W.Frag) (ct : Ct)
def rdP (f : FP) (σ : St) (H : Hp) (Q : List (V × V) → Hp → Prop) : Prop := ∃ G env S v S', Good K ct G σ H env S ∧ f env S = .ok (v, S') ∧
  ∀ x H' A', Post G.A H A' H' → StoOk K ct H' A' G.M S' → RepL K ct H' A' G.M (v.map (·.1)) (x.map (·.1)) → RepL K ct H' A' G.M (v.map (·.2)) (x.map (·.2)) → Q x H'
end
structure JP (ct : Ct) (X : Cx) (pos : Pos) (keys : List (Option Expr)) (values : List Expr) (f : FP) : Prop where
  run : ∀ (pins : List (Addr × Obj)) (s : Shared) (σ : St) (H : Hp) (Q : List (V × V) → Hp → Prop), Inv X pins σ H s → rdP X.K ct f σ H Q → wpAny (model X.prog X.w) X.A (evalPairs (pairTrees keys values X.env pos)) (fun vs s' => ∃ ps H', Inv X pins σ H' s' ∧ VV ps vs ∧ Q ps H') X.xe s
def fpNil : FP := fun _ S => .ok ([], S)
def fpCons (a b : FE) (r : FP) : FP := fun env S => (a env S).bind fun x => (b env x.2).bind fun y => (r env y.2).bind fun z => .ok ((x.1, y.1) :: z.1, z.2)
section
variable {ct : Ct} {X : Cx} {pos : Pos} {k v : Expr} {ks : List (Option Expr)} {vs : List Expr} {fk fv : FE} {fr : FP}
theorem jp_nil : JP ct X pos [] [] fpNil := ⟨fun pins s σ H Q I h => by
  obtain ⟨G, env, S, v, S', g, h1, q⟩ := h
  cases h1
  exact pairTrees_nil_walk ⟨[], H, I, .nil, q [] H G.A (Post.refl H g.bs.nodup) g.bs.sto .nil .nil⟩⟩
theorem jp_cons (hk : JE ct X k fk) (hv : JE ct X v fv) (hr : JP ct X pos ks vs fr) : JP ct X pos (some k :: ks) (v :: vs) (fpCons fk fv fr) := ⟨fun pins s σ H Q I h => by
  obtain ⟨G, env, S, v, S', g, h1, q⟩ := h
  obtain ⟨⟨x, S1⟩, e1, h1⟩ := Res.bind_ok h1
  obtain ⟨⟨y, S2⟩, e2, h1⟩ := Res.bind_ok h1
  obtain ⟨⟨z, S3⟩, e3, h1⟩ := Res.bind_ok h1
  cases h1
  have A0 : rd X.K ct fk σ H fun x' H1 => rd X.K ct fv σ H1 fun y' H2 => rdP X.K ct fr σ H2 fun zs H3 => Q ((x', y') :: zs) H3 :=
    ⟨G, env, S, x, S1, g, e1, fun x' H1 A1 p1 s1 r1 => ⟨{ G with A := A1 }, env, S1, y, S2, g.post p1 s1, e2, fun y' H2 A2 p2 s2Z r2 =>
      ⟨{ G with A := A2 }, env, S2, z, _, (g.post p1 s1).post p2 s2Z, e3, fun zs H3 A3 p3 s3 r3 r4 =>
        q _ H3 A3 ((p1.trans p2).trans p3) s3 (.cons ((r1.lat (p2.lat G.M) x x').lat (p3.lat G.M) x x') r3) (.cons (r2.lat (p3.lat G.M) y y') r4)⟩⟩⟩
  exact pairTrees_cons_walk (thn (hk.pe.run pins s σ H _ I A0) fun u s1 ⟨x, H1, I1, rx, q1⟩ => thn (hv.pe.run pins s1 σ H1 _ I1 q1) fun w2 s2Z ⟨y, H2, I2, ry, q2⟩ =>
    thn (hr.run pins s2Z σ H2 _ I2 q2) fun ws s3 ⟨ps, H3, I3, rel, q3⟩ => ⟨(x, y) :: ps, H3, I3, .cons ⟨rx, ry⟩ rel, q3⟩)⟩
/-- {k: v, ..} -/
def eDis (t : Bool) (f : FP) : FE := fun env S => (f env S).bind fun x => match (if x.1.length ≤ 1000 then dAll t [] [] x.1 else none) with
  | some r => .ok (.dic t r.1 r.2, x.2)
  | none => .err
end
section
variable {K : PySem.W.Frag} {ct : Ct} {H : Hp} {A M : List Addr}
theorem prs_keyK : ∀ {prs : List (PV × PV)} {ps : List (V × V)}, RepL K ct H A M (prs.map (·.1)) (ps.map (·.1)) → RepL K ct H A M (prs.map (·.2)) (ps.map (·.2)) → (∀ p ∈ prs, keyFit false p.1 = true) →
    ∃ kvs : List (Key × V), ps = kvs.map (fun kv => (kV kv.1, kv.2)) ∧ prs.map (·.1) = kvs.map (fun w => keyV w.1) ∧ RepL K ct H A M (prs.map (·.2)) (kvs.map (·.2))
  | [], ps, r1, r2, _ => by
    have := r1.length
    simp at this
    subst this
    exact ⟨[], rfl, rfl, .nil⟩
  | p :: prs, [], r1, r2, _ => by have := r1.length; simp at this
  | p :: prs, q :: ps, r1, r2, hf => by
    obtain ⟨x, xs, e0, h1, h2⟩ := r1.inv
    simp only [List.map_cons, List.cons.injEq] at e0
    obtain ⟨rfl, rfl⟩ := e0
    obtain ⟨y, ys, e0, h3, h4⟩ := r2.inv
    simp only [List.map_cons, List.cons.injEq] at e0
    obtain ⟨rfl, rfl⟩ := e0
    obtain ⟨kvs, rfl, m2, m3⟩ := prs_keyK h2 h4 fun p hp => hf p (List.mem_cons_of_mem _ hp)
    have hk : (keyOf p.1).isSome = true := hf _ List.mem_cons_self
    obtain ⟨k', hk'⟩ := Option.isSome_iff_exists.mp hk
    have ek := keyOf_eq hk'
    dsimp only at h1
    rw [ek] at h1
    have eu := h1.key
    refine ⟨(k', q.2) :: kvs, ?_, by rw [List.map_cons, List.map_cons, m2, ek], .cons h3 m3⟩
    rw [List.map_cons, ← eu]
theorem prs_keyT : ∀ {prs : List (PV × PV)} {ps : List (V × V)}, RepL K ct H A M (prs.map (·.1)) (ps.map (·.1)) → RepL K ct H A M (prs.map (·.2)) (ps.map (·.2)) → (∀ p ∈ prs, keyFit true p.1 = true) →
    ∃ kvs : List (List Key × Addr × V), ps = kvs.map (fun kv => (.ref kv.2.1, kv.2.2)) ∧ (∀ p ∈ kvs, H p.2.1 = some (.tup (p.1.map kV))) ∧ prs.map (·.1) = (kvs.map fun p => (p.1, p.2.2)).map (fun w => PV.tup (w.1.map keyV)) ∧ RepL K ct H A M (prs.map (·.2)) ((kvs.map fun p => (p.1, p.2.2)).map (·.2))
  | [], ps, r1, r2, _ => by
    have := r1.length
    simp at this
    subst this
    exact ⟨[], rfl, (fun p hpZ => by cases hpZ), rfl, .nil⟩
  | p :: prs, [], r1, r2, _ => by have := r1.length; simp at this
  | p :: prs, q :: ps, r1, r2, hf => by
    obtain ⟨x, xs, e0, h1, h2⟩ := r1.inv
    simp only [List.map_cons, List.cons.injEq] at e0
    obtain ⟨rfl, rfl⟩ := e0
    obtain ⟨y, ys, e0, h3, h4⟩ := r2.inv
    simp only [List.map_cons, List.cons.injEq] at e0
    obtain ⟨rfl, rfl⟩ := e0
    obtain ⟨kvs, rfl, m1, m2, m3⟩ := prs_keyT h2 h4 fun p hpZ => hf p (List.mem_cons_of_mem _ hpZ)
    have hk := hf _ List.mem_cons_self
    obtain ⟨p1, p2⟩ := p
    obtain ⟨q1, q2⟩ := q
    cases p1 with
    | tup ls =>
      have hk : (keysOf ls).isSome = true := hk
      obtain ⟨k', hk'⟩ := Option.isSome_iff_exists.mp hk
      have ek := keysOf_eq hk'
      subst ek
      obtain ⟨b, bs, eb0, hb, hbs⟩ := h1.tup_inv
      have eb := hbs.keys
      subst eb
      dsimp only at eb0
      subst eb0
      exact ⟨(k', b, q2) :: kvs, rfl, (fun p hpZ => by
        rcases List.mem_cons.mp hpZ with rfl | hpZ
        · exact hb.1
        · exact m1 p hpZ), by rw [List.map_cons, List.map_cons, List.map_cons, m2], .cons h3 m3⟩
    | _ => cases hk
end
theorem carriesT {P : Program} {w : World} {H : Hp} {h : Heap} (ok : HOk P w H h) : ∀ {kvs : List (List Key × Addr × V)} {ws : List (Value × Value)}, (∀ p ∈ kvs, H p.2.1 = some (.tup (p.1.map kV))) → VV (kvs.map fun kv => (V.ref kv.2.1, kv.2.2)) ws →
    ∃ rs : List (List Key × Addr × Value), CarriesH (tupleKind (mixKind P w)) h ws rs ∧ Paired (fun (p : List Key × Addr × V) (q : List Key × Addr × Value) => q.1 = p.1 ∧ q.2.1 = p.2.1 ∧ H p.2.1 = some (.tup (p.1.map kV)) ∧ RelV p.2.2 q.2.2) kvs rs
  | [], _, _, r => by rw [List.map_nil] at r; cases r; exact ⟨[], True.intro, .nil⟩
  | p :: kvs, _, hk, r => by
    rw [List.map_cons] at r
    cases r with
    | @cons a b as bs h t =>
      obtain ⟨rs, c, q⟩ := carriesT ok (fun p hp => hk p (List.mem_cons_of_mem _ hp)) t
      obtain ⟨b1, b2⟩ := b
      cases (show b1 = Value.ref p.2.1 from h.1)
      exact ⟨(p.1, p.2.1, b2) :: rs, ⟨rfl, rfl, key_of ok (hk p List.mem_cons_self), c⟩, .cons ⟨rfl, rfl, hk p List.mem_cons_self, h.2⟩ q⟩
theorem disp_H {prog : Program} {w : World} {κ : Type} [DecidableEq κ] {knd : HeapKind prog w κ} {A : Around} {E : Value → Shared → Prop} {s : Shared} {env : PySem.Env} {keys : List (Option Expr)} {values : List Expr} {pos : Pos} {pairs : List (Sem Value × Sem Value)} {Q : Value → Shared → Prop} (hu : knd.room A) (hshape : (evalEachOpt keys env).zip ((evalEach values env).map fun v => do let x ← v; standAt pos; pure x) = pairs.map fun p => (some p.1, p.2)) (h0 : pairs ≠ []) (hlen : pairs.length ≤ 15) (h : wpAny (model prog w) A (evalPairs pairs) (fun vs s₁ => ∃ ps, CarriesH knd s₁.heap vs ps ∧ s₁.heap.DictOfH knd s.heap.objs.size [] ∧
      ∀ h' tk, h'.DictOfH knd s.heap.objs.size (storedAllH [] ps) → Heap.SameBut s.heap.objs.size s₁.heap h' → Q (.ref s.heap.objs.size) { s₁ with heap := h', toks := tk }) E { s with heap := s.heap.push { cls := .type "dict", data := .dict #[] } }) : wpAny (model prog w) A (eval (.Dict keys values pos) env) Q E s := by
  rw [arm_eval_Dict, hshape]; rw [dictDisplay_pairs pairs h0 (by omega)]
  refine wpAny_bind (wpAny_standAt (wpAny_bind (wpAny_subDictH (knd := knd) (Q := fun d s' => wpAny (model prog w) A (pure (Value.ref d)) Q E s') hu hlen (thn h fun vs s1 h1 => ?_))))
  obtain ⟨ps, hc, hm, hq⟩ := h1
  exact ⟨ps, hc, hm, fun h' tk a b => wpAny_pure (hq h' tk a b)⟩
section
variable {ct : Ct} {X : Cx} {pos : Pos} {keys : List (Option Expr)} {values : List Expr} {f : FP}
theorem jf_dispT {k : Nat} (hr : Room k X.A) (h : JP ct X pos keys values f) (hall : keys.all (·.isSome) = true := by rfl) (hl : keys.length = values.length := by rfl) (h0 : keys ≠ [] := by exact List.cons_ne_nil _ _) (h15 : keys.length ≤ 15 := by decide) : JF ct X (.Dict keys values pos) (eDis true f) := by
  refine ⟨⟨fun pins s σ H Q I hq => ?_⟩⟩
  obtain ⟨G, env, S, v, S', g, h1, q⟩ := hq
  obtain ⟨⟨prs, S1⟩, e1, h1⟩ := Res.bind_ok h1
  dsimp only at h1
  split at h1
  · rename_i r er
    cases h1
    obtain ⟨hk, er⟩ : prs.length ≤ 1000 ∧ dAll true [] [] prs = some r := by
      split at er
      · exact ⟨‹_›, er⟩
      · cases er
    have hnZ := I.hok.fresh (Nat.le_refl s.heap.objs.size)
    have I1 := I.laid (a := s.heap.objs.size) (o := .dT []) (h' := s.heap.push { cls := .type "dict", data := .dict #[] }) (t' := s.toks) (fun _ _ q => Heap.get?_push_of_some _ q) (Nat.le_refl _) (dt_empty s.heap I.big)
    have sm : Same H (upd H s.heap.objs.size (.dT [])) := same_new hnZ
    have g0 : Good X.K ct { G with M := s.heap.objs.size :: G.M } σ (upd H s.heap.objs.size (.dT [])) env S := g.hide hnZ sm (by rw [upd_same]; simp) (by rw [upd_same]; simp)
    have hln := pairTrees_length keys values X.env pos hall hl
    have A0 : rdP X.K ct f σ (upd H s.heap.objs.size (.dT [])) fun ps H2 => ∃ A2, Post G.A (upd H s.heap.objs.size (.dT [])) A2 H2 ∧ StoOk X.K ct H2 A2 (s.heap.objs.size :: G.M) S' ∧ RepL X.K ct H2 A2 (s.heap.objs.size :: G.M) (prs.map (·.1)) (ps.map (·.1)) ∧ RepL X.K ct H2 A2 (s.heap.objs.size :: G.M) (prs.map (·.2)) (ps.map (·.2)) :=
      ⟨_, env, S, prs, _, g0, e1, fun ps H2 A2 p2 s2 r3 r4 => ⟨A2, p2, s2, r3, r4⟩⟩
    refine disp_H (knd := tupleKind (mixKind X.prog X.w)) (pairs := pairTrees keys values X.env pos) (by show X.A.units < cLine; have := hr.units; omega) (zip_pairTrees keys values X.env pos hall hl) (fun he => by rw [he] at hln; exact h0 (List.length_eq_zero_iff.mp hln.symm)) (by rw [hln]; exact h15)
      (thn (h.run pins _ σ _ _ I1 A0) fun ws s2 ⟨ps, H2, I2, rel, A2, p2, st2, r3, r4⟩ => ?_)
    have g2 := g0.post p2 st2
    have hD : H2 s.heap.objs.size = some (.dT []) := p2.ext _ _ upd_same (g0.bs.disj _ List.mem_cons_self)
    obtain ⟨kvs, rfl, m1, m2, m3⟩ := prs_keyT r3 r4 (dAll_fit er)
    obtain ⟨n1, n2⟩ := dAll_rep (e := fun l : List Key => PV.tup (l.map keyV)) (fun _ _ z => tupKey_inj z) _ prs [] [] r.1 r.2 m2 m3 .nil er
    obtain ⟨rs, cr, rk⟩ := carriesT I2.hok m1 rel
    obtain ⟨z, hd, xs0, r0, dd⟩ := dt_of I2.hok hD
    cases r0
    refine ⟨rs, cr, dd, fun h' tk dk hs => ?_⟩
    obtain ⟨q', es, ep, hq', h2, h3, h4, _, h5⟩ := dk
    have kt : KT (upd H2 s.heap.objs.size (.dT (mergeT [] (kvs.map fun p => (p.1, p.2.2))))) (mergeT [] (kvs.map fun p => (p.1, p.2.2))) (storedAllH [] rs) := (KT.merge kvs rs [] [] rk .nil).keeps fun c ys ec => by
      rw [upd_ne (fun z => by subst z; rw [hD] at ec; cases ec)]; exact ec
    have hlen : (mergeT [] (kvs.map fun p => (p.1, p.2.2))).length ≤ sizeLine := by
      refine Nat.le_trans (length_mergeT _ []) ?_
      have l4 : kvs.length = prs.length := by
        have := congrArg List.length m2
        simpa using this.symm
      rw [List.length_nil, Nat.zero_add, List.length_map, l4]
      exact Nat.le_trans hk (by decide)
    have lu : Lat A2 (s.heap.objs.size :: G.M) H2 A2 (s.heap.objs.size :: G.M) (upd H2 s.heap.objs.size (.dT (mergeT [] (kvs.map fun p => (p.1, p.2.2))))) := lat_upd (.inr List.mem_cons_self)
    have hpA : s.heap.objs.size ∉ A2 := g2.bs.disj _ List.mem_cons_self
    refine ⟨.ref s.heap.objs.size, _, d_write (t' := tk) I2 (by rw [hD]; exact True.intro) hs ⟨q', hq'⟩ (show ObjOk X.prog X.w _ _ _ (.dT (mergeT [] (kvs.map fun p => (p.1, p.2.2)))) from ⟨hlen, hd, _, kt, q', es, ep, hq', h2, h3, h4, h5⟩), rfl, ?_⟩
    refine q _ _ A2 ⟨p2.pre, fun a o k1 k2 => ?_, fun a ha => ?_, p2.nodup⟩ hnZ hpA ⟨st2.len, fun n a xs k1 k2 => ?_⟩ (.inr ⟨rfl, _, upd_same, n1, n2.lat lu _ _⟩)
    · have hne : a ≠ s.heap.objs.size := fun z => by subst z; rw [hnZ] at k1; cases k1
      rw [upd_ne hne]
      exact p2.ext a o (by rw [upd_ne hne]; exact k1) k2
    · rcases p2.new a ha with z | z
      · exact .inl z
      · refine .inr ?_
        by_cases hne : a = s.heap.objs.size
        · subst hne; exact hnZ
        · rw [upd_ne hne] at z; exact z
    · obtain ⟨us, k3, k4⟩ := st2.at' n a xs k1 k2
      exact ⟨us, by rw [upd_ne (fun z => hpA (by rw [← z]; exact List.mem_of_getElem? k1))]; exact k3, k4.lat lu xs us⟩
  · cases h1
end
end J
set_option Elab.async false
set_option linter.all false
set_option maxRecDepth 100000
/-! J: the law's end. -/
namespace J
open L2 PySem PySem.Spec PyProof.Rows

/-- the abstract heap in which the law starts: the script alone, if it is none of the module's own objects -/
theorem start_heap {P : Program} {w : World} {K : PySem.W.Frag} {a : Addr} {t : Shared} {us : List Value} {ns : List Int} (kin : K.In t.heap)
    (at_a : t.heap.get? a = some { cls := .type "list", data := .seq us.toArray }) (hints : IntsAre us ns) (few : ns.length ≤ sizeLine) :
    ∃ H : Hp, SqL K H a (ns.map V.int) ∧ HOk P w H t.heap ∧ (∀ b u, H b = some u → b = a ∧ K.lookup a = none ∧ ∃ o xs, u = .frz o (.lst xs)) := by
  have vals := vals_ints hints
  by_cases own : K.lookup a = none
  · have key : ∀ (b : Addr) (u : HO), (if b = a then some (HO.frz { cls := .type "list", data := .seq us.toArray } (.lst (ns.map V.int))) else none) = some u → b = a ∧ u = .frz { cls := .type "list", data := .seq us.toArray } (.lst (ns.map V.int)) := fun b u e => by
      split at e
      · cases e; exact ⟨‹_›, rfl⟩
      · cases e
    refine ⟨fun b => if b = a then some (.frz { cls := .type "list", data := .seq us.toArray } (.lst (ns.map V.int))) else none, .inl (.inr ⟨_, if_pos rfl⟩), fun b u e => ?_, fun b u e => ?_⟩
    · obtain ⟨rfl, rfl⟩ := key b u e
      exact ⟨at_a, by rw [List.length_map]; exact few, us, _, vals, at_a⟩
    · obtain ⟨e1, e2⟩ := key b u e
      exact ⟨e1, own, _, _, e2⟩
  · obtain ⟨o, look⟩ := Option.ne_none_iff_exists'.mp own
    have same := (kin a o look).symm.trans at_a
    cases same
    refine ⟨fun _ => none, .inr ⟨_, us.toArray, _, look, rfl, rfl, rfl, by rw [List.size_toArray, hints.length]; exact few, by simpa using vals⟩, (fun b u e => nomatch (show (none : Option HO) = some u from e)), (fun b u e => nomatch (show (none : Option HO) = some u from e))⟩
/-- the law's call, for defs that ask for clear guards -/
theorem law_callG {P : Program} {w : World} {K : PySem.W.Frag} {mg mb : Str → Option Value} {k : Nat} {fa a : Addr} {fd : FuncData} {x : Str} {sp : Sp} {t : Shared} {us : List Value} {ns : List Int} (kin : K.In t.heap)
    (gl : t.heap.Ns mainGlobals mg) (bl : t.heap.Ns builtinsNs mb) (boot : ∀ y : Str, y ≠ "__name__" → mb y = bootBuiltins y) (lim : t.heap.NoLimit) (noG : t.gens = #[])
    (at_a : t.heap.get? a = some { cls := .type "list", data := .seq us.toArray }) (hints : IntsAre us ns) (few : ns.length ≤ sizeLine) (room : Room k callerA)
    (F : ∀ b0 : Heap, K.In b0 → b0.Ns mainGlobals mg → FnG P w K mg b0 k fa fd [x] sp) (binds : ∀ (z : Shared) (u : Value), BindsTo z fd ⟨[u], []⟩ [(x, u)])
    (pr : ∀ H : Hp, SqL K H a (ns.map V.int) → sp [.ref a] H (fun v _ => v = .bl true) fun _ _ _ => False) :
    codeAny (model P w) callerA (.call (.ref fa) ⟨[.ref a], []⟩) (fun r z => r = .ok (.ret (.bool true)) ∧ OldK t.heap z.heap ∧ z.os = t.os ∧ AllBare z.gens) t := by
  obtain ⟨H, sq, hok, only⟩ := start_heap (P := P) (w := w) kin at_a hints few
  have free : ∀ bZ o, t.heap.get? bZ = some o → H bZ = none → (hidT t.heap H).get? bZ = some o := fun bZ o e n => hidT_get e n
  have lift : ∀ {bZ : Addr} {m : Str → Option Value}, t.heap.Ns bZ m → (hidT t.heap H).Ns bZ m := by
    rintro bZ m ⟨o, es, ep, e, d, rest⟩
    refine ⟨o, es, ep, free bZ o e ?_, d, rest⟩
    match q : H bZ with
    | none => rfl
    | some u =>
      obtain ⟨rfl, _⟩ := only bZ u q
      rw [at_a] at e
      cases e
      exact nomatch (show Data.seq us.toArray _ = Data.dict es ep from d)
  have kin' : K.In (hidT t.heap H) := fun bZ o e => free bZ o (kin bZ o e) (by
    match q : H bZ with
    | none => rfl
    | some u =>
      obtain ⟨rfl, z, _⟩ := only bZ u q
      rw [z] at e; cases e)
  obtain ⟨mc, l1, l2⟩ := lim
  have start : Env0 P w K mg (hidT t.heap H) callerA [] t H := ⟨rfl, ⟨kin', lift gl, ⟨mb, lift bl, boot⟩, ⟨mc, lift l1, l2⟩⟩, fun _ _ e => of_hidT e, Nat.le_of_eq (hidT_size _ _), trivial, (fun bZ hb => nomatch (show bZ ∈ ([] : List Addr) from hb)), hok, .of_eq noG⟩
  refine codeAny_mono ((F _ kin' (lift gl)).run callerA [] t H ⟨[.ref a], []⟩ [.ref a] [.ref a] (fun v _ => v = .bl true) (fun _ _ _ => False) room rfl start (binds t (.ref a)) (.cons rfl .nil) (pr H sq)) fun r z hz => ?_
  match r, hz with
  | .ok (.ret u), ⟨v, H2, os, bare, un, hok2, ru, ev⟩ =>
    cases (show v = .bl true from ev)
    cases (show u = Value.bool true from ru)
    refine ⟨rfl, OldK.of_keep fun bZ o e => ?_, os, bare⟩
    match q : H bZ with
    | none => exact un.keep bZ o e q (fun c => nomatch (show bZ ∈ ([] : List Addr) from c)) (by simp)
    | some h =>
      obtain ⟨_, _, ob, xs, rfl⟩ := only bZ h q
      have c1 := (hok bZ _ q).1
      have c2 := (hok2 bZ _ (un.frzs bZ ob _ q)).1
      rw [e] at c1
      cases c1
      exact c2

theorem scr_start {K : PySem.W.Frag} {ct : Ct} {H : Hp} {a : Addr} {ns : List Int} (h : SqL K H a (ns.map V.int)) : Bs K ct [] [] H [] ∧ RepL K ct H [] [] [.scr ns] [.ref a] := by
  refine ⟨⟨⟨rfl, (fun n b xs h1 _ => by simp at h1)⟩, List.nodup_nil, (fun b hb => by cases hb), (fun b hb => by cases hb), (fun b hb => by cases hb)⟩, .cons ?_ .nil⟩
  simp only [Rep]
  refine ⟨a, rfl, ?_⟩
  rcases h with h | h
  · exact .inl ⟨h, by simp, by simp⟩
  · exact .inr (.inr h)
theorem sp_law {K : PySem.W.Frag} {ct : Ct} {f : List PV → Sto → Res (PV × Sto)} {ns : List Int} {H : Hp} {a : Addr} (hf : ∃ S', f [.scr ns] [] = .ok (.bl true, S')) (h : SqL K H a (ns.map V.int)) : spM K ct 1 f [.ref a] H (fun v _ => v = .bl true) fun _ _ _ => False := by
  obtain ⟨S', e⟩ := hf
  obtain ⟨b, r⟩ := scr_start (ct := ct) h
  exact ⟨rfl, [], [], _, [], _, S', b, r, e, fun x H' A' _ _ rx => Rep.bl_iff.mp rx⟩
/-- a law: F gives the written part, the pure function, the promise over every base -/
theorem walk_ofG {l : PySem.W.OpenLaw} {n k : Nat} {q : Program} {loose : List Str} {XP : (Str → Option Value) → Heap → Prop} {YP : World → Heap → Prop} {d : DefRec} {x : Str} {ct : PySem.W.Frag → Ct} {f : List PV → Sto → Res (PV × Sto)}
    (most : l.most = some n) (mostL : n ≤ sizeLine) (plain : d.params.defaults = []) (room : Room k callerA) (hf : ∀ ns : List Int, ns.length ≤ n → ∃ S', f [.scr ns] [] = .ok (.bl true, S'))
    (F : ∀ (w : World) (mg : Str → Option Value) (fa : Addr) (h : Heap), YP w h → h.Ns mainGlobals mg → mg d.name = some (.ref fa) → ∃ (K : PySem.W.Frag) (fd : FuncData), K.In h ∧ (∀ (s : Shared) (u : Value), BindsTo s fd ⟨[u], []⟩ [(x, u)]) ∧
        ∀ base : Heap, K.In base → base.Ns mainGlobals mg → FnG l.prog w K mg base k fa fd [x] (spM K (ct K) 1 f)) :
    PySem.W.WalkO q loose XP YP l.row.toRowW d [] (fun g zs => PySem.call g zs) := by
  refine Att.attach_call most plain fun w z t mg mb fa o pm cd doc a us ns G Y _ _ _ named there hints few noG => ?_
  obtain ⟨K, fd, kin, binds, ok⟩ := F w mg fa _ Y G.T.g named
  exact law_callG kin G.T.g G.T.b G.T.builtins G.T.nolimit noG there hints (Nat.le_trans few mostL) room ok binds fun H sq => sp_law (hf ns few) sq
end J
set_option Elab.async false
set_option linter.all false
set_option maxRecDepth 100000
/-! J: small joins for the printed texts. -/
namespace J
open PySem L2
section
variable {ct : Ct} {X : Cx} {a b : Expr} {fa fb : FE} {pos : Pos}
theorem je_globIx {x : Str} {i : Int} (hm : ∃ t, X.mg x = some (.int i t)) (hg : Gl X x := by rfl) (hd : (x == ("__debug__" : Str)) = false := by decide) : JE ct X (.Name x pos) (eC (.int i)) := by
  obtain ⟨t, hm⟩ := hm
  exact je_globI hg hm hd
def pMulA : PV → PV → Option PV
  | .int i, b => pMul (.int i) b
  | a, b => pRep a b
theorem je_mulA (ha : JB ct X a fa) (hb : JB ct X b fb) : JE ct X (.BinOp a .Mult b pos) (eOp pMulA fa fb) :=
  je_op (OpR.or op_mul (OpR.or op_rep op_repT)) (fun H A M x y vx vy v Q hx rx ry e q => by
    unfold pMulA at e
    split at e
    · exact .inl (ok_mul H A M x y _ vy v Q hx rx ry e q)
    · exact .inr (ok_rep H A M x y _ vy v Q hx rx ry e q)) ha hb
end
theorem funD_same {K : PySem.W.Frag} {x q x2 q2 : Str} {ps ps2 : Arguments} {b b2 : List Stmt} {sc sc2 : Scope} {f : Addr} {fd fd2 : FuncData} (F : FunD K x q ps b sc [] [] f fd) (F2 : FunD K x2 q2 ps2 b2 sc2 [] [] f fd2) : fd = fd2 := by
  obtain ⟨_, _, _, _, _, _, _, _, _, _, _, h, _⟩ := F.ex
  obtain ⟨_, _, _, _, _, _, _, _, _, _, _, h2, _⟩ := F2.ex
  rw [h] at h2
  simp only [Option.some.injEq, Obj.mk.injEq, Data.func.injEq] at h2
  exact h2.2.2.1
end J
set_option Elab.async false
set_option linter.all false
set_option maxRecDepth 100000
/-! J: keywords in any order, pairs of targets that own. -/
namespace J
open L2 PySem PySem.Spec PyProof.Rows

/-- the keywords ks, in their own order, stand for the parameters ps: g sorts the values -/
def KwP (x : Str) (st : Stmt) (ps ks : List Str) (g : {α : Type} → List α → List α) : Prop := ∀ (kV doc pm : Value) (an : Option Addr) (cdv ct : Value) (ws : List Value), ws.length = ks.length →
  bindArgs (PySem.W.fnOf x x (defArgs st) (defBody st) (defScope st) .none kV doc pm an cdv ct) ⟨[], ks.zip ws⟩ = pure (ps.zip (g ws))
def eCallP (f : List PV → Sto → Res (PV × Sto)) (g : {α : Type} → List α → List α) (b : FA) : FE := fun env S => (b env S).bind fun y => f (g y.1) y.2
def swap2 {α : Type} : List α → List α
  | [a, b] => [b, a]
  | l => l
section
variable {ct : Ct} {X : Cx} {k : Nat} {ps ks : List Str} {f : List PV → Sto → Res (PV × Sto)} {x : Str} {st : Stmt} {fk : FA} {pos p : Pos}
theorem je_callP {kws : List Keyword} (g : {α : Type} → List α → List α) (D : DefOk ct X.prog X.w X.K X.mg X.base x st k ps f) (hr : Room k X.A) (hG : X.A.guards = some []) (hK : KwP x st ps ks g) (hk : JK ct X kws fk) (hgl : ∀ {α : Type} (l : List α), (g l).length = l.length)
    (hgv : ∀ (l : List V) (m : List Value), Vals l m → Vals (g l) (g m)) (hgr : ∀ (H : Hp) (A M : List Addr) (l : List PV) (m : List V), RepL X.K ct H A M l m → RepL X.K ct H A M (g l) (g m))
    (hl2 : ∀ env S xs S', fk env S = .ok (xs, S') → xs.length = ps.length) (hpk : ks.length = ps.length := by rfl)
    (hall : (backToKw pos (keywordEach kws X.env)).all (·.1.isSome) = true := by rfl) (hks : (backToKw pos (keywordEach kws X.env)).filterMap (·.1) = ks := by rfl) (hg : Gl X x := by rfl) (hdb : (x == ("__debug__" : Str)) = false := by decide)
    (hpl : ((backTo pos (starEach [] X.env)).any (·.1) || (backToKw pos (keywordEach kws X.env)).any (·.1.isNone)) = false := by rfl) : JE ct X (.Call (.Name x p) [] kws pos) (eCallP f g fk) := by
  obtain ⟨fad, fd, FD, hm, F⟩ := D
  refine ⟨⟨fun pins s σ H Q I h => ?_⟩⟩
  obtain ⟨G, env, S, v, S', gd, h1, q⟩ := h
  obtain ⟨⟨zs, S2⟩, e2, h1⟩ := Res.bind_ok h1
  refine wpAny_Call_Name_kw (E := _) (ld_glob I hg hm ?_ hdb)
  have A0 : rdA X.K ct fk σ H fun ws H2 => spM X.K ct ps.length f (g ws) H2 Q E0 := ⟨G, env, S, zs, S2, gd, e2, fun ws H2 A2 p2 s2 r2 => call_of gd p2 s2 (hgr H2 A2 G.M zs ws r2) (by rw [hgl, r2.length, hl2 _ _ _ _ e2]) h1 q⟩
  refine PySem.W.callWith_KW0 (h₀ := X.base) I.ok.mod.kin FD.kp hall (thn (hk.pk.run pos pins s σ H _ I A0) fun ws s2 ⟨wv, H2, I2, rz, q2⟩ => ⟨I2.kIn, ?_⟩) hpl
  rw [hks]
  have l2 : ws.length = ks.length := by
    have l3 := q2.1
    rw [hgl] at l3
    rw [← rz.length, l3, hpk]
  have hb : BindsTo s2 fd ⟨[] ++ [], ks.zip ws⟩ (ps.zip (g ws)) := by
    obtain ⟨oc, od, dV, kV, doc, pm, an, cdv, ctv, osl, rfl, lk, hcd, hD, hKK⟩ := FD.ex
    rcases hD with ⟨_, e0⟩ | ⟨e0, _⟩
    · cases e0
      exact .of_eq (hK kV doc pm an cdv ctv ws l2)
    · exact absurd rfl e0
  exact run_fnG F hr hG hb I2 (hgv wv ws rz) q2
end
theorem swap2_len {α : Type} (l : List α) : (swap2 l).length = l.length := by
  unfold swap2
  split <;> rfl
theorem swap2_vals (l : List V) (m : List Value) (h : Vals l m) : Vals (swap2 l) (swap2 m) := by
  match l, m, h with
  | [], _, .nil => exact .nil
  | [_], _, .cons a .nil => exact .cons a .nil
  | [_, _], _, .cons a (.cons b .nil) => exact .cons b (.cons a .nil)
  | _ :: _ :: _ :: _, _, .cons a (.cons b (.cons c d)) => exact .cons a (.cons b (.cons c d))
theorem swap2_rep {K : PySem.W.Frag} {ct : Ct} (H : Hp) (A M : List Addr) (l : List PV) (m : List V) (h : RepL K ct H A M l m) : RepL K ct H A M (swap2 l) (swap2 m) := by
  match l, h with
  | [], h => rw [RepL.nil_iff.mp h]; exact .nil
  | [a], h => obtain ⟨v, rfl, r⟩ := h.one; exact .cons r .nil
  | [a, b], h => obtain ⟨v, w, rfl, r1, r2⟩ := h.two; exact .cons r2 (.cons r1 .nil)
  | a :: b :: c :: d, h =>
    obtain ⟨v, vs, rfl, r1, r2⟩ := h.inv
    obtain ⟨w, ws, rfl, r3, r4⟩ := r2.inv
    obtain ⟨u, us, rfl, r5, r6⟩ := r4.inv
    exact .cons r1 (.cons r3 (.cons r5 r6))
end J
set_option Elab.async false
set_option linter.all false
set_option maxRecDepth 100000
/-! J: a, b = x, y where one of the two owns. -/
namespace J
open PySem L2

theorem Good.hideF {K : PySem.W.Frag} {ct : Ct} {G : Gh} {σ : St} {env : Env} {H H1 : Hp} {S S1 : Sto} {A1 : List Addr} {p : Addr} {v : PV} (gd : Good K ct G σ H env S) (pp : Post G.A H A1 H1) (np : H p = none) (nA : p ∉ A1) (s : StoOk K ct H1 A1 (p :: G.M) S1) (c : Cont K ct H1 A1 (p :: G.M) p v) :
    Lat G.A G.M H A1 (p :: G.M) H1 ∧ Good K ct { G with A := A1, M := p :: G.M } σ H1 env S1 ∧ (∀ (j : Nat) (w : PV), env[j]? = some (.own w) → σ[j]? ≠ some (some (.ref p))) := by
  have s0 : StoOk K ct H1 A1 G.M S1 := s.less fun a ha => List.mem_cons_of_mem _ ha
  have g1 := gd.post pp s0
  obtain ⟨o, ho⟩ := c.there
  have lat : Lat G.A G.M H A1 (p :: G.M) H1 := ⟨pp.pre, fun b u eb n m => ⟨pp.ext b u eb n, pp.out eb n, fun hm => by
    rcases List.mem_cons.mp hm with hm | hm
    · subst hm; rw [np] at eb; cases eb
    · exact m hm⟩⟩
  refine ⟨lat, ⟨⟨s, g1.bs.nodup, fun a ha => ?_, fun a ha => ?_, fun a ha vs ev => ?_⟩, fun j sl hs => ?_, gd.uniq, g1.ext0, g1.pre0, g1.new0, fun a ha => List.mem_cons_of_mem _ (gd.sub0 a ha), gd.in0, gd.len⟩, fun j w ho' hz => ?_⟩
  · rcases List.mem_cons.mp ha with hm | hm
    · subst hm; rw [ho]; simp
    · exact g1.bs.inM a hm
  · rcases List.mem_cons.mp ha with hm | hm
    · subst hm; exact nA
    · exact g1.bs.disj a hm
  · rcases List.mem_cons.mp ha with hm | hm
    · subst hm; exact c.noT vs ev
    · exact g1.bs.noT a hm vs ev
  · have q := gd.slot j sl hs
    cases sl with
    | un => trivial
    | val w => obtain ⟨y, k1, k2⟩ := q; exact ⟨y, k1, k2.lat lat w y⟩
    | own w =>
      obtain ⟨p', k1, k2, k3, k4⟩ := q
      obtain ⟨o', ho'⟩ := k4.there
      exact ⟨p', k1, List.mem_cons_of_mem _ k2, k3, k4.lat lat ((pp.ext p' o' ho' (gd.bs.disj p' k2)).trans ho'.symm)⟩
  · obtain ⟨p', k1, k2, k3, k4⟩ := gd.slot j _ ho'
    rw [hz] at k1; cases k1
    exact gd.bs.inM p k2 np
def sParFE (i j : Nat) (a b : FE) : FS := fun env S => (a env S).bind fun x => (b env x.2).bind fun y => .ok (.nx ((env.set i (.own x.1)).set j (.val y.1)) y.2)
def sParEF (i j : Nat) (a b : FE) : FS := fun env S => (a env S).bind fun x => (b env x.2).bind fun y => .ok (.nx ((env.set i (.val x.1)).set j (.own y.1)) y.2)
section
variable {ct : Ct} {X : Cx} {a b : Expr} {fa fb : FE} {pos : Pos}
theorem js_parFE (i j : Nat) {x y : Str} {px py pt : Pos} {kt k2 pt2} (hN : X.N.Nodup) (ha : JF ct X a fa) (hb : JE ct X b fb) (hc : X.calm = true := by rfl) (hi : X.N[i]? = some x := by rfl) (hj : X.N[j]? = some y := by rfl) (hij : i ≠ j := by decide)
    (hx : X.env.scope.names.lookup x = some .local := by rfl) (hy : X.env.scope.names.lookup y = some .local := by rfl) (he : starEach [a, b] X.env = (false, eval a X.env) :: starEach [b] X.env := by rfl) (he2 : starEach [b] X.env = (false, eval b X.env) :: starEach [] X.env := by rfl)
    (hw : swappedStores [.Tuple [.Name x px, .Name y py] kt pt] (.Tuple [a, b] k2 pt2) X.env = pure (some [x, y]) := by rfl) (hs : swapsWithSole [.Tuple [.Name x px, .Name y py] kt pt] (.Tuple [a, b] k2 pt2) pos.line X.env = pure false := by rfl) :
    JS ct X (.Assign [.Tuple [.Name x px, .Name y py] kt pt] (.Tuple [a, b] k2 pt2) pos) (sParFE i j fa fb) := by
  refine ⟨(ps_par hc hN hi hj hij hx hy (pa_cons ha.pe (pa_cons hb.pe pa_nil he2) he) hw hs).imp fun D σ H h => ?_⟩
  obtain ⟨G, env, S, fl, gd, e, h⟩ := h
  obtain ⟨⟨u, S1⟩, e1, e2⟩ := Res.bind_ok e
  obtain ⟨⟨v, S2⟩, e3, e2⟩ := Res.bind_ok e2
  cases e2
  refine ⟨G, env, S, u, S1, gd, e1, fun p H1 A1 pp np nA s c => ?_⟩
  obtain ⟨lat, g1, fr⟩ := gd.hideF pp np nA s c
  refine ⟨_, env, S1, v, _, g1, e3, fun w H2 A2 p2 s2 r2 => ⟨_, _, rfl, ?_⟩⟩
  have g2 := g1.post p2 s2
  obtain ⟨o, ho⟩ := c.there
  have c2 : Cont X.K ct H2 A2 (p :: G.M) p u := c.lat (p2.lat _) ((p2.ext p o ho nA).trans ho.symm)
  have g3 := g2.setOwn (i := i) List.mem_cons_self (gd.fresh0 np) c2 fun l z _ hl => fr l z hl
  exact h _ H2 A2 (p :: G.M) (lat.trans (p2.lat _)) (g3.set r2)
theorem js_parEF (i j : Nat) {x y : Str} {px py pt : Pos} {kt k2 pt2} (hN : X.N.Nodup) (ha : JE ct X a fa) (hb : JF ct X b fb) (hc : X.calm = true := by rfl) (hi : X.N[i]? = some x := by rfl) (hj : X.N[j]? = some y := by rfl) (hij : i ≠ j := by decide)
    (hx : X.env.scope.names.lookup x = some .local := by rfl) (hy : X.env.scope.names.lookup y = some .local := by rfl) (he : starEach [a, b] X.env = (false, eval a X.env) :: starEach [b] X.env := by rfl) (he2 : starEach [b] X.env = (false, eval b X.env) :: starEach [] X.env := by rfl)
    (hw : swappedStores [.Tuple [.Name x px, .Name y py] kt pt] (.Tuple [a, b] k2 pt2) X.env = pure (some [x, y]) := by rfl) (hs : swapsWithSole [.Tuple [.Name x px, .Name y py] kt pt] (.Tuple [a, b] k2 pt2) pos.line X.env = pure false := by rfl) :
    JS ct X (.Assign [.Tuple [.Name x px, .Name y py] kt pt] (.Tuple [a, b] k2 pt2) pos) (sParEF i j fa fb) := by
  refine ⟨(ps_par hc hN hi hj hij hx hy (pa_cons ha.pe (pa_cons hb.pe pa_nil he2) he) hw hs).imp fun D σ H h => ?_⟩
  obtain ⟨G, env, S, fl, gd, e, h⟩ := h
  obtain ⟨⟨u, S1⟩, e1, e2⟩ := Res.bind_ok e
  obtain ⟨⟨v, S2⟩, e3, e2⟩ := Res.bind_ok e2
  cases e2
  refine ⟨G, env, S, u, S1, gd, e1, fun w H1 A1 p1 s1 r1 => ?_⟩
  have g1 := gd.post p1 s1
  refine ⟨_, env, S1, v, _, g1, e3, fun p H2 A2 pp np nA s c => ⟨_, _, rfl, ?_⟩⟩
  obtain ⟨lat, g2, fr⟩ := g1.hideF pp np nA s c
  have g3 := g2.set (i := i) (r1.lat lat u w)
  refine h _ H2 A2 (p :: G.M) ((p1.lat _).trans lat) (g3.setOwn List.mem_cons_self (g1.fresh0 np) c fun l z hne hl hz => ?_)
  rcases getSet hl with ⟨_, h0, _⟩ | ⟨hn, hl⟩
  · cases h0
  · rw [List.getElem?_set_ne hn] at hz
    exact fr l z hl hz
end
end J
set_option Elab.async false
set_option linter.all false
set_option maxRecDepth 100000
/-! J: min and max of three, tuples repeated. -/
namespace J
open PySem L2
def pMin3 : List PV → Option PV
  | [.int i, .int j, .int l] => some (.int (if l < (if j < i then j else i) then l else (if j < i then j else i)))
  | _ => none
theorem three_ints {ct : Ct} {K : PySem.W.Frag} {H : Hp} {A M : List Addr} {i j l : Int} {xs : List V} (r : RepL K ct H A M [.int i, .int j, .int l] xs) : xs = [.int i, .int j, .int l] := by
  obtain ⟨v, w, u, rfl, h1, h2, h3⟩ := r.three
  rw [Rep.int_iff.mp h1, Rep.int_iff.mp h2, Rep.int_iff.mp h3]
theorem ok_min3 {ct : Ct} {K : PySem.W.Frag} : CallOk K ct (rNuC3 nuMin3) pMin3 := fun H A M xs vs v Q hx r e q => by
  unfold pMin3 at e
  split at e
  · rename_i i j l
    cases e
    refine ⟨.int i, .int j, .int l, _, three_ints r, ?_, q _ H (Same.refl H) (Rep.int_iff.mpr rfl)⟩
    by_cases h1 : j < i
    · by_cases h2 : l < j <;> simp [nuMin3, nuMin2, nuLt, nuCB, h1, h2]
    · by_cases h2 : l < i <;> simp [nuMin3, nuMin2, nuLt, nuCB, h1, h2]
  · cases e
section
variable {ct : Ct} {X : Cx} {a b c : Expr} {fr : FA} {pos p : Pos}
theorem je_min3 (hm : X.mg "min" = none) (ha : JA ct X [a, b, c] fr) (hc : X.calm = true := by rfl) (hg : Gl X "min" := by rfl) (he : starEach [a, b, c] X.env = (false, eval a X.env) :: starEach [b, c] X.env := by rfl) (hpl : (backTo pos (starEach [b, c] X.env)).any (·.1) = false := by rfl) : JE ct X (.Call (.Name "min" p) [a, b, c] [] pos) (eB pMin3 fr) :=
  je_callB (call_min3Nu hc) ok_min3 hm ha hg (by decide +kernel) (by decide) (by decide) he hpl
end
end J
set_option Elab.async false
set_option linter.all false
set_option maxRecDepth 100000
/-! J: len(set(xs)) of a list of whole numbers. -/
namespace J
open PySem L2
def metN (ns : List Int) : List Int := PyProof.Rows.firstMet (fun i => ns.getD i 0) ns.length
def rSetI (K : PySem.W.Frag) : List V → Hp → VK → Prop := fun xs H Q => ∃ (a : Addr) (ns : List Int), xs = [.ref a] ∧ SqL K H a (ns.map V.int) ∧ ns.length + 1 < 4096 ∧ ∀ p, H p = none → Q (.ref p) (upd H p (.set (fun k => (metN ns).any (· == k)) (metN ns).length))
theorem cr_setI {X : Cx} (hcalm : X.calm = true) : CallR X (.type "set") (rSetI X.K) := by
  intro pins s σ H xs us Q I r hh
  obtain ⟨a, ns, rfl, sq, few, q⟩ := hh
  rw [Vals.ref1 r]
  obtain ⟨its, rv, pl, hz⟩ := I.list sq
  have hi := rv.ints
  have hl : its.toArray.size = ns.length := by rw [List.size_toArray, ← rv.length, List.length_map]
  refine call_set_list (ns := ns) (I.ok.hd hcalm) pl.isList (by simpa using hi) (by rw [hl]; exact few) fun h' tk hS hk => ?_
  rw [hl] at hS
  exact ⟨.ref s.heap.objs.size, _, I.laid (t' := tk) (o := .set (fun k => (metN ns).any (· == k)) (metN ns).length) (fun b u e => hk b u (Heap.lt_size e) e) (Nat.le_refl _) (show ObjOk X.prog X.w _ h' _ (.set (fun k => (metN ns).any (· == k)) (metN ns).length) from hS), rfl, q _ (I.hok.fresh (Nat.le_refl _))⟩
def rLenSet : List V → Hp → VK → Prop := fun xs H Q => ∃ (a : Addr) (S : Int → Bool) (n : Nat), xs = [.ref a] ∧ H a = some (.set S n) ∧ Q (.int n) H
theorem cr_lenSet {X : Cx} : CallR X (.builtin "len") rLenSet := by
  intro pins s σ H xs us Q I r hh
  obtain ⟨a, S, n, rfl, ha, q⟩ := hh
  rw [Vals.ref1 r]
  obtain ⟨o, es, ep, t, ho, hx, hd, _, _, h4, h5, h6⟩ := (show s.heap.SetOf (intKind X.prog X.w) a S n from I.hok a _ ha)
  refine call_len_set ho hx hd h5 (by have : scanBound = 4096 := rfl; omega) ?_
  exact ⟨.int n, H, I.tok _, ⟨_, by rw [h6]⟩, q⟩
def pSetLen : PV → Option PV
  | .lst xs => (intsP xs).bind fun ns => if ns.length + 1 < 4096 then some (.int (metN ns).length) else none
  | _ => none
section
variable {ct : Ct} {X : Cx} {a : Expr} {fa : FE} {pos p q1 q2 : Pos}
theorem je_lenset (hm : X.mg "len" = none) (hm2 : X.mg "set" = none) (ha : JB ct X a fa) (hc : X.calm = true := by rfl) (hg : Gl X "len" := by rfl) (hg2 : Gl X "set" := by rfl) (he : starEach [a] X.env = (false, eval a X.env) :: starEach [] X.env := by rfl)
    (he2 : starEach [.Call (.Name "set" q1) [a] [] q2] X.env = (false, eval (.Call (.Name "set" q1) [a] [] q2) X.env) :: starEach [] X.env := by rfl) : JE ct X (.Call (.Name "len" p) [.Call (.Name "set" q1) [a] [] q2] [] pos) (eUn pSetLen fa) := by
  refine ⟨(pe_callB cr_lenSet hg hm PySem.boot_len (pa_cons (pe_callTy (cr_setI hc) hg2 hm2 (by decide +kernel) (pa_cons ha.pe pa_nil he) (by decide) (by decide) he rfl) pa_nil he2) (by decide) (by decide) he2 rfl).imp fun σ H Q h => ?_⟩
  obtain ⟨G, env, S, v, S', g, h1, q⟩ := h
  obtain ⟨⟨x, S1⟩, e1, h1⟩ := Res.bind_ok h1
  obtain ⟨z, e3, h1⟩ := Res.bind_ok h1
  cases h1
  refine ⟨G, env, S, x, _, g, e1, fun x' H1 A1 p1 s1 r1 => ?_⟩
  have g1 := g.post p1 s1
  have e4 := ofO_ok e3
  cases x with
  | lst xs =>
    obtain ⟨ns, e5, e6⟩ := Option.bind_eq_some_iff.mp e4
    split at e6
    · rename_i few
      cases e6
      have ex := intsP_eq e5
      subst ex
      obtain ⟨ad, vs, rfl, k1, k2⟩ := r1.lst
      have ev := k2.ints
      subst ev
      refine ⟨ad, ns, rfl, .inl (.inl k1), few, fun pp np => ⟨pp, _, _, rfl, upd_same, ?_⟩⟩
      exact q _ _ A1 (p1.trans (Post.grow g1.bs.nodup (same_new np))) (s1.grow g1.bs.nodup (same_new np)) (Rep.int_iff.mpr rfl)
    · cases e6
  | _ => cases e4
end
end J
set_option Elab.async false
set_option linter.all false
set_option maxRecDepth 100000
set_option maxHeartbeats 3900000
/-! J: a tuple of one element taken 0 times or once. -/
namespace J
open PySem L2 PySem.Spec PyProof.Rows
theorem tmul_one (l : Addr) (items : Array Value) (n : Nat) (dd : Option Addr) (sl : Array (Option Value)) (u : Tok) :
    Meets (Builtin.«tuple.__mul__» ⟨[.ref l, .int 1 u], []⟩) (fun _ R s => s.heap.get? l = some { cls := .type "tuple", dict := dd, data := .seq items n, slots := sl } ∧ R (.ok (.ret (Value.ref l))) s) :=
  .of_wp fun prg wld A R sh h => by
    obtain ⟨hpq, gq, dq, tkq, osq⟩ := sh
    obtain ⟨hlq, h⟩ := h
    have f1 := AutoSeq1.idx_int
    have q0 : (decide ((1 : Int) < -(2 ^ 63)) || decide ((1 : Int) ≥ 2 ^ 63)) = false := by decide
    have q1 : (items.isEmpty || (1 : Int) == 1) = true := by simp
    wp_walk using wpAny_loadPart' hlq
    repeat (first
      | (refine wpAny_ite_false (decide_eq_false (by rw [q0]; exact Bool.false_ne_true)) ?_; wp_walk using wpAny_loadPart' hlq)
      | (refine wpAny_ite_true (decide_eq_true (by rw [q1])) ?_; wp_walk using wpAny_loadPart' hlq))
    exact ⟨_, rfl, h⟩
theorem tmul_zero (l : Addr) (items : Array Value) (n : Nat) (dd : Option Addr) (sl : Array (Option Value)) (u : Tok) (q1 : (items.isEmpty || (0 : Int) == 1) = false) :
    Meets (Builtin.«tuple.__mul__» ⟨[.ref l, .int 0 u], []⟩) (fun _ R s => s.heap.get? l = some { cls := .type "tuple", dict := dd, data := .seq items n, slots := sl } ∧
      R (.ok (.ret (Value.ref s.heap.objs.size))) { s with heap := s.heap.push { cls := Value.type "tuple", data := Data.seq #[] }, toks := s.toks }) :=
  .of_wp fun prg wld A R sh h => by
    obtain ⟨hpq, gq, dq, tkq, osq⟩ := sh
    obtain ⟨hlq, h⟩ := h
    have f1 := AutoSeq1.idx_int
    have q0 : (decide ((0 : Int) < -(2 ^ 63)) || decide ((0 : Int) ≥ 2 ^ 63)) = false := by decide
    have q2 : (decide ((0 : Int) ≤ 0) || items.isEmpty) = true := by simp
    wp_walk using wpAny_loadPart' hlq
    repeat (first
      | (refine wpAny_ite_false (decide_eq_false (by rw [q0]; exact Bool.false_ne_true)) ?_; wp_walk using wpAny_loadPart' hlq)
      | (refine wpAny_ite_false (decide_eq_false (by rw [q1]; exact Bool.false_ne_true)) ?_; wp_walk using wpAny_loadPart' hlq)
      | (refine wpAny_ite_true (decide_eq_true (by rw [q2])) ?_; wp_walk using wpAny_loadPart' hlq))
    exact ⟨_, rfl, h⟩
def rRep01 (K : PySem.W.Frag) : R2 := fun x y H Q => ∃ l xs, x = .ref l ∧ SqT K H l xs ∧ xs ≠ [] ∧ ((y = .int 1 ∧ Q (.ref l) H) ∨ (y = .int 0 ∧ ∀ p, H p = none → Q (.ref p) (upd H p (.tup []))))
section
variable {X : Cx}
theorem op_rep01 : OpR X (binaryOp .Mult) (rRep01 X.K) := by
  intro pinsQ s σ H x y v u Q I rx ry hq
  obtain ⟨l, xs, rfl, hT, hne, h⟩ := hq
  cases rx
  obtain ⟨its, r, ⟨⟨cls, dd, data, sl⟩, ho, hc, n, hd⟩, _⟩ := I.tuple hT
  simp only at hc hd
  subst hc hd
  have hn : its ≠ [] := fun e => by
    rw [e] at r
    cases r
    exact hne rfl
  have hiq : its.toArray.isEmpty = false := by
    cases its with
    | nil => exact absurd rfl hn
    | cons a b => rfl
  rcases h with ⟨rfl, q⟩ | ⟨rfl, q⟩
  · obtain ⟨t, rfl⟩ := ry
    refine wpAny_binaryOp_repeat_ref (T := "tuple") (U := "int") (by decide) ⟨_, ho, rfl⟩ (fun s' => typeIs_int s' 1 t) noFill_tuple_mul F.fills_int_mul F.slot_int_rmul repeat_tuple F.slot_int_index.lookup
      (call_meets F.slot_int_rmul (typeIs_int s 1 t) F.entry_int_rmul (F.args_int_rmul_2 _ _) (int_rmul_tuple 1 t l its.toArray n dd sl)
        ⟨ho, rfl, ⟨_, ho, rfl⟩, call_meets F.slot_tuple_mul ⟨_, ho, rfl⟩ F.entry_tuple_mul (F.args_tuple_mul_2 _ _) (tmul_one l its.toArray n dd sl t) ⟨ho, ?_⟩⟩)
    exact ⟨.ref l, H, I, rfl, q⟩
  · obtain ⟨t, rfl⟩ := ry
    refine wpAny_binaryOp_repeat_ref (T := "tuple") (U := "int") (by decide) ⟨_, ho, rfl⟩ (fun s' => typeIs_int s' 0 t) noFill_tuple_mul F.fills_int_mul F.slot_int_rmul repeat_tuple F.slot_int_index.lookup
      (call_meets F.slot_int_rmul (typeIs_int s 0 t) F.entry_int_rmul (F.args_int_rmul_2 _ _) (int_rmul_tuple 0 t l its.toArray n dd sl)
        ⟨ho, rfl, ⟨_, ho, rfl⟩, call_meets F.slot_tuple_mul ⟨_, ho, rfl⟩ F.entry_tuple_mul (F.args_tuple_mul_2 _ _) (tmul_zero l its.toArray n dd sl t (by rw [hiq]; rfl)) ⟨ho, ?_⟩⟩)
    refine ⟨.ref s.heap.objs.size, _, I.laid (t' := s.toks) (o := .tup []) (fun b ob q => Heap.get?_push_of_some _ q) (Nat.le_refl _) ?_, rfl, q _ (I.hok.fresh (Nat.le_refl _))⟩
    exact ⟨by rw [sizeLine_eq]; decide, _, .nil, IsTup.new _ _⟩
end
/-- a product, a repeated list, a repeated tuple of one element -/
def pMulB : PV → PV → Option PV
  | .tup [x], .int k => if k = 1 then some (.tup [x]) else if k = 0 then some (.tup []) else pRep (.tup [x]) (.int k)
  | a, b => pMulA a b
section
variable {ct : Ct} {X : Cx} {a b : Expr} {fa fb : FE} {pos : Pos}
theorem je_mulB (ha : JB ct X a fa) (hb : JB ct X b fb) : JE ct X (.BinOp a .Mult b pos) (eOp pMulB fa fb) :=
  je_op (OpR.or op_rep01 (OpR.or op_mul (OpR.or op_rep op_repT))) (fun H A M x y vx vy v Q hx rx ry e q => by
    unfold pMulB at e
    split at e
    · rename_i x0 k
      split at e
      · rename_i hk
        cases e
        subst hk
        refine .inl ?_
        obtain ⟨ad, vs, rfl, k1, k2⟩ := rx.tup
        refine ⟨ad, vs, rfl, k1.sqT, ?_, .inl ⟨by rw [ry.int], q _ _ ?_ ?_⟩⟩
        · intro z; have := k2.length; rw [z] at this; simp at this
        · exact Same.refl H
        · simp only [Rep]
          exact ⟨ad, vs, rfl, k1, k2⟩
      · split at e
        · rename_i hk0 hk
          cases e
          subst hk
          refine .inl ?_
          obtain ⟨ad, vs, rfl, k1, k2⟩ := rx.tup
          refine ⟨ad, vs, rfl, k1.sqT, ?_, .inr ⟨by rw [ry.int], fun p np => ?_⟩⟩
          · intro z; have := k2.length; rw [z] at this; simp at this
          obtain ⟨k3, k4⟩ := hx.new_tup (K := X.K) (ct := ct) RepL.nil np
          exact q _ _ k3 k4
        · exact .inr (.inr (ok_rep H A M x y _ _ v Q hx rx ry e q))
    · refine .inr ?_
      unfold pMulA at e
      split at e
      · exact .inl (ok_mul H A M x y _ vy v Q hx rx ry e q)
      · exact .inr (ok_rep H A M x y _ vy v Q hx rx ry e q)) ha hb
end
end J
set_option Elab.async false
set_option linter.all false
set_option maxRecDepth 100000
set_option maxHeartbeats 3900000
/-! J: tuple(range(..)), list(range(..)). -/
namespace J
open PySem L2 PySem.Spec PyProof.Rows
def rgW (i c : Int) (n : Nat) : List V := (List.range n).map fun (k : Nat) => V.int (i + (k : Int) * c)
theorem rgW_len (i c : Int) (n : Nat) : (rgW i c n).length = n := by unfold rgW; rw [List.length_map, List.length_range]
theorem rgW_vals {i c : Int} {n : Nat} {acc : Array Value} (h : ItemsOf (fun k v => ∃ t, v = .int (i + k * c) t) acc n) : Vals (rgW i c n) acc.toList := by
  have e : acc.toList.length = n := by rw [Array.length_toList]; exact h.1
  unfold rgW
  rw [← e]
  exact vals_of_get acc.toList _ fun at' v got => h.2 at' v ((Array.getElem?_toList).symm.trans got)
/-- an expression that makes a range: where it begins, its step, how many -/
def PRn (X : Cx) (e : Expr) (t : L2.St → Hp → (Int → Int → Nat → Hp → Prop) → Prop) : Prop :=
  ∀ (pins : List (Addr × Obj)) (s : Shared) (σ : L2.St) (H : Hp) (Q : Int → Int → Nat → Hp → Prop), Inv X pins σ H s → t σ H Q →
    wpAny (model X.prog X.w) X.A (eval e X.env) (fun x s' => ∃ r a b c t u v n H', x = .ref r ∧ IsRange s'.heap r a b c t u v ∧ Builtin.Range.small a b c = true ∧ Builtin.Range.rangeSize a b c = (n : Nat) ∧ Inv X pins σ H' s' ∧ Q a c n H') X.xe s
section
variable {X : Cx} {a b c : Expr} {ta : TA} {p pos : Pos}
theorem prn_1 (hg : Gl X "range") (hm : X.mg "range" = none) (ha : PA X [a] ta) (hs : starEach [a] X.env = [(false, eval a X.env)] := by rfl) :
    PRn X (.Call (.Name "range" p) [a] [] pos) (fun σ H Q => ta σ H fun vs H1 => ∃ j, vs = [.int j] ∧ bdI j = true ∧ Q 0 1 j.toNat H1) := fun pins s σ H Q I h => by
  refine Call_ (ld_blt I hg hm boot_range (PyProof.Rows.callWith_type1 (thn (ha.run pos pins s σ H _ I h) fun usQ s1 ⟨vs, H1, I1, r1, q1⟩ => ?_) hs rfl))
  obtain ⟨j, e, hb, q⟩ := q1
  obtain ⟨b1, b2⟩ := bdI_ok hb
  subst e
  obtain ⟨u, rfl, t, rfl⟩ := vals1 r1
  refine call_range_1 ⟨_, 0, j, 1, _, _, _, j.toNat, H1, rfl, IsRange.new _ _ _ _ _ _ _, small_one (by omega) (by omega) b1 b2, ?_, I1.kept fun b u e => Heap.get?_push_of_some _ e, q⟩
  rw [rangeSize_nat]; simp
theorem prn_2 (hg : Gl X "range") (hm : X.mg "range" = none) (ha : PA X [a, b] ta) (hs : starEach [a, b] X.env = [(false, eval a X.env), (false, eval b X.env)] := by rfl) (hs2 : starEach [b] X.env = [(false, eval b X.env)] := by rfl) :
    PRn X (.Call (.Name "range" p) [a, b] [] pos) (fun σ H Q => ta σ H fun vs H1 => ∃ i j, vs = [.int i, .int j] ∧ bdI i = true ∧ bdI j = true ∧ Q i 1 (j - i).toNat H1) := fun pins s σ H Q I h => by
  refine Call_ (ld_blt I hg hm boot_range (PyProof.Rows.callWith_type1 (thn (ha.run pos pins s σ H _ I h) fun usQ s1 ⟨vs, H1, I1, r1, q1⟩ => ?_) (by rw [hs, hs2]) (by rw [hs2]; rfl)))
  obtain ⟨i, j, e, hb, hb', q⟩ := q1
  obtain ⟨b1, b2⟩ := bdI_ok hb
  obtain ⟨b3, b4⟩ := bdI_ok hb'
  subst e
  cases r1 with
  | cons r rr =>
    obtain ⟨u, rfl, t', rfl⟩ := vals1 rr
    obtain ⟨t, rfl⟩ := r
    exact call_range_2 ⟨_, i, j, 1, _, _, _, (j - i).toNat, H1, rfl, IsRange.new _ _ _ _ _ _ _, small_one b1 b2 b3 b4, rangeSize_nat _ _, I1.kept fun b u e => Heap.get?_push_of_some _ e, q⟩
theorem prn_3 (hg : Gl X "range") (hm : X.mg "range" = none) (ha : PA X [a, b, c] ta) (hs : starEach [a, b, c] X.env = (false, eval a X.env) :: starEach [b, c] X.env := by rfl) (hpl : (backTo pos (starEach [b, c] X.env)).any (·.1) = false := by rfl) :
    PRn X (.Call (.Name "range" p) [a, b, c] [] pos) (fun σ H Q => ta σ H fun vs H1 => ∃ i j, vs = [.int i, .int j, .int (-1)] ∧ bdI i = true ∧ bdI j = true ∧ Q i (-1) (i - j).toNat H1) := fun pins s σ H Q I h => by
  refine Call_ (ld_blt I hg hm boot_range (PyProof.Rows.callWith_type1 (thn (ha.run pos pins s σ H _ I h) fun usQ s1 ⟨vs, H1, I1, r1, q1⟩ => ?_) hs hpl))
  obtain ⟨i, j, e, hb, hb', q⟩ := q1
  obtain ⟨b1, b2⟩ := bdI_ok hb
  obtain ⟨b3, b4⟩ := bdI_ok hb'
  obtain ⟨c0, c1, c2, c3⟩ := RgC.neg b1 b2 b3 b4
  subst e
  cases r1 with
  | cons r rr =>
    cases rr with
    | cons r' rr =>
      obtain ⟨u, rfl, t'', rfl⟩ := vals1 rr
      obtain ⟨t, rfl⟩ := r
      obtain ⟨t', rfl⟩ := r'
      exact call_range_3 c0 ⟨_, i, j, -1, _, _, _, (i - j).toNat, H1, rfl, IsRange.new _ _ _ _ _ _ _, c2, c3, I1.kept fun b u e => Heap.get?_push_of_some _ e, q⟩ (.inl (PyProof.noPylong_small c1))
variable {e : Expr} {te : L2.St → Hp → (Int → Int → Nat → Hp → Prop) → Prop}
theorem pe_tupRn (hc : X.calm = true) (hg : Gl X "tuple") (hm : X.mg "tuple" = none) (he : PRn X e te) (na : starEach [e] X.env = (false, eval e X.env) :: starEach [] X.env := by rfl) :
    PE X (.Call (.Name "tuple" p) [e] [] pos) (fun σ H Q => te σ H fun i c n H1 => n ≤ 1000000 ∧ ∀ q, H1 q = none → Q (.ref q) (upd H1 q (.tup (rgW i c n)))) := by
  refine ⟨fun pinsQ s σ H Q I h => ?_⟩
  refine Call_ (ld_blt I hg hm boot_tuple (PyProof.Rows.callWith_type1 (args_cons (thn (he pinsQ s σ H _ I h) fun x s1 ⟨r, a, b, c, t, u, v, n, H1, ex, hr, hsm, hsz, I1, ok, q⟩ => args_nil ?_) na) na))
  subst ex
  refine call_tuple_range (n := n) (I1.ok.hd hc) hr hsm hsz (by omega) fun h' tk acc hk hi => ?_
  have I2 : Inv X pinsQ σ H1 { s1 with heap := h', toks := tk } := I1.kept hk
  refine ⟨.ref h'.objs.size, upd H1 h'.objs.size (.tup (rgW a c n)), I2.laid (t' := tk) (fun c o e => Heap.get?_push_of_some _ e) (Nat.le_refl _) (show ObjOk X.prog X.w _ _ _ (.tup (rgW a c n)) from ⟨?_, acc.toList, rgW_vals hi, ?_⟩), rfl, q _ (I2.hok.fresh (Nat.le_refl _))⟩
  · rw [rgW_len, sizeLine_eq]; omega
  · have back : acc.toList.toArray = acc := Array.toArray_toList
    rw [back]
    exact IsTup.new h' acc
theorem pe_lstRn (hc : X.calm = true) (hg : Gl X "list") (hm : X.mg "list" = none) (he : PRn X e te) (na : starEach [e] X.env = (false, eval e X.env) :: starEach [] X.env := by rfl) :
    PE X (.Call (.Name "list" p) [e] [] pos) (fun σ H Q => te σ H fun i c n H1 => n ≤ 1000000 ∧ ∀ q, H1 q = none → Q (.ref q) (upd H1 q (.lst (rgW i c n)))) := by
  refine ⟨fun pinsQ s σ H Q I h => ?_⟩
  refine Call_ (ld_blt I hg hm boot_list (PyProof.Rows.callWith_type1 (args_cons (thn (he pinsQ s σ H _ I h) fun x s1 ⟨r, a, b, c, t, u, v, n, H1, ex, hr, hsm, hsz, I1, ok, q⟩ => args_nil ?_) na) na))
  subst ex
  refine call_list_range (n := n) (I1.ok.hd hc) hr hsm hsz (by omega) fun h' tk acc c' hk e' hi => ?_
  refine ⟨.ref s1.heap.objs.size, upd H1 s1.heap.objs.size (.lst (rgW a c n)), I1.laid hk (Nat.le_refl _) (show ObjOk X.prog X.w _ _ _ (.lst (rgW a c n)) from ⟨?_, acc.toList, c', rgW_vals hi, ?_⟩), rfl, q _ (I1.hok.fresh (Nat.le_refl _))⟩
  · rw [rgW_len, sizeLine_eq]; omega
  · have back : acc.toList.toArray = acc := Array.toArray_toList
    rw [back, e']
end
def rgI (i c : Int) (n : Nat) : List PV := (List.range n).map fun (k : Nat) => PV.int (i + (k : Int) * c)
theorem rgI_up (i : Int) (n : Nat) : rangeP i n = rgI i 1 n := by unfold rangeP rgI; simp
theorem rgI_down (i : Int) (n : Nat) : rangeD i n = rgI i (-1) n := by
  unfold rangeD rgI
  have each : ∀ k : Nat, i - (k : Int) = i + (k : Int) * -1 := fun k => by omega
  simp only [each]
theorem rgI_len (i c : Int) (n : Nat) : (rgI i c n).length = n := by unfold rgI; rw [List.length_map, List.length_range]
theorem rgI_rep {K : PySem.W.Frag} {ct : Ct} {H : Hp} {A M : List Addr} (i c : Int) : ∀ l : List Nat, RepL K ct H A M (l.map fun (k : Nat) => PV.int (i + (k : Int) * c)) (l.map fun (k : Nat) => V.int (i + (k : Int) * c))
  | [] => .nil
  | k :: r => .cons (Rep.int_iff.mpr rfl) (rgI_rep i c r)
structure JR (ct : Ct) (X : Cx) (e : Expr) (f : FA) : Prop where
  pr : PRn X e (fun σ H Q => ∃ G env S v S', Good X.K ct G σ H env S ∧ f env S = .ok (v, S') ∧ ∀ i c n H' A', Post G.A H A' H' → StoOk X.K ct H' A' G.M S' → v = rgI i c n → Q i c n H')
theorem PRn.imp {X : Cx} {e : Expr} {t t' : L2.St → Hp → (Int → Int → Nat → Hp → Prop) → Prop} (h : PRn X e t) (i : ∀ σ H Q, t' σ H Q → t σ H Q) : PRn X e t' := fun pins s σ H Q I q => h pins s σ H Q I (i σ H Q q)
section
variable {ct : Ct} {X : Cx} {a b c : Expr} {fa : FA} {p pos : Pos}
theorem jr_range1 (hm : X.mg "range" = none) (h : JA ct X [a] fa) (hg : Gl X "range" := by rfl) (hs : starEach [a] X.env = [(false, eval a X.env)] := by rfl) : JR ct X (.Call (.Name "range" p) [a] [] pos) (iR1 fa) := by
  refine ⟨(prn_1 hg hm h.pa hs).imp fun σ H R q => ?_⟩
  obtain ⟨G, env, S, v, S', g, h1, q⟩ := q
  obtain ⟨⟨x, S1⟩, e1, h1⟩ := Res.bind_ok h1
  refine ⟨G, env, S, x, S1, g, e1, fun vs H1 A1 p1 s1 r1 => ?_⟩
  dsimp only at h1
  split at h1
  · rename_i j
    split at h1
    · rename_i hb
      cases h1
      obtain ⟨v, rfl, rv⟩ := r1.one
      exact ⟨j, by rw [Rep.int_iff.mp rv], hb, q _ _ _ H1 A1 p1 s1 (rgI_up _ _)⟩
    · cases h1
  · cases h1
theorem jr_range2 (hm : X.mg "range" = none) (h : JA ct X [a, b] fa) (hg : Gl X "range" := by rfl) (hs : starEach [a, b] X.env = [(false, eval a X.env), (false, eval b X.env)] := by rfl) (hs2 : starEach [b] X.env = [(false, eval b X.env)] := by rfl) : JR ct X (.Call (.Name "range" p) [a, b] [] pos) (iR2 fa) := by
  refine ⟨(prn_2 hg hm h.pa hs hs2).imp fun σ H R q => ?_⟩
  obtain ⟨G, env, S, v, S', g, h1, q⟩ := q
  obtain ⟨⟨x, S1⟩, e1, h1⟩ := Res.bind_ok h1
  refine ⟨G, env, S, x, S1, g, e1, fun vs H1 A1 p1 s1 r1 => ?_⟩
  dsimp only at h1
  split at h1
  · rename_i i j
    split at h1
    · rename_i hb
      cases h1
      rw [Bool.and_eq_true] at hb
      obtain ⟨v, w, rfl, rv, rw'⟩ := r1.two
      exact ⟨i, j, by rw [Rep.int_iff.mp rv, Rep.int_iff.mp rw'], hb.1, hb.2, q _ _ _ H1 A1 p1 s1 (rgI_up _ _)⟩
    · cases h1
  · cases h1
theorem jr_range3 (hm : X.mg "range" = none) (h : JA ct X [a, b, c] fa) (hg : Gl X "range" := by rfl) (hs : starEach [a, b, c] X.env = (false, eval a X.env) :: starEach [b, c] X.env := by rfl) (hpl : (backTo pos (starEach [b, c] X.env)).any (·.1) = false := by rfl) : JR ct X (.Call (.Name "range" p) [a, b, c] [] pos) (iR3 fa) := by
  refine ⟨(prn_3 hg hm h.pa hs hpl).imp fun σ H R q => ?_⟩
  obtain ⟨G, env, S, v, S', g, h1, q⟩ := q
  obtain ⟨⟨x, S1⟩, e1, h1⟩ := Res.bind_ok h1
  refine ⟨G, env, S, x, S1, g, e1, fun vs H1 A1 p1 s1 r1 => ?_⟩
  dsimp only at h1
  split at h1
  · rename_i i j c
    split at h1
    · rename_i hb
      cases h1
      obtain ⟨hc, hb1, hb2⟩ := hb
      subst hc
      obtain ⟨v, w, z, rfl, rv, rw', rz⟩ := r1.three
      exact ⟨i, j, by rw [Rep.int_iff.mp rv, Rep.int_iff.mp rw', Rep.int_iff.mp rz], hb1, hb2, q _ _ _ H1 A1 p1 s1 (rgI_down _ _)⟩
    · cases h1
  · cases h1
end
def eTR (it : FA) : FE := fun env S => (it env S).bind fun x => if x.1.length ≤ 1000000 then .ok (.tup x.1, x.2) else .err
def eLR (it : FA) : FE := fun env S => (it env S).bind fun x => if x.1.length ≤ 1000000 then .ok (.lst x.1, x.2) else .err
section
variable {ct : Ct} {X : Cx} {e : Expr} {it : FA} {p pos : Pos}
theorem je_tupR (hm : X.mg "tuple" = none) (h : JR ct X e it) (hc : X.calm = true := by rfl) (hg : Gl X "tuple" := by rfl) (na : starEach [e] X.env = (false, eval e X.env) :: starEach [] X.env := by rfl) : JE ct X (.Call (.Name "tuple" p) [e] [] pos) (eTR it) := by
  refine ⟨(pe_tupRn hc hg hm h.pr na).imp fun σ H Q q => ?_⟩
  obtain ⟨G, env, S, v, S', g, h1, q⟩ := q
  obtain ⟨⟨x, S1⟩, e1, h1⟩ := Res.bind_ok h1
  dsimp only at h1
  split at h1
  · rename_i hz
    cases h1
    refine ⟨G, env, S, x, _, g, e1, fun i c n H1 A1 p1 s1 ex => ⟨by rw [ex, rgI_len] at hz; exact hz, fun p np => ?_⟩⟩
    have g1 := g.post p1 s1
    have r1 : RepL X.K ct H1 A1 G.M x (rgW i c n) := by rw [ex]; exact rgI_rep i c _
    exact q _ _ A1 (p1.trans (Post.grow g1.bs.nodup (same_new np))) (s1.grow g1.bs.nodup (same_new np)) (Rep.new_tup r1 np g1.inA g1.bs.inM g1.bs.nodup)
  · cases h1
theorem jf_lstR (hm : X.mg "list" = none) (h : JR ct X e it) (hc : X.calm = true := by rfl) (hg : Gl X "list" := by rfl) (na : starEach [e] X.env = (false, eval e X.env) :: starEach [] X.env := by rfl) : JF ct X (.Call (.Name "list" p) [e] [] pos) (eLR it) := by
  refine ⟨(pe_lstRn hc hg hm h.pr na).imp fun σ H Q q => ?_⟩
  obtain ⟨G, env, S, v, S', g, h1, q⟩ := q
  obtain ⟨⟨x, S1⟩, e1, h1⟩ := Res.bind_ok h1
  dsimp only at h1
  split at h1
  · rename_i hz
    cases h1
    refine ⟨G, env, S, x, _, g, e1, fun i c n H1 A1 p1 s1 ex => ⟨by rw [ex, rgI_len] at hz; exact hz, fun p np => ?_⟩⟩
    have r1 : RepL X.K ct H1 A1 G.M x (rgW i c n) := by rw [ex]; exact rgI_rep i c _
    obtain ⟨k1, k2, k3, k4, k5⟩ := fresh_lst g p1 s1 r1 np
    exact q p _ A1 k1 k2 k3 k4 k5
  · cases h1
end
end J
set_option Elab.async false
set_option linter.all false
set_option maxRecDepth 100000
set_option maxHeartbeats 3900000
/-! J: starred items of displays; d.items(), d.values() of dicts. -/
namespace J
open PySem L2 PySem.Spec PyProof.Rows
def aStar (a : FE) (r : FA) : FA := fun env S => (a env S).bind fun x => match x.1 with
  | .tup xs => (r env x.2).bind fun y => .ok (xs ++ y.1, y.2)
  | .lst xs => (r env x.2).bind fun y => .ok (xs ++ y.1, y.2)
  | _ => .err
section
variable {ct : Ct} {X : Cx} {a : Expr} {es : List Expr} {fa : FE} {fr : FA} {p : Pos}
theorem ja_star (ha : JE ct X a fa) (hr : JA ct X es fr) (hs : starEach (.Starred a p :: es) X.env = (true, eval a X.env) :: starEach es X.env := by rfl) : JA ct X (.Starred a p :: es) (aStar fa fr) := by
  refine ⟨(StX.pa_star ha.pe hr.pa hs).imp fun σ H Q h => ?_⟩
  obtain ⟨G, env, S, v, S', g, h1, q⟩ := h
  obtain ⟨⟨x, S1⟩, e1, h1⟩ := Res.bind_ok h1
  dsimp only at h1
  split at h1
  · rename_i xs
    obtain ⟨⟨y, S2⟩, e2, h1⟩ := Res.bind_ok h1
    cases h1
    refine ⟨G, env, S, _, S1, g, e1, fun z H1 A1 p1 s1 r1 => ?_⟩
    obtain ⟨ad, vs, rfl, k1, k2⟩ := r1.tup_inv
    have g1 := g.post p1 s1
    exact ⟨ad, vs, rfl, .inl k1.sqT, { G with A := A1 }, env, S1, y, _, g1, e2, fun ys H2 A2 p2 s2 r2 => q _ H2 A2 (p1.trans p2) s2 ((k2.lat (p2.lat G.M) _ _).append r2)⟩
  · rename_i xs
    obtain ⟨⟨y, S2⟩, e2, h1⟩ := Res.bind_ok h1
    cases h1
    refine ⟨G, env, S, _, S1, g, e1, fun z H1 A1 p1 s1 r1 => ?_⟩
    obtain ⟨ad, vs, rfl, k1, k2⟩ := r1.lst_inv
    have g1 := g.post p1 s1
    exact ⟨ad, vs, rfl, .inr k1.sqL, { G with A := A1 }, env, S1, y, _, g1, e2, fun ys H2 A2 p2 s2 r2 => q _ H2 A2 (p1.trans p2) s2 ((k2.lat (p2.lat G.M) _ _).append r2)⟩
  · cases h1
end
/-! ### views of a locked dict with tuple keys -/
section
variable {X : Cx} {pins : List (Addr × Obj)} {σ : L2.St} {H : Hp} {s : Shared} {d : Addr} {o : Obj}
/-- the cells of a locked dict -/
theorem frzT2 {kvs : List (List L2.Key × V)} (I : Inv X pins σ H s) (h : H d = some (.frz o (.dT kvs))) :
    (d == sysModules) = false ∧ s.heap.get? d = some o ∧ o.ExactDict ∧ ∃ (cells : Array DictEntry) (ep : Nat), o.data = .dict cells ep ∧ cells.size = kvs.length ∧
      ∀ (i : Nat) (k : List L2.Key) (v : V), kvs[i]? = some (k, v) → ∃ (cell : DictEntry) (q : Addr), cells[i]? = some cell ∧ cell.key = .ref q ∧ H q = some (.tup (k.map kV)) ∧ RelV v cell.val := by
  have ok := I.hok d _ h
  obtain ⟨here, _, own, xs, pr, ob, cells, ep, there, ex, dat, ents, _⟩ := ok
  have same : ob = o := Option.some.inj (there.symm.trans here)
  subst same
  have n1 : cells.size = xs.length := size_of_entries ents
  have n2 : kvs.length = xs.length := Paired.length pr
  refine ⟨own, here, ex, cells, ep, dat, n1.trans n2.symm, fun i k v told => ?_⟩
  obtain ⟨x, atx, _, keyAt, valAt⟩ := L2.paired_get pr told
  have en := entry_at ents i
  rw [atx] at en
  exact ⟨_, x.2.1, en, rfl, keyAt, valAt⟩
theorem frzT3 {kvs : List (List L2.Key × V)} {cells : Array DictEntry} {ep : Nat} (I : Inv X pins σ H s) (h : H d = some (.frz o (.dT kvs))) (dat : o.data = .dict cells ep) :
    s.heap.get? d = some o ∧ cells.size = kvs.length ∧ ∀ (i : Nat) (p : List L2.Key × V), kvs[i]? = some p → ∃ (cell : DictEntry) (q : Addr), cells[i]? = some cell ∧ cell.key = .ref q ∧ H q = some (.tup (p.1.map kV)) ∧ RelV p.2 cell.val := by
  obtain ⟨_, here, _, cs, e, dat2, size, told⟩ := frzT2 I h
  cases dat.symm.trans dat2
  exact ⟨here, size, fun i p => told i p.1 p.2⟩
end
def Itit (d : Addr) (o : Obj) (kvs : List (List L2.Key × V)) : It :=
  ⟨fun i H => H d = some (.frz o (.dT kvs)) ∧ i < kvs.length, fun i H x H' => ∃ (T : Addr) (k : List L2.Key) (v : V) (q : Addr), kvs[i]? = some (k, v) ∧ x = .ref T ∧ H T = none ∧ H q = some (.tup (k.map kV)) ∧ H' = upd H T (.tup [.ref q, v]), fun i H => H d = some (.frz o (.dT kvs)) ∧ kvs.length ≤ i⟩
def Itdt (d : Addr) (o : Obj) (kvs : List (List L2.Key × V)) : It :=
  ⟨fun i H => H d = some (.frz o (.dT kvs)) ∧ i < kvs.length, fun i H x H' => H' = H ∧ ∃ k, kvs[i]? = some (k, x), fun i H => H d = some (.frz o (.dT kvs)) ∧ kvs.length ≤ i⟩
theorem one1 {c it : Addr} (m : c ∈ [it]) : c = it := List.mem_singleton.mp m
section
variable {P : Program} {w : World} {K : PySem.W.Frag} {tg : Expr} {d : Addr} {o : Obj} {ep : Nat} {cells : Array DictEntry} {kvs : List (List L2.Key × V)}
theorem turn_valsT (it : Addr) (dat : o.data = .dict cells ep) : Turn P w K tg (Itdt d o kvs) [it] it (fun i h => h.get? it = some (DVw.valOb d i kvs.length ep)) where
  mem := List.mem_singleton.mpr rfl
  obj := fun i h got c m => by rw [one1 m]; exact ⟨_, got, fun v no => nomatch no⟩
  keep := fun i h h' got same => same it (List.mem_singleton.mpr rfl) _ got
  item := by
    rintro X rfl rfl rfl hc i pins s σ H E I free got ⟨inD, lt⟩
    obtain ⟨here, size, told⟩ := frzT3 I inD dat
    have atp : kvs[i]? = some kvs[i] := List.getElem?_eq_getElem lt
    obtain ⟨cell, _, atc, _, _, rel⟩ := told i _ atp
    obtain ⟨none1, loc, _, low, cel, pin⟩ := free it (List.mem_singleton.mpr rfl)
    refine DVw.val_item got here dat size atc fun h' got' but => ⟨cell.val, rfl, go_of (s := { s with heap := h' }) got' rfl rfl (by decide) ?_⟩
    exact ⟨kvs[i].2, H, I.turned (t' := s.toks) (fun c ob ne at' => (but.2 c ne).trans at') none1 loc low cel pin, rel, ⟨rfl, kvs[i].1, atp⟩, got', fun c m => (free c m).1⟩
  done := by
    rintro X rfl rfl rfl hc i pins s σ H E I free got ⟨inD, ge⟩
    obtain ⟨here, size, _⟩ := frzT3 I inD dat
    obtain ⟨none1, loc, _, low, cel, pin⟩ := free it (List.mem_singleton.mpr rfl)
    exact DVw.val_end (I.ok.hd hc) got here dat size (Array.getElem?_eq_none (by omega)) fun h' ext => ⟨rfl, I.turned (t' := s.toks) (fun c ob ne at' => ext c ob ne at') none1 loc low cel pin⟩
  self := fun A i s Q E got told => wpAny_pyIter_valiter (i := i) (n := kvs.length) (ep := ep) (d := d) ⟨_, got, rfl, rfl⟩ told
theorem turn_itemsT {elts : List Expr} {kk : Nat} {tpos : Pos} (it : Addr) (dat : o.data = .dict cells ep) :
    Turn P w K (.Tuple elts kk tpos) (Itit d o kvs) [it] it (fun i h => ∃ k v, h.get? it = some (DVw.itmOb d .none i kvs.length ep k v)) where
  mem := List.mem_singleton.mpr rfl
  obj := fun i h ⟨k, v, got⟩ c m => by rw [one1 m]; exact ⟨_, got, fun v no => nomatch no⟩
  keep := fun i h h' ⟨k, v, got⟩ same => ⟨k, v, same it (List.mem_singleton.mpr rfl) _ got⟩
  item := by
    rintro X rfl rfl rfl hc i pins s σ H E I free ⟨k0, v0, got⟩ ⟨inD, lt⟩
    obtain ⟨here, size, told⟩ := frzT3 I inD dat
    have atp : kvs[i]? = some kvs[i] := List.getElem?_eq_getElem lt
    obtain ⟨cell, q, atc, isq, keyAt, rel⟩ := told i _ atp
    have itlt : it < s.heap.objs.size := Heap.lt_size got
    refine DVw.itm_item got here dat size atc fun h' got' pair _ rest => ⟨_, rfl, ?_⟩
    refine wpAny_letOwnedTupleGo_items (s := { s with heap := h' }) (d := d) (i := i + 1) (n := kvs.length) (ep := ep) (ok := cell.key) (ov := cell.val) got' fun h2 got2 but => ?_
    have pair2 := (but.2 _ (Nat.ne_of_gt itlt)).trans pair
    have isTup : ObjOk X.prog X.w (upd H s.heap.objs.size (.tup [.ref q, kvs[i].2])) h2 s.heap.objs.size (.tup [.ref q, kvs[i].2]) :=
      ⟨show 2 ≤ sizeLine by decide, [cell.key, cell.val], .cons isq (.cons rel .nil), ⟨_, pair2, rfl, _, rfl⟩⟩
    refine ⟨.ref s.heap.objs.size, _, I.turnedNew (t' := s.toks) (ch := [it]) (fun c ob m at' => ?_) free (Nat.le_refl _) isTup, rfl, ⟨_, kvs[i].1, kvs[i].2, q, atp, rfl, I.hok.fresh (Nat.le_refl _), keyAt, rfl⟩, ⟨_, _, got2⟩, fun c m => ?_⟩
    · have ne : c ≠ it := fun e => m (List.mem_singleton.mpr e)
      exact (but.2 c ne).trans (rest c ob ne at')
    · rw [one1 m, upd_ne (Nat.ne_of_lt itlt)]
      exact (free it (List.mem_singleton.mpr rfl)).1
  done := by
    rintro X rfl rfl rfl hc i pins s σ H E I free ⟨k0, v0, got⟩ ⟨inD, ge⟩
    obtain ⟨here, size, _⟩ := frzT3 I inD dat
    obtain ⟨none1, loc, _, low, cel, pin⟩ := free it (List.mem_singleton.mpr rfl)
    exact DVw.itm_end (I.ok.hd hc) got here dat size (Array.getElem?_eq_none (by omega)) fun h' ext => ⟨rfl, I.turned (t' := s.toks) (fun c ob ne at' => ext c ob ne at') none1 loc low cel pin⟩
  self := fun A i s Q E ⟨_, _, got⟩ told => PySem.W.kcp_self got told
end
section
variable {X : Cx} {e tg : Expr} {td : TE} {apos cpos : Pos}
/-- d.values(): a new view -/
theorem meetsVals {prog : Program} {w : World} {d : Addr} {es : Array DictEntry} {ep : Nat} (own : (d == sysModules) = false) :
    MeetsIn prog w (Builtin.«dict.values» ⟨[.ref d], []⟩) (fun _ R s => DT.Raw s.heap d es ep ∧
      R (.ok (.ret (.ref s.heap.objs.size))) { s with heap := s.heap.push { cls := .type "dict_values", data := .fields #[.ref d] } }) := by
  refine .of_wp fun A R s ⟨raw, told⟩ => ?_
  have shows : Builtin.Dict.showsAll d = pure () := by
    unfold Builtin.Dict.showsAll
    rw [own]
    rfl
  show wpAny _ _ (Builtin.Dict.noArgs "values" ⟨[.ref d], []⟩ >>= _) _ _ s
  refine wpAny_bind ?_
  unfold Builtin.Dict.noArgs
  refine wpAny_bind (wpAny_notOrdered_dict raw.typeIs (wpAny_pure ?_))
  show wpAny _ _ (Builtin.Dict.showsAll d >>= fun _ => _) _ _ s
  rw [shows]
  exact wpAny_bind (wpAny_pure (wpAny_bind (wpAny_newObj_type (wpAny_pure ⟨_, rfl, told⟩))))
/-- the new view, and what is gone through -/
theorem view_pi {pins : List (Addr × Obj)} {s : Shared} {σ : L2.St} {H : Hp} {d : Addr} {o : Obj} {kvs : List (List L2.Key × V)} (I : Inv X pins σ H s) (inD : H d = some (.frz o (.dT kvs))) :
    ∃ cells ep, o.data = .dict cells ep ∧ cells.size = kvs.length ∧ DT.Raw s.heap d cells ep ∧ s.heap.get? d = some o ∧ (d == sysModules) = false ∧ ∀ a, Value.ref d = .ref a → ∃ ob, s.heap.get? a = some ob ∧ ob.dict = none := by
  obtain ⟨own, here, ex, cells, ep, dat, size, _⟩ := frzT2 I inD
  exact ⟨cells, ep, dat, size, ⟨o, here, ex, dat⟩, here, own, fun a e => ⟨o, by cases e; exact here, ex.2.1⟩⟩
theorem pi_itemsT {elts : List Expr} {kk : Nat} {tpos : Pos} (he : PE X e td) (hbase : attributeBase e "items" X.env (eval e X.env) = eval e X.env := by rfl) (hline : (apos.endLine == cpos.line) = true := by rfl) :
    PI X (.Tuple elts kk tpos) (.Call (.Attribute e "items" apos) [] [] cpos) (fun σ H R => td σ H fun x H1 => ∃ d o kvs, x = .ref d ∧ H1 d = some (.frz o (.dT kvs)) ∧ R (Itit d o kvs) H1) := by
  refine ⟨fun pins s σ H R I told => wpAny_Call_method (T := "dict") (id := "dict.items") hbase rfl hline F.plainAttrs_dict F.slot_dict_items F.type_dict_items (thn (he.run pins s σ H _ I told) ?_)⟩
  rintro u s1 ⟨_, H1, I1, rel, d, o, kvs, rfl, inD, q⟩
  cases (show u = Value.ref d from rel)
  obtain ⟨cells, ep, dat, size, raw, here, own, plain⟩ := view_pi I1 inD
  refine ⟨raw.typeIs, plain, method_meetsIn F.slot_dict_items F.entry_dict_items rfl (PySem.evalArgs_none ⟨rfl, raw.typeIs, F.args_dict_items_1 _, _, DT.meetsItems (es := cells) (ep := ep) own, raw, ?_⟩)⟩
  refine DSub.iter_itms (a := d) (ob := o) (es := cells) (ep := ep) (Heap.get?_push_size _ rfl) (Heap.get?_push_of_some _ here) dat (pi_one (tk := s1.toks) (I1.kept (t' := s1.toks) fun b ob got => Heap.get?_push_of_some _ got) _ (turn_itemsT _ dat) ⟨.none, .none, by rw [← size]; exact Heap.get?_push_size _ rfl⟩ q)
theorem pi_valsT (he : PE X e td) (hbase : attributeBase e "values" X.env (eval e X.env) = eval e X.env := by rfl) (hline : (apos.endLine == cpos.line) = true := by rfl) :
    PI X tg (.Call (.Attribute e "values" apos) [] [] cpos) (fun σ H R => td σ H fun x H1 => ∃ d o kvs, x = .ref d ∧ H1 d = some (.frz o (.dT kvs)) ∧ R (Itdt d o kvs) H1) := by
  refine ⟨fun pins s σ H R I told => wpAny_Call_method (T := "dict") (id := "dict.values") hbase rfl hline F.plainAttrs_dict F.slot_dict_values F.type_dict_values (thn (he.run pins s σ H _ I told) ?_)⟩
  rintro u s1 ⟨_, H1, I1, rel, d, o, kvs, rfl, inD, q⟩
  cases (show u = Value.ref d from rel)
  obtain ⟨cells, ep, dat, size, raw, here, own, plain⟩ := view_pi I1 inD
  refine ⟨raw.typeIs, plain, method_meetsIn F.slot_dict_values F.entry_dict_values rfl (PySem.evalArgs_none ⟨rfl, raw.typeIs, F.args_dict_values_1 _, _, meetsVals (es := cells) (ep := ep) own, raw, ?_⟩)⟩
  refine DSub.iter_vals (a := d) (ob := o) (es := cells) (ep := ep) (Heap.get?_push_size _ rfl) (Heap.get?_push_of_some _ here) dat (pi_one (tk := s1.toks) (I1.kept (t' := s1.toks) fun b ob got => Heap.get?_push_of_some _ got) _ (turn_valsT _ dat) (by rw [← size]; exact Heap.get?_push_size _ rfl) q)
end
/-! ### the rules -/
def iItm (f : FE) : FA := fun env S => (f env S).bind fun x => match x.1 with
  | .dic true ks vs => .ok (zipP ks vs, x.2)
  | _ => .err
def iVal (f : FE) : FA := fun env S => (f env S).bind fun x => match x.1 with
  | .dic true _ vs => .ok (vs, x.2)
  | _ => .err
theorem zipP_ln : ∀ (xs ys : List PV), xs.length = ys.length → (zipP xs ys).length = xs.length
  | [], [], _ => by simp [zipP]
  | x :: r, y :: s, h => by rw [zipP, List.length_cons, zipP_ln r s (by simpa using h), List.length_cons]
theorem zipP_at : ∀ (xs ys : List PV) (i : Nat) (x y : PV), xs[i]? = some x → ys[i]? = some y → (zipP xs ys)[i]? = some (.tup [x, y])
  | a :: r, b :: s, 0, x, y, h, h' => by
    rw [zipP]
    simp only [List.getElem?_cons_zero, Option.some.injEq] at h h' ⊢
    rw [h, h']
  | a :: r, b :: s, i + 1, x, y, h, h' => by
    rw [zipP]
    simp only [List.getElem?_cons_succ] at h h' ⊢
    exact zipP_at r s i x y h h'
section
variable {ct : Ct} {X : Cx} {tg e : Expr} {f : FE} {apos cpos : Pos}
theorem it_itemsT {K : PySem.W.Frag} {A M : List Addr} {H : Hp} {d : Addr} {o : Obj} {ws : List (List L2.Key × V)} {vs : List PV} (h : H d = some (.frz o (.dT ws))) (nA : d ∉ A) (nM : d ∉ M) (r : RepL K ct H A M vs (ws.map (·.2))) : ItOk K ct (Itit d o ws) A M H (zipP (ws.map fun w => .tup (w.1.map keyV)) vs) := fun A' M' H' l hx => by
  obtain ⟨h', _, _⟩ := l.vis d _ h nA nM
  have r' := r.lat l vs _
  have hl : vs.length = ws.length := by have := r.length; rw [List.length_map] at this; exact this.symm
  rw [zipP_ln _ _ (by rw [List.length_map]; exact hl.symm), List.length_map]
  refine ⟨fun i hi => ⟨h', hi⟩, ⟨h', Nat.le_refl _⟩, fun i x H'' hi y => ?_⟩
  obtain ⟨T, k, v, q, e1, e2, e3, e4, e5⟩ := y
  subst e2
  obtain ⟨p, h1, h2⟩ := r'.getV (i := i) (v := v) (by rw [List.getElem?_map, e1]; rfl)
  have rk : Rep K ct H' A' M' (.tup (k.map keyV)) (.ref q) := by
    simp only [Rep]
    exact ⟨q, _, rfl, ⟨e4, fun z => hx.noA q z _ e4, fun z => hx.noM q z _ e4⟩, RepL.of_keys k⟩
  obtain ⟨k1, k2⟩ := pair_rep (ct := ct) hx e3 rk h2 e5
  exact ⟨k1, _, zipP_at _ _ i _ _ (by rw [List.getElem?_map, e1]; rfl) h1, k2⟩
theorem it_valsT {K : PySem.W.Frag} {A M : List Addr} {H : Hp} {d : Addr} {o : Obj} {ws : List (List L2.Key × V)} {vs : List PV} (h : H d = some (.frz o (.dT ws))) (nA : d ∉ A) (nM : d ∉ M) (r : RepL K ct H A M vs (ws.map (·.2))) : ItOk K ct (Itdt d o ws) A M H vs := fun A' M' H' l hx => by
  obtain ⟨h', _, _⟩ := l.vis d _ h nA nM
  have r' := r.lat l vs _
  have hl : vs.length = ws.length := by have := r.length; rw [List.length_map] at this; exact this.symm
  rw [hl]
  refine ⟨fun i hi => ⟨h', hi⟩, ⟨h', Nat.le_refl _⟩, fun i x H'' hi y => ?_⟩
  obtain ⟨e0, k, e1⟩ := y
  subst e0
  obtain ⟨p, h1, h2⟩ := r'.getV (i := i) (v := x) (by rw [List.getElem?_map, e1]; rfl)
  exact ⟨Same.refl _, p, h1, h2⟩
theorem ji_items {elts : List Expr} {kk : Nat} {tpos : Pos} (h : JE ct X e f) (hbase : attributeBase e "items" X.env (eval e X.env) = eval e X.env := by rfl) (hline : (apos.endLine == cpos.line) = true := by rfl) : JI ct X (.Tuple elts kk tpos) (.Call (.Attribute e "items" apos) [] [] cpos) (iItm f) := by
  refine ⟨(pi_itemsT h.pe hbase hline).imp fun σ H R q => ?_⟩
  obtain ⟨G, env, S, v, S', g, h1, q⟩ := q
  obtain ⟨⟨x, S1⟩, e1, h1⟩ := Res.bind_ok h1
  dsimp only at h1
  split at h1
  · cases h1
    refine ⟨G, env, S, _, _, g, e1, fun y H1 A1 p1 s1 r1 => ?_⟩
    simp only [Rep] at r1
    obtain ⟨a, rfl, r1⟩ := r1
    rcases r1 with ⟨ht, _⟩ | ⟨ht, ws, ⟨⟨o, h8⟩, h2, h3⟩, rfl, h5⟩
    · cases ht
    · exact ⟨a, o, ws, rfl, h8, q _ H1 A1 p1 s1 (it_itemsT h8 h2 h3 h5)⟩
  · cases h1
theorem ji_vals (h : JE ct X e f) (hbase : attributeBase e "values" X.env (eval e X.env) = eval e X.env := by rfl) (hline : (apos.endLine == cpos.line) = true := by rfl) : JI ct X tg (.Call (.Attribute e "values" apos) [] [] cpos) (iVal f) := by
  refine ⟨(pi_valsT h.pe hbase hline).imp fun σ H R q => ?_⟩
  obtain ⟨G, env, S, v, S', g, h1, q⟩ := q
  obtain ⟨⟨x, S1⟩, e1, h1⟩ := Res.bind_ok h1
  dsimp only at h1
  split at h1
  · cases h1
    refine ⟨G, env, S, _, _, g, e1, fun y H1 A1 p1 s1 r1 => ?_⟩
    simp only [Rep] at r1
    obtain ⟨a, rfl, r1⟩ := r1
    rcases r1 with ⟨ht, _⟩ | ⟨ht, ws, ⟨⟨o, h8⟩, h2, h3⟩, rfl, h5⟩
    · cases ht
    · exact ⟨a, o, ws, rfl, h8, q _ H1 A1 p1 s1 (it_valsT h8 h2 h3 h5)⟩
  · cases h1
end
end J
set_option Elab.async false
set_option linter.all false
set_option maxRecDepth 100000
set_option maxHeartbeats 3900000
/-! J: list comprehensions with two generators. -/
namespace J
open PySem L2
structure GW (g : GN) (ws : List Nat) : Prop where
  off : ∀ v env en, g v env = some en → ∀ j, j ∉ ws → en[j]? = env[j]?
  on : ∀ v env en, g v env = some en → ∀ j, j ∈ ws → ∀ w, en[j]? ≠ some (Slot.own w)
structure GWs (g : GNs) (ws : List Nat) : Prop where
  off : ∀ v env en, g v env = some en → ∀ j, j ∉ ws → en[j]? = env[j]?
  on : ∀ v env en, g v env = some en → ∀ j, j ∈ ws → ∀ w, en[j]? ≠ some (Slot.own w)
theorem gw_n (i : Nat) : GW (gN i) [i] := by
  refine ⟨fun v env en e j hj => ?_, fun v env en e j hj w => ?_⟩
  · cases e
    exact List.getElem?_set_ne fun z => hj (by simp [z])
  · cases e
    have : j = i := by simpa using hj
    subst this
    rw [List.getElem?_set]
    simp only [if_true]
    split
    · simp
    · simp
theorem gws_nil : GWs gNn [] := by
  refine ⟨fun v env en e j hj => ?_, fun v env en e j hj => ?_⟩
  · unfold gNn at e
    split at e
    · cases e; rfl
    · cases e
  · cases hj
theorem gws_cons {g : GN} {gs : GNs} {ws us : List Nat} (h : GW g ws) (h' : GWs gs us) : GWs (gNc g gs) (ws ++ us) := by
  refine ⟨fun v env en e j hj => ?_, fun v env en e j hj w => ?_⟩
  · unfold gNc at e
    split at e
    · obtain ⟨e1, k1, k2⟩ := Option.bind_eq_some_iff.mp e
      rw [h'.off _ _ _ k2 j (fun z => hj (List.mem_append_right _ z)), h.off _ _ _ k1 j (fun z => hj (List.mem_append_left _ z))]
    · cases e
  · unfold gNc at e
    split at e
    · obtain ⟨e1, k1, k2⟩ := Option.bind_eq_some_iff.mp e
      by_cases hu : j ∈ us
      · exact h'.on _ _ _ k2 j hu w
      · rw [h'.off _ _ _ k2 j hu]
        exact h.on _ _ _ k1 j ((List.mem_append.mp hj).resolve_right hu) w
    · cases e
theorem gw_t {n : Nat} {gs : GNs} {us : List Nat} (h : GWs gs us) : GW (gT n gs) us := by
  refine ⟨fun v env en e j hj => ?_, fun v env en e j hj w => ?_⟩
  · unfold gT at e
    split at e
    · split at e
      · exact h.off _ _ _ e j hj
      · cases e
    · split at e
      · exact h.off _ _ _ e j hj
      · cases e
    · cases e
  · unfold gT at e
    split at e
    · split at e
      · exact h.on _ _ _ e j hj w
      · cases e
    · split at e
      · exact h.on _ _ _ e j hj w
      · cases e
    · cases e
/-- the list that a comprehension fills grows -/
theorem Good.updD {K : PySem.W.Frag} {ct : Ct} {G : Gh} {σ : L2.St} {H : Hp} {env : Env} {S : Sto} {D : Addr} {l : List V} (g : Good K ct G σ H env S) (hm : D ∈ G.M) (h0 : G.H0 D = none) (hown : ∀ (j : Nat) (w : PV), env[j]? = some (Slot.own w) → σ[j]? ≠ some (some (V.ref D))) :
    Good K ct G σ (upd H D (.lst l)) env S := by
  have lu : Lat G.A G.M H G.A G.M (upd H D (.lst l)) := lat_upd (.inr hm)
  have nDA : D ∉ G.A := g.bs.disj D hm
  refine ⟨⟨⟨g.bs.sto.len, fun n a us k1 k2 => ?_⟩, g.bs.nodup, fun a ha => ?_, g.bs.disj, fun a ha vs ev => ?_⟩, fun j sl hs => ?_, g.uniq, fun a o k1 k2 => ?_, g.pre0, g.new0, g.sub0, g.in0, g.len⟩
  · obtain ⟨ws', k3, k4⟩ := g.bs.sto.at' n a us k1 k2
    exact ⟨ws', by rw [upd_ne (fun zz => nDA (by rw [← zz]; exact List.mem_of_getElem? k1))]; exact k3, k4.lat lu us ws'⟩
  · by_cases hap : a = D
    · subst hap; rw [upd_same]; simp
    · rw [upd_ne hap]; exact g.bs.inM a ha
  · by_cases hap : a = D
    · subst hap; rw [upd_same] at ev; cases ev
    · rw [upd_ne hap] at ev; exact g.bs.noT a ha vs ev
  · have qs := g.slot j sl hs
    cases sl with
    | un => trivial
    | val w => obtain ⟨u, k1, k2⟩ := qs; exact ⟨u, k1, k2.lat lu w u⟩
    | own w =>
      obtain ⟨p', k1, k2, k3, k4⟩ := qs
      have hne : p' ≠ D := fun zz => by
        subst zz
        exact hown j w hs k1
      exact ⟨p', k1, k2, k3, k4.lat lu (by rw [upd_ne hne])⟩
  · have hne : a ≠ D := fun zz => by
      subst zz
      rw [h0] at k1; cases k1
    rw [upd_ne hne]; exact g.ext0 a o k1 k2
theorem wipeE_own : ∀ (vs : List Nat) (env : Env) (j : Nat) (w : PV), (wipeE env vs)[j]? = some (.own w) → j ∉ vs ∧ env[j]? = some (.own w)
  | [], env, j, w, h => ⟨by simp, h⟩
  | v :: vs, env, j, w, h => by
    unfold wipeE at h
    rw [List.getElem?_set] at h
    by_cases e : v = j
    · rw [if_pos e] at h
      split at h
      · simp at h
      · cases h
    · rw [if_neg e] at h
      obtain ⟨h1, h2⟩ := wipeE_own vs env j w h
      exact ⟨by simp only [List.mem_cons, not_or]; exact ⟨fun z => e z.symm, h1⟩, h2⟩
theorem wipe_off : ∀ (vs : List Nat) (σ : L2.St) (j : Nat), j ∉ vs → (wipe σ vs)[j]? = σ[j]?
  | [], σ, j, _ => rfl
  | v :: vs, σ, j, h => by
    unfold wipe
    rw [List.getElem?_set_ne (fun z => h (by simp [z])), wipe_off vs σ j (fun z => h (by simp [z]))]
def lc2L (g : GN) (t : FT) (it1 : FA) (vs1 : List Nat) (g1 : GN) (t1 : FT) (e : FE) : List PV → Env → Sto → Res (List PV × Sto)
  | [], _, S => .ok ([], S)
  | x :: r, env, S => (ofO (g x env)).bind fun en => (t en S).bind fun b => if b.1 then (it1 en b.2).bind fun xs => (lcL g1 t1 e xs.1 (wipeE en vs1) xs.2).bind fun ys => (lc2L g t it1 vs1 g1 t1 e r env ys.2).bind fun z => .ok (ys.1 ++ z.1, z.2) else lc2L g t it1 vs1 g1 t1 e r env b.2
def eLc2 (vs vs1 : List Nat) (it : FA) (g : GN) (t : FT) (it1 : FA) (g1 : GN) (t1 : FT) (e : FE) : FE := fun env S => (it env S).bind fun xs => (lc2L g t it1 vs1 g1 t1 e xs.1 (wipeE env vs) xs.2).bind fun ys => if ys.1.length ≤ 1000000 then .ok (.lst ys.1, ys.2) else .err
theorem rdF_lc2 {K : PySem.W.Frag} {ct : Ct} {vs ws vs1 ws1 : List Nat} {it it1 : FA} {g g1 : GN} {t t1 : FT} {e : FE} (gw : GW g ws) (hw : ∀ j ∈ ws, j ∈ vs) (hw1 : ∀ j ∈ ws1, j ∈ vs1) {σ : L2.St} {H : Hp} {Q : VK} (h : rdF K ct (eLc2 vs vs1 it g t it1 g1 t1 e) σ H Q) :
    tLc2 (rdI K ct it) (rdN K ct ws g) (rdT K ct t) (rdI K ct it1) (rdN K ct ws1 g1) (rdT K ct t1) (rd K ct e) vs vs1 σ H Q := by
  obtain ⟨G, env, S, v, Sz, gd, h1, q⟩ := h
  obtain ⟨⟨xs, S1⟩, e1, h1⟩ := Res.bind_ok h1
  obtain ⟨⟨ys, S2⟩, e2, h1⟩ := Res.bind_ok h1
  dsimp only at h1 e2
  split at h1
  · rename_i hsz
    cases h1
    refine ⟨G, env, S, xs, S1, gd, e1, fun J H1 A1 p1 s1 io D nD => ?_⟩
    have g1' := gd.post p1 s1
    have smD : Same H1 (upd H1 D (.lst [])) := same_new nD
    have nDH : H D = none := by
      cases eD : H D with
      | none => rfl
      | some o =>
        by_cases ha : D ∈ G.A
        · exact absurd nD (g1'.inA D (p1.pre.subset ha))
        · rw [p1.ext D o eD ha] at nD; cases nD
    have h0D : G.H0 D = none := gd.fresh0 nDH
    have ownO : ∀ (j : Nat) (w : PV), (wipeE env vs)[j]? = some (Slot.own w) → (wipe σ vs)[j]? ≠ some (some (V.ref D)) := fun j w k1 k2 => by
      obtain ⟨p'', k5, k6, k7, k8⟩ := ((gd.wipe vs).slot j _ k1)
      rw [k5] at k2
      cases k2
      exact gd.bs.inM D k6 nDH
    refine ⟨fun i m Hc => m = xs.length - i ∧ i ≤ xs.length ∧ ∃ A' S' acc accV zs, Good K ct { G with A := A', M := D :: G.M } (wipe σ vs) Hc (wipeE env vs) S' ∧ Lat A1 G.M H1 A' (D :: G.M) Hc ∧ Post G.A H A' Hc ∧ Hc D = some (.lst accV) ∧
      RepL K ct Hc A' (D :: G.M) acc accV ∧ lc2L g t it1 vs1 g1 t1 e (xs.drop i) (wipeE env vs) S' = .ok (zs, Sz) ∧ ys = acc ++ zs, ⟨xs.length, by simp, Nat.zero_le _, A1, S1, [], [], ys, (g1'.hide nD smD (by rw [upd_same]; simp) (by rw [upd_same]; simp)).wipe vs, lat_hide nD smD, p1.trans (Post.grow g1'.bs.nodup smD), upd_same, .nil, by simpa using e2, rfl⟩, ?_⟩
    rintro i m Hc ⟨rfl, hi, Ac, Sc, acc, accV, zs, gc, lc, pc, hD, rD, ec, ey⟩
    obtain ⟨go, stop, yl⟩ := io Ac (D :: G.M) Hc lc gc.hx
    by_cases hlt : i < xs.length
    · refine .inr ⟨go i hlt, fun Hn => i + 1 ≤ xs.length ∧ ∃ A' S' acc accV zs, Good K ct { G with A := A', M := D :: G.M } (wipe σ vs) Hn (wipeE env vs) S' ∧ Lat A1 G.M H1 A' (D :: G.M) Hn ∧ Post G.A H A' Hn ∧ Hn D = some (.lst accV) ∧
        RepL K ct Hn A' (D :: G.M) acc accV ∧ lc2L g t it1 vs1 g1 t1 e (xs.drop (i + 1)) (wipeE env vs) S' = .ok (zs, Sz) ∧ ys = acc ++ zs, fun Hn qn => ⟨xs.length - (i + 1), by omega, rfl, qn⟩, fun x H3 hy => ?_⟩
      obtain ⟨sm, v, hv, rv⟩ := yl i x H3 hlt hy
      rw [drop_cons hv] at ec
      obtain ⟨en, e3, ec⟩ := Res.bind_ok ec
      obtain ⟨⟨b, S4⟩, e4, ec⟩ := Res.bind_ok ec
      have g3 := gc.grow sm
      have pp3 : Post Ac Hc Ac H3 := Post.grow gc.bs.nodup sm
      refine ⟨_, _, Sc, v, en, g3, rv, ofO_ok e3, fun σ4 k1 k2 g4 => ⟨wipe_same k1 k2 hw, _, en, Sc, b, S4, g4, e4, fun H5 A5 p5 s5 => ?_⟩⟩
      have l5 : Lat A1 G.M H1 A5 (D :: G.M) H5 := lc.trans ((pp3.trans p5).lat _)
      have q5 : Post G.A H A5 H5 := pc.trans (pp3.trans p5)
      have nDA : D ∉ Ac := gc.bs.disj D List.mem_cons_self
      have hD5 : H5 D = some (.lst accV) := p5.ext D _ (sm D _ hD) nDA
      have r5 := rD.lat ((pp3.trans p5).lat (D :: G.M)) acc accV
      have g5w : Good K ct { G with A := A5, M := D :: G.M } (wipe σ vs) H5 (wipeE env vs) S4 := g3.post p5 s5
      cases b with
      | true =>
        dsimp only at ec ⊢
        rw [if_pos rfl] at ec ⊢
        obtain ⟨⟨xs1, S6⟩, e6, ec⟩ := Res.bind_ok ec
        obtain ⟨⟨ys1, S9⟩, e9, ec⟩ := Res.bind_ok ec
        obtain ⟨⟨z, S10⟩, e10, ec⟩ := Res.bind_ok ec
        cases ec
        refine ⟨_, en, S4, xs1, S6, g4.post p5 s5, e6, fun J1 H7 A7 p7 s7 io1 => ?_⟩
        have g7w := g5w.post p7 s7
        have g7i := ((g4.post p5 s5).post p7 s7).wipe vs1
        have nDA5 : D ∉ A5 := g5w.bs.disj D List.mem_cons_self
        have hD7 : H7 D = some (.lst accV) := p7.ext D _ hD5 nDA5
        have r7 := r5.lat (p7.lat (D :: G.M)) acc accV
        have ownI : ∀ (j : Nat) (w : PV), (wipeE en vs1)[j]? = some (Slot.own w) → (wipe σ4 vs1)[j]? ≠ some (some (V.ref D)) := fun j w m1 m2 => by
          obtain ⟨n1, n2⟩ := wipeE_own vs1 en j w m1
          rw [wipe_off vs1 σ4 j n1] at m2
          have n3 : j ∉ ws := fun z => gw.on _ _ _ (ofO_ok e3) j z w n2
          rw [gw.off _ _ _ (ofO_ok e3) j n3] at n2
          rw [k1 j n3] at m2
          exact ownO j w n2 m2
        refine ⟨fun j k Hi => k = xs1.length - j ∧ j ≤ xs1.length ∧ ∃ A' S' acc' accV' zs', Good K ct { G with A := A', M := D :: G.M } (wipe σ vs) Hi (wipeE env vs) S' ∧ Good K ct { G with A := A', M := D :: G.M } (wipe σ4 vs1) Hi (wipeE en vs1) S' ∧ Lat A1 G.M H1 A' (D :: G.M) Hi ∧ Lat A7 (D :: G.M) H7 A' (D :: G.M) Hi ∧ Post G.A H A' Hi ∧ Hi D = some (.lst accV') ∧
          RepL K ct Hi A' (D :: G.M) acc' accV' ∧ lcL g1 t1 e (xs1.drop j) (wipeE en vs1) S' = .ok (zs', S9) ∧ ys = acc' ++ (zs' ++ z), ⟨xs1.length, by simp, Nat.zero_le _, A7, S6, acc, accV, ys1, g7w, g7i, l5.trans (p7.lat _), Lat.refl _ _ _, q5.trans p7, hD7, r7, by simpa using e9, ey⟩, ?_⟩
        rintro j k Hi ⟨rfl, hj, Ai, Si, acc', accV', zs', go1, gi1, lo1, li1, po1, hDi, rDi, eci, eyi⟩
        obtain ⟨go1', stop1, yl1⟩ := io1 Ai (D :: G.M) Hi li1 gi1.hx
        by_cases hlj : j < xs1.length
        · refine .inr ⟨go1' j hlj, fun Hn => j + 1 ≤ xs1.length ∧ ∃ A' S' acc' accV' zs', Good K ct { G with A := A', M := D :: G.M } (wipe σ vs) Hn (wipeE env vs) S' ∧ Good K ct { G with A := A', M := D :: G.M } (wipe σ4 vs1) Hn (wipeE en vs1) S' ∧ Lat A1 G.M H1 A' (D :: G.M) Hn ∧ Lat A7 (D :: G.M) H7 A' (D :: G.M) Hn ∧ Post G.A H A' Hn ∧ Hn D = some (.lst accV') ∧
            RepL K ct Hn A' (D :: G.M) acc' accV' ∧ lcL g1 t1 e (xs1.drop (j + 1)) (wipeE en vs1) S' = .ok (zs', S9) ∧ ys = acc' ++ (zs' ++ z), fun Hn qn => ⟨xs1.length - (j + 1), by omega, rfl, qn⟩, fun x1 H8 hy1 => ?_⟩
          obtain ⟨sm1, v1, hv1, rv1⟩ := yl1 j x1 H8 hlj hy1
          rw [drop_cons hv1] at eci
          obtain ⟨en1, f3, eci⟩ := Res.bind_ok eci
          obtain ⟨⟨b1, T4⟩, f4, eci⟩ := Res.bind_ok eci
          have go8 := go1.grow sm1
          have gi8 := gi1.grow sm1
          have pp8 : Post Ai Hi Ai H8 := Post.grow gi1.bs.nodup sm1
          refine ⟨_, _, Si, v1, en1, gi8, rv1, ofO_ok f3, fun σ5 m1 m2 g9 => ⟨wipe_same m1 m2 hw1, _, en1, Si, b1, T4, g9, f4, fun H10 A10 p10 s10 => ?_⟩⟩
          have pq : Post Ai Hi A10 H10 := pp8.trans p10
          have nDAi : D ∉ Ai := gi1.bs.disj D List.mem_cons_self
          have hD10 : H10 D = some (.lst accV') := p10.ext D _ (sm1 D _ hDi) nDAi
          have r10 := rDi.lat (pq.lat (D :: G.M)) acc' accV'
          have go10 := go8.post p10 s10
          have gi10 := gi8.post p10 s10
          cases b1 with
          | true =>
            dsimp only at eci ⊢
            rw [if_pos rfl] at eci ⊢
            obtain ⟨⟨y, T6⟩, f6, eci⟩ := Res.bind_ok eci
            obtain ⟨⟨zz, T7⟩, f7, eci⟩ := Res.bind_ok eci
            cases eci
            refine ⟨_, en1, T4, y, T6, g9.post p10 s10, f6, fun yv H11 A11 p11 s11 r11 => ?_⟩
            have go11 := go10.post p11 s11
            have gi11 := gi10.post p11 s11
            have nDA10 : D ∉ A10 := go10.bs.disj D List.mem_cons_self
            have hD11 : H11 D = some (.lst accV') := p11.ext D _ hD10 nDA10
            have r12 := r10.lat (p11.lat (D :: G.M)) acc' accV'
            have hm : D ∈ D :: G.M := List.mem_cons_self
            have lu : Lat A11 (D :: G.M) H11 A11 (D :: G.M) (upd H11 D (.lst (accV' ++ [yv]))) := lat_upd (.inr hm)
            refine ⟨accV', hD11, ?_, hlj, A11, T6, acc' ++ [y], accV' ++ [yv], zz, go11.updD hm h0D ownO, gi11.updD hm h0D ownI, ((lo1.trans (pq.lat _)).trans (p11.lat _)).trans lu, ((li1.trans (pq.lat _)).trans (p11.lat _)).trans lu, ?_, upd_same, (r12.append (.cons r11 .nil)).lat lu _ _, f7, by rw [eyi]; simp⟩
            · have l3 := congrArg List.length eyi
              rw [rDi.length]
              simp only [List.length_append, List.length_cons] at l3
              exact Nat.lt_of_lt_of_le (show acc'.length < 1000001 by omega) (by decide)
            · have q8 : Post G.A H A11 H11 := (po1.trans pq).trans p11
              exact ⟨q8.pre, fun a o z1 z2 => by
                rw [upd_ne (fun w => by subst w; rw [nDH] at z1; cases z1)]; exact q8.ext a o z1 z2, q8.new, q8.nodup⟩
          | false =>
            dsimp only at eci ⊢
            rw [if_neg Bool.false_ne_true] at eci ⊢
            exact ⟨hlj, A10, T4, acc', accV', zs', go10, gi10, lo1.trans (pq.lat _), li1.trans (pq.lat _), po1.trans pq, hD10, r10, eci, eyi⟩
        · have hn : j = xs1.length := by omega
          subst hn
          rw [List.drop_length] at eci
          cases eci
          refine .inl ⟨stop1, hlt, Ai, _, acc', accV', z, go1, lo1, po1, hDi, rDi, e10, by simpa using eyi⟩
      | false =>
        dsimp only at ec ⊢
        rw [if_neg Bool.false_ne_true] at ec ⊢
        exact ⟨hlt, A5, S4, acc, accV, zs, g5w, l5, q5, hD5, r5, ec, ey⟩
    · have hn : i = xs.length := by omega
      subst hn
      rw [List.drop_length] at ec
      cases ec
      rw [List.append_nil] at ey
      subst ey
      refine .inl ⟨stop, q D Hc Ac pc nDH (gc.bs.disj D List.mem_cons_self) gc.bs.sto ⟨accV, hD, rD⟩⟩
  · cases h1
section
variable {ct : Ct} {X : Cx} {tg iter tg1 iter1 elt : Expr} {ifs ifs1 : List Expr} {it it1 : FA} {g g1 : GN} {ws ws1 : List Nat} {t t1 : FT} {fe : FE} {pos : Pos} {scope : Scope}
theorem jf_lc2 (own : List (Str × Nat)) (vs1 : List Nat) (hN : X.N.Nodup) (hi : JI ct X tg iter it) (ok : BlkOk X.N X.env.scope scope own)
    (hg : ∀ (s : Shared) (H : Hp) (C : Addr) (cl : List (Str × Addr)) (fp : List Addr), JN ct (X.blk s H scope (compEnvC scope cl C X.env) fp) tg ws g) (gw : GW g ws)
    (ht : ∀ (s : Shared) (H : Hp) (C : Addr) (cl : List (Str × Addr)) (fp : List Addr), JTs ct (X.blk s H scope (compEnvC scope cl C X.env) fp) ifs t)
    (hi1 : ∀ (s : Shared) (H : Hp) (C : Addr) (cl : List (Str × Addr)) (fp : List Addr), JI ct (X.blk s H scope (compEnvC scope cl C X.env) fp) tg1 iter1 it1)
    (hg1 : ∀ (s : Shared) (H : Hp) (C : Addr) (cl : List (Str × Addr)) (fp : List Addr), JN ct (X.blk s H scope (compEnvC scope cl C X.env) fp) tg1 ws1 g1)
    (ht1 : ∀ (s : Shared) (H : Hp) (C : Addr) (cl : List (Str × Addr)) (fp : List Addr), JTs ct (X.blk s H scope (compEnvC scope cl C X.env) fp) ifs1 t1)
    (he : ∀ (s : Shared) (H : Hp) (C : Addr) (cl : List (Str × Addr)) (fp : List Addr), JE ct (X.blk s H scope (compEnvC scope cl C X.env) fp) elt fe) (hc : X.calm = true := by rfl) (hw : ∀ j ∈ ws, j ∈ own.map (·.2) := by decide) (hw1 : ∀ j ∈ ws1, j ∈ vs1 := by decide) (hv : ∀ i ∈ vs1, i ∈ own.map (·.2) := by decide)
    (hs : ∀ x, foldedSetIterable iter X.env x = pure x := by intro _; rfl) (hs1 : ∀ env x, foldedSetIterable iter1 env x = pure x := by intro _ _; rfl) :
    JF ct X (.ListComp elt [⟨tg, iter, ifs, 0⟩, ⟨tg1, iter1, ifs1, 0⟩] scope pos) (eLc2 (own.map (·.2)) vs1 it g t it1 g1 t1 fe) :=
  ⟨(pe_lc2 hc hN hi.pi ok hv (fun s H C cl fp => (hg s H C cl fp).pg) (fun s H C cl fp => (ht s H C cl fp).pts) (fun s H C cl fp => (hi1 s H C cl fp).pi) (fun s H C cl fp => (hg1 s H C cl fp).pg) (fun s H C cl fp => (ht1 s H C cl fp).pts) (fun s H C cl fp => (he s H C cl fp).pe) hs hs1).imp fun _ _ _ h => rdF_lc2 gw hw hw1 h⟩
theorem js_ownLc2 (i : Nat) (own : List (Str × Nat)) (vs1 : List Nat) {y : Str} {py spos : Pos} (hN : X.N.Nodup) (hi : JI ct X tg iter it) (ok : BlkOk X.N X.env.scope scope own)
    (hg : ∀ (s : Shared) (H : Hp) (C : Addr) (cl : List (Str × Addr)) (fp : List Addr), JN ct (X.blk s H scope (compEnvC scope cl C X.env) fp) tg ws g) (gw : GW g ws)
    (ht : ∀ (s : Shared) (H : Hp) (C : Addr) (cl : List (Str × Addr)) (fp : List Addr), JTs ct (X.blk s H scope (compEnvC scope cl C X.env) fp) ifs t)
    (hi1 : ∀ (s : Shared) (H : Hp) (C : Addr) (cl : List (Str × Addr)) (fp : List Addr), JI ct (X.blk s H scope (compEnvC scope cl C X.env) fp) tg1 iter1 it1)
    (hg1 : ∀ (s : Shared) (H : Hp) (C : Addr) (cl : List (Str × Addr)) (fp : List Addr), JN ct (X.blk s H scope (compEnvC scope cl C X.env) fp) tg1 ws1 g1)
    (ht1 : ∀ (s : Shared) (H : Hp) (C : Addr) (cl : List (Str × Addr)) (fp : List Addr), JTs ct (X.blk s H scope (compEnvC scope cl C X.env) fp) ifs1 t1)
    (he : ∀ (s : Shared) (H : Hp) (C : Addr) (cl : List (Str × Addr)) (fp : List Addr), JE ct (X.blk s H scope (compEnvC scope cl C X.env) fp) elt fe) (hc : X.calm = true := by rfl) (hy : X.N[i]? = some y := by rfl) (hyl : X.env.scope.names.lookup y = some .local := by rfl)
    (hsw : swapsWith (.ListComp elt [⟨tg, iter, ifs, 0⟩, ⟨tg1, iter1, ifs1, 0⟩] scope pos) (some (.Name y py)) spos.line X.env = pure true := by exact sw_true rfl rfl rfl (by decide +kernel)) (hw : ∀ j ∈ ws, j ∈ own.map (·.2) := by decide) (hw1 : ∀ j ∈ ws1, j ∈ vs1 := by decide) (hv : ∀ i ∈ vs1, i ∈ own.map (·.2) := by decide)
    (hs : ∀ x, foldedSetIterable iter X.env x = pure x := by intro _; rfl) (hs1 : ∀ env x, foldedSetIterable iter1 env x = pure x := by intro _ _; rfl) :
    JS ct X (.Assign [.Name y py] (.ListComp elt [⟨tg, iter, ifs, 0⟩, ⟨tg1, iter1, ifs1, 0⟩] scope pos) spos) (sOwn i (eLc2 (own.map (·.2)) vs1 it g t it1 g1 t1 fe)) :=
  ⟨(ps_setLc2 hc hN hy hyl hsw hi.pi ok hv (fun s H C cl fp => (hg s H C cl fp).pg) (fun s H C cl fp => (ht s H C cl fp).pts) (fun s H C cl fp => (hi1 s H C cl fp).pi) (fun s H C cl fp => (hg1 s H C cl fp).pg) (fun s H C cl fp => (ht1 s H C cl fp).pts) (fun s H C cl fp => (he s H C cl fp).pe) hs hs1).imp fun D σ H h => rdF_lc2 gw hw hw1 (asg_own h)⟩
end
end J
set_option Elab.async false
set_option linter.all false
set_option maxRecDepth 100000
set_option maxHeartbeats 3900000
/-! J: x is not True; sum(d.values()); a, b = two new ones. -/
namespace J
open PySem L2 PySem.Spec PyProof.Rows
section
variable {X : Cx}
theorem op_notB : OpR X (compareOp .IsNot) (fun x y H Q => ∃ a b, x = .bl a ∧ y = .bl b ∧ Q (.bl (!decide (a = b))) H) := by
  rintro pins s σ H _ _ v u Q inv rx ry ⟨a, b, rfl, rfl, told⟩
  have ev : v = Value.bool a := rx
  have eu : u = Value.bool b := ry
  rw [ev, eu]
  cases a <;> cases b
  · exact wpAny_isNot_self rfl ⟨.bl false, H, inv, rfl, told⟩
  · exact wpAny_isNot_other rfl (fun e => nomatch e) ⟨.bl true, H, inv, rfl, told⟩
  · exact wpAny_isNot_other rfl (fun e => nomatch e) ⟨.bl true, H, inv, rfl, told⟩
  · exact wpAny_isNot_self rfl ⟨.bl false, H, inv, rfl, told⟩
end
def pNotB : PV → PV → Option PV
  | .bl a, .bl b => some (.bl (!decide (a = b)))
  | _, _ => none
theorem ok_notB {K : PySem.W.Frag} {ct : Ct} : OpOk K ct (fun x y H Q => ∃ a b, x = .bl a ∧ y = .bl b ∧ Q (.bl (!decide (a = b))) H) pNotB := fun H A M x y vx vy v Q hx rx ry e q => by
  unfold pNotB at e
  split at e
  · cases e
    exact ⟨_, _, rx.bl, ry.bl, q _ H (Same.refl H) (Rep.bl_iff.mpr rfl)⟩
  · cases e
section
variable {ct : Ct} {X : Cx} {a b : Expr} {fa fb : FE} {pos : Pos}
theorem je_notB (ha : JB ct X a fa) (hb : JB ct X b fb) : JE ct X (.Compare a [.IsNot] [b] pos) (eOp pNotB fa fb) := je_cmp op_notB ok_notB ha hb
theorem jt_notB (ha : JB ct X a fa) (hb : JB ct X b fb) : JT ct X (.Compare a [.IsNot] [b] pos) (tV (eOp pNotB fa fb)) := jt_cmp op_notB ok_notB ha hb
end
def sParFF (i j : Nat) (a b : FE) : FS := fun env S => (a env S).bind fun x => (b env x.2).bind fun y => .ok (.nx ((env.set i (.own x.1)).set j (.own y.1)) y.2)
section
variable {ct : Ct} {X : Cx} {a b : Expr} {fa fb : FE} {pos : Pos}
theorem js_parFF (i j : Nat) {x y : Str} {px py pt : Pos} {kt k2 pt2} (hN : X.N.Nodup) (ha : JF ct X a fa) (hb : JF ct X b fb) (hc : X.calm = true := by rfl) (hi : X.N[i]? = some x := by rfl) (hj : X.N[j]? = some y := by rfl) (hij : i ≠ j := by decide)
    (hx : X.env.scope.names.lookup x = some .local := by rfl) (hy : X.env.scope.names.lookup y = some .local := by rfl) (he : starEach [a, b] X.env = (false, eval a X.env) :: starEach [b] X.env := by rfl) (he2 : starEach [b] X.env = (false, eval b X.env) :: starEach [] X.env := by rfl)
    (hw : swappedStores [.Tuple [.Name x px, .Name y py] kt pt] (.Tuple [a, b] k2 pt2) X.env = pure (some [x, y]) := by rfl) (hs : swapsWithSole [.Tuple [.Name x px, .Name y py] kt pt] (.Tuple [a, b] k2 pt2) pos.line X.env = pure false := by rfl) :
    JS ct X (.Assign [.Tuple [.Name x px, .Name y py] kt pt] (.Tuple [a, b] k2 pt2) pos) (sParFF i j fa fb) := by
  refine ⟨(ps_par hc hN hi hj hij hx hy (pa_cons ha.pe (pa_cons hb.pe pa_nil he2) he) hw hs).imp fun D σ H h => ?_⟩
  obtain ⟨G, env, S, fl, gd, e, h⟩ := h
  obtain ⟨⟨u, S1⟩, e1, e2⟩ := Res.bind_ok e
  obtain ⟨⟨v, S2⟩, e3, e2⟩ := Res.bind_ok e2
  cases e2
  refine ⟨G, env, S, u, S1, gd, e1, fun p H1 A1 pp np nA s c => ?_⟩
  obtain ⟨lat, g1, fr⟩ := gd.hideF pp np nA s c
  refine ⟨_, env, S1, v, _, g1, e3, fun r H2 A2 pp2 np2 nA2 s2 c2 => ⟨_, _, rfl, ?_⟩⟩
  obtain ⟨lat2, g2, fr2⟩ := g1.hideF pp2 np2 nA2 s2 c2
  obtain ⟨o, ho⟩ := c.there
  have cp : Cont X.K ct H2 A2 (r :: p :: G.M) p u := c.lat lat2 ((pp2.ext p o ho nA).trans ho.symm)
  have g3 := g2.setOwn (i := i) (List.mem_cons_of_mem _ List.mem_cons_self) (gd.fresh0 np) cp fun l z _ hl => fr l z hl
  refine h _ H2 A2 (r :: p :: G.M) (lat.trans lat2) (g3.setOwn List.mem_cons_self (g1.fresh0 np2) c2 fun l z hne hl hz => ?_)
  rcases getSet hl with ⟨h1, h0, _⟩ | ⟨hn, hl⟩
  · subst h1
    rw [List.getElem?_set] at hz
    simp only [if_true] at hz
    split at hz
    · simp only [Option.some.injEq, V.ref.injEq] at hz
      subst hz
      rw [np2] at ho
      cases ho
    · cases hz
  · rw [List.getElem?_set_ne hn] at hz
    exact fr2 l z hl hz
end
/-! ### sum(d.values()) -/
theorem preSum_getD (ns : List Int) : ∀ n, n ≤ ns.length → preSum (fun i => ns.getD i 0) n = (ns.take n).sum
  | 0, _ => rfl
  | n + 1, h => by
    show preSum _ n + ns.getD n 0 = _
    rw [preSum_getD ns n (by omega), List.take_succ, List.sum_append, List.getD_eq_getElem?_getD, List.getElem?_eq_getElem (by omega)]
    simp
section
variable {X : Cx} {e : Expr} {td : TE} {apos cpos p pos : Pos}
theorem pe_sumV (hc : X.calm = true) (hg : Gl X "sum") (hm : X.mg "sum" = none) (he : PE X e td) (hbase : attributeBase e "values" X.env (eval e X.env) = eval e X.env := by rfl) (hline : (apos.endLine == cpos.line) = true := by rfl)
    (na : starEach [.Call (.Attribute e "values" apos) [] [] cpos] X.env = (false, eval (.Call (.Attribute e "values" apos) [] [] cpos) X.env) :: starEach [] X.env := by rfl) :
    PE X (.Call (.Name "sum" p) [.Call (.Attribute e "values" apos) [] [] cpos] [] pos) (fun σ H Q => td σ H fun x H1 => ∃ d o kvs, ∃ ns : List Int, x = .ref d ∧ H1 d = some (.frz o (.dT kvs)) ∧ kvs.map (·.2) = ns.map V.int ∧ Q (.int ns.sum) H1) := by
  refine ⟨fun pins s σ H Q I told => wpAny_Call_Name_kw (ld_blt (u := .builtin "sum") I hg hm (by decide +kernel) (PyProof.Rows.callWith_builtin1 (args_cons ?_ na) na rfl) (by decide) (by decide))⟩
  refine wpAny_Call_method (T := "dict") (id := "dict.values") hbase rfl hline F.plainAttrs_dict F.slot_dict_values F.type_dict_values (thn (he.run pins s σ H _ I told) ?_)
  rintro u s1 ⟨_, H1, I1, rel, d, o, kvs, ns, rfl, inD, told2, q⟩
  cases (show u = Value.ref d from rel)
  obtain ⟨cells, ep, dat, size, raw, here, own, plain⟩ := view_pi I1 inD
  obtain ⟨_, _, entry⟩ := frzT3 I1 inD dat
  have many : ns.length = kvs.length := by
    have := congrArg List.length told2
    rw [List.length_map, List.length_map] at this
    exact this.symm
  have dlt : d < s1.heap.objs.size := Heap.lt_size here
  refine ⟨raw.typeIs, plain, method_meetsIn F.slot_dict_values F.entry_dict_values rfl (PySem.evalArgs_none ⟨rfl, raw.typeIs, F.args_dict_values_1 _, _, meetsVals (es := cells) (ep := ep) own, raw, args_nil (call_sum_walkG ?_)⟩)⟩
  refine DSub.iter_vals (a := d) (ob := o) (es := cells) (ep := ep) (Heap.get?_push_size _ rfl) (Heap.get?_push_of_some _ here) dat ?_
  have later : ∀ {c : Addr} {ob : Obj}, s1.heap.get? c = some ob → c ≠ (s1.heap.push { cls := .type "dict_values", data := .fields #[.ref d] }).objs.size := fun {c ob} got => by
    rw [Heap.size_push]
    exact Nat.ne_of_lt (Nat.lt_succ_of_lt (Heap.lt_size got))
  refine ⟨_, _, _, _, _, _, fun i => ns.getD i 0, rfl, DSub.walksVal (A := X.A.in1) (P := fun i v => ∃ t, v = .int (ns.getD i 0) t) (I1.ok.hd hc) (later here) dat (fun i cell at' => ?_), ⟨Heap.get?_push_size _ rfl, Heap.get?_push_of_some _ (Heap.get?_push_of_some _ here)⟩, fun c m => ?_, fun i v told => told, fun h' tk t' keep => ?_⟩
  · have lt : i < kvs.length := size ▸ (Array.getElem?_eq_some_iff.mp at').1
    obtain ⟨cell2, _, at2, _, _, rel⟩ := entry i kvs[i] (List.getElem?_eq_getElem lt)
    cases (at'.symm.trans at2)
    have val : kvs[i].2 = V.int ns[i] := by
      have := congrArg (fun l : List V => l[i]?) told2
      simp only [List.getElem?_map, List.getElem?_eq_getElem lt, List.getElem?_eq_getElem (show i < ns.length by omega), Option.map_some] at this
      exact Option.some.inj this
    rw [val] at rel
    obtain ⟨t, et⟩ := rel
    exact ⟨t, et.trans (by rw [List.getD_eq_getElem?_getD, List.getElem?_eq_getElem (show i < ns.length by omega)]; rfl)⟩
  · rcases List.mem_cons.mp m with e | m
    · rw [e]; exact Heap.lt_size (Heap.get?_push_size _ rfl)
    · rw [one1 m]; exact Heap.lt_size (Heap.get?_push_of_some _ (Heap.get?_push_of_some _ here))
  · have all : preSum (fun i => ns.getD i 0) cells.size = ns.sum := by
      rw [size, ← many, preSum_getD ns _ (Nat.le_refl _), List.take_of_length_le (Nat.le_refl _)]
    exact ⟨.int ns.sum, H1, I1.kept fun c ob got => keep c ob (fun m => later got (List.mem_singleton.mp m)) (Heap.get?_push_of_some _ (Heap.get?_push_of_some _ got)), ⟨t', by rw [all]⟩, q⟩
end
def pSumV : PV → Option PV
  | .dic true _ vs => (intsP vs).map fun ns => .int ns.sum
  | _ => none
section
variable {ct : Ct} {X : Cx} {e : Expr} {f : FE} {apos cpos p pos : Pos}
theorem je_sumV (hm : X.mg "sum" = none) (h : JE ct X e f) (hc : X.calm = true := by rfl) (hg : Gl X "sum" := by rfl) (hbase : attributeBase e "values" X.env (eval e X.env) = eval e X.env := by rfl) (hline : (apos.endLine == cpos.line) = true := by rfl)
    (na : starEach [.Call (.Attribute e "values" apos) [] [] cpos] X.env = (false, eval (.Call (.Attribute e "values" apos) [] [] cpos) X.env) :: starEach [] X.env := by rfl) :
    JE ct X (.Call (.Name "sum" p) [.Call (.Attribute e "values" apos) [] [] cpos] [] pos) (eUn pSumV f) := by
  refine ⟨(pe_sumV hc hg hm h.pe hbase hline na).imp fun σ H Q q => ?_⟩
  obtain ⟨G, env, S, v, S', g, h1, q⟩ := q
  obtain ⟨⟨x, S1⟩, e1, h1⟩ := Res.bind_ok h1
  obtain ⟨z, e2, h1⟩ := Res.bind_ok h1
  cases h1
  have e3 := ofO_ok e2
  dsimp only at e3
  unfold pSumV at e3
  split at e3
  · rename_i ks vs
    obtain ⟨ns, e4, rfl⟩ := Option.map_eq_some_iff.mp e3
    refine ⟨G, env, S, _, _, g, e1, fun y H1 A1 p1 s1 r1 => ?_⟩
    simp only [Rep] at r1
    obtain ⟨a, rfl, r1⟩ := r1
    rcases r1 with ⟨ht, _⟩ | ⟨ht, ws, ⟨⟨o, h8⟩, h2, h3⟩, rfl, h5⟩
    · cases ht
    · have ex := intsP_eq e4
      subst ex
      exact ⟨a, o, ws, ns, rfl, h8, h5.ints, q _ H1 A1 p1 s1 (Rep.int_iff.mpr rfl)⟩
  · cases e3
end
end J
set_option Elab.async false
set_option linter.all false
set_option maxRecDepth 100000
set_option maxHeartbeats 3900000
/-! J: zip of two lists or tuples; tuple[::-1]. -/
namespace J
open PySem L2 PySem.Spec PyProof.Rows
section
variable {K : PySem.W.Frag} {ct : Ct} {A M : List Addr} {H : Hp}
theorem it_zipL {a b : Addr} {xs ys : List PV} {vs ws : List V} (h : Vw H A M a (.lst vs)) (r : RepL K ct H A M xs vs) (h2 : Vw H A M b (.lst ws)) (r2 : RepL K ct H A M ys ws) : ItOk K ct (Itz K a b) A M H (zipP xs ys) := fun A' M' H' l hx => by
  have q : SqL K H' a vs := (h.lat l).sqL
  have q2 : SqL K H' b ws := (h2.lat l).sqL
  have r' := r.lat l xs vs
  have r2' := r2.lat l ys ws
  have hl := r.length
  have hl2 := r2.length
  rw [zipP_length]
  refine ⟨fun i hi => ⟨vs, ws, vs[i]'(by omega), ws[i]'(by omega), q, q2, by simp [show i < vs.length by omega], by simp [show i < ws.length by omega]⟩, ⟨vs, ws, q, q2, by omega⟩, fun i x H'' hi y => ?_⟩
  obtain ⟨T, u, z, e1, e2, e3, e4, e5⟩ := y
  obtain ⟨p, k1, k2⟩ := r'.getV (e4 vs q)
  obtain ⟨p2, k3, k4⟩ := r2'.getV (e5 ws q2)
  subst e1
  obtain ⟨m1, m2⟩ := pair_rep (ct := ct) hx e2 k2 k4 e3
  exact ⟨m1, _, zipP_get _ _ _ _ _ k1 k3, m2⟩
theorem it_zipT {a b : Addr} {xs ys : List PV} {vs ws : List V} (h : Vw H A M a (.tup vs)) (r : RepL K ct H A M xs vs) (h2 : Vw H A M b (.tup ws)) (r2 : RepL K ct H A M ys ws) : ItOk K ct (RZ.ItzT K a b) A M H (zipP xs ys) := fun A' M' H' l hx => by
  have q : SqT K H' a vs := (h.lat l).sqT
  have q2 : SqT K H' b ws := (h2.lat l).sqT
  have r' := r.lat l xs vs
  have r2' := r2.lat l ys ws
  have hl := r.length
  have hl2 := r2.length
  rw [zipP_length]
  refine ⟨fun i hi => ⟨vs, ws, vs[i]'(by omega), ws[i]'(by omega), q, q2, by simp [show i < vs.length by omega], by simp [show i < ws.length by omega]⟩, ⟨vs, ws, q, q2, by omega⟩, fun i x H'' hi y => ?_⟩
  obtain ⟨T, u, z, e1, e2, e3, e4, e5⟩ := y
  obtain ⟨p, k1, k2⟩ := r'.getV (e4 vs q)
  obtain ⟨p2, k3, k4⟩ := r2'.getV (e5 ws q2)
  subst e1
  obtain ⟨m1, m2⟩ := pair_rep (ct := ct) hx e2 k2 k4 e3
  exact ⟨m1, _, zipP_get _ _ _ _ _ k1 k3, m2⟩
end
section
variable {ct : Ct} {X : Cx} {a b : Expr} {fa : FA} {p pos : Pos}
theorem ji_zip {elts : List Expr} {kk : Nat} {tpos : Pos} (hm : X.mg "zip" = none) (h : JA ct X [a, b] fa) (hg : Gl X "zip" := by rfl) (hs : starEach [a, b] X.env = (false, eval a X.env) :: starEach [b] X.env := by rfl) (hpl : (backTo pos (starEach [b] X.env)).any (·.1) = false := by rfl) : JI ct X (.Tuple elts kk tpos) (.Call (.Name "zip" p) [a, b] [] pos) (iZp fa) := by
  refine ⟨(RZ.pi_zipA hg hm h.pa hs hpl).imp fun σ H R q => ?_⟩
  obtain ⟨G, env, S, v, S', g, h1, q⟩ := q
  obtain ⟨⟨x, S1⟩, e1, h1⟩ := Res.bind_ok h1
  dsimp only at h1
  split at h1
  · cases h1
    refine ⟨G, env, S, _, _, g, e1, fun y H1 A1 p1 s1 r1 => ?_⟩
    obtain ⟨u, v, rfl, k1, k2⟩ := r1.two
    obtain ⟨ad, vs, rfl, h3, h4⟩ := k1.lst_inv
    obtain ⟨ad2, ws, rfl, h5, h6⟩ := k2.lst_inv
    exact ⟨ad, ad2, vs, ws, rfl, .inl ⟨h3.sqL, h5.sqL, q _ H1 A1 p1 s1 (it_zipL h3 h4 h5 h6)⟩⟩
  · cases h1
    refine ⟨G, env, S, _, _, g, e1, fun y H1 A1 p1 s1 r1 => ?_⟩
    obtain ⟨u, v, rfl, k1, k2⟩ := r1.two
    obtain ⟨ad, vs, rfl, h3, h4⟩ := k1.tup_inv
    obtain ⟨ad2, ws, rfl, h5, h6⟩ := k2.tup_inv
    exact ⟨ad, ad2, vs, ws, rfl, .inr ⟨h3.sqT, h5.sqT, q _ H1 A1 p1 s1 (it_zipT h3 h4 h5 h6)⟩⟩
  · cases h1
end
/-! ### tuple[::-1] -/
theorem adjust_rev (n : Nat) : Builtin.Slice.sliceAdjust none none (-1) (n : Int) = ((n : Int) - 1, -1) := by simp [Builtin.Slice.sliceAdjust]
theorem places_rev (n : Nat) : Builtin.Slice.slicePlaces ((n : Int) - 1) (-1) (-1) = n := by simp [Builtin.Slice.slicePlaces] <;> (split <;> omega)
theorem fm_congr {α β : Type} {f g : α → Option β} : ∀ l : List α, (∀ x ∈ l, f x = g x) → l.filterMap f = l.filterMap g
  | [], _ => rfl
  | a :: r, h => by rw [List.filterMap_cons, List.filterMap_cons, h a (by simp), fm_congr r fun x hx => h x (by simp [hx])]
theorem pick_rev (l : List Value) : (List.range l.length).filterMap (fun (k : Nat) => l.toArray[((l.length : Int) - 1 + (k : Int) * (-1)).toNat]?) = l.reverse := by
  have e : (List.range l.length).filterMap (fun (k : Nat) => l.toArray[((l.length : Int) - 1 + (k : Int) * (-1)).toNat]?) = (List.range l.length).filterMap (fun (k : Nat) => l.reverse.toArray[k]?) := by
    refine fm_congr _ fun k hk => ?_
    have hk' := List.mem_range.mp hk
    rw [List.getElem?_toArray, List.getElem?_toArray, List.getElem?_reverse hk']
    congr 1
    omega
  rw [e]
  have := pick_run l.reverse.toArray 0 l.length
  simp only [Nat.zero_add, List.map_id'] at this
  rw [this, List.drop_zero, List.take_of_length_le (by rw [List.length_reverse]; exact Nat.le_refl _)]
section
variable {P : Program} {wo : World} {B : Around} {X : Value → Shared → Prop} {s : Shared}
theorem sliceApplied_rev {sl : Addr} {vl vu vs : Value} {n : Nat} {Q : Int × Int × Nat → Shared → Prop} (hs : s.heap.IsSliceOf sl vl vu vs) (pl : IsPart vl none) (pu : IsPart vu none) (ps : IsPart vs (some (-1)))
    (h : Q ((n : Int) - 1, -1, n) s) : wpAny (model P wo) B (Builtin.Slice.sliceApplied (.ref sl) (pure (n : Int))) Q X s := by
  have h' : Q ((n : Int) - 1, -1, Builtin.Slice.slicePlaces ((n : Int) - 1) (-1) (-1)) s := (places_rev n).symm ▸ h
  obtain ⟨ob, o1, -, o3⟩ := hs
  delta Builtin.Slice.sliceApplied Builtin.Slice.sliceFields
  refine wpAny_bind (wpAny_bind (wpAny_field o1 o3 (x := vl) rfl (wpAny_bind (wpAny_field o1 o3 (x := vu) rfl (wpAny_bind (wpAny_field o1 o3 (x := vs) rfl (wpAny_pure (wpAny_bind (HT.slicePart_ ps ?_)))))))))
  show wpAny _ _ (if ((-1 : Int) == 0) = true then _ else _) _ _ s
  rw [if_neg (by decide)]
  refine wpAny_bind (HT.slicePart_ pl (wpAny_bind (HT.slicePart_ pu (wpAny_bind (wpAny_pure ?_)))))
  show wpAny _ _ (match Builtin.Slice.sliceAdjust none none (-1) (n : Int) with | (lo, hi) => pure (lo, (-1 : Int), Builtin.Slice.slicePlaces lo hi (-1))) _ _ s
  rw [adjust_rev n]
  exact wpAny_pure h'
theorem tupExact {t : Array Value} {Q : Value → Shared → Prop} (h : Q (.ref s.heap.objs.size) { s with heap := s.heap.push { cls := .type "tuple", data := .seq t } }) (hz : sizeOk (.seq t)) : wpAny (model P wo) B (Builtin.Tuple.tupleExact t) Q X s :=
  wpAny_newObj_type h hz
theorem getItem_tup_rev {t sl : Addr} {its : List Value} {vl vu vs : Value} {Q : Value → Shared → Prop} (ht : IsTup s.heap t its.toArray) (hs : s.heap.IsSliceOf sl vl vu vs) (pl : IsPart vl none) (pu : IsPart vu none) (ps : IsPart vs (some (-1)))
    (h : Q (.ref s.heap.objs.size) { s with heap := s.heap.push { cls := .type "tuple", data := .seq its.reverse.toArray } })
    (hsz : its.length ≤ sizeLine) : wpAny (model P wo) B (getItem (.ref t) (.ref sl)) Q X s := by
  have hz : sizeOk (.seq its.reverse.toArray) := by
    show its.reverse.toArray.size ≤ sizeLine
    rw [List.size_toArray, List.length_reverse]
    exact hsz
  have hTy : s.TypeIs (.ref sl) "slice" := by
    obtain ⟨ob, o1, o2, -⟩ := hs
    exact ⟨ob, o1, o2⟩
  delta getItem
  refine wpAny_holding ?_
  refine wpAny_bind (wpAny_sequenceKey ht.typeIs (by decide) (wpAny_bind (wpAny_callSpecial?_slot (name := Str.ofString "__getitem__") ht.typeIs PyProof.Rows.slot_tuple_getitem (wpAny_call_entry PyProof.Rows.slot_tuple_getitem ht.typeIs entry_tuple_getitem ?_ (args_tuple_getitem _ _)))))
  refine wpAny_bind (m := Builtin.Tuple.tupleItemsOf (.ref t)) (tupleItemsOf_ ht (wpAny_bind (wpAny_typeOf hTy ?_)))
  rw [if_pos (by decide)]
  refine wpAny_bind (sliceApplied_rev hs pl pu ps ?_)
  have hno : ¬ ((((its.toArray.size : Int) - 1) == 0 && (-1 : Int) == 1 && its.toArray.size == its.toArray.size) = true) := by simp
  show wpAny _ _ (if (((its.toArray.size : Int) - 1) == 0 && (-1 : Int) == 1 && its.toArray.size == its.toArray.size) = true then _ else _) _ _ s
  rw [if_neg hno]
  have hp : ((List.range its.toArray.size).filterMap fun (k : Nat) => its.toArray[((its.toArray.size : Int) - 1 + (k : Int) * (-1)).toNat]?).toArray = its.reverse.toArray := by
    rw [List.size_toArray, pick_rev]
  rw [hp]
  exact wpAny_bind (tupExact (wpAny_pure ⟨_, rfl, wpAny_pure h⟩) hz)
end
section
variable {X : Cx}
theorem pe_revT {e : Expr} {te : TE} {k : Nat} {p1 p2 p3 pos : Pos} (he : PE X e te) : PE X (.Subscript e (.Slice none none (some (.UnaryOp .USub (.Constant (.int 1) k p1) p2)) p3) pos) (fun σ H Q => te σ H fun x H1 => ∃ a xs, x = .ref a ∧ SqT X.K H1 a xs ∧ ∀ p, H1 p = none → Q (.ref p) (upd H1 p (.tup xs.reverse))) := by
  refine ⟨fun pinsQ s σ H Q I h => ?_⟩
  refine Subscript_ (thn (he.run pinsQ s σ H _ I h) fun v s1 ⟨x, H1, I1, r1, q1⟩ => ?_)
  obtain ⟨a, xs, rfl, hx, q⟩ := q1
  cases r1
  have hst : PO X (some (.UnaryOp .USub (.Constant (.int 1) k p1) p2)) (tPart (tUn (rU fun z => .int (-z)) (tC (.int 1)))) := po_some (pe_un un_neg pe_int)
  refine wpAny_Slice (thn (po_none.run pinsQ s1 σ H1 (fun o H2 => o = none ∧ H2 = H1) I1 ⟨rfl, rfl⟩) fun vl s2 ⟨l, H2, I2, pl, el, e2⟩ => ?_)
  subst el e2
  refine thn (po_none.run pinsQ s2 σ H2 (fun o H3 => o = none ∧ H3 = H2) I2 ⟨rfl, rfl⟩) fun vu s3 ⟨u, H3, I3, pu, eu, e3⟩ => ?_
  subst eu e3
  refine thn (hst.run pinsQ s3 σ H3 (fun o H4 => o = some (-1) ∧ H4 = H3) I3 ⟨1, rfl, -1, rfl, rfl, rfl⟩) fun vs s4 ⟨o, H4, I4, ps, eo, e4⟩ => ?_
  subst eo e4
  have I5 : Inv X pinsQ σ H4 { s4 with heap := s4.heap.push { cls := .type "slice", data := .fields #[vl, vu, vs] } } := I4.kept (t' := s4.toks) fun b ob q => Heap.get?_push_of_some _ q
  obtain ⟨its, r, ht, hz⟩ := I5.tuple hx
  have hlen := r.length
  show wpAny (model X.prog X.w) X.A (subscriptTail e (.Slice none none (some (.UnaryOp .USub (.Constant (.int 1) k p1) p2)) p3) (.ref a) (.ref s4.heap.objs.size)) (EP X pinsQ σ Q) X.xe { s4 with heap := s4.heap.push { cls := .type "slice", data := .fields #[vl, vu, vs] } }
  refine tail_any (ops := [.ref a, .ref s4.heap.objs.size]) ht.typeIs (PyProof.Rows.slot_tuple_getitem.lookup) ?_ (by with_unfolding_all rfl)
  refine getItem_tup_rev ht (Heap.IsSliceOf.new _ vl vu vs) pl pu ps ?_ (by omega)
  refine ⟨.ref _, _, I5.laid (t' := s4.toks) (o := .tup xs.reverse) (fun b ob q => Heap.get?_push_of_some _ q) (Nat.le_refl _) ?_, rfl, q _ (I5.hok.fresh (Nat.le_refl _))⟩
  exact ⟨by rw [List.length_reverse]; exact hz, _, r.reverse, IsTup.new _ _⟩
end
def pRevA : PV → Option PV
  | .lst xs => some (.lst xs.reverse)
  | .tup xs => some (.tup xs.reverse)
  | _ => none
section
variable {ct : Ct} {X : Cx} {a : Expr} {fa : FE} {pos : Pos}
theorem je_revA {k : Nat} {q1 q2 q3 : Pos} (ha : JB ct X a fa) : JE ct X (.Subscript a (.Slice none none (some (.UnaryOp .USub (.Constant (.int 1) k q1) q2)) q3) pos) (eUn pRevA fa) := by
  refine ⟨((pe_revL ha.pe).or (pe_revT ha.pe)).imp fun σ H Q h => ?_⟩
  obtain ⟨G, env, S, v, S', g, h1, q⟩ := h
  obtain ⟨⟨x, S1⟩, e1, h1⟩ := Res.bind_ok h1
  obtain ⟨z, e3, h1⟩ := Res.bind_ok h1
  cases h1
  have e4 := ofO_ok e3
  cases x with
  | lst xs =>
    cases e4
    refine .inl ⟨G, env, S, _, _, g, e1, fun x' H1 A1 p1 s1 r1 => ?_⟩
    have g1 := g.post p1 s1
    obtain ⟨ad, vs, rfl, k1, k2⟩ := r1.lst
    refine ⟨ad, vs, rfl, .inl (.inl k1), fun p np => ?_⟩
    obtain ⟨k3, k4⟩ := g1.hx.new_lst k2.reverse np
    exact q _ _ A1 (p1.trans (Post.grow g1.bs.nodup k3)) (s1.grow g1.bs.nodup k3) k4
  | tup xs =>
    cases e4
    refine .inr ⟨G, env, S, _, _, g, e1, fun x' H1 A1 p1 s1 r1 => ?_⟩
    have g1 := g.post p1 s1
    obtain ⟨ad, vs, rfl, k1, k2⟩ := r1.tup
    refine ⟨ad, vs, rfl, k1.sqT, fun p np => ?_⟩
    obtain ⟨k3, k4⟩ := g1.hx.new_tup k2.reverse np
    exact q _ _ A1 (p1.trans (Post.grow g1.bs.nodup k3)) (s1.grow g1.bs.nodup k3) k4
  | _ => cases e4
end
end J
set_option Elab.async false
set_option linter.all false
set_option maxRecDepth 100000
/-! J: the pure end of a law that asks `all([right(vat(script, k)) for k in range(max(lo, min(len(script), hi)))])`. -/
namespace J
open PySem L2
theorem sSeq_nx {a b : FS} {env e : J.Env} {S S1 : Sto} (h : a env S = .ok (.nx e S1)) : sSeq a b env S = b e S1 := by unfold sSeq; rw [h]; rfl
theorem sSeq_rt {a b : FS} {env : J.Env} {S S1 : Sto} {v : PV} (h : a env S = .ok (.rt v S1)) : sSeq a b env S = .ok (.rt v S1) := by unfold sSeq; rw [h]; rfl
theorem sSet_ok {i : Nat} {a : FE} {env : J.Env} {S S1 : Sto} {v : PV} (h : a env S = .ok (v, S1)) : sSet i a env S = .ok (.nx (env.set i (.val v)) S1) := by unfold sSet; rw [h]; rfl
theorem sOwn_ok {i : Nat} {a : FE} {env : J.Env} {S S1 : Sto} {v : PV} (h : a env S = .ok (v, S1)) : sOwn i a env S = .ok (.nx (env.set i (.own v)) S1) := by unfold sOwn; rw [h]; rfl
theorem sRet_ok {a : FE} {env : J.Env} {S S1 : Sto} {v : PV} (h : a env S = .ok (v, S1)) : sRet a env S = .ok (.rt v S1) := by unfold sRet; rw [h]; rfl
theorem eCall_ok {f : List PV → Sto → Res (PV × Sto)} {a : FA} {env : J.Env} {S S1 S2 : Sto} {xs : List PV} {v : PV} (h : a env S = .ok (xs, S1)) (k : f xs S1 = .ok (v, S2)) : eCall f a env S = .ok (v, S2) := by unfold eCall; rw [h]; exact k
theorem eOp_ok {op : PV → PV → Option PV} {a b : FE} {env : J.Env} {S S1 S2 : Sto} {x y z : PV} (h : a env S = .ok (x, S1)) (k : b env S1 = .ok (y, S2)) (e : op x y = some z) : eOp op a b env S = .ok (z, S2) := by
  unfold eOp; rw [h]; show (b env S1).bind _ = _; rw [k]; show (ofO (op x y)).bind _ = _; rw [e]; rfl
theorem aCons_ok {a : FE} {r : FA} {env : J.Env} {S S1 S2 : Sto} {x : PV} {y : List PV} (h : a env S = .ok (x, S1)) (k : r env S1 = .ok (y, S2)) : aCons a r env S = .ok (x :: y, S2) := by
  unfold aCons
  rw [h]
  show (r env S1).bind _ = _
  rw [k]
  rfl
theorem runF_rt {n : Nat} {F : FS} {args : List PV} {S S1 : Sto} {v : PV} (h : F (env0 n args) S = .ok (.rt v S1)) : runF n F args S = .ok (v, S1) := by unfold runF; rw [h]
theorem sFor_ok {it : FA} {g : GN} {b : FS} {env : J.Env} {S S1 : Sto} {xs : List PV} {r : Res Fl} (h : it env S = .ok (xs, S1)) (k : forL g b xs env S1 = r) : sFor it g b env S = r := by unfold sFor; rw [h]; exact k
theorem forL_nx {g : GN} {b : FS} {x : PV} {xs : List PV} {env e e' : J.Env} {S S' : Sto} (h : g x env = some e) (k : b e S = .ok (.nx e' S')) : forL g b (x :: xs) env S = forL g b xs e' S' := by
  rw [forL, h]
  show (b e S).bind _ = _
  rw [k]
  rfl
theorem bls_true : ∀ m : Nat, bls (List.replicate m (PV.bl true)) = some (List.replicate m true)
  | 0 => rfl
  | m + 1 => by rw [List.replicate_succ, bls, bls_true m]; rfl
theorem iR1_eq {f : FA} {env : J.Env} {S S1 : Sto} {j : Int} (h : f env S = .ok ([.int j], S1)) (b : bdI j = true) : iR1 f env S = .ok (rangeP 0 j.toNat, S1) := by
  unfold iR1
  rw [h]
  simp only [Res.bind]
  rw [if_pos b]
theorem range_ok {f : FA} {env : J.Env} {S : Sto} {m : Nat} (hm : m ≤ 5) (h : f env S = .ok ([.int m], S)) : iR1 f env S = .ok ((List.range' 0 m).map fun (i : Nat) => PV.int (i : Int), S) := by
  have hr : rangeP 0 ((m : Int)).toNat = (List.range' 0 m).map fun (i : Nat) => PV.int (i : Int) := by
    unfold rangeP
    rw [List.range_eq_range']
    simp
  have hb : bdI (m : Int) = true := by
    have hc : m = 0 ∨ m = 1 ∨ m = 2 ∨ m = 3 ∨ m = 4 ∨ m = 5 := by omega
    rcases hc with z | z | z | z | z | z <;> (subst z; decide +kernel)
  rw [iR1_eq h hb, hr]
theorem lc_eq {vs : List Nat} {it : FA} {g : GN} {t : FT} {e : FE} {env : J.Env} {S S1 S2 : Sto} {xs ys : List PV} (h : it env S = .ok (xs, S1)) (hl : xs.length ≤ 1000000) (k : lcL g t e xs (wipeE env vs) S1 = .ok (ys, S2)) : eLc vs it g t e env S = .ok (.lst ys, S2) := by
  unfold eLc
  rw [h]
  show (if xs.length ≤ 1000000 then _ else _) = _
  rw [if_pos hl, k]
  rfl
theorem un_eq {op : PV → Option PV} {a : FE} {env : J.Env} {S S1 : Sto} {x z : PV} (h : a env S = .ok (x, S1)) (k : op x = some z) : eUn op a env S = .ok (z, S1) := by
  unfold eUn
  rw [h]
  show (ofO (op x)).bind _ = _
  rw [k]
  rfl
theorem all_true (m : Nat) : pAll (.lst (List.replicate m (PV.bl true))) = some (.bl true) := by
  unfold pAll
  dsimp only
  rw [bls_true]
  simp
theorem lap_ok {ns : List Int} {Each : FE} (each : ∀ (k : Nat), k < 10 → ∀ S : Sto, ∃ S', Each [.val (.scr ns), .val (.int k)] S = .ok (.bl true, S')) : ∀ (m k : Nat) (S : Sto), m + k ≤ 10 → ∃ S', lcL (gN 1) tT Each ((List.range' k m).map fun (i : Nat) => PV.int (i : Int)) [.val (.scr ns), .un] S = .ok ((List.replicate m (PV.bl true)), S')
  | 0, k, S, _ => ⟨S, rfl⟩
  | m + 1, k, S, h => by
    obtain ⟨S1, h1⟩ := each k (by omega) S
    obtain ⟨S2, h2⟩ := lap_ok each m (k + 1) S1 (by omega)
    refine ⟨S2, ?_⟩
    rw [List.range'_succ, List.map_cons, lcL, List.replicate_succ]
    have g : gN 1 (PV.int (k : Int)) [.val (.scr ns), .un] = some [.val (.scr ns), .val (.int k)] := rfl
    simp only [g, ofO, Res.bind, tT, if_true, h1, h2]
theorem many_ok (ns : List Int) (lo hi : Nat) (hl : lo ≤ hi) : ∃ m : Nat, m ≤ hi ∧ eB pMax2 (aCons (eC (PV.int lo)) (aCons (eB pMin2 (aCons (eUn pLen (eV 0)) (aCons (eC (PV.int hi)) aNil))) aNil)) [.val (.scr ns), .un] [] = .ok (.int m, []) := by
  by_cases h4 : (hi : Int) < ns.length
  · have h5 : hi < ns.length := by omega
    by_cases h2 : lo < hi
    · exact ⟨hi, by omega, by simp [eB, aCons, aNil, eUn, eV, eC, pLen, pMin2, pMax2, ofO, Res.bind, h5, h2]⟩
    · exact ⟨lo, by omega, by simp [eB, aCons, aNil, eUn, eV, eC, pLen, pMin2, pMax2, ofO, Res.bind, h5, h2]⟩
  · have h5 : ¬ hi < ns.length := by omega
    by_cases h2 : lo < ns.length
    · exact ⟨ns.length, by omega, by simp [eB, aCons, aNil, eUn, eV, eC, pLen, pMin2, pMax2, ofO, Res.bind, h5, h2]⟩
    · exact ⟨lo, by omega, by simp [eB, aCons, aNil, eUn, eV, eC, pLen, pMin2, pMax2, ofO, Res.bind, h5, h2]⟩
theorem law_all (ns : List Int) (lo hi : Nat) (hl : lo ≤ hi) (h5 : hi ≤ 5) {Each : FE} (each : ∀ (k : Nat), k < 10 → ∀ S : Sto, ∃ S', Each [.val (.scr ns), .val (.int k)] S = .ok (.bl true, S')) :
    ∃ S', runF 2 (sRet (eUn pAll (eLc [1] (iR1 (aCons (eB pMax2 (aCons (eC (PV.int lo)) (aCons (eB pMin2 (aCons (eUn pLen (eV 0)) (aCons (eC (PV.int hi)) aNil))) aNil))) aNil)) (gN 1) tT Each))) [.scr ns] [] = .ok (.bl true, S') := by
  obtain ⟨m, hm4, hm⟩ := many_ok ns lo hi hl
  obtain ⟨S', h⟩ := lap_ok each m 0 [] (by omega)
  refine ⟨S', runF_rt (sRet_ok (un_eq (lc_eq (range_ok (by omega) (aCons_ok hm rfl)) ?_ h) (all_true m)))⟩
  rw [List.length_map, List.length_range']
  omega
theorem each_of {ns : List Int} {right vat : List PV → Sto → Res (PV × Sto)} {Is : Sto → Nat → Prop} (hv : ∀ (k : Nat), k < 10 → ∀ S : Sto, ∃ S', vat [.scr ns, .int k] S = .ok (.obj S.length, S') ∧ Is S' S.length) (hr : ∀ (n : Nat) (S : Sto), Is S n → ∃ S', right [.obj n] S = .ok (.bl true, S')) (k : Nat) (hk : k < 10) (S : Sto) :
    ∃ S', eCall right (aCons (eCall vat (aCons (eV 0) (aCons (eV 1) aNil))) aNil) [.val (.scr ns), .val (.int k)] S = .ok (.bl true, S') := by
  obtain ⟨S1, h1, h2⟩ := hv k hk S
  obtain ⟨S2, h3⟩ := hr _ _ h2
  exact ⟨S2, eCall_ok (aCons_ok (eCall_ok (xs := [.scr ns, .int k]) rfl h1) rfl) h3⟩
/-! what is looked at behind a run -/
def chkL (r : Res Fl) : Option (PV × Sto) := match r with
  | .ok (.rt v S) => some (v, S)
  | _ => none
def chk (r : Res Fl) : Option (Option Slot × Nat × Sto) := match r with
  | .ok (.nx e S) => some (e[0]?, e.length, S)
  | _ => none
theorem chk_ok {r : Res Fl} {x : Option Slot} {m : Nat} {S : Sto} (h : chk r = some (x, m, S)) : ∃ e, r = .ok (.nx e S) ∧ e[0]? = x ∧ e.length = m := by
  unfold chk at h
  split at h
  · rename_i e S'
    simp only [Option.some.injEq, Prod.mk.injEq] at h
    obtain ⟨h1, h2, rfl⟩ := h
    exact ⟨e, rfl, h1, h2⟩
  · cases h
theorem chkL_ok {r : Res Fl} {v : PV} {S : Sto} (h : chkL r = some (v, S)) : r = .ok (.rt v S) := by
  unfold chkL at h
  split at h
  · rename_i v' S'
    simp only [Option.some.injEq, Prod.mk.injEq] at h
    obtain ⟨rfl, rfl⟩ := h
    rfl
  · cases h
end J
set_option Elab.async false
set_option linter.all false
set_option maxRecDepth 100000
set_option maxHeartbeats 1000001
/-! J: lists of natural numbers in the pure functions. -/
namespace J
open PySem L2
def natsP (l : List Nat) : List PV := l.map fun (n : Nat) => PV.int (n : Int)
def tI (l : List Nat) : PV := .tup (natsP l)
theorem natsP_cons (a : Nat) (l : List Nat) : natsP (a :: l) = .int (a : Int) :: natsP l := rfl
theorem natsP_len (l : List Nat) : (natsP l).length = l.length := List.length_map _
theorem enum_len : ∀ (xs : List PV) (i : Nat), (enumP i xs).length = xs.length
  | [], _ => rfl
  | x :: r, i => by rw [enumP, List.length_cons, enum_len r, List.length_cons]
theorem lcL_yes {g : GN} {t : FT} {e : FE} {x y : PV} {r ys : List PV} {env en : J.Env} {S S1 S2 S3 : Sto} (h1 : g x env = some en) (h2 : t en S = .ok (true, S1)) (h3 : e en S1 = .ok (y, S2)) (h4 : lcL g t e r env S2 = .ok (ys, S3)) : lcL g t e (x :: r) env S = .ok (y :: ys, S3) := by
  rw [lcL]
  simp only [h1, ofO, Res.bind, h2, if_true, h3, h4]
theorem lcL_no {g : GN} {t : FT} {e : FE} {x : PV} {r ys : List PV} {env en : J.Env} {S S1 S3 : Sto} (h1 : g x env = some en) (h2 : t en S = .ok (false, S1)) (h4 : lcL g t e r env S1 = .ok (ys, S3)) : lcL g t e (x :: r) env S = .ok (ys, S3) := by
  rw [lcL]
  simp only [h1, ofO, Res.bind, h2, h4]
  rfl
def nins (x : Nat) : List Nat → List Nat
  | [] => [x]
  | y :: r => if y < x then y :: nins x r else x :: y :: r
def nsort : List Nat → List Nat
  | [] => []
  | x :: r => nins x (nsort r)
theorem nins_perm (x : Nat) : ∀ l, (nins x l).Perm (x :: l)
  | [] => .refl _
  | y :: r => by
    unfold nins
    split
    · exact ((nins_perm x r).cons y).trans (.swap x y r)
    · exact .refl _
theorem nsort_perm : ∀ l, (nsort l).Perm l
  | [] => .refl _
  | x :: r => (nins_perm x _).trans ((nsort_perm r).cons x)
theorem nins_asc (x : Nat) : ∀ l : List Nat, l.Pairwise (· < ·) → x ∉ l → (nins x l).Pairwise (· < ·)
  | [], _, _ => by simp [nins]
  | y :: r, h, hx => by
    (obtain ⟨h1, h2⟩ := List.pairwise_cons.mp h)
    have hxy : x ≠ y := fun e => hx (by simp [e])
    unfold nins
    split
    · rename_i hlt
      refine List.pairwise_cons.mpr ⟨fun z hz => ?_, nins_asc x r h2 (fun z => hx (by simp [z]))⟩
      rcases List.mem_cons.mp ((nins_perm x r).mem_iff.mp hz) with e | hz
      · omega
      · exact h1 z hz
    · rename_i hge
      refine List.pairwise_cons.mpr ⟨fun z hz => ?_, h⟩
      (rcases List.mem_cons.mp hz with e | hz)
      · omega
      · have := h1 z hz; omega
theorem nsort_asc : ∀ l : List Nat, l.Nodup → (nsort l).Pairwise (· < ·)
  | [], _ => .nil
  | x :: r, h => by
    (obtain ⟨h1, h2⟩ := List.nodup_cons.mp h)
    exact nins_asc x _ (nsort_asc r h2) (fun z => h1 ((nsort_perm r).mem_iff.mp z))
theorem insP_ints (x : Nat) : ∀ l : List Nat, insP ltP (.int x) (natsP l) = natsP (nins x l)
  | [] => rfl
  | y :: r => by
    rw [natsP_cons, insP, nins]
    have e : ltP (.int (y : Int)) (.int (x : Int)) = decide ((y : Int) < (x : Int)) := by simp [ltP]
    rw [e]
    by_cases h : y < x
    · have h' : (y : Int) < (x : Int) := by omega
      rw [if_pos h, if_pos (decide_eq_true h'), insP_ints x r]; rfl
    · have h' : ¬ (y : Int) < (x : Int) := by omega
      rw [if_neg h, if_neg (by rw [decide_eq_true_eq]; exact h')]; rfl
theorem isort_ints : ∀ l : List Nat, isort ltP (natsP l) = natsP (nsort l)
  | [] => rfl
  | x :: r => by rw [natsP_cons, isort, isort_ints r, insP_ints]; rfl
theorem hasTy_ints (l : List Nat) : (natsP l).all (hasTy .int) = true := by
  rw [List.all_eq_true]
  intro x hx
  obtain ⟨n, _, rfl⟩ := List.mem_map.mp hx
  simp [hasTy]
theorem srt_ints (l : List Nat) (hl : l.length ≤ 40) : pSrt .int (.lst (natsP l)) = some (.lst (natsP (nsort l))) := by
  have h : srtOk .int (natsP l) = true := by
    unfold srtOk
    simp only [Bool.and_eq_true, Bool.or_eq_true, decide_eq_true_eq, List.all_eq_true]
    refine ⟨by rw [natsP_len]; omega, fun x hx => ?_, by decide, .inr fun x hx => ?_⟩
    · obtain ⟨n, _, rfl⟩ := List.mem_map.mp hx
      simp [hasTy]
    · obtain ⟨n, _, rfl⟩ := List.mem_map.mp hx
      rfl
  show (if srtOk .int (natsP l) then _ else _) = _
  rw [if_pos h, isort_ints]
theorem isDL_natsP : ∀ l : List Nat, isDL (natsP l) = true
  | [] => by simp [natsP, isDL]
  | a :: r => by rw [natsP_cons, isDL, isDL_natsP r]; simp [isD]
theorem dpPL_natsP : ∀ l : List Nat, dpPL (natsP l) = 0
  | [] => by simp [natsP, dpPL]
  | a :: r => by rw [natsP_cons, dpPL, dpPL_natsP r]; simp [dpP]
theorem dOK_lst (l : List Nat) : dOK (.lst (natsP l)) = true := by simp [dOK, isD, dpP, isDL_natsP, dpPL_natsP]
theorem dOK_tI (l : List Nat) : dOK (tI l) = true := by simp [tI, dOK, isD, dpP, isDL_natsP, dpPL_natsP]
theorem dOK_int (i : Int) : dOK (.int i) = true := by simp [dOK, isD, dpP]
theorem inP_ints (g : Nat) : ∀ l : List Nat, inP (.int (g : Int)) (natsP l) = decide (g ∈ l)
  | [] => by simp [natsP, inP]
  | a :: r => by
    rw [natsP_cons, inP, inP_ints g r]
    by_cases h : g = a
    · subst h; simp [eqP]
    · have h' : ¬ (a : Int) = (g : Int) := by omega
      simp [eqP, h, h']
theorem notIn_ok (g : Nat) (l : List Nat) : pNotIn (.int (g : Int)) (.lst (natsP l)) = some (.bl (!decide (g ∈ l))) := by
  unfold pNotIn inPV
  dsimp only
  rw [dOK_int, dOK_lst]
  simp [inP_ints]
theorem intsP_nats : ∀ l : List Nat, intsP (natsP l) = some (l.map fun (n : Nat) => (n : Int))
  | [] => rfl
  | a :: r => by rw [natsP_cons, intsP, intsP_nats r]; rfl
theorem sum_cast : ∀ l : List Nat, (l.map fun (n : Nat) => (n : Int)).sum = (l.sum : Int)
  | [] => rfl
  | a :: r => by rw [List.map_cons, List.sum_cons, sum_cast r, List.sum_cons]; omega
theorem pSum_tI (l : List Nat) : pSum (tI l) = some (.int (l.sum : Int)) := by
  show (intsP (natsP l)).map _ = _
  rw [intsP_nats]
  show some (PV.int _) = _
  rw [sum_cast]
theorem pLen_tI (l : List Nat) : pLen (tI l) = some (.int (l.length : Int)) := by show some (PV.int ((natsP l).length : Int)) = _; rw [natsP_len]
theorem pIx_tI (l : List Nat) (k : Nat) (h : k < l.length) : pIx (tI l) (.int (k : Int)) = some (.int (l[k] : Int)) := by
  show atI (natsP l) (k : Int) = _
  refine atI_nat ?_
  unfold natsP
  rw [List.getElem?_map, List.getElem?_eq_getElem h]
  rfl
theorem eIx_ok {a b : FE} {env : J.Env} {S S1 S2 : Sto} {l : List Nat} {k : Nat} (ha : a env S = .ok (tI l, S1)) (hb : b env S1 = .ok (.int (k : Int), S2)) (h : k < l.length) : eIx a b env S = .ok (.int (l[k] : Int), S2) := by
  unfold eIx
  rw [ha]
  simp only [Res.bind]
  rw [hb]
  have e := pIx_tI l k h
  unfold tI at e ⊢
  simp only [e, ofO]
theorem bdI_of {j : Int} (h1 : -1000 ≤ j) (h2 : j ≤ 1000) : bdI j = true := by
  unfold bdI
  (rw [Bool.and_eq_true, decide_eq_true_eq, decide_eq_true_eq])
  omega
theorem rangeP_nat (n : Nat) : rangeP 0 n = (List.range' 0 n).map fun (i : Nat) => PV.int (i : Int) := by
  unfold rangeP
  rw [List.range_eq_range']
  simp
theorem le_sum : ∀ (l : List Nat) (q : Nat), q ∈ l → q ≤ l.sum
  | [], _, h => by cases h
  | a :: r, q, h => by
    rw [List.sum_cons]
    (rcases List.mem_cons.mp h with rfl | h)
    · omega
    · have := le_sum r q h; omega
theorem eqPL_nats : ∀ l k : List Nat, eqPL (natsP l) (natsP k) = decide (l = k)
  | [], [] => by simp [natsP, eqPL]
  | [], b :: k => by simp [natsP, eqPL]
  | a :: l, [] => by simp [natsP, eqPL]
  | a :: l, b :: k => by
    rw [natsP_cons, natsP_cons, eqPL, eqPL_nats l k]
    by_cases h : a = b
    · subst h; simp [eqP]
    · have h' : ¬ (a : Int) = (b : Int) := by omega
      simp [eqP, h, h']
theorem ne_tI (l k : List Nat) : pNe (tI l) (tI k) = some (.bl (!decide (l = k))) := by
  unfold pNe
  rw [dOK_tI, dOK_tI]
  simp only [Bool.and_self, if_true, tI, eqP, eqPL_nats]
theorem ne_nil (l : List Nat) : pNe (tI l) (.tup []) = some (.bl (!decide (l = []))) := ne_tI l []
theorem iR2_eq {f : FA} {env : J.Env} {S S1 : Sto} {i j : Int} (h : f env S = .ok ([.int i, .int j], S1)) (b : bdI i = true) (b' : bdI j = true) : iR2 f env S = .ok (rangeP i (j - i).toNat, S1) := by
  unfold iR2
  rw [h]
  simp only [Res.bind]
  rw [b, b']
  rfl
theorem pAdd_lst {a b : List PV} (h : a.length + b.length ≤ 1000000) : pAdd (.lst a) (.lst b) = some (.lst (a ++ b)) := by
  unfold pAdd
  exact if_pos h
theorem pAdd_tup {a b : List PV} (h : a.length + b.length ≤ 1000000) : pAdd (.tup a) (.tup b) = some (.tup (a ++ b)) := by
  unfold pAdd
  exact if_pos h
theorem eB_ok {op : List PV → Option PV} {a : FA} {env : J.Env} {S S1 : Sto} {xs : List PV} {z : PV} (h : a env S = .ok (xs, S1)) (k : op xs = some z) : eB op a env S = .ok (z, S1) := by
  unfold eB
  rw [h]
  show (ofO (op xs)).bind _ = _
  rw [k]
  rfl
theorem natsP_append (a b : List Nat) : natsP (a ++ b) = natsP a ++ natsP b := List.map_append
theorem natsP_inj : ∀ {a b : List Nat}, natsP a = natsP b → a = b
  | [], [], _ => rfl
  | [], y :: b, h => by simp [natsP] at h
  | x :: a, [], h => by simp [natsP] at h
  | x :: a, y :: b, h => by
    rw [natsP_cons, natsP_cons] at h
    simp only [List.cons.injEq, PV.int.injEq] at h
    rw [natsP_inj h.2]
    congr 1
    omega
theorem tI_inj {a b : List Nat} (h : tI a = tI b) : a = b := natsP_inj (by simpa [tI] using h)
theorem tV_ok {a : FE} {env : J.Env} {S S1 : Sto} {b : Bool} (h : a env S = .ok (.bl b, S1)) : tV a env S = .ok (b, S1) := by
  unfold tV
  rw [h]
  rfl
theorem tOrr_no {a b : FT} {env : J.Env} {S S1 S2 : Sto} {k : Bool} (h : a env S = .ok (false, S1)) (h' : b env S1 = .ok (k, S2)) : tOrr a b env S = .ok (k, S2) := by
  unfold tOrr
  rw [h]
  exact h'
theorem sIf_no {c : FT} {a b : FS} {env : J.Env} {S S1 : Sto} {r : Res Fl} (h : c env S = .ok (false, S1)) (h' : b env S1 = r) : sIf c a b env S = r := by
  unfold sIf
  rw [h]
  exact h'
theorem ne_self (s : List Nat) : pNe (tI s) (tI s) = some (.bl false) := by
  rw [ne_tI]
  simp
end J
set_option Elab.async false
set_option linter.all false
set_option maxRecDepth 100000
set_option maxHeartbeats 1000001
/-! J: comprehensions with two generators and dicts with tuples of natural numbers as keys, in the pure functions. -/
namespace J
open PySem L2
theorem lc2L_yes {g : GN} {t : FT} {it1 : FA} {vs1 : List Nat} {g1 : GN} {t1 : FT} {e : FE} {x : PV} {r xs ys zs : List PV} {env en : J.Env} {S S1 S2 S3 S4 : Sto} (h1 : g x env = some en) (h2 : t en S = .ok (true, S1)) (h3 : it1 en S1 = .ok (xs, S2)) (h4 : lcL g1 t1 e xs (wipeE en vs1) S2 = .ok (ys, S3)) (h5 : lc2L g t it1 vs1 g1 t1 e r env S3 = .ok (zs, S4)) :
    lc2L g t it1 vs1 g1 t1 e (x :: r) env S = .ok (ys ++ zs, S4) := by
  rw [lc2L]
  simp only [h1, ofO, Res.bind, h2, if_true, h3, h4, h5]
theorem lc2_eq {vs vs1 : List Nat} {it it1 : FA} {g g1 : GN} {t t1 : FT} {e : FE} {env : J.Env} {S S1 S2 : Sto} {xs ys : List PV} (h : it env S = .ok (xs, S1)) (k : lc2L g t it1 vs1 g1 t1 e xs (wipeE env vs) S1 = .ok (ys, S2)) (hl : ys.length ≤ 1000000) : eLc2 vs vs1 it g t it1 g1 t1 e env S = .ok (.lst ys, S2) := by
  unfold eLc2
  rw [h]
  show (lc2L g t it1 vs1 g1 t1 e xs (wipeE env vs) S1).bind _ = _
  rw [k]
  exact if_pos hl
abbrev ND := List (List Nat × Nat)
def dI (D : ND) : PV := .dic true (D.map fun e => tI e.1) (D.map fun e => .int ((e.2 : Nat) : Int))
def dget : ND → List Nat → Option Nat
  | [], _ => none
  | e :: r, k => if e.1 = k then some e.2 else dget r k
def dhas (D : ND) (k : List Nat) : Bool := D.any fun e => decide (e.1 = k)
def dput (D : ND) (k : List Nat) (v : Nat) : ND := if dhas D k then D.map (fun e => if e.1 = k then (e.1, v) else e) else D ++ [(k, v)]
theorem tI_iff (a b : List Nat) : tI a = tI b ↔ a = b := ⟨tI_inj, fun h => by rw [h]⟩
theorem dGet_dI (k : List Nat) : ∀ D : ND, dGet (D.map fun e => tI e.1) (D.map fun e => .int ((e.2 : Nat) : Int)) (tI k) = (dget D k).map fun v => .int ((v : Nat) : Int)
  | [] => by simp [dGet, dget]
  | e :: r => by
    rw [List.map_cons, List.map_cons, dGet, dget, dGet_dI k r]
    by_cases h : e.1 = k
    · rw [if_pos h, if_pos ((tI_iff _ _).mpr h)]; rfl
    · rw [if_neg h, if_neg (fun z => h ((tI_iff _ _).mp z))]
theorem dHas_dI (k : List Nat) : ∀ D : ND, dHas (D.map fun e => tI e.1) (tI k) = dhas D k
  | [] => by simp [dHas, dhas]
  | e :: r => by
    have ih := dHas_dI k r
    unfold dHas dhas at ih ⊢
    rw [List.map_cons, List.any_cons, List.any_cons, ih]
    congr 1
    exact decide_eq_decide.mpr (tI_iff _ _)
theorem dSet_dI (k : List Nat) (v : Nat) : ∀ D : ND, dSetV (D.map fun e => tI e.1) (D.map fun e => .int ((e.2 : Nat) : Int)) (tI k) (.int (v : Int)) = (D.map fun e => if e.1 = k then (e.1, v) else e).map fun e => .int ((e.2 : Nat) : Int)
  | [] => by simp [dSetV]
  | e :: r => by
    rw [List.map_cons, List.map_cons, dSetV, dSet_dI k v r, List.map_cons, List.map_cons]
    by_cases h : e.1 = k
    · rw [if_pos h, if_pos ((tI_iff _ _).mpr h)]
    · rw [if_neg h, if_neg (fun z => h ((tI_iff _ _).mp z))]
theorem dSet_keys (k : List Nat) (v : Nat) : ∀ D : ND, (D.map fun e => if e.1 = k then (e.1, v) else e).map (fun e => tI e.1) = D.map fun e => tI e.1
  | [] => rfl
  | e :: r => by
    rw [List.map_cons, List.map_cons, List.map_cons, dSet_keys k v r]
    by_cases h : e.1 = k
    · rw [if_pos h]
    · rw [if_neg h]
theorem keysOf_nats : ∀ l : List Nat, (keysOf (natsP l)).isSome = true
  | [] => rfl
  | a :: r => by
    have ih := keysOf_nats r
    rw [natsP_cons]
    cases e : keysOf (natsP r) with
    | none => rw [e] at ih; cases ih
    | some ks => simp [keysOf, keyOf, e]
theorem keyFit_tI (l : List Nat) : keyFit true (tI l) = true := keysOf_nats l
theorem put_dI (D : ND) (k : List Nat) (v : Nat) : PV.dic true (dPutK (D.map fun e => tI e.1) (tI k)) (dPutV (D.map fun e => tI e.1) (D.map fun e => .int ((e.2 : Nat) : Int)) (tI k) (.int (v : Int))) = dI (dput D k v) := by
  unfold dPutK dPutV dput dI
  rw [dHas_dI]
  by_cases h : dhas D k = true
  · rw [if_pos h, if_pos h, if_pos h, dSet_keys, dSet_dI]
  · rw [if_neg h, if_neg h, if_neg h, List.map_append, List.map_append]
    rfl
theorem eGet_ok {fd fk fx : FE} {env : J.Env} {S S1 S2 S3 : Sto} {D : ND} {k : List Nat} {d : Nat} (h1 : fd env S = .ok (dI D, S1)) (h2 : fk env S1 = .ok (tI k, S2)) (h3 : fx env S2 = .ok (.int (d : Int), S3)) : eGet fd fk fx env S = .ok (.int (((dget D k).getD d : Nat) : Int), S3) := by
  unfold eGet
  rw [h1]
  simp only [Res.bind]
  rw [h2]
  simp only
  rw [h3]
  unfold dI
  simp only [keyFit_tI, if_true, dGet_dI]
  cases dget D k with
  | none => rfl
  | some v => rfl
theorem gOwn_ok {s : Nat} {fi : FE} {env : J.Env} {S S1 : Sto} {D : ND} {k : List Nat} {v : Nat} (h1 : fi env S = .ok (tI k, S1)) (h2 : env[s]? = some (.own (dI D))) (hl : D.length < 1000000) : gOwn s fi (.int (v : Int)) env S = .ok (env.set s (.own (dI (dput D k v))), S1) := by
  unfold gOwn
  rw [h1]
  simp only [Res.bind]
  rw [h2]
  unfold dI at h2 ⊢
  simp only [keyFit_tI, Bool.true_and]
  rw [if_pos (by rw [decide_eq_true_eq, List.length_map]; exact hl), put_dI]
  rfl
theorem zip_dI : ∀ D : ND, zipP (D.map fun e => tI e.1) (D.map fun e => .int ((e.2 : Nat) : Int)) = D.map fun e => .tup [tI e.1, .int ((e.2 : Nat) : Int)]
  | [] => by simp [zipP]
  | e :: r => by rw [List.map_cons, List.map_cons, zipP, zip_dI r, List.map_cons]
theorem iItm_ok {f : FE} {env : J.Env} {S S1 : Sto} {D : ND} (h : f env S = .ok (dI D, S1)) : iItm f env S = .ok (D.map fun e => .tup [tI e.1, .int ((e.2 : Nat) : Int)], S1) := by
  unfold iItm
  rw [h]
  unfold dI
  simp only [Res.bind, zip_dI]
theorem sAsgG_ok {a : FE} {g : GG} {env e : J.Env} {S S1 S2 : Sto} {v : PV} (h : a env S = .ok (v, S1)) (k : g v env S1 = .ok (e, S2)) : sAsgG a g env S = .ok (.nx e S2) := by
  unfold sAsgG
  rw [h]
  simp only [Res.bind]
  rw [k]
theorem dput_len (D : ND) (k : List Nat) (v : Nat) : (dput D k v).length ≤ D.length + 1 := by
  unfold dput
  split
  · rw [List.length_map]; omega
  · simp only [List.length_append, List.length_singleton]; omega
end J
set_option Elab.async false
set_option linter.all false
set_option maxRecDepth 100000
set_option maxHeartbeats 0
namespace K56
open PySem PySem.Spec PyProof.Rows L2 J
def top (i : Nat) : Stmt := PySem.Challenge.pw_wordshapes_k56_whole_margins.main.body.getD i (.Pass ⟨0, 0, 0, 0⟩)
abbrev s_l_vat_of : Stmt := top 37
abbrev s_sums_along : Stmt := top 14
abbrev s_lighter_at : Stmt := top 15
abbrev s_is_number : Stmt := top 10
abbrev s_is_shape : Stmt := top 11
abbrev s_check_shape : Stmt := top 12
abbrev s_check_sizes : Stmt := top 16
abbrev s_heavier : Stmt := top 17
abbrev s_hook_of : Stmt := top 18
abbrev s_hooks_of : Stmt := top 20
abbrev s_factorial : Stmt := top 21
abbrev s_growth_count : Stmt := top 22
abbrev s_are_amounts : Stmt := top 25
abbrev s_check_amounts : Stmt := top 26
abbrev s_trimmed : Stmt := top 13
abbrev s_parts_below : Stmt := top 27
abbrev s_tables_counted : Stmt := top 28
abbrev s_table_count : Stmt := top 29
abbrev s_check_margins : Stmt := top 30
abbrev s_rows_of_sum : Stmt := top 31
abbrev s_arrays_counted : Stmt := top 32
abbrev s_margin_count : Stmt := top 33
abbrev s_zero_one_count : Stmt := top 34
abbrev s_own_inverse_count : Stmt := top 35
abbrev s_l_sip : Stmt := top 38
abbrev s_l_forms : Stmt := top 39
abbrev s_l_tilted : Stmt := top 40
abbrev s_l_split : Stmt := top 41
abbrev s_l_arrays : Stmt := top 42
abbrev s_l_sums : Stmt := top 43
abbrev s_l_own_inverses : Stmt := top 44
abbrev s_l_right : Stmt := top 45
abbrev s_law : Stmt := top 46
/-! ### the pure functions -/
def F_l_vat_of : FS := (sSeq (sPar 2 3 (aCons (eIf (tV (eOp pLt (eV 1) (eUn pLen (eV 0)))) (eIx (eV 0) (eV 1)) (eC (.int 0))) (aCons (eOp pAdd (eC (.int 14009)) (eOp pMulB (eC (.int 60013)) (eV 1))) aNil))) (sSeq (sFor (iEn (aCons (eSl (eV 0) oNo (oSo (eC (.int 10)))) aNil)) (gT 2 (gNc (gN 4) (gNc (gN 5) gNn))) (sSet 3 (eOp pMod (eUn pInt (eOp pAdd (eOp pMulB (eV 3) (eOp pAdd (eC (.int 10007)) (eOp pMulB (eC (.int 74)) (eV 4)))) (eOp pMulB (eC (.int 37)) (eV 5)))) (eC (.int 2147482583))))) (sRet (eNew (aCons (eIf (tOrr (tV (eOp pLt (eV 2) (eC (.int 0)))) (tV (eOp pGe (eV 2) (eOp pPow (eC (.int 10)) (eC (.int 15)))))) (eUn pAbs (eV 2)) (eC (.int 0))) (aCons (eOp pMod (eUn pInt (eOp pAdd (eV 3) (eOp pMulB (eC (.int 25013)) (eV 2)))) (eC (.int 2147482583))) (aCons (eC (.int 0)) aNil)))))))
def f_l_vat_of : List PV → Sto → Res (PV × Sto) := runF 6 F_l_vat_of
def F_sums_along : FS := (sSeq (sOwn 2 (eB pLst aNil)) (sSeq (sSet 3 (eC (.int 0))) (sSeq (sFor (iR1 (aCons (eV 1) aNil)) (gN 4) (sSeq (sSet 3 (eOp pAdd (eV 3) (eIf (tV (eOp pLt (eV 4) (eUn pLen (eV 0)))) (eIx (eV 0) (eV 4)) (eC (.int 0))))) (sApp 2 (eV 3)))) (sFrz 2 (sRet (eV 2))))))
def f_sums_along : List PV → Sto → Res (PV × Sto) := runF 5 F_sums_along
def F_lighter_at : FS := (sSeq (sSet 2 (eB pMax2 (aCons (eUn pLen (eV 0)) (aCons (eUn pLen (eV 1)) aNil)))) (sSeq (sSet 3 (eCall f_sums_along (aCons (eV 0) (aCons (eV 2) aNil)))) (sSeq (sFor (iEn (aCons (eCall f_sums_along (aCons (eV 1) (aCons (eV 2) aNil))) aNil)) (gT 2 (gNc (gN 4) (gNc (gN 5) gNn))) (sIf (tV (eOp pLt (eIx (eV 3) (eV 4)) (eV 5))) (sRet (eOp pAdd (eV 4) (eC (.int 1)))) sNext)) (sRet (eC .non)))))
def f_lighter_at : List PV → Sto → Res (PV × Sto) := runF 6 F_lighter_at
def F_is_number : FS := (sRet (eAnd (eUn (pIsT "int") (eV 0)) (eAnd (eUn pNot (eUn (pIsT "bool") (eV 0))) (eChain pLe pLe (eV 1) (eV 0) (eV 2)))))
def f_is_number : List PV → Sto → Res (PV × Sto) := runF 3 F_is_number
def F_is_shape : FS := (sSeq (sIf (tOrr (tNo (tV (eUn (pIsT "tuple") (eV 0)))) (tOrr (tV (eOp pGt (eUn pLen (eV 0)) (eV 1))) (tNo (tV (eUn pAll (eLc [3] (iSeq (eV 0)) (gN 3) tT (eCall f_is_number (aCons (eV 3) (aCons (eC (.int 1)) (aCons (eV 1) aNil)))))))))) (sRet (eC (.bl false))) sNext) (sRet (eAnd (eOp pLe (eUn pSum (eV 0)) (eV 1)) (eUn pAll (eLc [2] (iR1 (aCons (eOp pSub (eUn pLen (eV 0)) (eC (.int 1))) aNil)) (gN 2) tT (eOp pGe (eIx (eV 0) (eV 2)) (eIx (eV 0) (eOp pAdd (eV 2) (eC (.int 1))))))))))
def f_is_shape : List PV → Sto → Res (PV × Sto) := runF 4 F_is_shape
def F_check_shape : FS := (sIf (tNo (tV (eCall f_is_shape (aCons (eV 0) (aCons (eV 1) aNil))))) sX sNext)
def f_check_shape : List PV → Sto → Res (PV × Sto) := runF 2 F_check_shape
def F_check_sizes : FS := (sSeq (sDrop (eCall f_check_shape (aCons (eV 0) (aCons (eC (.int 40)) aNil)))) (sSeq (sDrop (eCall f_check_shape (aCons (eV 1) (aCons (eC (.int 40)) aNil)))) (sIf (tV (eOp pNe (eUn pSum (eV 0)) (eUn pSum (eV 1)))) sX sNext)))
def f_check_sizes : List PV → Sto → Res (PV × Sto) := runF 2 F_check_sizes
def F_heavier : FS := (sSeq (sDrop (eCall f_check_sizes (aCons (eV 0) (aCons (eV 1) aNil)))) (sRet (eOp pIsN (eCall f_lighter_at (aCons (eV 0) (aCons (eV 1) aNil))) (eC .non))))
def f_heavier : List PV → Sto → Res (PV × Sto) := runF 2 F_heavier
def F_hook_of : FS := (sSeq (sOwn 3 (eLc [4] (iSeq (eSl (eV 0) (oSo (eOp pAdd (eV 1) (eC (.int 1)))) oNo)) (gN 4) (tV (eOp pGt (eV 4) (eV 2))) (eV 4))) (sFrz 3 (sRet (eOp pAdd (eOp pSub (eIx (eV 0) (eV 1)) (eV 2)) (eUn pLen (eV 3))))))
def f_hook_of : List PV → Sto → Res (PV × Sto) := runF 5 F_hook_of
def F_hooks_of : FS := (sSeq (sSet 1 (eC (.int 1))) (sSeq (sFor (iEn (aCons (eV 0) aNil)) (gT 2 (gNc (gN 2) (gNc (gN 3) gNn))) (sFor (iR1 (aCons (eV 3) aNil)) (gN 4) (sSet 1 (eOp pMulB (eV 1) (eCall f_hook_of (aCons (eV 0) (aCons (eV 2) (aCons (eV 4) aNil)))))))) (sRet (eV 1))))
def f_hooks_of : List PV → Sto → Res (PV × Sto) := runF 5 F_hooks_of
def F_factorial : FS := (sSeq (sSet 1 (eC (.int 1))) (sSeq (sFor (iR2 (aCons (eC (.int 2)) (aCons (eOp pAdd (eV 0) (eC (.int 1))) aNil))) (gN 2) (sSet 1 (eOp pMulB (eV 1) (eV 2)))) (sRet (eV 1))))
def f_factorial : List PV → Sto → Res (PV × Sto) := runF 3 F_factorial
def F_growth_count : FS := (sSeq (sDrop (eCall f_check_shape (aCons (eV 0) (aCons (eC (.int 40)) aNil)))) (sRet (eOp pDiv (eCall f_factorial (aCons (eUn pSum (eV 0)) aNil)) (eCall f_hooks_of (aCons (eV 0) aNil)))))
def f_growth_count : List PV → Sto → Res (PV × Sto) := runF 1 F_growth_count
def F_are_amounts : FS := (sSeq (sIf (tOrr (tNo (tV (eUn (pIsT "tuple") (eV 0)))) (tV (eOp pGt (eUn pLen (eV 0)) (eV 1)))) (sRet (eC (.bl false))) sNext) (sRet (eUn pAll (eLc [2] (iSeq (eV 0)) (gN 2) tT (eAnd (eUn (pIsT "int") (eV 2)) (eAnd (eUn pNot (eUn (pIsT "bool") (eV 2))) (eOp pGe (eV 2) (eC (.int 0)))))))))
def f_are_amounts : List PV → Sto → Res (PV × Sto) := runF 3 F_are_amounts
def F_check_amounts : FS := (sIf (tNo (tV (eCall f_are_amounts (aCons (eV 0) (aCons (eC (.int 12)) aNil))))) sX sNext)
def f_check_amounts : List PV → Sto → Res (PV × Sto) := runF 1 F_check_amounts
def F_trimmed : FS := (sRet (eUn pTupC (eLc [1] (iSeq (eV 0)) (gN 1) (tV (eOp pGt (eV 1) (eC (.int 0)))) (eV 1))))
def f_trimmed : List PV → Sto → Res (PV × Sto) := runF 2 F_trimmed
def F_parts_below : FS := (sSeq (sSet 2 (eB pLst (aCons (eB pTup (aCons (eB pTup aNil) (aCons (eV 1) aNil))) aNil))) (sSeq (sFor (iEn (aCons (eV 0) aNil)) (gT 2 (gNc (gN 3) (gNc (gN 4) gNn))) (sSeq (sSet 5 (eOp pSub (eV 4) (eIf (tV (eOp pLt (eOp pAdd (eV 3) (eC (.int 1))) (eUn pLen (eV 0)))) (eIx (eV 0) (eOp pAdd (eV 3) (eC (.int 1)))) (eC (.int 0))))) (sSeq (sOwn 2 (eLc2 [7, 8, 6] [6] (iSeq (eV 2)) (gT 2 (gNc (gN 7) (gNc (gN 8) gNn))) tT (iR1 (aCons (eOp pAdd (eB pMin2 (aCons (eV 5) (aCons (eV 8) aNil))) (eC (.int 1))) aNil)) (gN 6) tT (eB pTup (aCons (eB pTup (aStar (eV 7) (aCons (eOp pSub (eV 4) (eV 6)) aNil))) (aCons (eOp pSub (eV 8) (eV 6)) aNil))))) (sFrz 2 sNext)))) (sRet (eLc [7, 8] (iSeq (eV 2)) (gT 2 (gNc (gN 7) (gNc (gN 8) gNn))) (tV (eOp pEq (eV 8) (eC (.int 0)))) (eCall f_trimmed (aCons (eV 7) aNil))))))
def f_parts_below : List PV → Sto → Res (PV × Sto) := runF 9 F_parts_below
def F_tables_counted : FS := (sSeq (sSet 2 (eDis true (fpCons (eV 0) (eC (.int 1)) fpNil))) (sSeq (sFor (iSeq (eUn pRevA (eV 1))) (gN 3) (sSeq (sOwn 4 (eC (.dic true [] []))) (sSeq (sFor (iItm (eV 2)) (gT 2 (gNc (gN 5) (gNc (gN 6) gNn))) (sFor (iSeq (eCall f_parts_below (aCons (eV 5) (aCons (eV 3) aNil)))) (gN 7) (sAsgG (eOp pAdd (eGet (eO 4) (eV 7) (eC (.int 0))) (eV 6)) (gOwn 4 (eV 7))))) (sFrz 4 (sSet 2 (eV 4)))))) (sRet (eGet (eV 2) (eB pTup aNil) (eC (.int 0))))))
def f_tables_counted : List PV → Sto → Res (PV × Sto) := runF 8 F_tables_counted
def F_table_count : FS := (sSeq (sDrop (eCall f_check_shape (aCons (eV 0) (aCons (eC (.int 40)) aNil)))) (sSeq (sDrop (eCall f_check_amounts (aCons (eV 1) aNil))) (sRet (eIf (tV (eOp pEq (eUn pSum (eV 1)) (eUn pSum (eV 0)))) (eCall f_tables_counted (aCons (eV 0) (aCons (eV 1) aNil))) (eC (.int 0))))))
def f_table_count : List PV → Sto → Res (PV × Sto) := runF 2 F_table_count
def F_check_margins : FS := (sIf (tOrr (tNo (tV (eCall f_are_amounts (aCons (eV 0) (aCons (eC (.int 6)) aNil))))) (tV (eOp pGt (eUn pSum (eV 0)) (eC (.int 12))))) sX sNext)
def f_check_margins : List PV → Sto → Res (PV × Sto) := runF 1 F_check_margins
def F_rows_of_sum : FS := (sSeq (sSet 2 (eB pLst (aCons (eB pTup (aCons (eB pTup aNil) (aCons (eV 0) aNil))) aNil))) (sSeq (sFor (iSeq (eV 1)) (gN 3) (sSeq (sOwn 2 (eLc2 [5, 6, 4] [4] (iSeq (eV 2)) (gT 2 (gNc (gN 5) (gNc (gN 6) gNn))) tT (iR1 (aCons (eOp pAdd (eB pMin2 (aCons (eV 3) (aCons (eV 6) aNil))) (eC (.int 1))) aNil)) (gN 4) tT (eB pTup (aCons (eB pTup (aStar (eV 5) (aCons (eV 4) aNil))) (aCons (eOp pSub (eV 6) (eV 4)) aNil))))) (sFrz 2 sNext))) (sRet (eLc [5, 6] (iSeq (eV 2)) (gT 2 (gNc (gN 5) (gNc (gN 6) gNn))) (tV (eOp pEq (eV 6) (eC (.int 0)))) (eV 5)))))
def f_rows_of_sum : List PV → Sto → Res (PV × Sto) := runF 7 F_rows_of_sum
def F_arrays_counted : FS := (sSeq (sSet 3 (eDis true (fpCons (eV 1) (eC (.int 1)) fpNil))) (sSeq (sFor (iSeq (eV 0)) (gN 4) (sSeq (sOwn 5 (eC (.dic true [] []))) (sSeq (sFor (iItm (eV 3)) (gT 2 (gNc (gN 6) (gNc (gN 7) gNn))) (sFor (iSeq (eCall f_rows_of_sum (aCons (eV 4) (aCons (eLc [10] (iSeq (eV 6)) (gN 10) tT (eB pMin2 (aCons (eV 2) (aCons (eV 10) aNil)))) aNil)))) (gN 8) (sSeq (sSet 9 (eUn pTupC (eLc [10, 11] (iZp (aCons (eV 6) (aCons (eV 8) aNil))) (gT 2 (gNc (gN 10) (gNc (gN 11) gNn))) tT (eOp pSub (eV 10) (eV 11))))) (sAsgG (eOp pAdd (eGet (eO 5) (eV 9) (eC (.int 0))) (eV 7)) (gOwn 5 (eV 9)))))) (sFrz 5 (sSet 3 (eV 5)))))) (sRet (eGet (eV 3) (eOp pMulB (eB pTup (aCons (eC (.int 0)) aNil)) (eUn pLen (eV 1))) (eC (.int 0))))))
def f_arrays_counted : List PV → Sto → Res (PV × Sto) := runF 12 F_arrays_counted
def F_margin_count : FS := (sSeq (sDrop (eCall f_check_margins (aCons (eV 0) aNil))) (sSeq (sDrop (eCall f_check_margins (aCons (eV 1) aNil))) (sRet (eCall f_arrays_counted (aCons (eV 0) (aCons (eV 1) (aCons (eC (.int 12)) aNil)))))))
def f_margin_count : List PV → Sto → Res (PV × Sto) := runF 2 F_margin_count
def F_zero_one_count : FS := (sSeq (sDrop (eCall f_check_margins (aCons (eV 0) aNil))) (sSeq (sDrop (eCall f_check_margins (aCons (eV 1) aNil))) (sRet (eCall f_arrays_counted (aCons (eV 0) (aCons (eV 1) (aCons (eC (.int 1)) aNil)))))))
def f_zero_one_count : List PV → Sto → Res (PV × Sto) := runF 2 F_zero_one_count
def F_own_inverse_count : FS := (sSeq (sIf (tNo (tV (eCall f_is_number (aCons (eV 0) (aCons (eC (.int 0)) (aCons (eC (.int 40)) aNil)))))) sX sNext) (sSeq (sAsg (eB pTup (aCons (eC (.int 0)) (aCons (eC (.int 1)) aNil))) (gT 2 (gNc (gN 2) (gNc (gN 3) gNn)))) (sSeq (sFor (iR2 (aCons (eC (.int 1)) (aCons (eOp pAdd (eV 0) (eC (.int 1))) aNil))) (gN 1) (sPar 2 3 (aCons (eV 3) (aCons (eOp pAdd (eV 3) (eOp pMulB (eOp pSub (eV 1) (eC (.int 1))) (eV 2))) aNil)))) (sRet (eV 3)))))
def f_own_inverse_count : List PV → Sto → Res (PV × Sto) := runF 4 F_own_inverse_count
def F_l_sip : FS := (sSeq (sIf (tV (eOp pGt (eIx (eV 0) (eC (.int 0))) (eC (.int 0)))) (sSeq (sAsgG (eB pDivmod (aCons (eIx (eV 0) (eC (.int 0))) (aCons (eV 1) aNil))) (ggT 2 (ggCons (gSubO (eV 0) (eC (.int 0))) (ggCons (gOf (gN 3)) ggNil)))) (sRet (eV 3))) sNext) (sSeq (sAsgG (eOp pAdd (eIx (eV 0) (eC (.int 2))) (eC (.int 1))) (gSubO (eV 0) (eC (.int 2)))) (sSeq (sSet 2 (eOp pMod (eUn pInt (eOp pAdd (eIx (eV 0) (eC (.int 1))) (eOp pMulB (eC (.int 43013)) (eIx (eV 0) (eC (.int 2)))))) (eC (.int 2147482583)))) (sSeq (sAsgG (eOp pMod (eUn pInt (eOp pAdd (eOp pAdd (eOp pMulB (eV 2) (eOp pAdd (eOp pMod (eUn pInt (eV 2)) (eC (.int 10009))) (eC (.int 74017)))) (eOp pMulB (eC (.int 79)) (eIx (eV 0) (eC (.int 2))))) (eC (.int 41)))) (eC (.int 2147482583))) (gSubO (eV 0) (eC (.int 1)))) (sRet (eOp pMod (eOp pDiv (eUn pInt (eIx (eV 0) (eC (.int 1)))) (eC (.int 193))) (eV 1)))))))
def f_l_sip : List PV → Sto → Res (PV × Sto) := runF 4 F_l_sip
def F_l_forms : FS := (sSeq (sParFE 2 3 (eB pLst aNil) (eB pLst (aCons (eB pTup (aCons (eB pTup aNil) (aCons (eV 0) aNil))) aNil))) (sSeq (sFor (iR1 (aCons (eV 0) aNil)) (gN 1) (sSeq (sSet 4 (eB pLst aNil)) (sSeq (sFor (iSeq (eV 3)) (gT 2 (gNc (gN 5) (gNc (gN 6) gNn))) (sIf (tV (eOp pEq (eV 6) (eC (.int 0)))) (sApp 2 (eV 5)) (sSeq (sSet 7 (eB pMin2 (aCons (eV 6) (aCons (eIf (tV (eOp pNe (eV 5) (eB pTup aNil))) (eIx (eV 5) (eUn pNeg (eC (.int 1)))) (eV 6)) aNil)))) (sSet 4 (eOp pAdd (eV 4) (eLc [8] (iR2 (aCons (eC (.int 1)) (aCons (eOp pAdd (eV 7) (eC (.int 1))) aNil))) (gN 8) tT (eB pTup (aCons (eOp pAdd (eV 5) (eB pTup (aCons (eV 8) aNil))) (aCons (eOp pSub (eV 6) (eV 8)) aNil))))))))) (sSet 3 (eV 4))))) (sRet (eUn pRevA (eUn (pSrt (.seq .int)) (eOp pAdd (eO 2) (eLc [5, 6] (iSeq (eV 3)) (gT 2 (gNc (gN 5) (gNc (gN 6) gNn))) (tV (eOp pEq (eV 6) (eC (.int 0)))) (eV 5))))))))
def f_l_forms : List PV → Sto → Res (PV × Sto) := runF 9 F_l_forms
def F_l_tilted : FS := (sRet (eUn pTupC (eLc [1] (iR1 (aCons (eIf (tV (eOp pNe (eV 0) (eB pTup aNil))) (eIx (eV 0) (eC (.int 0))) (eC (.int 0))) aNil)) (gN 1) tT (eUn pLen (eLc [2] (iSeq (eV 0)) (gN 2) (tV (eOp pGt (eV 2) (eV 1))) (eV 2))))))
def f_l_tilted : List PV → Sto → Res (PV × Sto) := runF 3 F_l_tilted
def F_l_split : FS := (sSeq (sSet 3 (eB pLst (aCons (eB pTup aNil) aNil))) (sSeq (sFor (iSeq (eV 1)) (gN 4) (sSeq (sSet 5 (eB pLst aNil)) (sSeq (sFor (iSeq (eV 3)) (gN 6) (sSet 5 (eOp pAdd (eV 5) (eLc [7] (iR1 (aCons (eOp pAdd (eB pMin3 (aCons (eV 4) (aCons (eV 2) (aCons (eOp pSub (eV 0) (eUn pSum (eV 6))) aNil)))) (eC (.int 1))) aNil)) (gN 7) tT (eOp pAdd (eV 6) (eB pTup (aCons (eV 7) aNil))))))) (sSet 3 (eV 5))))) (sRet (eLc [6] (iSeq (eV 3)) (gN 6) (tV (eOp pEq (eUn pSum (eV 6)) (eV 0))) (eV 6)))))
def f_l_split : List PV → Sto → Res (PV × Sto) := runF 8 F_l_split
def F_l_arrays (self : List PV → Sto → Res (PV × Sto)) : FS := (sSeq (sIf (tV (eOp pEq (eV 0) (eB pTup aNil))) (sRet (eIf (tV (eOp pEq (eUn pSum (eV 1)) (eC (.int 0)))) (eC (.int 1)) (eC (.int 0)))) sNext) (sSeq (sSet 3 (eC (.int 0))) (sSeq (sFor (iSeq (eCall f_l_split (aCons (eIx (eV 0) (eC (.int 0))) (aCons (eV 1) (aCons (eV 2) aNil))))) (gN 4) (sSet 3 (eOp pAdd (eV 3) (eCall self (aCons (eSl (eV 0) (oSo (eC (.int 1))) oNo) (aCons (eUn pTupC (eLc [5, 6] (iZp (aCons (eV 1) (aCons (eV 4) aNil))) (gT 2 (gNc (gN 5) (gNc (gN 6) gNn))) tT (eOp pSub (eV 5) (eV 6)))) (aCons (eV 2) aNil))))))) (sRet (eV 3)))))
def q_l_arrays : Nat → List PV → Sto → Res (PV × Sto)
  | 0 => fun _ _ => .err
  | n + 1 => runF 7 (F_l_arrays (q_l_arrays n))
def f_l_arrays : List PV → Sto → Res (PV × Sto) := q_l_arrays 5
def F_l_sums : FS := (sSeq (sParFE 3 4 (eB pLst aNil) (eV 1)) (sSeq (sFor (iR1 (aCons (eCall f_l_sip (aCons (eV 0) (aCons (eC (.int 3)) aNil))) aNil)) (gN 2) (sSeq (sApp 3 (eCall f_l_sip (aCons (eV 0) (aCons (eOp pAdd (eV 4) (eC (.int 1))) aNil)))) (sSet 4 (eOp pSub (eV 4) (eIx (eO 3) (eUn pNeg (eC (.int 1)))))))) (sRet (eUn pTupC (eOp pAdd (eO 3) (eB pLst (aCons (eV 4) aNil)))))))
def f_l_sums : List PV → Sto → Res (PV × Sto) := runF 5 F_l_sums
def F_l_own_inverses : FS := (sSeq (sOwn 1 (eB pLst (aCons (eC (.int 1)) (aCons (eC (.int 1)) aNil)))) (sSeq (sFor (iR2 (aCons (eC (.int 2)) (aCons (eOp pAdd (eV 0) (eC (.int 1))) aNil))) (gN 2) (sApp 1 (eOp pAdd (eIx (eO 1) (eOp pSub (eV 2) (eC (.int 1)))) (eOp pMulB (eOp pSub (eV 2) (eC (.int 1))) (eIx (eO 1) (eOp pSub (eV 2) (eC (.int 2)))))))) (sRet (eIx (eO 1) (eV 0)))))
def f_l_own_inverses : List PV → Sto → Res (PV × Sto) := runF 3 F_l_own_inverses
def F_l_right : FS := (sSeq (sFor (iR1 (aCons (eC (.int 2)) aNil)) (gN 1) (sSeq (sSet 4 (eCall f_l_sip (aCons (eV 0) (aCons (eC (.int 6)) aNil)))) (sSeq (sAsg (eB pTup (aCons (eCall f_l_sums (aCons (eV 0) (aCons (eV 4) aNil))) (aCons (eCall f_l_sums (aCons (eV 0) (aCons (eV 4) aNil))) aNil))) (gT 2 (gNc (gN 6) (gNc (gN 7) gNn)))) (sSeq (sPar 8 9 (aCons (eCall f_l_arrays (aCons (eV 6) (aCons (eV 7) (aCons (eC (.int 12)) aNil)))) (aCons (eCall f_l_arrays (aCons (eV 6) (aCons (eV 7) (aCons (eC (.int 1)) aNil)))) aNil))) (sSeq (sIf (tV (eOp (pRpr false) (eB pLst (aCons (eCall f_margin_count (aCons (eV 6) (aCons (eV 7) aNil))) (aCons (eCallP f_margin_count swap2 (aCons (eV 7) (aCons (eV 6) aNil))) aNil))) (eB pLst (aCons (eV 8) (aCons (eV 8) aNil))))) (sRet (eC (.bl false))) sNext) (sSeq (sIf (tV (eOp (pRpr false) (eB pLst (aCons (eCall f_zero_one_count (aCons (eV 6) (aCons (eV 7) aNil))) (aCons (eCallP f_zero_one_count swap2 (aCons (eV 7) (aCons (eV 6) aNil))) aNil))) (eB pLst (aCons (eV 9) (aCons (eV 9) aNil))))) (sRet (eC (.bl false))) sNext) (sSeq (sSet 5 (eCall f_l_forms (aCons (eV 4) aNil))) (sSeq (sIf (tV (eOp pNe (eUn pSum (eLc [13] (iSeq (eV 5)) (gN 13) tT (eOp pMulB (eCall f_table_count (aCons (eV 13) (aCons (eV 6) aNil))) (eCall f_table_count (aCons (eV 13) (aCons (eV 7) aNil)))))) (eV 8))) (sRet (eC (.bl false))) sNext) (sSeq (sIf (tV (eOp pNe (eUn pSum (eLc [13] (iSeq (eV 5)) (gN 13) tT (eOp pMulB (eCall f_table_count (aCons (eV 13) (aCons (eV 6) aNil))) (eCall f_table_count (aCons (eCall f_l_tilted (aCons (eV 13) aNil)) (aCons (eV 7) aNil)))))) (eV 9))) (sRet (eC (.bl false))) sNext) (sSeq (sAsg (eLc [12] (iSeq (eB pLst (aCons (eV 6) (aCons (eV 7) aNil)))) (gN 12) tT (eUn pTupC (eUn pRevA (eUn (pSrt .int) (eLc [14] (iSeq (eV 12)) (gN 14) (tV (eOp pGt (eV 14) (eC (.int 0)))) (eV 14)))))) (gT 2 (gNc (gN 10) (gNc (gN 11) gNn)))) (sSeq (sIf (tV (eOp pNe (eCall f_heavier (aCons (eCall f_l_tilted (aCons (eV 10) aNil)) (aCons (eV 11) aNil))) (eOp pGt (eV 9) (eC (.int 0))))) (sRet (eC (.bl false))) sNext) (sIf (tOrr (tV (eOp pNe (eCall f_margin_count (aCons (eV 6) (aCons (eOp pAdd (eSl (eV 7) oNo (oSo (eUn pNeg (eC (.int 1))))) (eB pTup (aCons (eOp pAdd (eIx (eV 7) (eUn pNeg (eC (.int 1)))) (eC (.int 1))) aNil))) aNil))) (eC (.int 0)))) (tV (eOp pNe (eCall f_zero_one_count (aCons (eOp pAdd (eV 6) (eB pTup (aCons (eC (.int 1)) aNil))) (aCons (eV 7) aNil))) (eC (.int 0))))) (sRet (eC (.bl false))) sNext)))))))))))) (sSeq (sSet 2 (eCall f_l_sip (aCons (eV 0) (aCons (eC (.int 8)) aNil)))) (sSeq (sSet 3 (eB pLst (aCons (eCall f_own_inverse_count (aCons (eV 2) aNil)) (aCons (eCallK f_own_inverse_count aNil (aCons (eV 2) aNil)) aNil)))) (sRet (eAnd (eOp pEq (eV 3) (eOp pMulB (eB pLst (aCons (eCall f_l_own_inverses (aCons (eV 2) aNil)) aNil)) (eC (.int 2)))) (eOp pEq (eUn pSum (eLc [13] (iSeq (eCall f_l_forms (aCons (eV 2) aNil))) (gN 13) tT (eCall f_growth_count (aCons (eV 13) aNil)))) (eIx (eV 3) (eC (.int 0)))))))))
def f_l_right : List PV → Sto → Res (PV × Sto) := runF 15 F_l_right
def F_law : FS := (sRet (eUn pAll (eLc [1] (iR1 (aCons (eB pMax2 (aCons (eC (.int 2)) (aCons (eB pMin2 (aCons (eUn pLen (eV 0)) (aCons (eC (.int 5)) aNil))) aNil))) aNil)) (gN 1) tT (eCall f_l_right (aCons (eCall f_l_vat_of (aCons (eV 0) (aCons (eV 1) aNil))) aNil)))))
def f_law : List PV → Sto → Res (PV × Sto) := runF 2 F_law
/-! ### facts of the top -/
structure Facts (K : PySem.W.Frag) (mg : Str → Option Value) : Prop where
  f_abs : mg "abs" = none
  f_all : mg "all" = none
  f_bool : mg "bool" = none
  f_divmod : mg "divmod" = none
  f_enumerate : mg "enumerate" = none
  f_int : mg "int" = none
  f_isinstance : mg "isinstance" = none
  f_len : mg "len" = none
  f_max : mg "max" = none
  f_min : mg "min" = none
  f_range : mg "range" = none
  f_repr : mg "repr" = none
  f_sorted : mg "sorted" = none
  f_sum : mg "sum" = none
  f_tuple : mg "tuple" = none
  f_zip : mg "zip" = none
  c_MOST_BOXES : ∃ t, mg "MOST_BOXES" = some (.int 40 t)
  c_MOST_LONG : ∃ t, mg "MOST_LONG" = some (.int 12 t)
  c_MOST_MARGINS : ∃ t, mg "MOST_MARGINS" = some (.int 6 t)
  d_l_vat_of : Def1 K mg "_law_vat_of" s_l_vat_of
  d_sums_along : Def1 K mg "sums_along" s_sums_along
  d_lighter_at : Def1 K mg "lighter_at" s_lighter_at
  d_is_number : Def1 K mg "is_number" s_is_number
  d_is_shape : Def1 K mg "is_shape" s_is_shape
  d_check_shape : Def1 K mg "check_shape" s_check_shape
  d_check_sizes : Def1 K mg "check_sizes" s_check_sizes
  d_heavier : Def1 K mg "heavier" s_heavier
  d_hook_of : Def1 K mg "hook_of" s_hook_of
  d_hooks_of : Def1 K mg "hooks_of" s_hooks_of
  d_factorial : Def1 K mg "factorial" s_factorial
  d_growth_count : Def1 K mg "growth_count" s_growth_count
  d_are_amounts : Def1 K mg "are_amounts" s_are_amounts
  d_check_amounts : Def1 K mg "check_amounts" s_check_amounts
  d_trimmed : Def1 K mg "trimmed" s_trimmed
  d_parts_below : Def1 K mg "parts_below" s_parts_below
  d_tables_counted : Def1 K mg "tables_counted" s_tables_counted
  d_table_count : Def1 K mg "table_count" s_table_count
  d_check_margins : Def1 K mg "check_margins" s_check_margins
  d_rows_of_sum : Def1 K mg "rows_of_sum" s_rows_of_sum
  d_arrays_counted : Def1 K mg "arrays_counted" s_arrays_counted
  d_margin_count : Def1 K mg "margin_count" s_margin_count
  d_zero_one_count : Def1 K mg "zero_one_count" s_zero_one_count
  d_own_inverse_count : Def1 K mg "own_inverse_count" s_own_inverse_count
  d_l_sip : Def1 K mg "_law_sip" s_l_sip
  d_l_forms : Def1 K mg "_law_forms" s_l_forms
  d_l_tilted : Def1 K mg "_law_tilted" s_l_tilted
  d_l_split : Def1 K mg "_law_split" s_l_split
  d_l_arrays : Def1 K mg "_law_arrays" s_l_arrays
  d_l_sums : Def1 K mg "_law_sums" s_l_sums
  d_l_own_inverses : Def1 K mg "_law_own_inverses" s_l_own_inverses
  d_l_right : Def1 K mg "_law_right" s_l_right
  d_law : Def1 K mg "law" s_law
theorem sc_l_vat_of : FnScope ["_law_script", "_law_turn", "_law_cell", "_law_blended", "_law_at", "_law_each"] ["_law_script", "_law_turn"] (defScope s_l_vat_of) := ⟨rfl, rfl, rfl, by decide +kernel, rfl, by decide +kernel, by decide +kernel⟩
theorem pb_l_vat_of : PosB "_law_vat_of" s_l_vat_of ["_law_script", "_law_turn"] := fun _ _ _ _ _ _ us hl => match us, hl with | [_, _], _ => rfl
theorem sc_sums_along : FnScope ["shape", "many", "found", "whole", "row"] ["shape", "many"] (defScope s_sums_along) := ⟨rfl, rfl, rfl, by decide +kernel, rfl, by decide +kernel, by decide +kernel⟩
theorem pb_sums_along : PosB "sums_along" s_sums_along ["shape", "many"] := fun _ _ _ _ _ _ us hl => match us, hl with | [_, _], _ => rfl
theorem sc_lighter_at : FnScope ["shape", "other", "many", "own", "place", "whole"] ["shape", "other"] (defScope s_lighter_at) := ⟨rfl, rfl, rfl, by decide +kernel, rfl, by decide +kernel, by decide +kernel⟩
theorem pb_lighter_at : PosB "lighter_at" s_lighter_at ["shape", "other"] := fun _ _ _ _ _ _ us hl => match us, hl with | [_, _], _ => rfl
theorem sc_is_number : FnScope ["value", "low", "high"] ["value", "low", "high"] (defScope s_is_number) := ⟨rfl, rfl, rfl, by decide +kernel, rfl, by decide +kernel, by decide +kernel⟩
theorem pb_is_number : PosB "is_number" s_is_number ["value", "low", "high"] := fun _ _ _ _ _ _ us hl => match us, hl with | [_, _, _], _ => rfl
theorem sc_is_shape : FnScope ["value", "most", "place", "part"] ["value", "most"] (defScope s_is_shape) := ⟨rfl, rfl, rfl, by decide +kernel, rfl, by decide +kernel, by decide +kernel⟩
theorem pb_is_shape : PosB "is_shape" s_is_shape ["value", "most"] := fun _ _ _ _ _ _ us hl => match us, hl with | [_, _], _ => rfl
theorem b_is_shape_0 : BlkOk ["value", "most", "place", "part"] (defScope s_is_shape) { kind := PySem.ScopeKind.function, names := [ (PySem.Str.ofString ".0", PySem.NameKind.local), (PySem.Str.ofString "part", PySem.NameKind.local), (PySem.Str.ofString "is_number", PySem.NameKind.globalImplicit), (PySem.Str.ofString "most", PySem.NameKind.free)], isGenerator := false, isCoroutine := false, more := [] : PySem.Scope } [("part", 3)] := ⟨rfl, by decide +kernel, by decide +kernel, by decide +kernel, by decide +kernel⟩
theorem b_is_shape_1 : BlkOk ["value", "most", "place", "part"] (defScope s_is_shape) { kind := PySem.ScopeKind.function, names := [ (PySem.Str.ofString ".0", PySem.NameKind.local), (PySem.Str.ofString "place", PySem.NameKind.local), (PySem.Str.ofString "value", PySem.NameKind.free)], isGenerator := false, isCoroutine := false, more := [] : PySem.Scope } [("place", 2)] := ⟨rfl, by decide +kernel, by decide +kernel, by decide +kernel, by decide +kernel⟩
theorem sc_check_shape : FnScope ["value", "most"] ["value", "most"] (defScope s_check_shape) := ⟨rfl, rfl, rfl, by decide +kernel, rfl, by decide +kernel, by decide +kernel⟩
theorem pb_check_shape : PosB "check_shape" s_check_shape ["value", "most"] := fun _ _ _ _ _ _ us hl => match us, hl with | [_, _], _ => rfl
theorem sc_check_sizes : FnScope ["shape", "other"] ["shape", "other"] (defScope s_check_sizes) := ⟨rfl, rfl, rfl, by decide +kernel, rfl, by decide +kernel, by decide +kernel⟩
theorem pb_check_sizes : PosB "check_sizes" s_check_sizes ["shape", "other"] := fun _ _ _ _ _ _ us hl => match us, hl with | [_, _], _ => rfl
theorem sc_heavier : FnScope ["shape", "other"] ["shape", "other"] (defScope s_heavier) := ⟨rfl, rfl, rfl, by decide +kernel, rfl, by decide +kernel, by decide +kernel⟩
theorem pb_heavier : PosB "heavier" s_heavier ["shape", "other"] := fun _ _ _ _ _ _ us hl => match us, hl with | [_, _], _ => rfl
theorem sc_hook_of : FnScope ["shape", "row", "column", "below", "part"] ["shape", "row", "column"] (defScope s_hook_of) := ⟨rfl, rfl, rfl, by decide +kernel, rfl, by decide +kernel, by decide +kernel⟩
theorem pb_hook_of : PosB "hook_of" s_hook_of ["shape", "row", "column"] := fun _ _ _ _ _ _ us hl => match us, hl with | [_, _, _], _ => rfl
theorem b_hook_of_0 : BlkOk ["shape", "row", "column", "below", "part"] (defScope s_hook_of) { kind := PySem.ScopeKind.function, names := [ (PySem.Str.ofString ".0", PySem.NameKind.local), (PySem.Str.ofString "part", PySem.NameKind.local), (PySem.Str.ofString "column", PySem.NameKind.free)], isGenerator := false, isCoroutine := false, more := [] : PySem.Scope } [("part", 4)] := ⟨rfl, by decide +kernel, by decide +kernel, by decide +kernel, by decide +kernel⟩
theorem sc_hooks_of : FnScope ["shape", "found", "row", "part", "column"] ["shape"] (defScope s_hooks_of) := ⟨rfl, rfl, rfl, by decide +kernel, rfl, by decide +kernel, by decide +kernel⟩
theorem pb_hooks_of : PosB "hooks_of" s_hooks_of ["shape"] := fun _ _ _ _ _ _ us hl => match us, hl with | [_], _ => rfl
theorem sc_factorial : FnScope ["number", "found", "factor"] ["number"] (defScope s_factorial) := ⟨rfl, rfl, rfl, by decide +kernel, rfl, by decide +kernel, by decide +kernel⟩
theorem pb_factorial : PosB "factorial" s_factorial ["number"] := fun _ _ _ _ _ _ us hl => match us, hl with | [_], _ => rfl
theorem sc_growth_count : FnScope ["shape"] ["shape"] (defScope s_growth_count) := ⟨rfl, rfl, rfl, by decide +kernel, rfl, by decide +kernel, by decide +kernel⟩
theorem pb_growth_count : PosB "growth_count" s_growth_count ["shape"] := fun _ _ _ _ _ _ us hl => match us, hl with | [_], _ => rfl
theorem sc_are_amounts : FnScope ["value", "most", "many"] ["value", "most"] (defScope s_are_amounts) := ⟨rfl, rfl, rfl, by decide +kernel, rfl, by decide +kernel, by decide +kernel⟩
theorem pb_are_amounts : PosB "are_amounts" s_are_amounts ["value", "most"] := fun _ _ _ _ _ _ us hl => match us, hl with | [_, _], _ => rfl
theorem b_are_amounts_0 : BlkOk ["value", "most", "many"] (defScope s_are_amounts) { kind := PySem.ScopeKind.function, names := [ (PySem.Str.ofString ".0", PySem.NameKind.local), (PySem.Str.ofString "many", PySem.NameKind.local), (PySem.Str.ofString "isinstance", PySem.NameKind.globalImplicit), (PySem.Str.ofString "int", PySem.NameKind.globalImplicit), (PySem.Str.ofString "bool", PySem.NameKind.globalImplicit)], isGenerator := false, isCoroutine := false, more := [] : PySem.Scope } [("many", 2)] := ⟨rfl, by decide +kernel, by decide +kernel, by decide +kernel, by decide +kernel⟩
theorem sc_check_amounts : FnScope ["value"] ["value"] (defScope s_check_amounts) := ⟨rfl, rfl, rfl, by decide +kernel, rfl, by decide +kernel, by decide +kernel⟩
theorem pb_check_amounts : PosB "check_amounts" s_check_amounts ["value"] := fun _ _ _ _ _ _ us hl => match us, hl with | [_], _ => rfl
theorem sc_trimmed : FnScope ["numbers", "number"] ["numbers"] (defScope s_trimmed) := ⟨rfl, rfl, rfl, by decide +kernel, rfl, by decide +kernel, by decide +kernel⟩
theorem pb_trimmed : PosB "trimmed" s_trimmed ["numbers"] := fun _ _ _ _ _ _ us hl => match us, hl with | [_], _ => rfl
theorem b_trimmed_0 : BlkOk ["numbers", "number"] (defScope s_trimmed) { kind := PySem.ScopeKind.function, names := [(PySem.Str.ofString ".0", PySem.NameKind.local), (PySem.Str.ofString "number", PySem.NameKind.local)], isGenerator := false, isCoroutine := false, more := [] : PySem.Scope } [("number", 1)] := ⟨rfl, by decide +kernel, by decide +kernel, by decide +kernel, by decide +kernel⟩
theorem sc_parts_below : FnScope ["shape", "size", "found", "row", "part", "room", "less", "head", "left"] ["shape", "size"] (defScope s_parts_below) := ⟨rfl, rfl, rfl, by decide +kernel, rfl, by decide +kernel, by decide +kernel⟩
theorem pb_parts_below : PosB "parts_below" s_parts_below ["shape", "size"] := fun _ _ _ _ _ _ us hl => match us, hl with | [_, _], _ => rfl
theorem b_parts_below_0 : BlkOk ["shape", "size", "found", "row", "part", "room", "less", "head", "left"] (defScope s_parts_below) { kind := PySem.ScopeKind.function, names := [ (PySem.Str.ofString ".0", PySem.NameKind.local), (PySem.Str.ofString "head", PySem.NameKind.local), (PySem.Str.ofString "left", PySem.NameKind.local), (PySem.Str.ofString "less", PySem.NameKind.local), (PySem.Str.ofString "range", PySem.NameKind.globalImplicit), (PySem.Str.ofString "min", PySem.NameKind.globalImplicit), (PySem.Str.ofString "part", PySem.NameKind.free), (PySem.Str.ofString "room", PySem.NameKind.free)], isGenerator := false, isCoroutine := false, more := [] : PySem.Scope } [("head", 7), ("left", 8), ("less", 6)] := ⟨rfl, by decide +kernel, by decide +kernel, by decide +kernel, by decide +kernel⟩
theorem b_parts_below_1 : BlkOk ["shape", "size", "found", "row", "part", "room", "less", "head", "left"] (defScope s_parts_below) { kind := PySem.ScopeKind.function, names := [ (PySem.Str.ofString ".0", PySem.NameKind.local), (PySem.Str.ofString "head", PySem.NameKind.local), (PySem.Str.ofString "left", PySem.NameKind.local), (PySem.Str.ofString "trimmed", PySem.NameKind.globalImplicit)], isGenerator := false, isCoroutine := false, more := [] : PySem.Scope } [("head", 7), ("left", 8)] := ⟨rfl, by decide +kernel, by decide +kernel, by decide +kernel, by decide +kernel⟩
theorem sc_tables_counted : FnScope ["shape", "amounts", "now", "many", "later", "held", "ways", "less"] ["shape", "amounts"] (defScope s_tables_counted) := ⟨rfl, rfl, rfl, by decide +kernel, rfl, by decide +kernel, by decide +kernel⟩
theorem pb_tables_counted : PosB "tables_counted" s_tables_counted ["shape", "amounts"] := fun _ _ _ _ _ _ us hl => match us, hl with | [_, _], _ => rfl
theorem sc_table_count : FnScope ["shape", "amounts"] ["shape", "amounts"] (defScope s_table_count) := ⟨rfl, rfl, rfl, by decide +kernel, rfl, by decide +kernel, by decide +kernel⟩
theorem pb_table_count : PosB "table_count" s_table_count ["shape", "amounts"] := fun _ _ _ _ _ _ us hl => match us, hl with | [_, _], _ => rfl
theorem sc_check_margins : FnScope ["value"] ["value"] (defScope s_check_margins) := ⟨rfl, rfl, rfl, by decide +kernel, rfl, by decide +kernel, by decide +kernel⟩
theorem pb_check_margins : PosB "check_margins" s_check_margins ["value"] := fun _ _ _ _ _ _ us hl => match us, hl with | [_], _ => rfl
theorem sc_rows_of_sum : FnScope ["total", "rooms", "found", "room", "many", "head", "left"] ["total", "rooms"] (defScope s_rows_of_sum) := ⟨rfl, rfl, rfl, by decide +kernel, rfl, by decide +kernel, by decide +kernel⟩
theorem pb_rows_of_sum : PosB "rows_of_sum" s_rows_of_sum ["total", "rooms"] := fun _ _ _ _ _ _ us hl => match us, hl with | [_, _], _ => rfl
theorem b_rows_of_sum_0 : BlkOk ["total", "rooms", "found", "room", "many", "head", "left"] (defScope s_rows_of_sum) { kind := PySem.ScopeKind.function, names := [ (PySem.Str.ofString ".0", PySem.NameKind.local), (PySem.Str.ofString "head", PySem.NameKind.local), (PySem.Str.ofString "left", PySem.NameKind.local), (PySem.Str.ofString "many", PySem.NameKind.local), (PySem.Str.ofString "range", PySem.NameKind.globalImplicit), (PySem.Str.ofString "min", PySem.NameKind.globalImplicit), (PySem.Str.ofString "room", PySem.NameKind.free)], isGenerator := false, isCoroutine := false, more := [] : PySem.Scope } [("head", 5), ("left", 6), ("many", 4)] := ⟨rfl, by decide +kernel, by decide +kernel, by decide +kernel, by decide +kernel⟩
theorem b_rows_of_sum_1 : BlkOk ["total", "rooms", "found", "room", "many", "head", "left"] (defScope s_rows_of_sum) { kind := PySem.ScopeKind.function, names := [ (PySem.Str.ofString ".0", PySem.NameKind.local), (PySem.Str.ofString "head", PySem.NameKind.local), (PySem.Str.ofString "left", PySem.NameKind.local)], isGenerator := false, isCoroutine := false, more := [] : PySem.Scope } [("head", 5), ("left", 6)] := ⟨rfl, by decide +kernel, by decide +kernel, by decide +kernel, by decide +kernel⟩
theorem sc_arrays_counted : FnScope ["rows", "columns", "most", "now", "total", "later", "left", "ways", "taken", "rest", "room", "many"] ["rows", "columns", "most"] (defScope s_arrays_counted) := ⟨rfl, rfl, rfl, by decide +kernel, rfl, by decide +kernel, by decide +kernel⟩
theorem pb_arrays_counted : PosB "arrays_counted" s_arrays_counted ["rows", "columns", "most"] := fun _ _ _ _ _ _ us hl => match us, hl with | [_, _, _], _ => rfl
theorem b_arrays_counted_0 : BlkOk ["rows", "columns", "most", "now", "total", "later", "left", "ways", "taken", "rest", "room", "many"] (defScope s_arrays_counted) { kind := PySem.ScopeKind.function, names := [ (PySem.Str.ofString ".0", PySem.NameKind.local), (PySem.Str.ofString "room", PySem.NameKind.local), (PySem.Str.ofString "min", PySem.NameKind.globalImplicit), (PySem.Str.ofString "most", PySem.NameKind.free)], isGenerator := false, isCoroutine := false, more := [] : PySem.Scope } [("room", 10)] := ⟨rfl, by decide +kernel, by decide +kernel, by decide +kernel, by decide +kernel⟩
theorem b_arrays_counted_1 : BlkOk ["rows", "columns", "most", "now", "total", "later", "left", "ways", "taken", "rest", "room", "many"] (defScope s_arrays_counted) { kind := PySem.ScopeKind.function, names := [ (PySem.Str.ofString ".0", PySem.NameKind.local), (PySem.Str.ofString "room", PySem.NameKind.local), (PySem.Str.ofString "many", PySem.NameKind.local)], isGenerator := false, isCoroutine := false, more := [] : PySem.Scope } [("room", 10), ("many", 11)] := ⟨rfl, by decide +kernel, by decide +kernel, by decide +kernel, by decide +kernel⟩
theorem sc_margin_count : FnScope ["rows", "columns"] ["rows", "columns"] (defScope s_margin_count) := ⟨rfl, rfl, rfl, by decide +kernel, rfl, by decide +kernel, by decide +kernel⟩
theorem pb_margin_count : PosB "margin_count" s_margin_count ["rows", "columns"] := fun _ _ _ _ _ _ us hl => match us, hl with | [_, _], _ => rfl
theorem kp_margin_count : KwP "margin_count" s_margin_count ["rows", "columns"] ["columns", "rows"] swap2 := fun _ _ _ _ _ _ ws h => match ws, h with | [_, _], _ => rfl
theorem sc_zero_one_count : FnScope ["rows", "columns"] ["rows", "columns"] (defScope s_zero_one_count) := ⟨rfl, rfl, rfl, by decide +kernel, rfl, by decide +kernel, by decide +kernel⟩
theorem pb_zero_one_count : PosB "zero_one_count" s_zero_one_count ["rows", "columns"] := fun _ _ _ _ _ _ us hl => match us, hl with | [_, _], _ => rfl
theorem kp_zero_one_count : KwP "zero_one_count" s_zero_one_count ["rows", "columns"] ["columns", "rows"] swap2 := fun _ _ _ _ _ _ ws h => match ws, h with | [_, _], _ => rfl
theorem sc_own_inverse_count : FnScope ["size", "number", "before", "now"] ["size"] (defScope s_own_inverse_count) := ⟨rfl, rfl, rfl, by decide +kernel, rfl, by decide +kernel, by decide +kernel⟩
theorem pb_own_inverse_count : PosB "own_inverse_count" s_own_inverse_count ["size"] := fun _ _ _ _ _ _ us hl => match us, hl with | [_], _ => rfl
theorem kw_own_inverse_count : KwB "own_inverse_count" s_own_inverse_count ["size"] 0 := fun _ _ _ _ _ _ us ws h1 h2 => match us, ws, h1, h2 with | [], [_], _, _ => rfl
theorem sc_l_sip : FnScope ["_law_vat", "_law_top", "_law_base", "_law_got"] ["_law_vat", "_law_top"] (defScope s_l_sip) := ⟨rfl, rfl, rfl, by decide +kernel, rfl, by decide +kernel, by decide +kernel⟩
theorem pb_l_sip : PosB "_law_sip" s_l_sip ["_law_vat", "_law_top"] := fun _ _ _ _ _ _ us hl => match us, hl with | [_, _], _ => rfl
theorem sc_l_forms : FnScope ["_law_n", "_law_turn", "_law_found", "_law_line_here", "_law_later", "_law_head", "_law_left", "_law_top_here", "_law_part"] ["_law_n"] (defScope s_l_forms) := ⟨rfl, rfl, rfl, by decide +kernel, rfl, by decide +kernel, by decide +kernel⟩
theorem pb_l_forms : PosB "_law_forms" s_l_forms ["_law_n"] := fun _ _ _ _ _ _ us hl => match us, hl with | [_], _ => rfl
theorem b_l_forms_0 : BlkOk ["_law_n", "_law_turn", "_law_found", "_law_line_here", "_law_later", "_law_head", "_law_left", "_law_top_here", "_law_part"] (defScope s_l_forms) { kind := PySem.ScopeKind.function, names := [ (PySem.Str.ofString ".0", PySem.NameKind.local), (PySem.Str.ofString "_law_part", PySem.NameKind.local), (PySem.Str.ofString "_law_head", PySem.NameKind.free), (PySem.Str.ofString "_law_left", PySem.NameKind.free)], isGenerator := false, isCoroutine := false, more := [] : PySem.Scope } [("_law_part", 8)] := ⟨rfl, by decide +kernel, by decide +kernel, by decide +kernel, by decide +kernel⟩
theorem b_l_forms_1 : BlkOk ["_law_n", "_law_turn", "_law_found", "_law_line_here", "_law_later", "_law_head", "_law_left", "_law_top_here", "_law_part"] (defScope s_l_forms) { kind := PySem.ScopeKind.function, names := [ (PySem.Str.ofString ".0", PySem.NameKind.local), (PySem.Str.ofString "_law_head", PySem.NameKind.local), (PySem.Str.ofString "_law_left", PySem.NameKind.local)], isGenerator := false, isCoroutine := false, more := [] : PySem.Scope } [("_law_head", 5), ("_law_left", 6)] := ⟨rfl, by decide +kernel, by decide +kernel, by decide +kernel, by decide +kernel⟩
theorem sc_l_tilted : FnScope ["_law_form", "_law_k", "_law_part"] ["_law_form"] (defScope s_l_tilted) := ⟨rfl, rfl, rfl, by decide +kernel, rfl, by decide +kernel, by decide +kernel⟩
theorem pb_l_tilted : PosB "_law_tilted" s_l_tilted ["_law_form"] := fun _ _ _ _ _ _ us hl => match us, hl with | [_], _ => rfl
theorem b_l_tilted_0 : BlkOk ["_law_form", "_law_k", "_law_part"] (defScope s_l_tilted) { kind := PySem.ScopeKind.function, names := [ (PySem.Str.ofString ".0", PySem.NameKind.local), (PySem.Str.ofString "_law_k", PySem.NameKind.cell), (PySem.Str.ofString "len", PySem.NameKind.globalImplicit), (PySem.Str.ofString "_law_form", PySem.NameKind.free)], isGenerator := false, isCoroutine := false, more := [] : PySem.Scope } [("_law_k", 1)] := ⟨rfl, by decide +kernel, by decide +kernel, by decide +kernel, by decide +kernel⟩
theorem b_l_tilted_1 : BlkOk ["_law_form", "_law_k", "_law_part"] ({ kind := PySem.ScopeKind.function, names := [ (PySem.Str.ofString ".0", PySem.NameKind.local), (PySem.Str.ofString "_law_k", PySem.NameKind.cell), (PySem.Str.ofString "len", PySem.NameKind.globalImplicit), (PySem.Str.ofString "_law_form", PySem.NameKind.cell)], isGenerator := false, isCoroutine := false, more := [] : PySem.Scope }) { kind := PySem.ScopeKind.function, names := [ (PySem.Str.ofString ".0", PySem.NameKind.local), (PySem.Str.ofString "_law_part", PySem.NameKind.local), (PySem.Str.ofString "_law_k", PySem.NameKind.free)], isGenerator := false, isCoroutine := false, more := [] : PySem.Scope } [("_law_part", 2)] := ⟨rfl, by decide +kernel, by decide +kernel, by decide +kernel, by decide +kernel⟩
theorem sc_l_split : FnScope ["_law_total", "_law_rooms_here", "_law_top_here", "_law_found", "_law_room", "_law_later", "_law_head", "_law_part"] ["_law_total", "_law_rooms_here", "_law_top_here"] (defScope s_l_split) := ⟨rfl, rfl, rfl, by decide +kernel, rfl, by decide +kernel, by decide +kernel⟩
theorem pb_l_split : PosB "_law_split" s_l_split ["_law_total", "_law_rooms_here", "_law_top_here"] := fun _ _ _ _ _ _ us hl => match us, hl with | [_, _, _], _ => rfl
theorem b_l_split_0 : BlkOk ["_law_total", "_law_rooms_here", "_law_top_here", "_law_found", "_law_room", "_law_later", "_law_head", "_law_part"] (defScope s_l_split) { kind := PySem.ScopeKind.function, names := [ (PySem.Str.ofString ".0", PySem.NameKind.local), (PySem.Str.ofString "_law_part", PySem.NameKind.local), (PySem.Str.ofString "_law_head", PySem.NameKind.free)], isGenerator := false, isCoroutine := false, more := [] : PySem.Scope } [("_law_part", 7)] := ⟨rfl, by decide +kernel, by decide +kernel, by decide +kernel, by decide +kernel⟩
theorem b_l_split_1 : BlkOk ["_law_total", "_law_rooms_here", "_law_top_here", "_law_found", "_law_room", "_law_later", "_law_head", "_law_part"] (defScope s_l_split) { kind := PySem.ScopeKind.function, names := [ (PySem.Str.ofString ".0", PySem.NameKind.local), (PySem.Str.ofString "_law_head", PySem.NameKind.local), (PySem.Str.ofString "sum", PySem.NameKind.globalImplicit), (PySem.Str.ofString "_law_total", PySem.NameKind.free)], isGenerator := false, isCoroutine := false, more := [] : PySem.Scope } [("_law_head", 6)] := ⟨rfl, by decide +kernel, by decide +kernel, by decide +kernel, by decide +kernel⟩
theorem sc_l_arrays : FnScope ["_law_down", "_law_across", "_law_top_here", "_law_found", "_law_head", "_law_room", "_law_part"] ["_law_down", "_law_across", "_law_top_here"] (defScope s_l_arrays) := ⟨rfl, rfl, rfl, by decide +kernel, rfl, by decide +kernel, by decide +kernel⟩
theorem pb_l_arrays : PosB "_law_arrays" s_l_arrays ["_law_down", "_law_across", "_law_top_here"] := fun _ _ _ _ _ _ us hl => match us, hl with | [_, _, _], _ => rfl
theorem b_l_arrays_0 : BlkOk ["_law_down", "_law_across", "_law_top_here", "_law_found", "_law_head", "_law_room", "_law_part"] (defScope s_l_arrays) { kind := PySem.ScopeKind.function, names := [ (PySem.Str.ofString ".0", PySem.NameKind.local), (PySem.Str.ofString "_law_room", PySem.NameKind.local), (PySem.Str.ofString "_law_part", PySem.NameKind.local)], isGenerator := false, isCoroutine := false, more := [] : PySem.Scope } [("_law_room", 5), ("_law_part", 6)] := ⟨rfl, by decide +kernel, by decide +kernel, by decide +kernel, by decide +kernel⟩
theorem sc_l_sums : FnScope ["_law_vat", "_law_total", "_law_turn", "_law_found", "_law_left"] ["_law_vat", "_law_total"] (defScope s_l_sums) := ⟨rfl, rfl, rfl, by decide +kernel, rfl, by decide +kernel, by decide +kernel⟩
theorem pb_l_sums : PosB "_law_sums" s_l_sums ["_law_vat", "_law_total"] := fun _ _ _ _ _ _ us hl => match us, hl with | [_, _], _ => rfl
theorem sc_l_own_inverses : FnScope ["_law_n", "_law_found", "_law_k"] ["_law_n"] (defScope s_l_own_inverses) := ⟨rfl, rfl, rfl, by decide +kernel, rfl, by decide +kernel, by decide +kernel⟩
theorem pb_l_own_inverses : PosB "_law_own_inverses" s_l_own_inverses ["_law_n"] := fun _ _ _ _ _ _ us hl => match us, hl with | [_], _ => rfl
theorem sc_l_right : FnScope ["_law_vat", "_law_turn", "_law_n", "_law_told", "_law_total", "_law_forms_here", "_law_down", "_law_across", "_law_due", "_law_less", "_law_one", "_law_two", "_law_side", "_law_form", "_law_part"] ["_law_vat"] (defScope s_l_right) := ⟨rfl, rfl, rfl, by decide +kernel, rfl, by decide +kernel, by decide +kernel⟩
theorem pb_l_right : PosB "_law_right" s_l_right ["_law_vat"] := fun _ _ _ _ _ _ us hl => match us, hl with | [_], _ => rfl
theorem b_l_right_0 : BlkOk ["_law_vat", "_law_turn", "_law_n", "_law_told", "_law_total", "_law_forms_here", "_law_down", "_law_across", "_law_due", "_law_less", "_law_one", "_law_two", "_law_side", "_law_form", "_law_part"] (defScope s_l_right) { kind := PySem.ScopeKind.function, names := [ (PySem.Str.ofString ".0", PySem.NameKind.local), (PySem.Str.ofString "_law_form", PySem.NameKind.local), (PySem.Str.ofString "table_count", PySem.NameKind.globalImplicit), (PySem.Str.ofString "_law_across", PySem.NameKind.free), (PySem.Str.ofString "_law_down", PySem.NameKind.free)], isGenerator := false, isCoroutine := false, more := [] : PySem.Scope } [("_law_form", 13)] := ⟨rfl, by decide +kernel, by decide +kernel, by decide +kernel, by decide +kernel⟩
theorem b_l_right_1 : BlkOk ["_law_vat", "_law_turn", "_law_n", "_law_told", "_law_total", "_law_forms_here", "_law_down", "_law_across", "_law_due", "_law_less", "_law_one", "_law_two", "_law_side", "_law_form", "_law_part"] (defScope s_l_right) { kind := PySem.ScopeKind.function, names := [ (PySem.Str.ofString ".0", PySem.NameKind.local), (PySem.Str.ofString "_law_form", PySem.NameKind.local), (PySem.Str.ofString "table_count", PySem.NameKind.globalImplicit), (PySem.Str.ofString "_law_tilted", PySem.NameKind.globalImplicit), (PySem.Str.ofString "_law_across", PySem.NameKind.free), (PySem.Str.ofString "_law_down", PySem.NameKind.free)], isGenerator := false, isCoroutine := false, more := [] : PySem.Scope } [("_law_form", 13)] := ⟨rfl, by decide +kernel, by decide +kernel, by decide +kernel, by decide +kernel⟩
theorem b_l_right_2 : BlkOk ["_law_vat", "_law_turn", "_law_n", "_law_told", "_law_total", "_law_forms_here", "_law_down", "_law_across", "_law_due", "_law_less", "_law_one", "_law_two", "_law_side", "_law_form", "_law_part"] (defScope s_l_right) { kind := PySem.ScopeKind.function, names := [ (PySem.Str.ofString ".0", PySem.NameKind.local), (PySem.Str.ofString "_law_side", PySem.NameKind.local), (PySem.Str.ofString "tuple", PySem.NameKind.globalImplicit), (PySem.Str.ofString "sorted", PySem.NameKind.globalImplicit)], isGenerator := false, isCoroutine := false, more := [] : PySem.Scope } [("_law_side", 12)] := ⟨rfl, by decide +kernel, by decide +kernel, by decide +kernel, by decide +kernel⟩
theorem b_l_right_3 : BlkOk ["_law_vat", "_law_turn", "_law_n", "_law_told", "_law_total", "_law_forms_here", "_law_down", "_law_across", "_law_due", "_law_less", "_law_one", "_law_two", "_law_side", "_law_form", "_law_part"] ({ kind := PySem.ScopeKind.function, names := [ (PySem.Str.ofString ".0", PySem.NameKind.local), (PySem.Str.ofString "_law_side", PySem.NameKind.local), (PySem.Str.ofString "tuple", PySem.NameKind.globalImplicit), (PySem.Str.ofString "sorted", PySem.NameKind.globalImplicit)], isGenerator := false, isCoroutine := false, more := [] : PySem.Scope }) { kind := PySem.ScopeKind.function, names := [(PySem.Str.ofString ".0", PySem.NameKind.local), (PySem.Str.ofString "_law_part", PySem.NameKind.local)], isGenerator := false, isCoroutine := false, more := [] : PySem.Scope } [("_law_part", 14)] := ⟨rfl, by decide +kernel, by decide +kernel, by decide +kernel, by decide +kernel⟩
theorem b_l_right_4 : BlkOk ["_law_vat", "_law_turn", "_law_n", "_law_told", "_law_total", "_law_forms_here", "_law_down", "_law_across", "_law_due", "_law_less", "_law_one", "_law_two", "_law_side", "_law_form", "_law_part"] (defScope s_l_right) { kind := PySem.ScopeKind.function, names := [ (PySem.Str.ofString ".0", PySem.NameKind.local), (PySem.Str.ofString "_law_form", PySem.NameKind.local), (PySem.Str.ofString "growth_count", PySem.NameKind.globalImplicit)], isGenerator := false, isCoroutine := false, more := [] : PySem.Scope } [("_law_form", 13)] := ⟨rfl, by decide +kernel, by decide +kernel, by decide +kernel, by decide +kernel⟩
theorem sc_law : FnScope ["_law_script", "_law_turn"] ["_law_script"] (defScope s_law) := ⟨rfl, rfl, rfl, by decide +kernel, rfl, by decide +kernel, by decide +kernel⟩
theorem b_law_0 : BlkOk ["_law_script", "_law_turn"] (defScope s_law) { kind := PySem.ScopeKind.function, names := [ (PySem.Str.ofString ".0", PySem.NameKind.local), (PySem.Str.ofString "_law_turn", PySem.NameKind.local), (PySem.Str.ofString "_law_right", PySem.NameKind.globalImplicit), (PySem.Str.ofString "_law_vat_of", PySem.NameKind.globalImplicit), (PySem.Str.ofString "_law_script", PySem.NameKind.free)], isGenerator := false, isCoroutine := false, more := [] : PySem.Scope } [("_law_turn", 1)] := ⟨rfl, by decide +kernel, by decide +kernel, by decide +kernel, by decide +kernel⟩
section
variable {P : Program} {w : World} {base : Heap} {K : PySem.W.Frag} {mg : Str → Option Value}
abbrev ct0 : Ct := fun _ => none
theorem ok_l_vat_of (Z : Facts K mg) : DefOk ct0 P w K mg base "_law_vat_of" s_l_vat_of 1 ["_law_script", "_law_turn"] f_l_vat_of := by
  exact def_ok Z.d_l_vat_of sc_l_vat_of fun _ _ _ _ _ _ _ hr hG => (jss_cons (js_par 2 3 sc_l_vat_of.nd (ja_cons (je_if (jt_lt (je_jb (je_var 1)) (je_jb (je_len Z.f_len (je_jb (je_var 0))))) (je_ix hr (je_jb (je_var 0)) (je_var 1)) je_int) (ja_cons (je_add (je_jb je_int) (je_jb (je_mulB (je_jb je_int) (je_jb (je_var 1))))) ja_nil))) (jss_cons (js_for (ji_enum Z.f_enumerate (ja_cons (je_sl (je_jb (je_var 0)) jo_none (jo_some je_int)) ja_nil)) (jn_tup rfl (jns_cons (jn_name 4 sc_l_vat_of.nd) (jns_cons (jn_name 5 sc_l_vat_of.nd) jns_nil))) (jss_one (js_set 3 sc_l_vat_of.nd (je_mod (je_jb (je_intC Z.f_int (je_jb (je_add (je_jb (je_mulB (je_jb (je_var 3)) (je_jb (je_add (je_jb je_int) (je_jb (je_mulB (je_jb je_int) (je_jb (je_var 4)))))))) (je_jb (je_mulB (je_jb je_int) (je_jb (je_var 5)))))))) (je_jb je_int))))) (jss_one (js_ret (je_new (ja_cons (je_if (jt_w (jw_or (jt_lt (je_jb (je_var 2)) (je_jb je_int)) (jw_or1 (jt_ge (je_jb (je_var 2)) (je_jb (je_pow (je_jb je_int) (je_jb je_int))))))) (je_abs Z.f_abs (je_jb (je_var 2))) je_int) (ja_cons (je_mod (je_jb (je_intC Z.f_int (je_jb (je_add (je_jb (je_var 3)) (je_jb (je_mulB (je_jb je_int) (je_jb (je_var 2)))))))) (je_jb je_int)) (ja_cons je_int ja_nil))))))))
theorem ok_sums_along (Z : Facts K mg) : DefOk ct0 P w K mg base "sums_along" s_sums_along 1 ["shape", "many"] f_sums_along := by
  exact def_ok Z.d_sums_along sc_sums_along fun _ _ _ _ _ _ _ hr hG => (jss_cons (js_own 2 sc_sums_along.nd (jf_lst ja_nil)) (jss_cons (js_set 3 sc_sums_along.nd je_int) (jss_cons (js_for (ji_range1 Z.f_range (ja_cons (je_var 1) ja_nil)) (jn_name 4 sc_sums_along.nd) (jss_cons (js_set 3 sc_sums_along.nd (je_add (je_jb (je_var 3)) (je_jb (je_if (jt_lt (je_jb (je_var 4)) (je_jb (je_len Z.f_len (je_jb (je_var 0))))) (je_ix hr (je_jb (je_var 0)) (je_var 4)) je_int)))) (jss_one (js_append 2 (je_var 3))))) (jss_one (js_frz 2 (js_ret (je_var 2)))))))
theorem ok_lighter_at (Z : Facts K mg) : DefOk ct0 P w K mg base "lighter_at" s_lighter_at 2 ["shape", "other"] f_lighter_at := by
  have D_sums_along := ok_sums_along (P := P) (w := w) (base := base) Z
  exact def_ok Z.d_lighter_at sc_lighter_at fun _ _ _ _ _ _ _ hr hG => (jss_cons (js_set 2 sc_lighter_at.nd (je_max2 Z.f_max (ja_cons (je_len Z.f_len (je_jb (je_var 0))) (ja_cons (je_len Z.f_len (je_jb (je_var 1))) ja_nil)))) (jss_cons (js_set 3 sc_lighter_at.nd (je_call (D_sums_along.mono (by decide)) hr hG pb_sums_along (ja_cons (je_var 0) (ja_cons (je_var 2) ja_nil)) rfl (al_cons (al_cons al_nil)))) (jss_cons (js_for (ji_enum Z.f_enumerate (ja_cons (je_call (D_sums_along.mono (by decide)) hr hG pb_sums_along (ja_cons (je_var 1) (ja_cons (je_var 2) ja_nil)) rfl (al_cons (al_cons al_nil))) ja_nil)) (jn_tup rfl (jns_cons (jn_name 4 sc_lighter_at.nd) (jns_cons (jn_name 5 sc_lighter_at.nd) jns_nil))) (jss_one (js_if (jt_lt (je_jb (je_ix hr (je_jb (je_var 3)) (je_var 4))) (je_jb (je_var 5))) (jss_one (js_ret (je_add (je_jb (je_var 4)) (je_jb je_int)))) jss_nil))) (jss_one (js_ret je_non)))))
theorem ok_is_number (Z : Facts K mg) : DefOk ct0 P w K mg base "is_number" s_is_number 1 ["value", "low", "high"] f_is_number := by
  exact def_ok Z.d_is_number sc_is_number fun _ _ _ _ _ _ _ hr hG => (jss_one (js_ret (je_and (je_isT (T := "int") Z.f_isinstance Z.f_int (je_var 0)) (je_and (je_not (je_isT (T := "bool") Z.f_isinstance Z.f_bool (je_var 0))) (je_one (je_chain op_le op_le (je_var 1) (je_var 0) (je_var 2)))))))
theorem ok_is_shape (Z : Facts K mg) : DefOk ct0 P w K mg base "is_shape" s_is_shape 2 ["value", "most"] f_is_shape := by
  have D_is_number := ok_is_number (P := P) (w := w) (base := base) Z
  exact def_ok Z.d_is_shape sc_is_shape fun _ _ _ _ _ _ _ hr hG => (jss_cons (js_if (jt_w (jw_or (jt_not (jt_val (je_isT (T := "tuple") Z.f_isinstance Z.f_tuple (je_var 0)))) (jw_or (jt_gt (je_jb (je_len Z.f_len (je_jb (je_var 0)))) (je_jb (je_var 1))) (jw_or1 (jt_not (jt_val (je_all Z.f_all (je_jb (jf_je (jf_lc [("part", 3)] sc_is_shape.nd (ji_seq (je_var 0)) b_is_shape_0 (fun _ _ _ _ _ => (jn_name 3 sc_is_shape.nd)) (fun _ _ _ _ _ => jts_nil) (fun _ _ _ _ _ => (je_call (D_is_number.mono (by decide)) hr hG pb_is_number (ja_cons (je_var 3) (ja_cons je_int (ja_cons (je_var 1) ja_nil))) rfl (al_cons (al_cons (al_cons al_nil))))))))))))))) (jss_one (js_ret je_bl)) jss_nil) (jss_one (js_ret (je_and (je_le (je_jb (je_sum Z.f_sum (je_jb (je_var 0)))) (je_jb (je_var 1))) (je_one (je_all Z.f_all (je_jb (jf_je (jf_lc [("place", 2)] sc_is_shape.nd (ji_range1 Z.f_range (ja_cons (je_sub (je_jb (je_len Z.f_len (je_jb (je_var 0)))) (je_jb je_int)) ja_nil)) b_is_shape_1 (fun _ _ _ _ _ => (jn_name 2 sc_is_shape.nd)) (fun _ _ _ _ _ => jts_nil) (fun _ _ _ _ _ => (je_ge (je_jb (je_ix hr (je_jb (je_var 0)) (je_var 2))) (je_jb (je_ix hr (je_jb (je_var 0)) (je_add (je_jb (je_var 2)) (je_jb je_int)))))))))))))))
theorem ok_check_shape (Z : Facts K mg) : DefOk ct0 P w K mg base "check_shape" s_check_shape 3 ["value", "most"] f_check_shape := by
  have D_is_shape := ok_is_shape (P := P) (w := w) (base := base) Z
  exact def_ok Z.d_check_shape sc_check_shape fun _ _ _ _ _ _ _ hr hG => (jss_one (js_if (jt_not (jt_val (je_call (D_is_shape.mono (by decide)) hr hG pb_is_shape (ja_cons (je_var 0) (ja_cons (je_var 1) ja_nil)) rfl (al_cons (al_cons al_nil))))) (jss_one js_never) jss_nil))
theorem ok_check_sizes (Z : Facts K mg) : DefOk ct0 P w K mg base "check_sizes" s_check_sizes 4 ["shape", "other"] f_check_sizes := by
  have D_check_shape := ok_check_shape (P := P) (w := w) (base := base) Z
  exact def_ok Z.d_check_sizes sc_check_sizes fun _ _ _ _ _ _ _ hr hG => (jss_cons (js_expr (je_call (D_check_shape.mono (by decide)) hr hG pb_check_shape (ja_cons (je_var 0) (ja_cons (je_globIx Z.c_MOST_BOXES) ja_nil)) rfl (al_cons (al_cons al_nil)))) (jss_cons (js_expr (je_call (D_check_shape.mono (by decide)) hr hG pb_check_shape (ja_cons (je_var 1) (ja_cons (je_globIx Z.c_MOST_BOXES) ja_nil)) rfl (al_cons (al_cons al_nil)))) (jss_one (js_if (jt_ne hr (je_jb (je_sum Z.f_sum (je_jb (je_var 0)))) (je_jb (je_sum Z.f_sum (je_jb (je_var 1))))) (jss_one js_never) jss_nil))))
theorem ok_heavier (Z : Facts K mg) : DefOk ct0 P w K mg base "heavier" s_heavier 5 ["shape", "other"] f_heavier := by
  have D_lighter_at := ok_lighter_at (P := P) (w := w) (base := base) Z
  have D_check_sizes := ok_check_sizes (P := P) (w := w) (base := base) Z
  exact def_ok Z.d_heavier sc_heavier fun _ _ _ _ _ _ _ hr hG => (jss_cons (js_expr (je_call (D_check_sizes.mono (by decide)) hr hG pb_check_sizes (ja_cons (je_var 0) (ja_cons (je_var 1) ja_nil)) rfl (al_cons (al_cons al_nil)))) (jss_one (js_ret (je_is (je_jb (je_call (D_lighter_at.mono (by decide)) hr hG pb_lighter_at (ja_cons (je_var 0) (ja_cons (je_var 1) ja_nil)) rfl (al_cons (al_cons al_nil)))) (je_jb je_non)))))
theorem ok_hook_of (Z : Facts K mg) : DefOk ct0 P w K mg base "hook_of" s_hook_of 1 ["shape", "row", "column"] f_hook_of := by
  exact def_ok Z.d_hook_of sc_hook_of fun _ _ _ _ _ _ _ hr hG => (jss_cons (js_ownLc 3 [("part", 4)] sc_hook_of.nd (ji_seq (je_sl (je_jb (je_var 0)) (jo_some (je_add (je_jb (je_var 1)) (je_jb je_int))) jo_none)) b_hook_of_0 (fun _ _ _ _ _ => (jn_name 4 sc_hook_of.nd)) (fun _ _ _ _ _ => (jts_one (jt_gt (je_jb (je_var 4)) (je_jb (je_var 2))))) (fun _ _ _ _ _ => (je_var 4))) (jss_frz 3 (jss_one (js_ret (je_add (je_jb (je_sub (je_jb (je_ix hr (je_jb (je_var 0)) (je_var 1))) (je_jb (je_var 2)))) (je_jb (je_len Z.f_len (je_jb (je_var 3)))))))))
theorem ok_hooks_of (Z : Facts K mg) : DefOk ct0 P w K mg base "hooks_of" s_hooks_of 2 ["shape"] f_hooks_of := by
  have D_hook_of := ok_hook_of (P := P) (w := w) (base := base) Z
  exact def_ok Z.d_hooks_of sc_hooks_of fun _ _ _ _ _ _ _ hr hG => (jss_cons (js_set 1 sc_hooks_of.nd je_int) (jss_cons (js_for (ji_enum Z.f_enumerate (ja_cons (je_var 0) ja_nil)) (jn_tup rfl (jns_cons (jn_name 2 sc_hooks_of.nd) (jns_cons (jn_name 3 sc_hooks_of.nd) jns_nil))) (jss_one (js_for (ji_range1 Z.f_range (ja_cons (je_var 3) ja_nil)) (jn_name 4 sc_hooks_of.nd) (jss_one (js_set 1 sc_hooks_of.nd (je_mulB (je_jb (je_var 1)) (je_jb (je_call (D_hook_of.mono (by decide)) hr hG pb_hook_of (ja_cons (je_var 0) (ja_cons (je_var 2) (ja_cons (je_var 4) ja_nil))) rfl (al_cons (al_cons (al_cons al_nil))))))))))) (jss_one (js_ret (je_var 1)))))
theorem ok_factorial (Z : Facts K mg) : DefOk ct0 P w K mg base "factorial" s_factorial 1 ["number"] f_factorial := by
  exact def_ok Z.d_factorial sc_factorial fun _ _ _ _ _ _ _ hr hG => (jss_cons (js_set 1 sc_factorial.nd je_int) (jss_cons (js_for (ji_range2 Z.f_range (ja_cons je_int (ja_cons (je_add (je_jb (je_var 0)) (je_jb je_int)) ja_nil))) (jn_name 2 sc_factorial.nd) (jss_one (js_set 1 sc_factorial.nd (je_mulB (je_jb (je_var 1)) (je_jb (je_var 2)))))) (jss_one (js_ret (je_var 1)))))
theorem ok_growth_count (Z : Facts K mg) : DefOk ct0 P w K mg base "growth_count" s_growth_count 4 ["shape"] f_growth_count := by
  have D_check_shape := ok_check_shape (P := P) (w := w) (base := base) Z
  have D_hooks_of := ok_hooks_of (P := P) (w := w) (base := base) Z
  have D_factorial := ok_factorial (P := P) (w := w) (base := base) Z
  exact def_ok Z.d_growth_count sc_growth_count fun _ _ _ _ _ _ _ hr hG => (jss_cons (js_expr (je_call (D_check_shape.mono (by decide)) hr hG pb_check_shape (ja_cons (je_var 0) (ja_cons (je_globIx Z.c_MOST_BOXES) ja_nil)) rfl (al_cons (al_cons al_nil)))) (jss_one (js_ret (je_div (je_jb (je_call (D_factorial.mono (by decide)) hr hG pb_factorial (ja_cons (je_sum Z.f_sum (je_jb (je_var 0))) ja_nil) rfl (al_cons al_nil))) (je_jb (je_call (D_hooks_of.mono (by decide)) hr hG pb_hooks_of (ja_cons (je_var 0) ja_nil) rfl (al_cons al_nil)))))))
theorem ok_are_amounts (Z : Facts K mg) : DefOk ct0 P w K mg base "are_amounts" s_are_amounts 1 ["value", "most"] f_are_amounts := by
  exact def_ok Z.d_are_amounts sc_are_amounts fun _ _ _ _ _ _ _ hr hG => (jss_cons (js_if (jt_w (jw_or (jt_not (jt_val (je_isT (T := "tuple") Z.f_isinstance Z.f_tuple (je_var 0)))) (jw_or1 (jt_gt (je_jb (je_len Z.f_len (je_jb (je_var 0)))) (je_jb (je_var 1)))))) (jss_one (js_ret je_bl)) jss_nil) (jss_one (js_ret (je_all Z.f_all (je_jb (jf_je (jf_lc [("many", 2)] sc_are_amounts.nd (ji_seq (je_var 0)) b_are_amounts_0 (fun _ _ _ _ _ => (jn_name 2 sc_are_amounts.nd)) (fun _ _ _ _ _ => jts_nil) (fun _ _ _ _ _ => (je_and (je_isT (T := "int") Z.f_isinstance Z.f_int (je_var 2)) (je_and (je_not (je_isT (T := "bool") Z.f_isinstance Z.f_bool (je_var 2))) (je_one (je_ge (je_jb (je_var 2)) (je_jb je_int)))))))))))))
theorem ok_check_amounts (Z : Facts K mg) : DefOk ct0 P w K mg base "check_amounts" s_check_amounts 2 ["value"] f_check_amounts := by
  have D_are_amounts := ok_are_amounts (P := P) (w := w) (base := base) Z
  exact def_ok Z.d_check_amounts sc_check_amounts fun _ _ _ _ _ _ _ hr hG => (jss_one (js_if (jt_not (jt_val (je_call (D_are_amounts.mono (by decide)) hr hG pb_are_amounts (ja_cons (je_var 0) (ja_cons (je_globIx Z.c_MOST_LONG) ja_nil)) rfl (al_cons (al_cons al_nil))))) (jss_one js_never) jss_nil))
theorem ok_trimmed (Z : Facts K mg) : DefOk ct0 P w K mg base "trimmed" s_trimmed 1 ["numbers"] f_trimmed := by
  exact def_ok Z.d_trimmed sc_trimmed fun _ _ _ _ _ _ _ hr hG => (jss_one (js_ret (je_tuple Z.f_tuple (je_jb (jf_je (jf_lc [("number", 1)] sc_trimmed.nd (ji_seq (je_var 0)) b_trimmed_0 (fun _ _ _ _ _ => (jn_name 1 sc_trimmed.nd)) (fun _ _ _ _ _ => (jts_one (jt_gt (je_jb (je_var 1)) (je_jb je_int)))) (fun _ _ _ _ _ => (je_var 1))))))))
theorem ok_parts_below (Z : Facts K mg) : DefOk ct0 P w K mg base "parts_below" s_parts_below 2 ["shape", "size"] f_parts_below := by
  have D_trimmed := ok_trimmed (P := P) (w := w) (base := base) Z
  exact def_ok Z.d_parts_below sc_parts_below fun _ _ _ _ _ _ _ hr hG => (jss_cons (js_set 2 sc_parts_below.nd (jf_je (jf_lst (ja_cons (je_tup (ja_cons (je_tup ja_nil) (ja_cons (je_var 1) ja_nil))) ja_nil)))) (jss_cons (js_for (ji_enum Z.f_enumerate (ja_cons (je_var 0) ja_nil)) (jn_tup rfl (jns_cons (jn_name 3 sc_parts_below.nd) (jns_cons (jn_name 4 sc_parts_below.nd) jns_nil))) (jss_cons (js_set 5 sc_parts_below.nd (je_sub (je_jb (je_var 4)) (je_jb (je_if (jt_lt (je_jb (je_add (je_jb (je_var 3)) (je_jb je_int))) (je_jb (je_len Z.f_len (je_jb (je_var 0))))) (je_ix hr (je_jb (je_var 0)) (je_add (je_jb (je_var 3)) (je_jb je_int))) je_int)))) (jss_cons (js_ownLc2 2 [("head", 7), ("left", 8), ("less", 6)] [6] sc_parts_below.nd (ji_seq (je_var 2)) b_parts_below_0 (fun _ _ _ _ _ => (jn_tup rfl (jns_cons (jn_name 7 sc_parts_below.nd) (jns_cons (jn_name 8 sc_parts_below.nd) jns_nil)))) (gw_t (gws_cons (gw_n 7) (gws_cons (gw_n 8) gws_nil))) (fun _ _ _ _ _ => jts_nil) (fun _ _ _ _ _ => (ji_range1 Z.f_range (ja_cons (je_add (je_jb (je_min2 Z.f_min (ja_cons (je_var 5) (ja_cons (je_var 8) ja_nil)))) (je_jb je_int)) ja_nil))) (fun _ _ _ _ _ => (jn_name 6 sc_parts_below.nd)) (fun _ _ _ _ _ => jts_nil) (fun _ _ _ _ _ => (je_tup (ja_cons (je_tup (ja_star (je_var 7) (ja_cons (je_sub (je_jb (je_var 4)) (je_jb (je_var 6))) ja_nil))) (ja_cons (je_sub (je_jb (je_var 8)) (je_jb (je_var 6))) ja_nil))))) (jss_frz 2 jss_nil)))) (jss_one (js_ret (jf_je (jf_lc [("head", 7), ("left", 8)] sc_parts_below.nd (ji_seq (je_var 2)) b_parts_below_1 (fun _ _ _ _ _ => (jn_tup rfl (jns_cons (jn_name 7 sc_parts_below.nd) (jns_cons (jn_name 8 sc_parts_below.nd) jns_nil)))) (fun _ _ _ _ _ => (jts_one (jt_eq hr (je_jb (je_var 8)) (je_jb je_int)))) (fun _ _ _ _ _ => (je_call (D_trimmed.mono (by decide)) hr hG pb_trimmed (ja_cons (je_var 7) ja_nil) rfl (al_cons al_nil)))))))))
theorem ok_tables_counted (Z : Facts K mg) : DefOk ct0 P w K mg base "tables_counted" s_tables_counted 3 ["shape", "amounts"] f_tables_counted := by
  have D_parts_below := ok_parts_below (P := P) (w := w) (base := base) Z
  exact def_ok Z.d_tables_counted sc_tables_counted fun _ _ _ _ _ _ _ hr hG => (jss_cons (js_set 2 sc_tables_counted.nd (jf_je (jf_dispT hr (jp_cons (je_var 0) je_int jp_nil)))) (jss_cons (js_for (ji_seq (je_revA (je_jb (je_var 1)))) (jn_name 3 sc_tables_counted.nd) (jss_cons (js_own 4 sc_tables_counted.nd (jf_dict true)) (jss_cons (js_for (ji_items (je_var 2)) (jn_tup rfl (jns_cons (jn_name 5 sc_tables_counted.nd) (jns_cons (jn_name 6 sc_tables_counted.nd) jns_nil))) (jss_one (js_for (ji_seq (je_call (D_parts_below.mono (by decide)) hr hG pb_parts_below (ja_cons (je_var 5) (ja_cons (je_var 3) ja_nil)) rfl (al_cons (al_cons al_nil)))) (jn_name 7 sc_tables_counted.nd) (jss_one (js_asgG (je_add (je_jb (je_get hr (jb_own 4) (je_var 7) je_int)) (je_jb (je_var 6))) (jg_own 4 hr (je_var 7))))))) (jss_one (js_frz 4 (js_set 2 sc_tables_counted.nd (je_var 4))))))) (jss_one (js_ret (je_get hr (je_jb (je_var 2)) (je_tup ja_nil) je_int)))))
theorem ok_table_count (Z : Facts K mg) : DefOk ct0 P w K mg base "table_count" s_table_count 4 ["shape", "amounts"] f_table_count := by
  have D_check_shape := ok_check_shape (P := P) (w := w) (base := base) Z
  have D_check_amounts := ok_check_amounts (P := P) (w := w) (base := base) Z
  have D_tables_counted := ok_tables_counted (P := P) (w := w) (base := base) Z
  exact def_ok Z.d_table_count sc_table_count fun _ _ _ _ _ _ _ hr hG => (jss_cons (js_expr (je_call (D_check_shape.mono (by decide)) hr hG pb_check_shape (ja_cons (je_var 0) (ja_cons (je_globIx Z.c_MOST_BOXES) ja_nil)) rfl (al_cons (al_cons al_nil)))) (jss_cons (js_expr (je_call (D_check_amounts.mono (by decide)) hr hG pb_check_amounts (ja_cons (je_var 1) ja_nil) rfl (al_cons al_nil))) (jss_one (js_ret (je_if (jt_eq hr (je_jb (je_sum Z.f_sum (je_jb (je_var 1)))) (je_jb (je_sum Z.f_sum (je_jb (je_var 0))))) (je_call (D_tables_counted.mono (by decide)) hr hG pb_tables_counted (ja_cons (je_var 0) (ja_cons (je_var 1) ja_nil)) rfl (al_cons (al_cons al_nil))) je_int)))))
theorem ok_check_margins (Z : Facts K mg) : DefOk ct0 P w K mg base "check_margins" s_check_margins 2 ["value"] f_check_margins := by
  have D_are_amounts := ok_are_amounts (P := P) (w := w) (base := base) Z
  exact def_ok Z.d_check_margins sc_check_margins fun _ _ _ _ _ _ _ hr hG => (jss_one (js_if (jt_w (jw_or (jt_not (jt_val (je_call (D_are_amounts.mono (by decide)) hr hG pb_are_amounts (ja_cons (je_var 0) (ja_cons (je_globIx Z.c_MOST_MARGINS) ja_nil)) rfl (al_cons (al_cons al_nil))))) (jw_or1 (jt_gt (je_jb (je_sum Z.f_sum (je_jb (je_var 0)))) (je_jb (je_globIx Z.c_MOST_LONG)))))) (jss_one js_never) jss_nil))
theorem ok_rows_of_sum (Z : Facts K mg) : DefOk ct0 P w K mg base "rows_of_sum" s_rows_of_sum 1 ["total", "rooms"] f_rows_of_sum := by
  exact def_ok Z.d_rows_of_sum sc_rows_of_sum fun _ _ _ _ _ _ _ hr hG => (jss_cons (js_set 2 sc_rows_of_sum.nd (jf_je (jf_lst (ja_cons (je_tup (ja_cons (je_tup ja_nil) (ja_cons (je_var 0) ja_nil))) ja_nil)))) (jss_cons (js_for (ji_seq (je_var 1)) (jn_name 3 sc_rows_of_sum.nd) (jss_cons (js_ownLc2 2 [("head", 5), ("left", 6), ("many", 4)] [4] sc_rows_of_sum.nd (ji_seq (je_var 2)) b_rows_of_sum_0 (fun _ _ _ _ _ => (jn_tup rfl (jns_cons (jn_name 5 sc_rows_of_sum.nd) (jns_cons (jn_name 6 sc_rows_of_sum.nd) jns_nil)))) (gw_t (gws_cons (gw_n 5) (gws_cons (gw_n 6) gws_nil))) (fun _ _ _ _ _ => jts_nil) (fun _ _ _ _ _ => (ji_range1 Z.f_range (ja_cons (je_add (je_jb (je_min2 Z.f_min (ja_cons (je_var 3) (ja_cons (je_var 6) ja_nil)))) (je_jb je_int)) ja_nil))) (fun _ _ _ _ _ => (jn_name 4 sc_rows_of_sum.nd)) (fun _ _ _ _ _ => jts_nil) (fun _ _ _ _ _ => (je_tup (ja_cons (je_tup (ja_star (je_var 5) (ja_cons (je_var 4) ja_nil))) (ja_cons (je_sub (je_jb (je_var 6)) (je_jb (je_var 4))) ja_nil))))) (jss_frz 2 jss_nil))) (jss_one (js_ret (jf_je (jf_lc [("head", 5), ("left", 6)] sc_rows_of_sum.nd (ji_seq (je_var 2)) b_rows_of_sum_1 (fun _ _ _ _ _ => (jn_tup rfl (jns_cons (jn_name 5 sc_rows_of_sum.nd) (jns_cons (jn_name 6 sc_rows_of_sum.nd) jns_nil)))) (fun _ _ _ _ _ => (jts_one (jt_eq hr (je_jb (je_var 6)) (je_jb je_int)))) (fun _ _ _ _ _ => (je_var 5))))))))
theorem ok_arrays_counted (Z : Facts K mg) : DefOk ct0 P w K mg base "arrays_counted" s_arrays_counted 2 ["rows", "columns", "most"] f_arrays_counted := by
  have D_rows_of_sum := ok_rows_of_sum (P := P) (w := w) (base := base) Z
  exact def_ok Z.d_arrays_counted sc_arrays_counted fun _ _ _ _ _ _ _ hr hG => (jss_cons (js_set 3 sc_arrays_counted.nd (jf_je (jf_dispT hr (jp_cons (je_var 1) je_int jp_nil)))) (jss_cons (js_for (ji_seq (je_var 0)) (jn_name 4 sc_arrays_counted.nd) (jss_cons (js_own 5 sc_arrays_counted.nd (jf_dict true)) (jss_cons (js_for (ji_items (je_var 3)) (jn_tup rfl (jns_cons (jn_name 6 sc_arrays_counted.nd) (jns_cons (jn_name 7 sc_arrays_counted.nd) jns_nil))) (jss_one (js_for (ji_seq (je_call (D_rows_of_sum.mono (by decide)) hr hG pb_rows_of_sum (ja_cons (je_var 4) (ja_cons (jf_je (jf_lc [("room", 10)] sc_arrays_counted.nd (ji_seq (je_var 6)) b_arrays_counted_0 (fun _ _ _ _ _ => (jn_name 10 sc_arrays_counted.nd)) (fun _ _ _ _ _ => jts_nil) (fun _ _ _ _ _ => (je_min2 Z.f_min (ja_cons (je_var 2) (ja_cons (je_var 10) ja_nil)))))) ja_nil)) rfl (al_cons (al_cons al_nil)))) (jn_name 8 sc_arrays_counted.nd) (jss_cons (js_set 9 sc_arrays_counted.nd (je_tuple Z.f_tuple (je_jb (jf_je (jf_lc [("room", 10), ("many", 11)] sc_arrays_counted.nd (ji_zip Z.f_zip (ja_cons (je_var 6) (ja_cons (je_var 8) ja_nil))) b_arrays_counted_1 (fun _ _ _ _ _ => (jn_tup rfl (jns_cons (jn_name 10 sc_arrays_counted.nd) (jns_cons (jn_name 11 sc_arrays_counted.nd) jns_nil)))) (fun _ _ _ _ _ => jts_nil) (fun _ _ _ _ _ => (je_sub (je_jb (je_var 10)) (je_jb (je_var 11))))))))) (jss_one (js_asgG (je_add (je_jb (je_get hr (jb_own 5) (je_var 9) je_int)) (je_jb (je_var 7))) (jg_own 5 hr (je_var 9)))))))) (jss_one (js_frz 5 (js_set 3 sc_arrays_counted.nd (je_var 5))))))) (jss_one (js_ret (je_get hr (je_jb (je_var 3)) (je_mulB (je_jb (je_tup (ja_cons je_int ja_nil))) (je_jb (je_len Z.f_len (je_jb (je_var 1))))) je_int)))))
theorem ok_margin_count (Z : Facts K mg) : DefOk ct0 P w K mg base "margin_count" s_margin_count 3 ["rows", "columns"] f_margin_count := by
  have D_check_margins := ok_check_margins (P := P) (w := w) (base := base) Z
  have D_arrays_counted := ok_arrays_counted (P := P) (w := w) (base := base) Z
  exact def_ok Z.d_margin_count sc_margin_count fun _ _ _ _ _ _ _ hr hG => (jss_cons (js_expr (je_call (D_check_margins.mono (by decide)) hr hG pb_check_margins (ja_cons (je_var 0) ja_nil) rfl (al_cons al_nil))) (jss_cons (js_expr (je_call (D_check_margins.mono (by decide)) hr hG pb_check_margins (ja_cons (je_var 1) ja_nil) rfl (al_cons al_nil))) (jss_one (js_ret (je_call (D_arrays_counted.mono (by decide)) hr hG pb_arrays_counted (ja_cons (je_var 0) (ja_cons (je_var 1) (ja_cons (je_globIx Z.c_MOST_LONG) ja_nil))) rfl (al_cons (al_cons (al_cons al_nil))))))))
theorem ok_zero_one_count (Z : Facts K mg) : DefOk ct0 P w K mg base "zero_one_count" s_zero_one_count 3 ["rows", "columns"] f_zero_one_count := by
  have D_check_margins := ok_check_margins (P := P) (w := w) (base := base) Z
  have D_arrays_counted := ok_arrays_counted (P := P) (w := w) (base := base) Z
  exact def_ok Z.d_zero_one_count sc_zero_one_count fun _ _ _ _ _ _ _ hr hG => (jss_cons (js_expr (je_call (D_check_margins.mono (by decide)) hr hG pb_check_margins (ja_cons (je_var 0) ja_nil) rfl (al_cons al_nil))) (jss_cons (js_expr (je_call (D_check_margins.mono (by decide)) hr hG pb_check_margins (ja_cons (je_var 1) ja_nil) rfl (al_cons al_nil))) (jss_one (js_ret (je_call (D_arrays_counted.mono (by decide)) hr hG pb_arrays_counted (ja_cons (je_var 0) (ja_cons (je_var 1) (ja_cons je_int ja_nil))) rfl (al_cons (al_cons (al_cons al_nil))))))))
theorem ok_own_inverse_count (Z : Facts K mg) : DefOk ct0 P w K mg base "own_inverse_count" s_own_inverse_count 2 ["size"] f_own_inverse_count := by
  have D_is_number := ok_is_number (P := P) (w := w) (base := base) Z
  exact def_ok Z.d_own_inverse_count sc_own_inverse_count fun _ _ _ _ _ _ _ hr hG => (jss_cons (js_if (jt_not (jt_val (je_call (D_is_number.mono (by decide)) hr hG pb_is_number (ja_cons (je_var 0) (ja_cons je_int (ja_cons (je_globIx Z.c_MOST_BOXES) ja_nil))) rfl (al_cons (al_cons (al_cons al_nil)))))) (jss_one js_never) jss_nil) (jss_cons (js_asg (je_tup (ja_cons je_int (ja_cons je_int ja_nil))) (jn_tup rfl (jns_cons (jn_name 2 sc_own_inverse_count.nd) (jns_cons (jn_name 3 sc_own_inverse_count.nd) jns_nil)))) (jss_cons (js_for (ji_range2 Z.f_range (ja_cons je_int (ja_cons (je_add (je_jb (je_var 0)) (je_jb je_int)) ja_nil))) (jn_name 1 sc_own_inverse_count.nd) (jss_one (js_par 2 3 sc_own_inverse_count.nd (ja_cons (je_var 3) (ja_cons (je_add (je_jb (je_var 3)) (je_jb (je_mulB (je_jb (je_sub (je_jb (je_var 1)) (je_jb je_int))) (je_jb (je_var 2))))) ja_nil))))) (jss_one (js_ret (je_var 3))))))
theorem ok_l_sip (Z : Facts K mg) : DefOk ct0 P w K mg base "_law_sip" s_l_sip 1 ["_law_vat", "_law_top"] f_l_sip := by
  exact def_ok Z.d_l_sip sc_l_sip fun _ _ _ _ _ _ _ hr hG => (jss_cons (js_if (jt_gt (je_jb (je_ix hr (je_jb (je_var 0)) je_int)) (je_jb je_int)) (jss_cons (js_asgG (je_divmod Z.f_divmod (ja_cons (je_ix hr (je_jb (je_var 0)) je_int) (ja_cons (je_var 1) ja_nil))) (jg_tup rfl (jgs_cons (jg_sub (je_var 0) je_int) (jgs_cons (jg_n (jn_name 3 sc_l_sip.nd)) jgs_nil)))) (jss_one (js_ret (je_var 3)))) jss_nil) (jss_cons (js_asgG (je_add (je_jb (je_ix hr (je_jb (je_var 0)) je_int)) (je_jb je_int)) (jg_sub (je_var 0) je_int)) (jss_cons (js_set 2 sc_l_sip.nd (je_mod (je_jb (je_intC Z.f_int (je_jb (je_add (je_jb (je_ix hr (je_jb (je_var 0)) je_int)) (je_jb (je_mulB (je_jb je_int) (je_jb (je_ix hr (je_jb (je_var 0)) je_int)))))))) (je_jb je_int))) (jss_cons (js_asgG (je_mod (je_jb (je_intC Z.f_int (je_jb (je_add (je_jb (je_add (je_jb (je_mulB (je_jb (je_var 2)) (je_jb (je_add (je_jb (je_mod (je_jb (je_intC Z.f_int (je_jb (je_var 2)))) (je_jb je_int))) (je_jb je_int))))) (je_jb (je_mulB (je_jb je_int) (je_jb (je_ix hr (je_jb (je_var 0)) je_int)))))) (je_jb je_int))))) (je_jb je_int)) (jg_sub (je_var 0) je_int)) (jss_one (js_ret (je_mod (je_jb (je_div (je_jb (je_intC Z.f_int (je_jb (je_ix hr (je_jb (je_var 0)) je_int)))) (je_jb je_int))) (je_jb (je_var 1)))))))))
theorem ok_l_forms (Z : Facts K mg) : DefOk ct0 P w K mg base "_law_forms" s_l_forms 1 ["_law_n"] f_l_forms := by
  exact def_ok Z.d_l_forms sc_l_forms fun _ _ _ _ _ _ _ hr hG => (jss_cons (js_parFE 2 3 sc_l_forms.nd (jf_lst ja_nil) (jf_je (jf_lst (ja_cons (je_tup (ja_cons (je_tup ja_nil) (ja_cons (je_var 0) ja_nil))) ja_nil)))) (jss_cons (js_for (ji_range1 Z.f_range (ja_cons (je_var 0) ja_nil)) (jn_name 1 sc_l_forms.nd) (jss_cons (js_set 4 sc_l_forms.nd (jf_je (jf_lst ja_nil))) (jss_cons (js_for (ji_seq (je_var 3)) (jn_tup rfl (jns_cons (jn_name 5 sc_l_forms.nd) (jns_cons (jn_name 6 sc_l_forms.nd) jns_nil))) (jss_one (js_if (jt_eq hr (je_jb (je_var 6)) (je_jb je_int)) (jss_one (js_append 2 (je_var 5))) (jss_cons (js_set 7 sc_l_forms.nd (je_min2 Z.f_min (ja_cons (je_var 6) (ja_cons (je_if (jt_ne hr (je_jb (je_var 5)) (je_jb (je_tup ja_nil))) (je_ix hr (je_jb (je_var 5)) (je_neg je_int)) (je_var 6)) ja_nil)))) (jss_one (js_set 4 sc_l_forms.nd (je_add (je_jb (je_var 4)) (je_jb (jf_je (jf_lc [("_law_part", 8)] sc_l_forms.nd (ji_range2 Z.f_range (ja_cons je_int (ja_cons (je_add (je_jb (je_var 7)) (je_jb je_int)) ja_nil))) b_l_forms_0 (fun _ _ _ _ _ => (jn_name 8 sc_l_forms.nd)) (fun _ _ _ _ _ => jts_nil) (fun _ _ _ _ _ => (je_tup (ja_cons (je_add (je_jb (je_var 5)) (je_jb (je_tup (ja_cons (je_var 8) ja_nil)))) (ja_cons (je_sub (je_jb (je_var 6)) (je_jb (je_var 8))) ja_nil)))))))))))))) (jss_one (js_set 3 sc_l_forms.nd (je_var 4)))))) (jss_one (js_ret (je_revA (je_jb (jf_je (jf_sorted (.seq .int) hr Z.f_sorted (je_jb (je_add (jb_own 2) (je_jb (jf_je (jf_lc [("_law_head", 5), ("_law_left", 6)] sc_l_forms.nd (ji_seq (je_var 3)) b_l_forms_1 (fun _ _ _ _ _ => (jn_tup rfl (jns_cons (jn_name 5 sc_l_forms.nd) (jns_cons (jn_name 6 sc_l_forms.nd) jns_nil)))) (fun _ _ _ _ _ => (jts_one (jt_eq hr (je_jb (je_var 6)) (je_jb je_int)))) (fun _ _ _ _ _ => (je_var 5)))))))))))))))
theorem ok_l_tilted (Z : Facts K mg) : DefOk ct0 P w K mg base "_law_tilted" s_l_tilted 1 ["_law_form"] f_l_tilted := by
  exact def_ok Z.d_l_tilted sc_l_tilted fun _ _ _ _ _ _ _ hr hG => (jss_one (js_ret (je_tuple Z.f_tuple (je_jb (jf_je (jf_lc [("_law_k", 1)] sc_l_tilted.nd (ji_range1 Z.f_range (ja_cons (je_if (jt_ne hr (je_jb (je_var 0)) (je_jb (je_tup ja_nil))) (je_ix hr (je_jb (je_var 0)) je_int) je_int) ja_nil)) b_l_tilted_0 (fun _ _ _ _ _ => (jn_name 1 sc_l_tilted.nd)) (fun _ _ _ _ _ => jts_nil) (fun _ _ _ _ _ => (je_len Z.f_len (je_jb (jf_je (jf_lc [("_law_part", 2)] sc_l_tilted.nd (ji_seq (je_var 0)) b_l_tilted_1 (fun _ _ _ _ _ => (jn_name 2 sc_l_tilted.nd)) (fun _ _ _ _ _ => (jts_one (jt_gt (je_jb (je_var 2)) (je_jb (je_var 1))))) (fun _ _ _ _ _ => (je_var 2)))))))))))))
theorem ok_l_split (Z : Facts K mg) : DefOk ct0 P w K mg base "_law_split" s_l_split 1 ["_law_total", "_law_rooms_here", "_law_top_here"] f_l_split := by
  exact def_ok Z.d_l_split sc_l_split fun _ _ _ _ _ _ _ hr hG => (jss_cons (js_set 3 sc_l_split.nd (jf_je (jf_lst (ja_cons (je_tup ja_nil) ja_nil)))) (jss_cons (js_for (ji_seq (je_var 1)) (jn_name 4 sc_l_split.nd) (jss_cons (js_set 5 sc_l_split.nd (jf_je (jf_lst ja_nil))) (jss_cons (js_for (ji_seq (je_var 3)) (jn_name 6 sc_l_split.nd) (jss_one (js_set 5 sc_l_split.nd (je_add (je_jb (je_var 5)) (je_jb (jf_je (jf_lc [("_law_part", 7)] sc_l_split.nd (ji_range1 Z.f_range (ja_cons (je_add (je_jb (je_min3 Z.f_min (ja_cons (je_var 4) (ja_cons (je_var 2) (ja_cons (je_sub (je_jb (je_var 0)) (je_jb (je_sum Z.f_sum (je_jb (je_var 6))))) ja_nil))))) (je_jb je_int)) ja_nil)) b_l_split_0 (fun _ _ _ _ _ => (jn_name 7 sc_l_split.nd)) (fun _ _ _ _ _ => jts_nil) (fun _ _ _ _ _ => (je_add (je_jb (je_var 6)) (je_jb (je_tup (ja_cons (je_var 7) ja_nil)))))))))))) (jss_one (js_set 3 sc_l_split.nd (je_var 5)))))) (jss_one (js_ret (jf_je (jf_lc [("_law_head", 6)] sc_l_split.nd (ji_seq (je_var 3)) b_l_split_1 (fun _ _ _ _ _ => (jn_name 6 sc_l_split.nd)) (fun _ _ _ _ _ => (jts_one (jt_eq hr (je_jb (je_sum Z.f_sum (je_jb (je_var 6)))) (je_jb (je_var 0))))) (fun _ _ _ _ _ => (je_var 6))))))))
theorem okr_l_arrays (Z : Facts K mg) : ∀ n, DefOk ct0 P w K mg base "_law_arrays" s_l_arrays (2 + n) ["_law_down", "_law_across", "_law_top_here"] (q_l_arrays n)
  | 0 => (def_ok (k := 1) (F := sX) Z.d_l_arrays sc_l_arrays fun _ _ _ _ _ _ _ _ _ => jss_never).sub (fun _ _ _ h => nomatch h)
  | n + 1 => by
    have D_l_arrays := okr_l_arrays Z n
    have D_l_split := ok_l_split (P := P) (w := w) (base := base) Z
    exact def_ok (k := 2 + n) Z.d_l_arrays sc_l_arrays fun _ _ _ _ _ _ _ hr hG => (jss_cons (js_if (jt_eq hr (je_jb (je_var 0)) (je_jb (je_tup ja_nil))) (jss_one (js_ret (je_if (jt_eq hr (je_jb (je_sum Z.f_sum (je_jb (je_var 1)))) (je_jb je_int)) je_int je_int))) jss_nil) (jss_cons (js_set 3 sc_l_arrays.nd je_int) (jss_cons (js_for (ji_seq (je_call (D_l_split.mono (by omega)) hr hG pb_l_split (ja_cons (je_ix hr (je_jb (je_var 0)) je_int) (ja_cons (je_var 1) (ja_cons (je_var 2) ja_nil))) rfl (al_cons (al_cons (al_cons al_nil))))) (jn_name 4 sc_l_arrays.nd) (jss_one (js_set 3 sc_l_arrays.nd (je_add (je_jb (je_var 3)) (je_jb (je_call (D_l_arrays.mono (by omega)) hr hG pb_l_arrays (ja_cons (je_sl (je_jb (je_var 0)) (jo_some je_int) jo_none) (ja_cons (je_tuple Z.f_tuple (je_jb (jf_je (jf_lc [("_law_room", 5), ("_law_part", 6)] sc_l_arrays.nd (ji_zip Z.f_zip (ja_cons (je_var 1) (ja_cons (je_var 4) ja_nil))) b_l_arrays_0 (fun _ _ _ _ _ => (jn_tup rfl (jns_cons (jn_name 5 sc_l_arrays.nd) (jns_cons (jn_name 6 sc_l_arrays.nd) jns_nil)))) (fun _ _ _ _ _ => jts_nil) (fun _ _ _ _ _ => (je_sub (je_jb (je_var 5)) (je_jb (je_var 6)))))))) (ja_cons (je_var 2) ja_nil))) rfl (al_cons (al_cons (al_cons al_nil))))))))) (jss_one (js_ret (je_var 3))))))
theorem ok_l_arrays (Z : Facts K mg) : DefOk ct0 P w K mg base "_law_arrays" s_l_arrays 7 ["_law_down", "_law_across", "_law_top_here"] f_l_arrays := okr_l_arrays Z 5
theorem ok_l_sums (Z : Facts K mg) : DefOk ct0 P w K mg base "_law_sums" s_l_sums 2 ["_law_vat", "_law_total"] f_l_sums := by
  have D_l_sip := ok_l_sip (P := P) (w := w) (base := base) Z
  exact def_ok Z.d_l_sums sc_l_sums fun _ _ _ _ _ _ _ hr hG => (jss_cons (js_parFE 3 4 sc_l_sums.nd (jf_lst ja_nil) (je_var 1)) (jss_cons (js_for (ji_range1 Z.f_range (ja_cons (je_call (D_l_sip.mono (by decide)) hr hG pb_l_sip (ja_cons (je_var 0) (ja_cons je_int ja_nil)) rfl (al_cons (al_cons al_nil))) ja_nil)) (jn_name 2 sc_l_sums.nd) (jss_cons (js_append 3 (je_call (D_l_sip.mono (by decide)) hr hG pb_l_sip (ja_cons (je_var 0) (ja_cons (je_add (je_jb (je_var 4)) (je_jb je_int)) ja_nil)) rfl (al_cons (al_cons al_nil)))) (jss_one (js_set 4 sc_l_sums.nd (je_sub (je_jb (je_var 4)) (je_jb (je_ix hr (jb_own 3) (je_neg je_int)))))))) (jss_one (js_ret (je_tuple Z.f_tuple (je_jb (je_add (jb_own 3) (je_jb (jf_je (jf_lst (ja_cons (je_var 4) ja_nil)))))))))))
theorem ok_l_own_inverses (Z : Facts K mg) : DefOk ct0 P w K mg base "_law_own_inverses" s_l_own_inverses 1 ["_law_n"] f_l_own_inverses := by
  exact def_ok Z.d_l_own_inverses sc_l_own_inverses fun _ _ _ _ _ _ _ hr hG => (jss_cons (js_own 1 sc_l_own_inverses.nd (jf_lst (ja_cons je_int (ja_cons je_int ja_nil)))) (jss_cons (js_for (ji_range2 Z.f_range (ja_cons je_int (ja_cons (je_add (je_jb (je_var 0)) (je_jb je_int)) ja_nil))) (jn_name 2 sc_l_own_inverses.nd) (jss_one (js_append 1 (je_add (je_jb (je_ix hr (jb_own 1) (je_sub (je_jb (je_var 2)) (je_jb je_int)))) (je_jb (je_mulB (je_jb (je_sub (je_jb (je_var 2)) (je_jb je_int))) (je_jb (je_ix hr (jb_own 1) (je_sub (je_jb (je_var 2)) (je_jb je_int)))))))))) (jss_one (js_ret (je_ix hr (jb_own 1) (je_var 0))))))
theorem ok_l_right (Z : Facts K mg) : DefOk ct0 P w K mg base "_law_right" s_l_right 8 ["_law_vat"] f_l_right := by
  have D_heavier := ok_heavier (P := P) (w := w) (base := base) Z
  have D_growth_count := ok_growth_count (P := P) (w := w) (base := base) Z
  have D_table_count := ok_table_count (P := P) (w := w) (base := base) Z
  have D_margin_count := ok_margin_count (P := P) (w := w) (base := base) Z
  have D_zero_one_count := ok_zero_one_count (P := P) (w := w) (base := base) Z
  have D_own_inverse_count := ok_own_inverse_count (P := P) (w := w) (base := base) Z
  have D_l_sip := ok_l_sip (P := P) (w := w) (base := base) Z
  have D_l_forms := ok_l_forms (P := P) (w := w) (base := base) Z
  have D_l_tilted := ok_l_tilted (P := P) (w := w) (base := base) Z
  have D_l_arrays := ok_l_arrays (P := P) (w := w) (base := base) Z
  have D_l_sums := ok_l_sums (P := P) (w := w) (base := base) Z
  have D_l_own_inverses := ok_l_own_inverses (P := P) (w := w) (base := base) Z
  exact def_ok Z.d_l_right sc_l_right fun _ _ _ _ _ _ _ hr hG => (jss_cons (js_for (ji_range1 Z.f_range (ja_cons je_int ja_nil)) (jn_name 1 sc_l_right.nd) (jss_cons (js_set 4 sc_l_right.nd (je_call (D_l_sip.mono (by decide)) hr hG pb_l_sip (ja_cons (je_var 0) (ja_cons je_int ja_nil)) rfl (al_cons (al_cons al_nil)))) (jss_cons (js_asg (je_tup (ja_cons (je_call (D_l_sums.mono (by decide)) hr hG pb_l_sums (ja_cons (je_var 0) (ja_cons (je_var 4) ja_nil)) rfl (al_cons (al_cons al_nil))) (ja_cons (je_call (D_l_sums.mono (by decide)) hr hG pb_l_sums (ja_cons (je_var 0) (ja_cons (je_var 4) ja_nil)) rfl (al_cons (al_cons al_nil))) ja_nil))) (jn_tup rfl (jns_cons (jn_name 6 sc_l_right.nd) (jns_cons (jn_name 7 sc_l_right.nd) jns_nil)))) (jss_cons (js_par 8 9 sc_l_right.nd (ja_cons (je_call (D_l_arrays.mono (by decide)) hr hG pb_l_arrays (ja_cons (je_var 6) (ja_cons (je_var 7) (ja_cons je_int ja_nil))) rfl (al_cons (al_cons (al_cons al_nil)))) (ja_cons (je_call (D_l_arrays.mono (by decide)) hr hG pb_l_arrays (ja_cons (je_var 6) (ja_cons (je_var 7) (ja_cons je_int ja_nil))) rfl (al_cons (al_cons (al_cons al_nil)))) ja_nil))) (jss_cons (js_if (jt_rprNe hG hr Z.f_repr (je_jb (jf_je (jf_lst (ja_cons (je_call (D_margin_count.mono (by decide)) hr hG pb_margin_count (ja_cons (je_var 6) (ja_cons (je_var 7) ja_nil)) rfl (al_cons (al_cons al_nil))) (ja_cons (je_callP swap2 (D_margin_count.mono (by decide)) hr hG kp_margin_count (jk_cons (je_var 7) (jk_cons (je_var 6) jk_nil)) swap2_len swap2_vals swap2_rep (al_cons (al_cons al_nil))) ja_nil))))) (je_jb (jf_je (jf_lst (ja_cons (je_var 8) (ja_cons (je_var 8) ja_nil)))))) (jss_one (js_ret je_bl)) jss_nil) (jss_cons (js_if (jt_rprNe hG hr Z.f_repr (je_jb (jf_je (jf_lst (ja_cons (je_call (D_zero_one_count.mono (by decide)) hr hG pb_zero_one_count (ja_cons (je_var 6) (ja_cons (je_var 7) ja_nil)) rfl (al_cons (al_cons al_nil))) (ja_cons (je_callP swap2 (D_zero_one_count.mono (by decide)) hr hG kp_zero_one_count (jk_cons (je_var 7) (jk_cons (je_var 6) jk_nil)) swap2_len swap2_vals swap2_rep (al_cons (al_cons al_nil))) ja_nil))))) (je_jb (jf_je (jf_lst (ja_cons (je_var 9) (ja_cons (je_var 9) ja_nil)))))) (jss_one (js_ret je_bl)) jss_nil) (jss_cons (js_set 5 sc_l_right.nd (je_call (D_l_forms.mono (by decide)) hr hG pb_l_forms (ja_cons (je_var 4) ja_nil) rfl (al_cons al_nil))) (jss_cons (js_if (jt_ne hr (je_jb (je_sum Z.f_sum (je_jb (jf_je (jf_lc [("_law_form", 13)] sc_l_right.nd (ji_seq (je_var 5)) b_l_right_0 (fun _ _ _ _ _ => (jn_name 13 sc_l_right.nd)) (fun _ _ _ _ _ => jts_nil) (fun _ _ _ _ _ => (je_mulB (je_jb (je_call (D_table_count.mono (by decide)) hr hG pb_table_count (ja_cons (je_var 13) (ja_cons (je_var 6) ja_nil)) rfl (al_cons (al_cons al_nil)))) (je_jb (je_call (D_table_count.mono (by decide)) hr hG pb_table_count (ja_cons (je_var 13) (ja_cons (je_var 7) ja_nil)) rfl (al_cons (al_cons al_nil))))))))))) (je_jb (je_var 8))) (jss_one (js_ret je_bl)) jss_nil) (jss_cons (js_if (jt_ne hr (je_jb (je_sum Z.f_sum (je_jb (jf_je (jf_lc [("_law_form", 13)] sc_l_right.nd (ji_seq (je_var 5)) b_l_right_1 (fun _ _ _ _ _ => (jn_name 13 sc_l_right.nd)) (fun _ _ _ _ _ => jts_nil) (fun _ _ _ _ _ => (je_mulB (je_jb (je_call (D_table_count.mono (by decide)) hr hG pb_table_count (ja_cons (je_var 13) (ja_cons (je_var 6) ja_nil)) rfl (al_cons (al_cons al_nil)))) (je_jb (je_call (D_table_count.mono (by decide)) hr hG pb_table_count (ja_cons (je_call (D_l_tilted.mono (by decide)) hr hG pb_l_tilted (ja_cons (je_var 13) ja_nil) rfl (al_cons al_nil)) (ja_cons (je_var 7) ja_nil)) rfl (al_cons (al_cons al_nil))))))))))) (je_jb (je_var 9))) (jss_one (js_ret je_bl)) jss_nil) (jss_cons (js_asg (jf_je (jf_lc [("_law_side", 12)] sc_l_right.nd (ji_seq (jf_je (jf_lst (ja_cons (je_var 6) (ja_cons (je_var 7) ja_nil))))) b_l_right_2 (fun _ _ _ _ _ => (jn_name 12 sc_l_right.nd)) (fun _ _ _ _ _ => jts_nil) (fun _ _ _ _ _ => (je_tuple Z.f_tuple (je_jb (je_revA (je_jb (jf_je (jf_sorted .int hr Z.f_sorted (je_jb (jf_je (jf_lc [("_law_part", 14)] sc_l_right.nd (ji_seq (je_var 12)) b_l_right_3 (fun _ _ _ _ _ => (jn_name 14 sc_l_right.nd)) (fun _ _ _ _ _ => (jts_one (jt_gt (je_jb (je_var 14)) (je_jb je_int)))) (fun _ _ _ _ _ => (je_var 14)))))))))))))) (jn_tup rfl (jns_cons (jn_name 10 sc_l_right.nd) (jns_cons (jn_name 11 sc_l_right.nd) jns_nil)))) (jss_cons (js_if (jt_ne hr (je_jb (je_call (D_heavier.mono (by decide)) hr hG pb_heavier (ja_cons (je_call (D_l_tilted.mono (by decide)) hr hG pb_l_tilted (ja_cons (je_var 10) ja_nil) rfl (al_cons al_nil)) (ja_cons (je_var 11) ja_nil)) rfl (al_cons (al_cons al_nil)))) (je_jb (je_gt (je_jb (je_var 9)) (je_jb je_int)))) (jss_one (js_ret je_bl)) jss_nil) (jss_one (js_if (jt_w (jw_or (jt_ne hr (je_jb (je_call (D_margin_count.mono (by decide)) hr hG pb_margin_count (ja_cons (je_var 6) (ja_cons (je_add (je_jb (je_sl (je_jb (je_var 7)) jo_none (jo_some (je_neg je_int)))) (je_jb (je_tup (ja_cons (je_add (je_jb (je_ix hr (je_jb (je_var 7)) (je_neg je_int))) (je_jb je_int)) ja_nil)))) ja_nil)) rfl (al_cons (al_cons al_nil)))) (je_jb je_int)) (jw_or1 (jt_ne hr (je_jb (je_call (D_zero_one_count.mono (by decide)) hr hG pb_zero_one_count (ja_cons (je_add (je_jb (je_var 6)) (je_jb (je_tup (ja_cons je_int ja_nil)))) (ja_cons (je_var 7) ja_nil)) rfl (al_cons (al_cons al_nil)))) (je_jb je_int))))) (jss_one (js_ret je_bl)) jss_nil))))))))))))) (jss_cons (js_set 2 sc_l_right.nd (je_call (D_l_sip.mono (by decide)) hr hG pb_l_sip (ja_cons (je_var 0) (ja_cons je_int ja_nil)) rfl (al_cons (al_cons al_nil)))) (jss_cons (js_set 3 sc_l_right.nd (jf_je (jf_lst (ja_cons (je_call (D_own_inverse_count.mono (by decide)) hr hG pb_own_inverse_count (ja_cons (je_var 2) ja_nil) rfl (al_cons al_nil)) (ja_cons (je_callK0 (D_own_inverse_count.mono (by decide)) hr hG kw_own_inverse_count (jk_cons (je_var 2) jk_nil) (al_cons al_nil)) ja_nil))))) (jss_one (js_ret (je_and (je_eq hr (je_jb (je_var 3)) (je_jb (je_mulB (je_jb (jf_je (jf_lst (ja_cons (je_call (D_l_own_inverses.mono (by decide)) hr hG pb_l_own_inverses (ja_cons (je_var 2) ja_nil) rfl (al_cons al_nil)) ja_nil)))) (je_jb je_int)))) (je_one (je_eq hr (je_jb (je_sum Z.f_sum (je_jb (jf_je (jf_lc [("_law_form", 13)] sc_l_right.nd (ji_seq (je_call (D_l_forms.mono (by decide)) hr hG pb_l_forms (ja_cons (je_var 2) ja_nil) rfl (al_cons al_nil))) b_l_right_4 (fun _ _ _ _ _ => (jn_name 13 sc_l_right.nd)) (fun _ _ _ _ _ => jts_nil) (fun _ _ _ _ _ => (je_call (D_growth_count.mono (by decide)) hr hG pb_growth_count (ja_cons (je_var 13) ja_nil) rfl (al_cons al_nil)))))))) (je_jb (je_ix hr (je_jb (je_var 3)) je_int))))))))))
theorem ok_law (Z : Facts K mg) : DefOk ct0 P w K mg base "law" s_law 9 ["_law_script"] f_law := by
  have D_l_vat_of := ok_l_vat_of (P := P) (w := w) (base := base) Z
  have D_l_right := ok_l_right (P := P) (w := w) (base := base) Z
  exact def_ok Z.d_law sc_law fun _ _ _ _ _ _ _ hr hG => (jss_one (js_ret (je_all Z.f_all (je_jb (jf_je (jf_lc [("_law_turn", 1)] sc_law.nd (ji_range1 Z.f_range (ja_cons (je_max2 Z.f_max (ja_cons je_int (ja_cons (je_min2 Z.f_min (ja_cons (je_len Z.f_len (je_jb (je_var 0))) (ja_cons je_int ja_nil))) ja_nil))) ja_nil)) b_law_0 (fun _ _ _ _ _ => (jn_name 1 sc_law.nd)) (fun _ _ _ _ _ => jts_nil) (fun _ _ _ _ _ => (je_call (D_l_right.mono (by decide)) hr hG pb_l_right (ja_cons (je_call (D_l_vat_of.mono (by decide)) hr hG pb_l_vat_of (ja_cons (je_var 0) (ja_cons (je_var 1) ja_nil)) rfl (al_cons (al_cons al_nil))) ja_nil) rfl (al_cons al_nil)))))))))
end
end K56
set_option Elab.async false
set_option linter.all false
set_option maxRecDepth 100000
set_option maxHeartbeats 0
namespace K56
open PySem PySem.Spec PyProof.Rows L2 J
def d_l_vat_of : He.DefD := ⟨("_law_vat_of", none), "_law_vat_of", "_law_vat_of", defArgs s_l_vat_of, defBody s_l_vat_of, defScope s_l_vat_of, [], []⟩
def d_sums_along : He.DefD := ⟨("sums_along", none), "sums_along", "sums_along", defArgs s_sums_along, defBody s_sums_along, defScope s_sums_along, [], []⟩
def d_lighter_at : He.DefD := ⟨("lighter_at", none), "lighter_at", "lighter_at", defArgs s_lighter_at, defBody s_lighter_at, defScope s_lighter_at, [], []⟩
def d_is_number : He.DefD := ⟨("is_number", none), "is_number", "is_number", defArgs s_is_number, defBody s_is_number, defScope s_is_number, [], []⟩
def d_is_shape : He.DefD := ⟨("is_shape", none), "is_shape", "is_shape", defArgs s_is_shape, defBody s_is_shape, defScope s_is_shape, [], []⟩
def d_check_shape : He.DefD := ⟨("check_shape", none), "check_shape", "check_shape", defArgs s_check_shape, defBody s_check_shape, defScope s_check_shape, [], []⟩
def d_check_sizes : He.DefD := ⟨("check_sizes", none), "check_sizes", "check_sizes", defArgs s_check_sizes, defBody s_check_sizes, defScope s_check_sizes, [], []⟩
def d_heavier : He.DefD := ⟨("heavier", none), "heavier", "heavier", defArgs s_heavier, defBody s_heavier, defScope s_heavier, [], []⟩
def d_hook_of : He.DefD := ⟨("hook_of", none), "hook_of", "hook_of", defArgs s_hook_of, defBody s_hook_of, defScope s_hook_of, [], []⟩
def d_hooks_of : He.DefD := ⟨("hooks_of", none), "hooks_of", "hooks_of", defArgs s_hooks_of, defBody s_hooks_of, defScope s_hooks_of, [], []⟩
def d_factorial : He.DefD := ⟨("factorial", none), "factorial", "factorial", defArgs s_factorial, defBody s_factorial, defScope s_factorial, [], []⟩
def d_growth_count : He.DefD := ⟨("growth_count", none), "growth_count", "growth_count", defArgs s_growth_count, defBody s_growth_count, defScope s_growth_count, [], []⟩
def d_are_amounts : He.DefD := ⟨("are_amounts", none), "are_amounts", "are_amounts", defArgs s_are_amounts, defBody s_are_amounts, defScope s_are_amounts, [], []⟩
def d_check_amounts : He.DefD := ⟨("check_amounts", none), "check_amounts", "check_amounts", defArgs s_check_amounts, defBody s_check_amounts, defScope s_check_amounts, [], []⟩
def d_trimmed : He.DefD := ⟨("trimmed", none), "trimmed", "trimmed", defArgs s_trimmed, defBody s_trimmed, defScope s_trimmed, [], []⟩
def d_parts_below : He.DefD := ⟨("parts_below", none), "parts_below", "parts_below", defArgs s_parts_below, defBody s_parts_below, defScope s_parts_below, [], []⟩
def d_tables_counted : He.DefD := ⟨("tables_counted", none), "tables_counted", "tables_counted", defArgs s_tables_counted, defBody s_tables_counted, defScope s_tables_counted, [], []⟩
def d_table_count : He.DefD := ⟨("table_count", none), "table_count", "table_count", defArgs s_table_count, defBody s_table_count, defScope s_table_count, [], []⟩
def d_check_margins : He.DefD := ⟨("check_margins", none), "check_margins", "check_margins", defArgs s_check_margins, defBody s_check_margins, defScope s_check_margins, [], []⟩
def d_rows_of_sum : He.DefD := ⟨("rows_of_sum", none), "rows_of_sum", "rows_of_sum", defArgs s_rows_of_sum, defBody s_rows_of_sum, defScope s_rows_of_sum, [], []⟩
def d_arrays_counted : He.DefD := ⟨("arrays_counted", none), "arrays_counted", "arrays_counted", defArgs s_arrays_counted, defBody s_arrays_counted, defScope s_arrays_counted, [], []⟩
def d_margin_count : He.DefD := ⟨("margin_count", none), "margin_count", "margin_count", defArgs s_margin_count, defBody s_margin_count, defScope s_margin_count, [], []⟩
def d_zero_one_count : He.DefD := ⟨("zero_one_count", none), "zero_one_count", "zero_one_count", defArgs s_zero_one_count, defBody s_zero_one_count, defScope s_zero_one_count, [], []⟩
def d_own_inverse_count : He.DefD := ⟨("own_inverse_count", none), "own_inverse_count", "own_inverse_count", defArgs s_own_inverse_count, defBody s_own_inverse_count, defScope s_own_inverse_count, [], []⟩
def d_l_sip : He.DefD := ⟨("_law_sip", none), "_law_sip", "_law_sip", defArgs s_l_sip, defBody s_l_sip, defScope s_l_sip, [], []⟩
def d_l_forms : He.DefD := ⟨("_law_forms", none), "_law_forms", "_law_forms", defArgs s_l_forms, defBody s_l_forms, defScope s_l_forms, [], []⟩
def d_l_tilted : He.DefD := ⟨("_law_tilted", none), "_law_tilted", "_law_tilted", defArgs s_l_tilted, defBody s_l_tilted, defScope s_l_tilted, [], []⟩
def d_l_split : He.DefD := ⟨("_law_split", none), "_law_split", "_law_split", defArgs s_l_split, defBody s_l_split, defScope s_l_split, [], []⟩
def d_l_arrays : He.DefD := ⟨("_law_arrays", none), "_law_arrays", "_law_arrays", defArgs s_l_arrays, defBody s_l_arrays, defScope s_l_arrays, [], []⟩
def d_l_sums : He.DefD := ⟨("_law_sums", none), "_law_sums", "_law_sums", defArgs s_l_sums, defBody s_l_sums, defScope s_l_sums, [], []⟩
def d_l_own_inverses : He.DefD := ⟨("_law_own_inverses", none), "_law_own_inverses", "_law_own_inverses", defArgs s_l_own_inverses, defBody s_l_own_inverses, defScope s_l_own_inverses, [], []⟩
def d_l_right : He.DefD := ⟨("_law_right", none), "_law_right", "_law_right", defArgs s_l_right, defBody s_l_right, defScope s_l_right, [], []⟩
def d_law : He.DefD := ⟨("law", none), "law", "law", defArgs s_law, defBody s_law, defScope s_law, [], []⟩
def fnL : List He.DefD := [d_l_vat_of, d_sums_along, d_lighter_at, d_is_number, d_is_shape, d_check_shape, d_check_sizes, d_heavier, d_hook_of, d_hooks_of, d_factorial, d_growth_count, d_are_amounts, d_check_amounts, d_trimmed, d_parts_below, d_tables_counted, d_table_count, d_check_margins, d_rows_of_sum, d_arrays_counted, d_margin_count, d_zero_one_count, d_own_inverse_count, d_l_sip, d_l_forms, d_l_tilted, d_l_split, d_l_arrays, d_l_sums, d_l_own_inverses, d_l_right, d_law]
def faL : List He.Fa := [.glo "_law_vat_of", .glo "sums_along", .glo "lighter_at", .glo "is_number", .glo "is_shape", .glo "check_shape", .glo "check_sizes", .glo "heavier", .glo "hook_of", .glo "hooks_of", .glo "factorial", .glo "growth_count", .glo "are_amounts", .glo "check_amounts", .glo "trimmed", .glo "parts_below", .glo "tables_counted", .glo "table_count", .glo "check_margins", .glo "rows_of_sum", .glo "arrays_counted", .glo "margin_count", .glo "zero_one_count", .glo "own_inverse_count", .glo "_law_sip", .glo "_law_forms", .glo "_law_tilted", .glo "_law_split", .glo "_law_arrays", .glo "_law_sums", .glo "_law_own_inverses", .glo "_law_right", .glo "law", .free "abs", .free "all", .free "bool", .free "divmod", .free "enumerate", .free "int", .free "isinstance", .free "len", .free "max", .free "min", .free "range", .free "repr", .free "sorted", .free "sum", .free "tuple", .free "zip", .int "MOST_BOXES" 40, .int "MOST_LONG" 12, .int "MOST_MARGINS" 6]
abbrev R : PySem.W.OpenRow := PySem.W.OpenLaw.row PySem.Challenge.rw_wordshapes_k56_whole_margins
abbrev hk : PySem.W.Hook := He.hookD 4 faL fnL
def ob (s : PySem.W.SharedT) : He.AlD := He.obsDG 4 faL fnL (HandSHeadRun.getT s)
theorem ob_eq (st : PySem.W.SharedT) : ob st = hk.obs st.abs := He.obsDG_eq (HandSHeadRun.getT_eq st)
def looseP0 : List Str := ["WrongValue", "InvalidShape", "InvalidNumber", "InvalidAmounts", "NoAnswer", "UnlikeSizes", "MOST_LONG", "MOST_BOXES", "is_number", "is_shape", "check_shape", "trimmed", "sums_along", "lighter_at", "check_sizes", "heavier", "hook_of", "hooks_of", "factorial", "growth_count", "MOST_MARGINS", "are_amounts", "check_amounts", "parts_below", "tables_counted", "table_count", "check_margins", "rows_of_sum", "arrays_counted", "margin_count"]
def looseP1 : List Str := ["zero_one_count", "own_inverse_count", "_law_vat_of", "_law_sip", "_law_forms", "_law_tilted", "_law_split", "_law_arrays", "_law_sums", "_law_own_inverses", "_law_right"]
def loose : List Str := looseP0 ++ looseP1
theorem run (w : World) : HandSHeadRun.RunEq R (PySem.W.view R.prog [46]) hk ob 9000 loose w := by
  intro os
  kernel_rfl
theorem facts {K : PySem.W.Frag} {h : Heap} {mg : Str → Option Value} (X : K.In h) (G : h.Ns mainGlobals mg) (c : He.SaysD faL fnL K) : Facts K mg where
  f_abs := He.free_ok X G (c.fact 33 (f := .free "abs") rfl)
  f_all := He.free_ok X G (c.fact 34 (f := .free "all") rfl)
  f_bool := He.free_ok X G (c.fact 35 (f := .free "bool") rfl)
  f_divmod := He.free_ok X G (c.fact 36 (f := .free "divmod") rfl)
  f_enumerate := He.free_ok X G (c.fact 37 (f := .free "enumerate") rfl)
  f_int := He.free_ok X G (c.fact 38 (f := .free "int") rfl)
  f_isinstance := He.free_ok X G (c.fact 39 (f := .free "isinstance") rfl)
  f_len := He.free_ok X G (c.fact 40 (f := .free "len") rfl)
  f_max := He.free_ok X G (c.fact 41 (f := .free "max") rfl)
  f_min := He.free_ok X G (c.fact 42 (f := .free "min") rfl)
  f_range := He.free_ok X G (c.fact 43 (f := .free "range") rfl)
  f_repr := He.free_ok X G (c.fact 44 (f := .free "repr") rfl)
  f_sorted := He.free_ok X G (c.fact 45 (f := .free "sorted") rfl)
  f_sum := He.free_ok X G (c.fact 46 (f := .free "sum") rfl)
  f_tuple := He.free_ok X G (c.fact 47 (f := .free "tuple") rfl)
  f_zip := He.free_ok X G (c.fact 48 (f := .free "zip") rfl)
  c_MOST_BOXES := He.int_ok X G (c.fact 49 (f := .int "MOST_BOXES" 40) rfl)
  c_MOST_LONG := He.int_ok X G (c.fact 50 (f := .int "MOST_LONG" 12) rfl)
  c_MOST_MARGINS := He.int_ok X G (c.fact 51 (f := .int "MOST_MARGINS" 6) rfl)
  d_l_vat_of := let ⟨fd, F⟩ := c.def_ 0 (d := d_l_vat_of) rfl; ⟨_, fd, F, He.glo_ok X G (c.fact 0 (f := .glo "_law_vat_of") rfl)⟩
  d_sums_along := let ⟨fd, F⟩ := c.def_ 1 (d := d_sums_along) rfl; ⟨_, fd, F, He.glo_ok X G (c.fact 1 (f := .glo "sums_along") rfl)⟩
  d_lighter_at := let ⟨fd, F⟩ := c.def_ 2 (d := d_lighter_at) rfl; ⟨_, fd, F, He.glo_ok X G (c.fact 2 (f := .glo "lighter_at") rfl)⟩
  d_is_number := let ⟨fd, F⟩ := c.def_ 3 (d := d_is_number) rfl; ⟨_, fd, F, He.glo_ok X G (c.fact 3 (f := .glo "is_number") rfl)⟩
  d_is_shape := let ⟨fd, F⟩ := c.def_ 4 (d := d_is_shape) rfl; ⟨_, fd, F, He.glo_ok X G (c.fact 4 (f := .glo "is_shape") rfl)⟩
  d_check_shape := let ⟨fd, F⟩ := c.def_ 5 (d := d_check_shape) rfl; ⟨_, fd, F, He.glo_ok X G (c.fact 5 (f := .glo "check_shape") rfl)⟩
  d_check_sizes := let ⟨fd, F⟩ := c.def_ 6 (d := d_check_sizes) rfl; ⟨_, fd, F, He.glo_ok X G (c.fact 6 (f := .glo "check_sizes") rfl)⟩
  d_heavier := let ⟨fd, F⟩ := c.def_ 7 (d := d_heavier) rfl; ⟨_, fd, F, He.glo_ok X G (c.fact 7 (f := .glo "heavier") rfl)⟩
  d_hook_of := let ⟨fd, F⟩ := c.def_ 8 (d := d_hook_of) rfl; ⟨_, fd, F, He.glo_ok X G (c.fact 8 (f := .glo "hook_of") rfl)⟩
  d_hooks_of := let ⟨fd, F⟩ := c.def_ 9 (d := d_hooks_of) rfl; ⟨_, fd, F, He.glo_ok X G (c.fact 9 (f := .glo "hooks_of") rfl)⟩
  d_factorial := let ⟨fd, F⟩ := c.def_ 10 (d := d_factorial) rfl; ⟨_, fd, F, He.glo_ok X G (c.fact 10 (f := .glo "factorial") rfl)⟩
  d_growth_count := let ⟨fd, F⟩ := c.def_ 11 (d := d_growth_count) rfl; ⟨_, fd, F, He.glo_ok X G (c.fact 11 (f := .glo "growth_count") rfl)⟩
  d_are_amounts := let ⟨fd, F⟩ := c.def_ 12 (d := d_are_amounts) rfl; ⟨_, fd, F, He.glo_ok X G (c.fact 12 (f := .glo "are_amounts") rfl)⟩
  d_check_amounts := let ⟨fd, F⟩ := c.def_ 13 (d := d_check_amounts) rfl; ⟨_, fd, F, He.glo_ok X G (c.fact 13 (f := .glo "check_amounts") rfl)⟩
  d_trimmed := let ⟨fd, F⟩ := c.def_ 14 (d := d_trimmed) rfl; ⟨_, fd, F, He.glo_ok X G (c.fact 14 (f := .glo "trimmed") rfl)⟩
  d_parts_below := let ⟨fd, F⟩ := c.def_ 15 (d := d_parts_below) rfl; ⟨_, fd, F, He.glo_ok X G (c.fact 15 (f := .glo "parts_below") rfl)⟩
  d_tables_counted := let ⟨fd, F⟩ := c.def_ 16 (d := d_tables_counted) rfl; ⟨_, fd, F, He.glo_ok X G (c.fact 16 (f := .glo "tables_counted") rfl)⟩
  d_table_count := let ⟨fd, F⟩ := c.def_ 17 (d := d_table_count) rfl; ⟨_, fd, F, He.glo_ok X G (c.fact 17 (f := .glo "table_count") rfl)⟩
  d_check_margins := let ⟨fd, F⟩ := c.def_ 18 (d := d_check_margins) rfl; ⟨_, fd, F, He.glo_ok X G (c.fact 18 (f := .glo "check_margins") rfl)⟩
  d_rows_of_sum := let ⟨fd, F⟩ := c.def_ 19 (d := d_rows_of_sum) rfl; ⟨_, fd, F, He.glo_ok X G (c.fact 19 (f := .glo "rows_of_sum") rfl)⟩
  d_arrays_counted := let ⟨fd, F⟩ := c.def_ 20 (d := d_arrays_counted) rfl; ⟨_, fd, F, He.glo_ok X G (c.fact 20 (f := .glo "arrays_counted") rfl)⟩
  d_margin_count := let ⟨fd, F⟩ := c.def_ 21 (d := d_margin_count) rfl; ⟨_, fd, F, He.glo_ok X G (c.fact 21 (f := .glo "margin_count") rfl)⟩
  d_zero_one_count := let ⟨fd, F⟩ := c.def_ 22 (d := d_zero_one_count) rfl; ⟨_, fd, F, He.glo_ok X G (c.fact 22 (f := .glo "zero_one_count") rfl)⟩
  d_own_inverse_count := let ⟨fd, F⟩ := c.def_ 23 (d := d_own_inverse_count) rfl; ⟨_, fd, F, He.glo_ok X G (c.fact 23 (f := .glo "own_inverse_count") rfl)⟩
  d_l_sip := let ⟨fd, F⟩ := c.def_ 24 (d := d_l_sip) rfl; ⟨_, fd, F, He.glo_ok X G (c.fact 24 (f := .glo "_law_sip") rfl)⟩
  d_l_forms := let ⟨fd, F⟩ := c.def_ 25 (d := d_l_forms) rfl; ⟨_, fd, F, He.glo_ok X G (c.fact 25 (f := .glo "_law_forms") rfl)⟩
  d_l_tilted := let ⟨fd, F⟩ := c.def_ 26 (d := d_l_tilted) rfl; ⟨_, fd, F, He.glo_ok X G (c.fact 26 (f := .glo "_law_tilted") rfl)⟩
  d_l_split := let ⟨fd, F⟩ := c.def_ 27 (d := d_l_split) rfl; ⟨_, fd, F, He.glo_ok X G (c.fact 27 (f := .glo "_law_split") rfl)⟩
  d_l_arrays := let ⟨fd, F⟩ := c.def_ 28 (d := d_l_arrays) rfl; ⟨_, fd, F, He.glo_ok X G (c.fact 28 (f := .glo "_law_arrays") rfl)⟩
  d_l_sums := let ⟨fd, F⟩ := c.def_ 29 (d := d_l_sums) rfl; ⟨_, fd, F, He.glo_ok X G (c.fact 29 (f := .glo "_law_sums") rfl)⟩
  d_l_own_inverses := let ⟨fd, F⟩ := c.def_ 30 (d := d_l_own_inverses) rfl; ⟨_, fd, F, He.glo_ok X G (c.fact 30 (f := .glo "_law_own_inverses") rfl)⟩
  d_l_right := let ⟨fd, F⟩ := c.def_ 31 (d := d_l_right) rfl; ⟨_, fd, F, He.glo_ok X G (c.fact 31 (f := .glo "_law_right") rfl)⟩
  d_law := let ⟨fd, F⟩ := c.def_ 32 (d := d_law) rfl; ⟨_, fd, F, He.glo_ok X G (c.fact 32 (f := .glo "law") rfl)⟩
end K56
set_option Elab.async false
set_option maxRecDepth 100000
set_option maxHeartbeats 0
namespace K56
open PySem PySem.Spec PyProof.Rows L2 J
def VatIs (S : Sto) (n : Nat) : Prop := ∃ a b c, S[n]? = some [.int a, .int b, .int c] ∧ 0 ≤ a ∧ 0 ≤ b ∧ b < 2147482583
theorem sip_ok (n : Nat) (S : Sto) (t : Int) (hS : VatIs S n) (ht : 0 < t) (ht2 : t < 1000000) :
    ∃ d S', f_l_sip [.obj n, .int t] S = .ok (.int d, S') ∧ 0 ≤ d ∧ d < t ∧ VatIs S' n := by
  obtain ⟨a, b, c, hS, ha, hb, hb2⟩ := hS
  have hn : n < S.length := (List.getElem?_eq_some_iff.mp hS).1
  have ht3 : t < 1073741824 := by omega
  have hset : ∀ xs : List PV, (S.set n xs)[n]? = some xs := fun xs => List.getElem?_set_self hn
  by_cases h0 : 0 < a
  · refine ⟨a % t, S.set n [.int (a / t), .int b, .int c], ?_, Int.emod_nonneg _ (by omega), Int.emod_lt_of_pos _ ht, ⟨_, _, _, hset _, Int.ediv_nonneg ha (by omega), hb, hb2⟩⟩
    simp [f_l_sip, runF, F_l_sip, env0, sSeq, sAsgG, sSet, sIf, sRet, sNext, eOp, eIx, eV, eC, eUn, eB, aCons, aNil, gSubO, gOf, gN, ggT, ggCons, ggNil, tV, pAdd, pIx, atI, ixN, pInt, pMod, pMulB, pMulA, pMul, pCmp, pDivmod, pDiv, Res.bind, ofO, hS, hset, h0, ht, ht3]
  · have hmul1 : okMul 43013 (c + 1) = true := by unfold okMul; rw [decide_eq_true_eq]; left; omega
    have hmul2 : okMul 79 (c + 1) = true := by unfold okMul; rw [decide_eq_true_eq]; left; omega
    have hB0 : 0 ≤ (b + 43013 * (c + 1)) % 2147482583 := Int.emod_nonneg _ (by omega)
    have hB1 : (b + 43013 * (c + 1)) % 2147482583 < 2147482583 := Int.emod_lt_of_pos _ (by omega)
    obtain ⟨B, hB⟩ : ∃ B, B = (b + 43013 * (c + 1)) % 2147482583 := ⟨_, rfl⟩
    rw [← hB] at hB0 hB1
    have hmul3 : okMul B (B % 10009 + 74017) = true := by unfold okMul; rw [decide_eq_true_eq]; left; omega
    refine ⟨((B * (B % 10009 + 74017) + 79 * (c + 1) + 41) % 2147482583 / 193) % t, S.set n [.int a, .int ((B * (B % 10009 + 74017) + 79 * (c + 1) + 41) % 2147482583), .int (c + 1)], ?_, Int.emod_nonneg _ (by omega), Int.emod_lt_of_pos _ ht, ⟨_, _, _, hset _, ha, Int.emod_nonneg _ (by omega), Int.emod_lt_of_pos _ (by omega)⟩⟩
    simp [f_l_sip, runF, F_l_sip, env0, sSeq, sAsgG, sSet, sIf, sRet, sNext, eOp, eIx, eV, eC, eUn, eB, aCons, aNil, gSubO, gOf, gN, ggT, ggCons, ggNil, tV, pAdd, pIx, atI, ixN, pInt, pMod, pMulB, pMulA, pMul, pCmp, pDivmod, pDiv, Res.bind, ofO, hS, hset, hmul1, hmul2, hmul3, h0, ht, ht3, ← hB]
/-! ### a vat made -/
def Stir : FS := (sSet 3 (eOp pMod (eUn pInt (eOp pAdd (eOp pMulB (eV 3) (eOp pAdd (eC (.int 10007)) (eOp pMulB (eC (.int 74)) (eV 4)))) (eOp pMulB (eC (.int 37)) (eV 5)))) (eC (.int 2147482583))))
theorem stir_ok (S : Sto) (e0 e1 e2 : Slot) : ∀ (zs : List Int) (i : Nat) (e4 e5 : Slot) (s : Int), 0 ≤ s → s < 2147482583 →
    ∃ s' e4' e5', forL (gT 2 (gNc (gN 4) (gNc (gN 5) gNn))) Stir (enumP i (zs.map PV.int)) [e0, e1, e2, .val (.int s), e4, e5] S = .ok (.nx [e0, e1, e2, .val (.int s'), e4', e5'] S) ∧ 0 ≤ s' ∧ s' < 2147482583
  | [], i, e4, e5, s, h1, h2 => ⟨s, e4, e5, rfl, h1, h2⟩
  | z :: zs, i, e4, e5, s, h1, h2 => by
    obtain ⟨s', e4', e5', h, k1, k2⟩ := stir_ok S e0 e1 e2 zs (i + 1) (.val (.int i)) (.val (.int z)) ((s * (10007 + 74 * i) + 37 * z) % 2147482583) (Int.emod_nonneg _ (by omega)) (Int.emod_lt_of_pos _ (by omega))
    refine ⟨s', e4', e5', ?_, k1, k2⟩
    have hm : okMul s (10007 + 74 * (i : Int)) = true := by unfold okMul; rw [decide_eq_true_eq]; left; omega
    have hm2 : okMul 74 (i : Int) = true := by unfold okMul; rw [decide_eq_true_eq]; left; omega
    have hm3 : okMul 37 z = true := by unfold okMul; rw [decide_eq_true_eq]; left; omega
    rw [List.map_cons, enumP, forL]
    rw [← h]
    simp [Stir, sSet, eOp, eUn, eV, eC, gN, gT, gNc, gNn, ofO, Res.bind, pMulB, pMulA, pMul, pAdd, pMod, pInt, hm, hm2, hm3]
def VatA : FS := (sRet (eNew (aCons (eIf (tOrr (tV (eOp pLt (eV 2) (eC (.int 0)))) (tV (eOp pGe (eV 2) (eOp pPow (eC (.int 10)) (eC (.int 15)))))) (eUn pAbs (eV 2)) (eC (.int 0))) (aCons (eOp pMod (eUn pInt (eOp pAdd (eV 3) (eOp pMulB (eC (.int 25013)) (eV 2)))) (eC (.int 2147482583))) (aCons (eC (.int 0)) aNil)))))
theorem vatA_ok (S : Sto) (e0 e1 e4 e5 : Slot) (z s : Int) : ∃ a b, 0 ≤ a ∧ 0 ≤ b ∧ b < 2147482583 ∧ VatA [e0, e1, .val (.int z), .val (.int s), e4, e5] S = .ok (.rt (.obj S.length) (S ++ [[.int a, .int b, .int 0]])) := by
  have hm : okMul 25013 z = true := by unfold okMul; rw [decide_eq_true_eq]; left; omega
  by_cases h : z < 0 ∨ 1000000000000000 ≤ z
  · refine ⟨if z < 0 then -z else z, (s + 25013 * z) % 2147482583, by split <;> omega, Int.emod_nonneg _ (by omega), Int.emod_lt_of_pos _ (by omega), ?_⟩
    by_cases hz : z < 0
    · simp [VatA, sRet, eNew, aCons, aNil, eIf, tOrr, tV, eOp, eUn, eV, eC, pCmp, pPow, pAbs, pMod, pInt, pAdd, pMulB, pMulA, pMul, ofO, Res.bind, hz, hm]
    · have hz2 : 1000000000000000 ≤ z := by omega
      simp [VatA, sRet, eNew, aCons, aNil, eIf, tOrr, tV, eOp, eUn, eV, eC, pCmp, pPow, pAbs, pMod, pInt, pAdd, pMulB, pMulA, pMul, ofO, Res.bind, hz, hz2, hm]
  · refine ⟨0, (s + 25013 * z) % 2147482583, by omega, Int.emod_nonneg _ (by omega), Int.emod_lt_of_pos _ (by omega), ?_⟩
    have hz : ¬ z < 0 := by omega
    have hz2 : ¬ 1000000000000000 ≤ z := by omega
    simp [VatA, sRet, eNew, aCons, aNil, eIf, tOrr, tV, eOp, eUn, eV, eC, pCmp, pPow, pAbs, pMod, pInt, pAdd, pMulB, pMulA, pMul, ofO, Res.bind, hz, hz2, hm]
def Pair0 : FS := (sPar 2 3 (aCons (eIf (tV (eOp pLt (eV 1) (eUn pLen (eV 0)))) (eIx (eV 0) (eV 1)) (eC (.int 0))) (aCons (eOp pAdd (eC (.int 14009)) (eOp pMulB (eC (.int 60013)) (eV 1))) aNil)))
theorem vat_eq : F_l_vat_of = sSeq Pair0 (sSeq (sFor (iEn (aCons (eSl (eV 0) oNo (oSo (eC (.int 10)))) aNil)) (gT 2 (gNc (gN 4) (gNc (gN 5) gNn))) Stir) VatA) := rfl
theorem cell_ok (ns : List Int) (k : Nat) (S : Sto) (e2 e3 e4 e5 : Slot) : ∃ z, Pair0 [.val (.scr ns), .val (.int k), e2, e3, e4, e5] S = .ok (.nx [.val (.scr ns), .val (.int k), .val (.int z), .val (.int (14009 + 60013 * k)), e4, e5] S) := by
  have hm : okMul 60013 (k : Int) = true := by unfold okMul; rw [decide_eq_true_eq]; left; omega
  by_cases h : k < ns.length
  · refine ⟨ns[k], ?_⟩
    have h' : (k : Int) < (ns.length : Int) := by omega
    simp [Pair0, sPar, aCons, aNil, eIf, tV, eOp, eUn, eV, eC, eIx, pIx, atI, ixN, pCmp, pLen, pInt, pAdd, pMulB, pMulA, pMul, ofO, Res.bind, h, hm]
  · refine ⟨0, ?_⟩
    simp [Pair0, sPar, aCons, aNil, eIf, tV, eOp, eUn, eV, eC, eIx, pIx, atI, ixN, pCmp, pLen, pInt, pAdd, pMulB, pMulA, pMul, ofO, Res.bind, h, hm]
theorem items_ok (ns : List Int) (S : Sto) (e1 e2 e3 e4 e5 : Slot) : iEn (aCons (eSl (eV 0) oNo (oSo (eC (.int 10)))) aNil) [.val (.scr ns), e1, e2, e3, e4, e5] S = .ok (enumP 0 ((cutP ns none (some 10)).map PV.int), S) := by
  rfl
theorem vat_ok (ns : List Int) (k : Nat) (hk : k < 10) (S : Sto) : ∃ S', f_l_vat_of [.scr ns, .int k] S = .ok (.obj S.length, S') ∧ VatIs S' S.length := by
  obtain ⟨z, h1⟩ := cell_ok ns k S .un .un .un .un
  have h2 := items_ok ns S (.val (.int k)) (.val (.int z)) (.val (.int (14009 + 60013 * k))) .un .un
  obtain ⟨s', e4', e5', h3, k1, k2⟩ := stir_ok S (.val (.scr ns)) (.val (.int k)) (.val (.int z)) (cutP ns none (some 10)) 0 .un .un (14009 + 60013 * k) (by omega) (by omega)
  obtain ⟨a, b, ha, hb, hb2, h4⟩ := vatA_ok S (.val (.scr ns)) (.val (.int k)) e4' e5' z s'
  refine ⟨S ++ [[.int a, .int b, .int 0]], ?_, a, b, 0, by simp, ha, hb, hb2⟩
  unfold f_l_vat_of runF
  rw [vat_eq]
  have e : env0 6 [.scr ns, .int k] = [.val (.scr ns), .val (.int k), .un, .un, .un, .un] := rfl
  rw [e]
  simp only [sSeq, h1, Res.bind, sFor, h2, h3, h4]
end K56
set_option Elab.async false
set_option linter.all false
set_option maxRecDepth 100000
set_option maxHeartbeats 1000001
/-! rows_of_sum, arrays_counted: native functions that the pure ones compute -/
namespace K56
open PySem PySem.Spec PyProof.Rows L2 J
abbrev PF := List (List Nat × Nat)
def prP (F : PF) : List PV := F.map fun e => .tup [tI e.1, .int ((e.2 : Nat) : Int)]
def rosE (room : Nat) (e : List Nat × Nat) : PF := (List.range' 0 (min room e.2 + 1)).map fun m => (e.1 ++ [m], e.2 - m)
def rosStep (room : Nat) (F : PF) : PF := F.flatMap (rosE room)
def rosF (total : Nat) (rooms : List Nat) : PF := rooms.foldl (fun F r => rosStep r F) [([], total)]
def ros (total : Nat) (rooms : List Nat) : List (List Nat) := ((rosF total rooms).filter fun e => decide (e.2 = 0)).map (·.1)
/-- every element has at most T left and a head of at most k parts -/
def Lim (T k : Nat) (F : PF) : Prop := ∀ e ∈ F, e.2 ≤ T ∧ e.1.length = k
theorem rosE_len (room : Nat) (e : List Nat × Nat) : (rosE room e).length = min room e.2 + 1 := by unfold rosE; rw [List.length_map, List.length_range']
theorem lim_step {T k room : Nat} {F : PF} (h : Lim T k F) : Lim T (k + 1) (rosStep room F) := by
  intro e he
  obtain ⟨d, hd, he⟩ := List.mem_flatMap.mp he
  obtain ⟨m, hm, rfl⟩ := List.mem_map.mp he
  obtain ⟨h1, h2⟩ := h d hd
  exact ⟨by show d.2 - m ≤ T; omega, by simp [h2]⟩
theorem len_step {T k room : Nat} : ∀ {F : PF}, Lim T k F → (rosStep room F).length ≤ F.length * (T + 1)
  | [], _ => by simp [rosStep]
  | e :: F, h => by
    have h1 := (h e (by simp)).1
    have ih := len_step (room := room) (F := F) fun d hd => h d (by simp [hd])
    have e1 : rosStep room (e :: F) = rosE room e ++ rosStep room F := by simp [rosStep]
    rw [e1, List.length_append, rosE_len, List.length_cons, Nat.succ_mul]
    omega
theorem aStar_ok {a : FE} {r : FA} {env : J.Env} {S S1 S2 : Sto} {w : List Nat} {ys : List PV} (h : a env S = .ok (tI w, S1)) (k : r env S1 = .ok (ys, S2)) : aStar a r env S = .ok (natsP w ++ ys, S2) := by
  unfold aStar
  rw [h]
  simp only [Res.bind, tI, k]
theorem inner_lc (h : List Nat) (hh : h.length ≤ 6) (l : Nat) (a0 a1 a2 a3 : Slot) (S : Sto) : ∀ ms : List Nat, (∀ m ∈ ms, m ≤ l) →
    lcL (gN 4) tT (eB pTup (aCons (eB pTup (aStar (eV 5) (aCons (eV 4) aNil))) (aCons (eOp pSub (eV 6) (eV 4)) aNil))) (ms.map fun (m : Nat) => PV.int (m : Int)) [a0, a1, a2, a3, .un, .val (tI h), .val (.int (l : Int))] S = .ok (prP (ms.map fun m => (h ++ [m], l - m)), S)
  | [], _ => rfl
  | m :: r, hm => by
    have h1 := hm m (by simp)
    simp only [List.map_cons]
    have st : (aStar (eV 5) (aCons (eV 4) aNil)) [a0, a1, a2, a3, .val (.int (m : Int)), .val (tI h), .val (.int (l : Int))] S = .ok (natsP (h ++ [m]), S) := by
      rw [natsP_append]
      exact aStar_ok (w := h) (ys := [.int (m : Int)]) rfl rfl
    have t1 : eB pTup (aStar (eV 5) (aCons (eV 4) aNil)) [a0, a1, a2, a3, .val (.int (m : Int)), .val (tI h), .val (.int (l : Int))] S = .ok (tI (h ++ [m]), S) :=
      eB_ok st (if_pos (by rw [natsP_len, List.length_append]; simp; omega))
    have t2 : eOp pSub (eV 6) (eV 4) [a0, a1, a2, a3, .val (.int (m : Int)), .val (tI h), .val (.int (l : Int))] S = .ok (.int ((l - m : Nat) : Int), S) := by
      refine eOp_ok (x := .int (l : Int)) (y := .int (m : Int)) rfl rfl ?_
      have hz : (l : Int) - (m : Int) = ((l - m : Nat) : Int) := by omega
      exact congrArg (fun z => some (PV.int z)) hz
    exact lcL_yes (en := [a0, a1, a2, a3, .val (.int (m : Int)), .val (tI h), .val (.int (l : Int))]) rfl rfl (eB_ok (aCons_ok t1 (aCons_ok t2 rfl)) rfl) (inner_lc h hh l a0 a1 a2 a3 S r fun q hq => hm q (by simp [hq]))
theorem min2_ok {a b : FE} {env : J.Env} {S : Sto} {x y : Nat} (h1 : a env S = .ok (.int (x : Int), S)) (h2 : b env S = .ok (.int (y : Int), S)) : eB pMin2 (aCons a (aCons b aNil)) env S = .ok (.int ((min x y : Nat) : Int), S) := by
  refine eB_ok (aCons_ok h1 (aCons_ok h2 rfl)) ?_
  have hz : (if (y : Int) < (x : Int) then (y : Int) else (x : Int)) = ((min x y : Nat) : Int) := by split <;> omega
  exact congrArg (fun z => some (PV.int z)) hz
theorem rng1_ok {a : FE} {env : J.Env} {S : Sto} {n : Nat} (h : a env S = .ok (.int (n : Int), S)) (hn : n ≤ 100) : iR1 (aCons (eOp pAdd a (eC (.int 1))) aNil) env S = .ok ((List.range' 0 (n + 1)).map fun (m : Nat) => PV.int (m : Int), S) := by
  have r := iR1_eq (f := aCons (eOp pAdd a (eC (.int 1))) aNil) (env := env) (S := S) (S1 := S) (j := (n : Int) + 1) (aCons_ok (eOp_ok h (y := .int 1) rfl rfl) rfl) (bdI_of (by omega) (by omega))
  have e : ((n : Int) + 1).toNat = n + 1 := by omega
  rw [e, rangeP_nat] at r
  exact r
theorem outer_lc (room : Nat) (a0 a1 a2 : Slot) (S : Sto) (k T : Nat) (hk : k ≤ 6) (hT : T ≤ 100) : ∀ F : PF, Lim T k F →
    lc2L (gT 2 (gNc (gN 5) (gNc (gN 6) gNn))) tT (iR1 (aCons (eOp pAdd (eB pMin2 (aCons (eV 3) (aCons (eV 6) aNil))) (eC (.int 1))) aNil)) [4] (gN 4) tT (eB pTup (aCons (eB pTup (aStar (eV 5) (aCons (eV 4) aNil))) (aCons (eOp pSub (eV 6) (eV 4)) aNil))) (prP F) [a0, a1, a2, .val (.int (room : Int)), .un, .un, .un] S = .ok (prP (rosStep room F), S)
  | [], _ => rfl
  | e :: F, h => by
    obtain ⟨h1, h2⟩ := h e (by simp)
    have e1 : rosStep room (e :: F) = rosE room e ++ rosStep room F := by simp [rosStep]
    have e2 : prP (rosStep room (e :: F)) = prP (rosE room e) ++ prP (rosStep room F) := by rw [e1]; exact List.map_append
    rw [e2]
    refine lc2L_yes (en := [a0, a1, a2, .val (.int (room : Int)), .un, .val (tI e.1), .val (.int (e.2 : Int))]) rfl rfl (rng1_ok (n := min room e.2) (min2_ok rfl rfl) (by omega)) (inner_lc e.1 (by omega) e.2 a0 a1 a2 _ S _ fun m hm => ?_) (outer_lc room a0 a1 a2 S k T hk hT F fun d hd => h d (by simp [hd]))
    have := List.mem_range'_1.mp hm
    omega
def RBody : FS := (sSeq (sOwn 2 (eLc2 [5, 6, 4] [4] (iSeq (eV 2)) (gT 2 (gNc (gN 5) (gNc (gN 6) gNn))) tT (iR1 (aCons (eOp pAdd (eB pMin2 (aCons (eV 3) (aCons (eV 6) aNil))) (eC (.int 1))) aNil)) (gN 4) tT (eB pTup (aCons (eB pTup (aStar (eV 5) (aCons (eV 4) aNil))) (aCons (eOp pSub (eV 6) (eV 4)) aNil))))) (sFrz 2 sNext))
theorem ros_is : F_rows_of_sum = sSeq (sSet 2 (eB pLst (aCons (eB pTup (aCons (eB pTup aNil) (aCons (eV 0) aNil))) aNil))) (sSeq (sFor (iSeq (eV 1)) (gN 3) RBody) (sRet (eLc [5, 6] (iSeq (eV 2)) (gT 2 (gNc (gN 5) (gNc (gN 6) gNn))) (tV (eOp pEq (eV 6) (eC (.int 0)))) (eV 5)))) := rfl
theorem rbody_ok (room : Nat) (F : PF) (k T : Nat) (hk : k ≤ 6) (hT : T ≤ 100) (hF : Lim T k F) (hl : F.length * (T + 1) ≤ 1000000) (a0 a1 : Slot) (S : Sto) :
    RBody [a0, a1, .val (.lst (prP F)), .val (.int (room : Int)), .un, .un, .un] S = .ok (.nx [a0, a1, .val (.lst (prP (rosStep room F))), .val (.int (room : Int)), .un, .un, .un] S) := by
  have h := lc2_eq (vs := [5, 6, 4]) (vs1 := [4]) (it := iSeq (eV 2)) (env := [a0, a1, .val (.lst (prP F)), .val (.int (room : Int)), .un, .un, .un]) (S := S) (S1 := S) (xs := prP F) rfl (outer_lc room a0 a1 (.val (.lst (prP F))) S k T hk hT F hF) (by show (List.map _ _).length ≤ _; rw [List.length_map]; exact Nat.le_trans (len_step hF) hl)
  exact (sSeq_nx (sOwn_ok h)).trans rfl
theorem rloop (a0 a1 : Slot) (T : Nat) (hT : T ≤ 12) (S : Sto) : ∀ (rooms : List Nat) (F : PF) (k : Nat) (a3 : Slot), Lim T k F → k + rooms.length ≤ 4 → F.length ≤ 13 ^ k →
    ∃ b3, forL (gN 3) RBody (natsP rooms) [a0, a1, .val (.lst (prP F)), a3, .un, .un, .un] S = .ok (.nx [a0, a1, .val (.lst (prP (rooms.foldl (fun F r => rosStep r F) F))), b3, .un, .un, .un] S) ∧ (rooms.foldl (fun F r => rosStep r F) F).length ≤ 13 ^ (k + rooms.length)
  | [], F, k, a3, _, _, hl => ⟨a3, rfl, hl⟩
  | r :: rooms, F, k, a3, hF, hk, hl => by
    rw [List.length_cons] at hk
    have hp : 13 ^ k ≤ 13 ^ 3 := Nat.pow_le_pow_right (by omega) (by omega)
    have hb : F.length * (T + 1) ≤ 13 ^ k * 13 := Nat.mul_le_mul hl (by omega)
    have h3 : (13 : Nat) ^ 3 = 2197 := by decide
    have hb2 : 13 ^ k * 13 ≤ 28561 := by omega
    have hs := Nat.le_trans (len_step (room := r) hF) hb
    obtain ⟨b3, h1, h2⟩ := rloop a0 a1 T hT S rooms (rosStep r F) (k + 1) (.val (.int (r : Int))) (lim_step hF) (by omega) (by rw [Nat.pow_succ]; exact hs)
    refine ⟨b3, ?_, by rw [List.length_cons, List.foldl_cons, show k + (rooms.length + 1) = k + 1 + rooms.length by omega]; exact h2⟩
    rw [natsP_cons]
    exact (forL_nx rfl (rbody_ok r F k T (by omega) (by omega) hF (by omega) a0 a1 S)).trans h1
theorem heads_lc (a0 a1 a2 a3 a4 : Slot) (S : Sto) : ∀ F : PF, lcL (gT 2 (gNc (gN 5) (gNc (gN 6) gNn))) (tV (eOp pEq (eV 6) (eC (.int 0)))) (eV 5) (prP F) [a0, a1, a2, a3, a4, .un, .un] S = .ok (((F.filter fun e => decide (e.2 = 0)).map (·.1)).map tI, S)
  | [] => rfl
  | e :: F => by
    have ih := heads_lc a0 a1 a2 a3 a4 S F
    have c : tV (eOp pEq (eV 6) (eC (.int 0))) [a0, a1, a2, a3, a4, .val (tI e.1), .val (.int (e.2 : Int))] S = .ok (decide (e.2 = 0), S) := by
      refine tV_ok (eOp_ok (x := .int (e.2 : Int)) (y := .int 0) rfl rfl ?_)
      unfold pEq
      rw [dOK_int, dOK_int]
      simp [eqP]
      by_cases h : e.2 = 0 <;> simp [h]
    show lcL _ _ _ (.tup [tI e.1, .int ((e.2 : Nat) : Int)] :: prP F) _ S = _
    rw [List.filter_cons]
    by_cases h : e.2 = 0
    · rw [decide_eq_true h] at c
      rw [if_pos (decide_eq_true h), List.map_cons, List.map_cons]
      exact lcL_yes (en := [a0, a1, a2, a3, a4, .val (tI e.1), .val (.int (e.2 : Int))]) rfl c rfl ih
    · rw [decide_eq_false h] at c
      rw [if_neg (by simpa using h)]
      exact lcL_no (en := [a0, a1, a2, a3, a4, .val (tI e.1), .val (.int (e.2 : Int))]) rfl c ih
theorem ros_ok (total : Nat) (rooms : List Nat) (hT : total ≤ 12) (hr : rooms.length ≤ 4) (S : Sto) : f_rows_of_sum [.int (total : Int), .lst (natsP rooms)] S = .ok (.lst ((ros total rooms).map tI), S) := by
  have hL : Lim total 0 [([], total)] := fun e he => by
    have : e = ([], total) := by simpa using he
    subst this
    exact ⟨Nat.le_refl _, rfl⟩
  obtain ⟨b3, h1, h2⟩ := rloop (.val (.int (total : Int))) (.val (.lst (natsP rooms))) total hT S rooms [([], total)] 0 .un hL (by omega) (by simp)
  have hb : (rosF total rooms).length ≤ 28561 := by
    have hp : (13 : Nat) ^ (0 + rooms.length) ≤ 13 ^ 4 := Nat.pow_le_pow_right (by omega) (by omega)
    have : (13 : Nat) ^ 4 = 28561 := by decide
    have h3 : (rosF total rooms).length ≤ 13 ^ (0 + rooms.length) := h2
    omega
  refine runF_rt ?_
  rw [ros_is]
  have e0 : env0 7 [.int (total : Int), .lst (natsP rooms)] = [.val (.int (total : Int)), .val (.lst (natsP rooms)), .un, .un, .un, .un, .un] := rfl
  rw [e0]
  have s1 : sSet 2 (eB pLst (aCons (eB pTup (aCons (eB pTup aNil) (aCons (eV 0) aNil))) aNil)) [.val (.int (total : Int)), .val (.lst (natsP rooms)), .un, .un, .un, .un, .un] S = .ok (.nx [.val (.int (total : Int)), .val (.lst (natsP rooms)), .val (.lst (prP [([], total)])), .un, .un, .un, .un] S) := rfl
  exact (sSeq_nx s1).trans ((sSeq_nx (sFor_ok (xs := natsP rooms) (S1 := S) rfl h1)).trans (sRet_ok (lc_eq (xs := prP (rosF total rooms)) (S1 := S) rfl (by show (List.map _ _).length ≤ _; rw [List.length_map]; omega) (heads_lc _ _ _ _ _ S (rosF total rooms)))))
end K56
set_option Elab.async false
set_option linter.all false
set_option maxRecDepth 100000
set_option maxHeartbeats 1000001
namespace K56
open PySem PySem.Spec PyProof.Rows L2 J
def subL (a b : List Nat) : List Nat := (a.zip b).map fun p => p.1 - p.2
theorem zip_nats : ∀ a b : List Nat, zipP (natsP a) (natsP b) = (a.zip b).map fun p => .tup [.int ((p.1 : Nat) : Int), .int ((p.2 : Nat) : Int)]
  | [], b => by simp [natsP, zipP]
  | a :: r, [] => by simp [natsP, zipP]
  | a :: r, b :: s => by rw [natsP_cons, natsP_cons, zipP, zip_nats r s]; rfl
theorem sub_lc (a0 a1 a2 a3 a4 a5 a6 a7 a8 a9 : Slot) (S : Sto) : ∀ l : List (Nat × Nat), (∀ p ∈ l, p.2 ≤ p.1) →
    lcL (gT 2 (gNc (gN 10) (gNc (gN 11) gNn))) tT (eOp pSub (eV 10) (eV 11)) (l.map fun p => .tup [.int ((p.1 : Nat) : Int), .int ((p.2 : Nat) : Int)]) [a0, a1, a2, a3, a4, a5, a6, a7, a8, a9, .un, .un] S = .ok (natsP (l.map fun p => p.1 - p.2), S)
  | [], _ => rfl
  | p :: l, h => by
    rw [List.map_cons, List.map_cons, natsP_cons]
    refine lcL_yes (en := [a0, a1, a2, a3, a4, a5, a6, a7, a8, a9, .val (.int (p.1 : Int)), .val (.int (p.2 : Int))]) rfl rfl (eOp_ok (x := .int (p.1 : Int)) (y := .int (p.2 : Int)) rfl rfl ?_) (sub_lc a0 a1 a2 a3 a4 a5 a6 a7 a8 a9 S l fun q hq => h q (by simp [hq]))
    have h1 := h p (by simp)
    have hz : (p.1 : Int) - (p.2 : Int) = ((p.1 - p.2 : Nat) : Int) := by omega
    exact congrArg (fun z => some (PV.int z)) hz
/-! one row taken -/
def tk (left : List Nat) (ways : Nat) (D : ND) (t : List Nat) : ND := dput D (subL left t) ((dget D (subL left t)).getD 0 + ways)
def IB : FS := (sSeq (sSet 9 (eUn pTupC (eLc [10, 11] (iZp (aCons (eV 6) (aCons (eV 8) aNil))) (gT 2 (gNc (gN 10) (gNc (gN 11) gNn))) tT (eOp pSub (eV 10) (eV 11))))) (sAsgG (eOp pAdd (eGet (eO 5) (eV 9) (eC (.int 0))) (eV 7)) (gOwn 5 (eV 9))))
theorem ib_ok (left t : List Nat) (ways : Nat) (D : ND) (hl : left.length ≤ 100) (ht : ∀ p ∈ left.zip t, p.2 ≤ p.1) (hD : D.length < 1000000) (a0 a1 a2 a3 a4 a9 : Slot) (S : Sto) :
    IB [a0, a1, a2, a3, a4, .own (dI D), .val (tI left), .val (.int (ways : Int)), .val (tI t), a9, .un, .un] S = .ok (.nx [a0, a1, a2, a3, a4, .own (dI (tk left ways D t)), .val (tI left), .val (.int (ways : Int)), .val (tI t), .val (tI (subL left t)), .un, .un] S) := by
  have iz : iZp (aCons (eV 6) (aCons (eV 8) aNil)) [a0, a1, a2, a3, a4, .own (dI D), .val (tI left), .val (.int (ways : Int)), .val (tI t), a9, .un, .un] S = .ok ((left.zip t).map fun p => .tup [.int ((p.1 : Nat) : Int), .int ((p.2 : Nat) : Int)], S) := by
    rw [← zip_nats]
    rfl
  have s1 : sSet 9 (eUn pTupC (eLc [10, 11] (iZp (aCons (eV 6) (aCons (eV 8) aNil))) (gT 2 (gNc (gN 10) (gNc (gN 11) gNn))) tT (eOp pSub (eV 10) (eV 11)))) [a0, a1, a2, a3, a4, .own (dI D), .val (tI left), .val (.int (ways : Int)), .val (tI t), a9, .un, .un] S = .ok (.nx [a0, a1, a2, a3, a4, .own (dI D), .val (tI left), .val (.int (ways : Int)), .val (tI t), .val (tI (subL left t)), .un, .un] S) :=
    sSet_ok (un_eq (lc_eq (S1 := S) iz (by rw [List.length_map, List.length_zip]; omega) (sub_lc _ _ _ _ _ _ _ _ _ _ S _ ht)) rfl)
  have s2 : eOp pAdd (eGet (eO 5) (eV 9) (eC (.int 0))) (eV 7) [a0, a1, a2, a3, a4, .own (dI D), .val (tI left), .val (.int (ways : Int)), .val (tI t), .val (tI (subL left t)), .un, .un] S = .ok (.int (((dget D (subL left t)).getD 0 + ways : Nat) : Int), S) :=
    eOp_ok (eGet_ok (D := D) (k := subL left t) (d := 0) rfl rfl rfl) (y := .int (ways : Int)) rfl (congrArg (fun z => some (PV.int z)) (Int.natCast_add _ _).symm)
  exact (sSeq_nx s1).trans (sAsgG_ok s2 (gOwn_ok (D := D) (k := subL left t) rfl rfl hD))
theorem tk_len (left : List Nat) (ways : Nat) (D : ND) (t : List Nat) : (tk left ways D t).length ≤ D.length + 1 := dput_len _ _ _
theorem tloop (left : List Nat) (ways : Nat) (hl : left.length ≤ 100) (a0 a1 a2 a3 a4 : Slot) (S : Sto) : ∀ (ts : List (List Nat)) (D : ND) (a8 a9 : Slot), (∀ t ∈ ts, ∀ p ∈ left.zip t, p.2 ≤ p.1) → D.length + ts.length < 1000000 →
    ∃ b8 b9, forL (gN 8) IB (ts.map tI) [a0, a1, a2, a3, a4, .own (dI D), .val (tI left), .val (.int (ways : Int)), a8, a9, .un, .un] S = .ok (.nx [a0, a1, a2, a3, a4, .own (dI (ts.foldl (tk left ways) D)), .val (tI left), .val (.int (ways : Int)), b8, b9, .un, .un] S)
  | [], D, a8, a9, _, _ => ⟨a8, a9, rfl⟩
  | t :: ts, D, a8, a9, h, hD => by
    rw [List.length_cons] at hD
    have hk := tk_len left ways D t
    obtain ⟨b8, b9, ih⟩ := tloop left ways hl a0 a1 a2 a3 a4 S ts (tk left ways D t) (.val (tI t)) (.val (tI (subL left t))) (fun u hu => h u (by simp [hu])) (by omega)
    rw [List.map_cons]
    exact ⟨b8, b9, (forL_nx rfl (ib_ok left t ways D hl (h t (by simp)) (by omega) a0 a1 a2 a3 a4 a9 S)).trans ih⟩
/-! what rows_of_sum tells fits -/
theorem zip_append_le : ∀ (r h : List Nat) (a m : Nat), h.length = r.length → (∀ p ∈ r.zip h, p.2 ≤ p.1) → m ≤ a → ∀ p ∈ (r ++ [a]).zip (h ++ [m]), p.2 ≤ p.1 := by
  intro r h a m hl hz hm p hp
  rw [List.zip_append hl.symm] at hp
  obtain z | z := List.mem_append.mp hp
  · exact hz p z
  · have : p = (a, m) := by simpa using z
    subst this
    exact hm
theorem rosF_le : ∀ (rooms done : List Nat) (F : PF), (∀ e ∈ F, e.1.length = done.length ∧ ∀ p ∈ done.zip e.1, p.2 ≤ p.1) → ∀ e ∈ rooms.foldl (fun F r => rosStep r F) F, e.1.length = (done ++ rooms).length ∧ ∀ p ∈ (done ++ rooms).zip e.1, p.2 ≤ p.1
  | [], done, F, h, e, he => by rw [List.append_nil]; exact h e he
  | r :: rooms, done, F, h, e, he => by
    have ih := rosF_le rooms (done ++ [r]) (rosStep r F) (fun d hd => by
      obtain ⟨c, hc, hd⟩ := List.mem_flatMap.mp hd
      obtain ⟨m, hm, rfl⟩ := List.mem_map.mp hd
      obtain ⟨k1, k2⟩ := h c hc
      have := List.mem_range'_1.mp hm
      exact ⟨by simp [k1], zip_append_le done c.1 r m k1 k2 (by omega)⟩) e he
    rw [List.append_assoc] at ih
    exact ih
theorem ros_le (total : Nat) (rooms : List Nat) : ∀ t ∈ ros total rooms, ∀ p ∈ rooms.zip t, p.2 ≤ p.1 := by
  intro t ht
  obtain ⟨e, he, rfl⟩ := List.mem_map.mp ht
  have := rosF_le rooms [] [([], total)] (fun d hd => by
    have : d = ([], total) := by simpa using hd
    subst this
    exact ⟨rfl, fun p hp => by simp at hp⟩) e (List.mem_filter.mp he).1
  exact this.2
theorem zip_mono (f : Nat → Nat) (hf : ∀ x, f x ≤ x) : ∀ (l t : List Nat), (∀ p ∈ (l.map f).zip t, p.2 ≤ p.1) → ∀ p ∈ l.zip t, p.2 ≤ p.1
  | [], t, _, p, hp => by simp at hp
  | a :: l, [], _, p, hp => by simp at hp
  | a :: l, b :: t, h, p, hp => by
    rw [List.zip_cons_cons] at hp
    rcases List.mem_cons.mp hp with rfl | z
    · have := h (f a, b) (by simp)
      have := hf a
      show b ≤ a
      simp at *
      omega
    · exact zip_mono f hf l t (fun q hq => h q (by simp [hq])) p z
/-! all the pairs of a dict -/
def acE (most total : Nat) (D : ND) (e : List Nat × Nat) : ND := (ros total (e.1.map (min most))).foldl (tk e.1 e.2) D
def acS (most total : Nat) (now : ND) : ND := now.foldl (acE most total) []
def puts (most total : Nat) (now : ND) : Nat := (now.map fun e => (ros total (e.1.map (min most))).length).sum
def MB : FS := (sFor (iSeq (eCall f_rows_of_sum (aCons (eV 4) (aCons (eLc [10] (iSeq (eV 6)) (gN 10) tT (eB pMin2 (aCons (eV 2) (aCons (eV 10) aNil)))) aNil)))) (gN 8) IB)
theorem iSeq_lst {f : FE} {env : J.Env} {S S1 : Sto} {xs : List PV} (h : f env S = .ok (.lst xs, S1)) : iSeq f env S = .ok (xs, S1) := by
  unfold iSeq
  rw [h]
  rfl
theorem min_lc (most : Nat) (a0 a1 a3 a4 a5 a6 a7 a8 a9 a11 : Slot) (S : Sto) : ∀ l : List Nat, lcL (gN 10) tT (eB pMin2 (aCons (eV 2) (aCons (eV 10) aNil))) (natsP l) [a0, a1, .val (.int (most : Int)), a3, a4, a5, a6, a7, a8, a9, .un, a11] S = .ok (natsP (l.map (min most)), S)
  | [] => rfl
  | p :: r => by
    rw [natsP_cons, List.map_cons, natsP_cons]
    exact lcL_yes (en := [a0, a1, .val (.int (most : Int)), a3, a4, a5, a6, a7, a8, a9, .val (.int (p : Int)), a11]) rfl rfl (min2_ok rfl rfl) (min_lc most a0 a1 a3 a4 a5 a6 a7 a8 a9 a11 S r)
theorem foldl_tk_len (left : List Nat) (ways : Nat) : ∀ (ts : List (List Nat)) (D : ND), (ts.foldl (tk left ways) D).length ≤ D.length + ts.length
  | [], D => Nat.le_refl _
  | t :: ts, D => by
    have h1 := tk_len left ways D t
    have h2 := foldl_tk_len left ways ts (tk left ways D t)
    simp only [List.length_cons, List.foldl_cons]
    omega
theorem mb_ok (most total : Nat) (hT : total ≤ 12) (e : List Nat × Nat) (he : e.1.length ≤ 4) (D : ND) (hD : D.length + (ros total (e.1.map (min most))).length < 1000000) (a0 a1 a3 a8 a9 : Slot) (S : Sto) :
    ∃ b8 b9, MB [a0, a1, .val (.int (most : Int)), a3, .val (.int (total : Int)), .own (dI D), .val (tI e.1), .val (.int (e.2 : Int)), a8, a9, .un, .un] S = .ok (.nx [a0, a1, .val (.int (most : Int)), a3, .val (.int (total : Int)), .own (dI (acE most total D e)), .val (tI e.1), .val (.int (e.2 : Int)), b8, b9, .un, .un] S) := by
  have rm : eLc [10] (iSeq (eV 6)) (gN 10) tT (eB pMin2 (aCons (eV 2) (aCons (eV 10) aNil))) [a0, a1, .val (.int (most : Int)), a3, .val (.int (total : Int)), .own (dI D), .val (tI e.1), .val (.int (e.2 : Int)), a8, a9, .un, .un] S = .ok (.lst (natsP (e.1.map (min most))), S) :=
    lc_eq (xs := natsP e.1) (S1 := S) rfl (by rw [natsP_len]; omega) (min_lc most _ _ _ _ _ _ _ _ _ _ S e.1)
  have c : eCall f_rows_of_sum (aCons (eV 4) (aCons (eLc [10] (iSeq (eV 6)) (gN 10) tT (eB pMin2 (aCons (eV 2) (aCons (eV 10) aNil)))) aNil)) [a0, a1, .val (.int (most : Int)), a3, .val (.int (total : Int)), .own (dI D), .val (tI e.1), .val (.int (e.2 : Int)), a8, a9, .un, .un] S = .ok (.lst ((ros total (e.1.map (min most))).map tI), S) :=
    eCall_ok (xs := [.int (total : Int), .lst (natsP (e.1.map (min most)))]) (S1 := S) (aCons_ok rfl (aCons_ok rm rfl)) (ros_ok total (e.1.map (min most)) hT (by rw [List.length_map]; exact he) S)
  have it : iSeq (eCall f_rows_of_sum (aCons (eV 4) (aCons (eLc [10] (iSeq (eV 6)) (gN 10) tT (eB pMin2 (aCons (eV 2) (aCons (eV 10) aNil)))) aNil))) [a0, a1, .val (.int (most : Int)), a3, .val (.int (total : Int)), .own (dI D), .val (tI e.1), .val (.int (e.2 : Int)), a8, a9, .un, .un] S = .ok ((ros total (e.1.map (min most))).map tI, S) := by
    exact iSeq_lst c
  obtain ⟨b8, b9, h⟩ := tloop e.1 e.2 (by omega) a0 a1 (.val (.int (most : Int))) a3 (.val (.int (total : Int))) S (ros total (e.1.map (min most))) D a8 a9 (fun t ht => zip_mono (min most) (fun x => Nat.min_le_right _ _) e.1 t (ros_le total _ t ht)) hD
  exact ⟨b8, b9, sFor_ok it h⟩
theorem mloop (most total : Nat) (hT : total ≤ 12) (a0 a1 a3 : Slot) (S : Sto) : ∀ (now D : ND) (a6 a7 a8 a9 : Slot), (∀ e ∈ now, e.1.length ≤ 4) → D.length + puts most total now < 1000000 →
    ∃ b6 b7 b8 b9, forL (gT 2 (gNc (gN 6) (gNc (gN 7) gNn))) MB (prP now) [a0, a1, .val (.int (most : Int)), a3, .val (.int (total : Int)), .own (dI D), a6, a7, a8, a9, .un, .un] S = .ok (.nx [a0, a1, .val (.int (most : Int)), a3, .val (.int (total : Int)), .own (dI (now.foldl (acE most total) D)), b6, b7, b8, b9, .un, .un] S)
  | [], D, a6, a7, a8, a9, _, _ => ⟨a6, a7, a8, a9, rfl⟩
  | e :: now, D, a6, a7, a8, a9, h, hD => by
    have hp : puts most total (e :: now) = (ros total (e.1.map (min most))).length + puts most total now := by simp [puts]
    rw [hp] at hD
    obtain ⟨c8, c9, h1⟩ := mb_ok most total hT e (h e (by simp)) D (by omega) a0 a1 a3 a8 a9 S
    have hl : (acE most total D e).length ≤ D.length + (ros total (e.1.map (min most))).length := foldl_tk_len _ _ _ _
    obtain ⟨b6, b7, b8, b9, ih⟩ := mloop most total hT a0 a1 a3 S now (acE most total D e) (.val (tI e.1)) (.val (.int (e.2 : Int))) c8 c9 (fun d hd => h d (by simp [hd])) (by omega)
    exact ⟨b6, b7, b8, b9, (forL_nx rfl h1).trans ih⟩
/-! all rows -/
def TB : FS := (sSeq (sOwn 5 (eC (.dic true [] []))) (sSeq (sFor (iItm (eV 3)) (gT 2 (gNc (gN 6) (gNc (gN 7) gNn))) MB) (sFrz 5 (sSet 3 (eV 5)))))
theorem ac_is : F_arrays_counted = sSeq (sSet 3 (eDis true (fpCons (eV 1) (eC (.int 1)) fpNil))) (sSeq (sFor (iSeq (eV 0)) (gN 4) TB) (sRet (eGet (eV 3) (eOp pMulB (eB pTup (aCons (eC (.int 0)) aNil)) (eUn pLen (eV 1))) (eC (.int 0))))) := rfl
def acOk (most : Nat) : List Nat → ND → Bool
  | [], _ => true
  | t :: rows, now => decide (t ≤ 12) && (now.all (fun e => decide (e.1.length ≤ 4)) && (decide (puts most t now < 1000000) && acOk most rows (acS most t now)))
def acF (most : Nat) (rows : List Nat) (now : ND) : ND := rows.foldl (fun now t => acS most t now) now
theorem tb_ok (most total : Nat) (hT : total ≤ 12) (now : ND) (hn : ∀ e ∈ now, e.1.length ≤ 4) (hp : puts most total now < 1000000) (a0 a1 a5 a6 a7 a8 a9 : Slot) (S : Sto) :
    ∃ b5 b6 b7 b8 b9, TB [a0, a1, .val (.int (most : Int)), .val (dI now), .val (.int (total : Int)), a5, a6, a7, a8, a9, .un, .un] S = .ok (.nx [a0, a1, .val (.int (most : Int)), .val (dI (acS most total now)), .val (.int (total : Int)), b5, b6, b7, b8, b9, .un, .un] S) := by
  obtain ⟨b6, b7, b8, b9, h⟩ := mloop most total hT a0 a1 (.val (dI now)) S now [] a6 a7 a8 a9 hn (by simpa using hp)
  refine ⟨.val (dI (acS most total now)), b6, b7, b8, b9, ?_⟩
  have s1 : sOwn 5 (eC (.dic true [] [])) [a0, a1, .val (.int (most : Int)), .val (dI now), .val (.int (total : Int)), a5, a6, a7, a8, a9, .un, .un] S = .ok (.nx [a0, a1, .val (.int (most : Int)), .val (dI now), .val (.int (total : Int)), .own (dI []), a6, a7, a8, a9, .un, .un] S) := rfl
  have i : iItm (eV 3) [a0, a1, .val (.int (most : Int)), .val (dI now), .val (.int (total : Int)), .own (dI []), a6, a7, a8, a9, .un, .un] S = .ok (prP now, S) := iItm_ok (D := now) rfl
  exact (sSeq_nx s1).trans ((sSeq_nx (sFor_ok i h)).trans rfl)
theorem toploop (most : Nat) (a0 a1 : Slot) (S : Sto) : ∀ (rows : List Nat) (now : ND) (a4 a5 a6 a7 a8 a9 : Slot), acOk most rows now = true →
    ∃ b4 b5 b6 b7 b8 b9, forL (gN 4) TB (natsP rows) [a0, a1, .val (.int (most : Int)), .val (dI now), a4, a5, a6, a7, a8, a9, .un, .un] S = .ok (.nx [a0, a1, .val (.int (most : Int)), .val (dI (acF most rows now)), b4, b5, b6, b7, b8, b9, .un, .un] S)
  | [], now, a4, a5, a6, a7, a8, a9, _ => ⟨a4, a5, a6, a7, a8, a9, rfl⟩
  | t :: rows, now, a4, a5, a6, a7, a8, a9, h => by
    simp only [acOk, Bool.and_eq_true, decide_eq_true_eq, List.all_eq_true] at h
    obtain ⟨h1, h2, h3, h4⟩ := h
    obtain ⟨c5, c6, c7, c8, c9, k⟩ := tb_ok most t h1 now h2 h3 a0 a1 a5 a6 a7 a8 a9 S
    obtain ⟨b4, b5, b6, b7, b8, b9, ih⟩ := toploop most a0 a1 S rows (acS most t now) (.val (.int (t : Int))) c5 c6 c7 c8 c9 h4
    rw [natsP_cons]
    exact ⟨b4, b5, b6, b7, b8, b9, (forL_nx rfl k).trans ih⟩
def ac (rows cols : List Nat) (most : Nat) : Nat := (dget (acF most rows [(cols, 1)]) (List.replicate cols.length 0)).getD 0
theorem zeros_ok (n : Nat) (h : n ≤ 5) : pMulB (.tup [.int 0]) (.int (n : Int)) = some (tI (List.replicate n 0)) := by
  have hc : n = 0 ∨ n = 1 ∨ n = 2 ∨ n = 3 ∨ n = 4 ∨ n = 5 := by omega
  rcases hc with rfl | rfl | rfl | rfl | rfl | rfl <;> rfl
theorem dis_ok (cols : List Nat) {a : FE} {env : J.Env} {S : Sto} (h : a env S = .ok (tI cols, S)) : eDis true (fpCons a (eC (.int 1)) fpNil) env S = .ok (dI [(cols, 1)], S) := by
  unfold eDis fpCons
  rw [h]
  simp only [eC, fpNil, Res.bind, List.length_cons, List.length_nil]
  rw [if_pos (by decide)]
  simp only [dAll, keyFit_tI, if_true]
  rfl
theorem ac_ok (rows cols : List Nat) (most : Nat) (hc : cols.length ≤ 4) (h : acOk most rows [(cols, 1)] = true) (S : Sto) : f_arrays_counted [tI rows, tI cols, .int (most : Int)] S = .ok (.int ((ac rows cols most : Nat) : Int), S) := by
  obtain ⟨b4, b5, b6, b7, b8, b9, k⟩ := toploop most (.val (tI rows)) (.val (tI cols)) S rows [(cols, 1)] .un .un .un .un .un .un h
  refine runF_rt ?_
  rw [ac_is]
  have e0 : env0 12 [tI rows, tI cols, .int (most : Int)] = [.val (tI rows), .val (tI cols), .val (.int (most : Int)), .un, .un, .un, .un, .un, .un, .un, .un, .un] := rfl
  rw [e0]
  refine (sSeq_nx (sSet_ok (dis_ok cols rfl))).trans ((sSeq_nx (sFor_ok (xs := natsP rows) (S1 := S) rfl k)).trans (sRet_ok (eGet_ok (D := acF most rows [(cols, 1)]) (k := List.replicate cols.length 0) (d := 0) rfl (eOp_ok (x := .tup [.int 0]) rfl (un_eq (x := tI cols) rfl (pLen_tI cols)) (zeros_ok cols.length (by omega))) rfl)))
end K56
set_option Elab.async false
set_option linter.all false
set_option maxRecDepth 100000
set_option maxHeartbeats 1000001
/-! the law's own split and arrays -/
namespace K56
open PySem PySem.Spec PyProof.Rows L2 J
def spE (total top room : Nat) (h : List Nat) : List (List Nat) := (List.range' 0 (min (min room top) (total - h.sum) + 1)).map fun m => h ++ [m]
def spStep (total top room : Nat) (H : List (List Nat)) : List (List Nat) := H.flatMap (spE total top room)
def spF (total top : Nat) (rooms : List Nat) : List (List Nat) := rooms.foldl (fun H r => spStep total top r H) [[]]
def sp (total : Nat) (rooms : List Nat) (top : Nat) : List (List Nat) := (spF total top rooms).filter fun h => decide (h.sum = total)
def SLim (T k : Nat) (H : List (List Nat)) : Prop := ∀ h ∈ H, h.sum ≤ T ∧ h.length = k
theorem slim_step {T k top room : Nat} {H : List (List Nat)} (h : SLim T k H) : SLim T (k + 1) (spStep T top room H) := by
  intro e he
  obtain ⟨d, hd, he⟩ := List.mem_flatMap.mp he
  obtain ⟨m, hm, rfl⟩ := List.mem_map.mp he
  obtain ⟨h1, h2⟩ := h d hd
  have := List.mem_range'_1.mp hm
  refine ⟨?_, by simp [h2]⟩
  rw [List.sum_append, List.sum_singleton]
  omega
theorem slen_step {T k top room : Nat} : ∀ {H : List (List Nat)}, SLim T k H → (spStep T top room H).length ≤ H.length * (T + 1)
  | [], _ => by simp [spStep]
  | e :: H, h => by
    have h1 := (h e (by simp)).1
    have ih := slen_step (top := top) (room := room) (H := H) fun d hd => h d (by simp [hd])
    have e1 : spStep T top room (e :: H) = spE T top room e ++ spStep T top room H := by simp [spStep]
    have e2 : (spE T top room e).length = min (min room top) (T - e.sum) + 1 := by unfold spE; rw [List.length_map, List.length_range']
    rw [e1, List.length_append, e2, List.length_cons, Nat.succ_mul]
    omega
theorem sp_lc (h : List Nat) (hh : h.length ≤ 6) (a0 a1 a2 a3 a4 a5 : Slot) (S : Sto) : ∀ ms : List Nat,
    lcL (gN 7) tT (eOp pAdd (eV 6) (eB pTup (aCons (eV 7) aNil))) (ms.map fun (m : Nat) => PV.int (m : Int)) [a0, a1, a2, a3, a4, a5, .val (tI h), .un] S = .ok ((ms.map fun m => h ++ [m]).map tI, S)
  | [] => rfl
  | m :: r => by
    rw [List.map_cons, List.map_cons, List.map_cons]
    refine lcL_yes (en := [a0, a1, a2, a3, a4, a5, .val (tI h), .val (.int (m : Int))]) rfl rfl (eOp_ok (x := .tup (natsP h)) (y := .tup [.int (m : Int)]) rfl rfl ?_) (sp_lc h hh a0 a1 a2 a3 a4 a5 S r)
    rw [pAdd_tup (by rw [natsP_len]; simp; omega)]
    unfold tI
    rw [natsP_append]
    rfl
def SI : FS := (sSet 5 (eOp pAdd (eV 5) (eLc [7] (iR1 (aCons (eOp pAdd (eB pMin3 (aCons (eV 4) (aCons (eV 2) (aCons (eOp pSub (eV 0) (eUn pSum (eV 6))) aNil)))) (eC (.int 1))) aNil)) (gN 7) tT (eOp pAdd (eV 6) (eB pTup (aCons (eV 7) aNil))))))
theorem si_ok (total top room : Nat) (h : List Nat) (hs : h.sum ≤ total) (hh : h.length ≤ 6) (hT : total ≤ 100) (G : List (List Nat)) (hG : G.length ≤ 10000) (a1 a3 : Slot) (S : Sto) :
    SI [.val (.int (total : Int)), a1, .val (.int (top : Int)), a3, .val (.int (room : Int)), .val (.lst (G.map tI)), .val (tI h), .un] S = .ok (.nx [.val (.int (total : Int)), a1, .val (.int (top : Int)), a3, .val (.int (room : Int)), .val (.lst ((G ++ spE total top room h).map tI)), .val (tI h), .un] S) := by
  have m : (eB pMin3 (aCons (eV 4) (aCons (eV 2) (aCons (eOp pSub (eV 0) (eUn pSum (eV 6))) aNil)))) [.val (.int (total : Int)), a1, .val (.int (top : Int)), a3, .val (.int (room : Int)), .val (.lst (G.map tI)), .val (tI h), .un] S = .ok (.int ((min (min room top) (total - h.sum) : Nat) : Int), S) := by
    refine eB_ok (aCons_ok (x := .int (room : Int)) rfl (aCons_ok (x := .int (top : Int)) rfl (aCons_ok (eOp_ok (x := .int (total : Int)) rfl (un_eq (x := tI h) rfl (pSum_tI h)) rfl) rfl))) ?_
    have hz : (if (total : Int) - (h.sum : Int) < (if (top : Int) < (room : Int) then (top : Int) else (room : Int)) then (total : Int) - (h.sum : Int) else (if (top : Int) < (room : Int) then (top : Int) else (room : Int))) = ((min (min room top) (total - h.sum) : Nat) : Int) := by
      split <;> split <;> omega
    exact congrArg (fun z => some (PV.int z)) hz
  have l := lc_eq (vs := [7]) (env := [.val (.int (total : Int)), a1, .val (.int (top : Int)), a3, .val (.int (room : Int)), .val (.lst (G.map tI)), .val (tI h), .un]) (S1 := S) (rng1_ok m (by omega)) (by rw [List.length_map, List.length_range']; omega) (sp_lc h hh _ _ _ _ _ _ S _)
  have hl : (spE total top room h).length ≤ 101 := by unfold spE; rw [List.length_map, List.length_range']; omega
  refine sSet_ok (eOp_ok (x := .lst (G.map tI)) rfl l ?_)
  rw [pAdd_lst (by rw [List.length_map, List.length_map]; show _ + (spE total top room h).length ≤ _; omega), ← List.map_append]
  rfl
theorem sloop (total top room : Nat) (hT : total ≤ 100) (k : Nat) (hk : k ≤ 6) (a1 a3 : Slot) (S : Sto) : ∀ (H G : List (List Nat)) (a6 : Slot), SLim total k H → G.length + H.length * (total + 1) ≤ 10000 →
    ∃ b6, forL (gN 6) SI (H.map tI) [.val (.int (total : Int)), a1, .val (.int (top : Int)), a3, .val (.int (room : Int)), .val (.lst (G.map tI)), a6, .un] S = .ok (.nx [.val (.int (total : Int)), a1, .val (.int (top : Int)), a3, .val (.int (room : Int)), .val (.lst ((G ++ spStep total top room H).map tI)), b6, .un] S)
  | [], G, a6, _, _ => ⟨a6, by simp [spStep, forL]⟩
  | h :: H, G, a6, hH, hG => by
    obtain ⟨h1, h2⟩ := hH h (by simp)
    have e1 : spStep total top room (h :: H) = spE total top room h ++ spStep total top room H := by simp [spStep]
    have e2 : (spE total top room h).length = min (min room top) (total - h.sum) + 1 := by unfold spE; rw [List.length_map, List.length_range']
    rw [List.length_cons, Nat.succ_mul] at hG
    obtain ⟨b6, ih⟩ := sloop total top room hT k hk a1 a3 S H (G ++ spE total top room h) (.val (tI h)) (fun d hd => hH d (by simp [hd])) (by rw [List.length_append]; omega)
    rw [List.append_assoc, ← e1] at ih
    rw [List.map_cons]
    exact ⟨b6, (forL_nx rfl (si_ok total top room h h1 (by omega) hT G (by omega) a1 a3 S)).trans ih⟩
def SB : FS := (sSeq (sSet 5 (eB pLst aNil)) (sSeq (sFor (iSeq (eV 3)) (gN 6) SI) (sSet 3 (eV 5))))
theorem split_is : F_l_split = sSeq (sSet 3 (eB pLst (aCons (eB pTup aNil) aNil))) (sSeq (sFor (iSeq (eV 1)) (gN 4) SB) (sRet (eLc [6] (iSeq (eV 3)) (gN 6) (tV (eOp pEq (eUn pSum (eV 6)) (eV 0))) (eV 6)))) := rfl
theorem sb_ok (total top room : Nat) (hT : total ≤ 100) (k : Nat) (hk : k ≤ 6) (H : List (List Nat)) (hH : SLim total k H) (hl : H.length * (total + 1) ≤ 10000) (a1 a5 a6 : Slot) (S : Sto) :
    ∃ b5 b6, SB [.val (.int (total : Int)), a1, .val (.int (top : Int)), .val (.lst (H.map tI)), .val (.int (room : Int)), a5, a6, .un] S = .ok (.nx [.val (.int (total : Int)), a1, .val (.int (top : Int)), .val (.lst ((spStep total top room H).map tI)), .val (.int (room : Int)), b5, b6, .un] S) := by
  obtain ⟨b6, h⟩ := sloop total top room hT k hk a1 (.val (.lst (H.map tI))) S H [] a6 hH (by simpa using hl)
  refine ⟨.val (.lst ((spStep total top room H).map tI)), b6, ?_⟩
  have s1 : sSet 5 (eB pLst aNil) [.val (.int (total : Int)), a1, .val (.int (top : Int)), .val (.lst (H.map tI)), .val (.int (room : Int)), a5, a6, .un] S = .ok (.nx [.val (.int (total : Int)), a1, .val (.int (top : Int)), .val (.lst (H.map tI)), .val (.int (room : Int)), .val (.lst (([] : List (List Nat)).map tI)), a6, .un] S) := rfl
  exact (sSeq_nx s1).trans ((sSeq_nx (sFor_ok (xs := H.map tI) (S1 := S) rfl h)).trans rfl)
theorem stop_loop (total top : Nat) (hT : total ≤ 8) (a1 : Slot) (S : Sto) : ∀ (rooms : List Nat) (H : List (List Nat)) (k : Nat) (a4 a5 a6 : Slot), SLim total k H → k + rooms.length ≤ 4 → H.length ≤ 9 ^ k →
    ∃ b4 b5 b6, forL (gN 4) SB (natsP rooms) [.val (.int (total : Int)), a1, .val (.int (top : Int)), .val (.lst (H.map tI)), a4, a5, a6, .un] S = .ok (.nx [.val (.int (total : Int)), a1, .val (.int (top : Int)), .val (.lst ((rooms.foldl (fun H r => spStep total top r H) H).map tI)), b4, b5, b6, .un] S) ∧ (rooms.foldl (fun H r => spStep total top r H) H).length ≤ 9 ^ (k + rooms.length)
  | [], H, k, a4, a5, a6, _, _, hl => ⟨a4, a5, a6, rfl, hl⟩
  | r :: rooms, H, k, a4, a5, a6, hH, hk, hl => by
    rw [List.length_cons] at hk
    have hp : 9 ^ k ≤ 9 ^ 3 := Nat.pow_le_pow_right (by omega) (by omega)
    have hb : H.length * (total + 1) ≤ 9 ^ k * 9 := Nat.mul_le_mul hl (by omega)
    have h3 : (9 : Nat) ^ 3 = 729 := by decide
    have hb2 : 9 ^ k * 9 ≤ 6561 := by omega
    have hs := Nat.le_trans (slen_step (top := top) (room := r) hH) hb
    obtain ⟨c5, c6, h0⟩ := sb_ok total top r (by omega) k (by omega) H hH (by omega) a1 a5 a6 S
    obtain ⟨b4, b5, b6, h1, h2⟩ := stop_loop total top hT a1 S rooms (spStep total top r H) (k + 1) (.val (.int (r : Int))) c5 c6 (slim_step hH) (by omega) (by rw [Nat.pow_succ]; exact hs)
    refine ⟨b4, b5, b6, ?_, by rw [List.length_cons, List.foldl_cons, show k + (rooms.length + 1) = k + 1 + rooms.length by omega]; exact h2⟩
    rw [natsP_cons]
    exact (forL_nx rfl h0).trans h1
theorem fil_lc (total : Nat) (a1 a2 a3 a4 a5 a7 : Slot) (S : Sto) : ∀ H : List (List Nat), lcL (gN 6) (tV (eOp pEq (eUn pSum (eV 6)) (eV 0))) (eV 6) (H.map tI) [.val (.int (total : Int)), a1, a2, a3, a4, a5, .un, a7] S = .ok ((H.filter fun h => decide (h.sum = total)).map tI, S)
  | [] => rfl
  | h :: H => by
    have ih := fil_lc total a1 a2 a3 a4 a5 a7 S H
    have c : tV (eOp pEq (eUn pSum (eV 6)) (eV 0)) [.val (.int (total : Int)), a1, a2, a3, a4, a5, .val (tI h), a7] S = .ok (decide (h.sum = total), S) := by
      refine tV_ok (eOp_ok (un_eq (x := tI h) rfl (pSum_tI h)) (y := .int (total : Int)) rfl ?_)
      unfold pEq
      rw [dOK_int, dOK_int]
      by_cases q : h.sum = total
      · simp [eqP, q]
      · have q' : ¬ (h.sum : Int) = (total : Int) := by omega
        simp [eqP, q, q']
    rw [List.map_cons, List.filter_cons]
    by_cases q : h.sum = total
    · rw [decide_eq_true q] at c
      rw [if_pos (decide_eq_true q), List.map_cons]
      exact lcL_yes (en := [.val (.int (total : Int)), a1, a2, a3, a4, a5, .val (tI h), a7]) rfl c rfl ih
    · rw [decide_eq_false q] at c
      rw [if_neg (by simpa using q)]
      exact lcL_no (en := [.val (.int (total : Int)), a1, a2, a3, a4, a5, .val (tI h), a7]) rfl c ih
theorem sp_ok (total top : Nat) (rooms : List Nat) (hT : total ≤ 8) (hr : rooms.length ≤ 4) (S : Sto) : f_l_split [.int (total : Int), tI rooms, .int (top : Int)] S = .ok (.lst ((sp total rooms top).map tI), S) := by
  have hL : SLim total 0 [[]] := fun e he => by
    have : e = [] := by simpa using he
    subst this
    exact ⟨by simp, rfl⟩
  obtain ⟨b4, b5, b6, h1, h2⟩ := stop_loop total top hT (.val (tI rooms)) S rooms [[]] 0 .un .un .un hL (by omega) (by simp)
  have hb : (spF total top rooms).length ≤ 6561 := by
    have hp : (9 : Nat) ^ (0 + rooms.length) ≤ 9 ^ 4 := Nat.pow_le_pow_right (by omega) (by omega)
    have : (9 : Nat) ^ 4 = 6561 := by decide
    have h3 : (spF total top rooms).length ≤ 9 ^ (0 + rooms.length) := h2
    omega
  refine runF_rt ?_
  rw [split_is]
  have e0 : env0 8 [.int (total : Int), tI rooms, .int (top : Int)] = [.val (.int (total : Int)), .val (tI rooms), .val (.int (top : Int)), .un, .un, .un, .un, .un] := rfl
  rw [e0]
  have s1 : sSet 3 (eB pLst (aCons (eB pTup aNil) aNil)) [.val (.int (total : Int)), .val (tI rooms), .val (.int (top : Int)), .un, .un, .un, .un, .un] S = .ok (.nx [.val (.int (total : Int)), .val (tI rooms), .val (.int (top : Int)), .val (.lst (([[]] : List (List Nat)).map tI)), .un, .un, .un, .un] S) := rfl
  exact (sSeq_nx s1).trans ((sSeq_nx (sFor_ok (xs := natsP rooms) (S1 := S) rfl h1)).trans (sRet_ok (lc_eq (xs := (spF total top rooms).map tI) (S1 := S) rfl (by rw [List.length_map]; omega) (fil_lc total _ _ _ _ _ _ S (spF total top rooms)))))
/-! what the split tells fits -/
theorem spF_le (total top : Nat) : ∀ (rooms done : List Nat) (H : List (List Nat)), (∀ h ∈ H, h.length = done.length ∧ ∀ p ∈ done.zip h, p.2 ≤ p.1) → ∀ h ∈ rooms.foldl (fun H r => spStep total top r H) H, h.length = (done ++ rooms).length ∧ ∀ p ∈ (done ++ rooms).zip h, p.2 ≤ p.1
  | [], done, H, h, e, he => by rw [List.append_nil]; exact h e he
  | r :: rooms, done, H, h, e, he => by
    have ih := spF_le total top rooms (done ++ [r]) (spStep total top r H) (fun d hd => by
      obtain ⟨c, hc, hd⟩ := List.mem_flatMap.mp hd
      obtain ⟨m, hm, rfl⟩ := List.mem_map.mp hd
      obtain ⟨k1, k2⟩ := h c hc
      have := List.mem_range'_1.mp hm
      exact ⟨by simp [k1], zip_append_le done c r m k1 k2 (by omega)⟩) e he
    rw [List.append_assoc] at ih
    exact ih
theorem sp_le (total top : Nat) (rooms : List Nat) : ∀ h ∈ sp total rooms top, h.length = rooms.length ∧ ∀ p ∈ rooms.zip h, p.2 ≤ p.1 := by
  intro h hh
  exact spF_le total top rooms [] [[]] (fun d hd => by
    have : d = [] := by simpa using hd
    subst this
    exact ⟨rfl, fun p hp => by simp at hp⟩) h (List.mem_filter.mp hh).1
/-! arrays, by recursion -/
def la (top : Nat) : List Nat → List Nat → Nat
  | [], across => if across.sum = 0 then 1 else 0
  | d :: down, across => (sp d across top).foldl (fun n h => n + la top down (subL across h)) 0
theorem sub2_lc (a0 a1 a2 a3 a4 : Slot) (S : Sto) : ∀ l : List (Nat × Nat), (∀ p ∈ l, p.2 ≤ p.1) →
    lcL (gT 2 (gNc (gN 5) (gNc (gN 6) gNn))) tT (eOp pSub (eV 5) (eV 6)) (l.map fun p => .tup [.int ((p.1 : Nat) : Int), .int ((p.2 : Nat) : Int)]) [a0, a1, a2, a3, a4, .un, .un] S = .ok (natsP (l.map fun p => p.1 - p.2), S)
  | [], _ => rfl
  | p :: l, h => by
    rw [List.map_cons, List.map_cons, natsP_cons]
    refine lcL_yes (en := [a0, a1, a2, a3, a4, .val (.int (p.1 : Int)), .val (.int (p.2 : Int))]) rfl rfl (eOp_ok (x := .int (p.1 : Int)) (y := .int (p.2 : Int)) rfl rfl ?_) (sub2_lc a0 a1 a2 a3 a4 S l fun q hq => h q (by simp [hq]))
    have h1 := h p (by simp)
    have hz : (p.1 : Int) - (p.2 : Int) = ((p.1 - p.2 : Nat) : Int) := by omega
    exact congrArg (fun z => some (PV.int z)) hz
def AB (self : List PV → Sto → Res (PV × Sto)) : FS := (sSet 3 (eOp pAdd (eV 3) (eCall self (aCons (eSl (eV 0) (oSo (eC (.int 1))) oNo) (aCons (eUn pTupC (eLc [5, 6] (iZp (aCons (eV 1) (aCons (eV 4) aNil))) (gT 2 (gNc (gN 5) (gNc (gN 6) gNn))) tT (eOp pSub (eV 5) (eV 6)))) (aCons (eV 2) aNil))))))
theorem arr_is (self : List PV → Sto → Res (PV × Sto)) : F_l_arrays self = sSeq (sIf (tV (eOp pEq (eV 0) (eB pTup aNil))) (sRet (eIf (tV (eOp pEq (eUn pSum (eV 1)) (eC (.int 0)))) (eC (.int 1)) (eC (.int 0)))) sNext) (sSeq (sSet 3 (eC (.int 0))) (sSeq (sFor (iSeq (eCall f_l_split (aCons (eIx (eV 0) (eC (.int 0))) (aCons (eV 1) (aCons (eV 2) aNil))))) (gN 4) (AB self)) (sRet (eV 3)))) := rfl
theorem cutP1 (x : PV) (xs : List PV) : cutP (x :: xs) (some 1) none = xs := by
  have e : HT.sIx (xs.length + 1) 0 (some 1) = 1 := (HT.sIx_nat (xs.length + 1) 0 1).trans (by omega)
  unfold cutP
  rw [List.length_cons, e]
  show List.take (xs.length + 1 - 1) xs = xs
  simp
theorem cut1 (d : Nat) (down : List Nat) (env : J.Env) (S : Sto) (h : eV 0 env S = .ok (tI (d :: down), S)) : eSl (eV 0) (oSo (eC (.int 1))) oNo env S = .ok (tI down, S) := by
  unfold eSl
  rw [h]
  have e : pSl (tI (d :: down)) (some 1) none = some (tI down) := by
    show some (PV.tup (cutP (natsP (d :: down)) (some 1) none)) = _
    rw [natsP_cons, cutP1]
    rfl
  simp only [Res.bind, oSo, oNo, eC, e, ofO]
theorem ab_ok (self : List PV → Sto → Res (PV × Sto)) (d : Nat) (down across h : List Nat) (top n : Nat) (S : Sto) (hs : self [tI down, tI (subL across h), .int (top : Int)] S = .ok (.int ((la top down (subL across h) : Nat) : Int), S)) (hl : across.length ≤ 4) (ht : ∀ p ∈ across.zip h, p.2 ≤ p.1) :
    AB self [.val (tI (d :: down)), .val (tI across), .val (.int (top : Int)), .val (.int (n : Int)), .val (tI h), .un, .un] S = .ok (.nx [.val (tI (d :: down)), .val (tI across), .val (.int (top : Int)), .val (.int ((n + la top down (subL across h) : Nat) : Int)), .val (tI h), .un, .un] S) := by
  have iz : iZp (aCons (eV 1) (aCons (eV 4) aNil)) [.val (tI (d :: down)), .val (tI across), .val (.int (top : Int)), .val (.int (n : Int)), .val (tI h), .un, .un] S = .ok ((across.zip h).map fun p => .tup [.int ((p.1 : Nat) : Int), .int ((p.2 : Nat) : Int)], S) := by
    rw [← zip_nats]
    rfl
  have t : eUn pTupC (eLc [5, 6] (iZp (aCons (eV 1) (aCons (eV 4) aNil))) (gT 2 (gNc (gN 5) (gNc (gN 6) gNn))) tT (eOp pSub (eV 5) (eV 6))) [.val (tI (d :: down)), .val (tI across), .val (.int (top : Int)), .val (.int (n : Int)), .val (tI h), .un, .un] S = .ok (tI (subL across h), S) :=
    un_eq (lc_eq (S1 := S) iz (by rw [List.length_map, List.length_zip]; omega) (sub2_lc _ _ _ _ _ S _ ht)) rfl
  exact sSet_ok (eOp_ok (x := .int (n : Int)) rfl (eCall_ok (xs := [tI down, tI (subL across h), .int (top : Int)]) (S1 := S) (aCons_ok (cut1 d down _ S rfl) (aCons_ok t (aCons_ok rfl rfl))) hs) (congrArg (fun z => some (PV.int z)) (Int.natCast_add _ _).symm))
theorem aloop (self : List PV → Sto → Res (PV × Sto)) (d : Nat) (down across : List Nat) (top : Nat) (S : Sto) (hl : across.length ≤ 4) : ∀ (hs : List (List Nat)) (n : Nat) (a4 : Slot), (∀ h ∈ hs, self [tI down, tI (subL across h), .int (top : Int)] S = .ok (.int ((la top down (subL across h) : Nat) : Int), S)) → (∀ h ∈ hs, ∀ p ∈ across.zip h, p.2 ≤ p.1) →
    ∃ b4, forL (gN 4) (AB self) (hs.map tI) [.val (tI (d :: down)), .val (tI across), .val (.int (top : Int)), .val (.int (n : Int)), a4, .un, .un] S = .ok (.nx [.val (tI (d :: down)), .val (tI across), .val (.int (top : Int)), .val (.int ((hs.foldl (fun n h => n + la top down (subL across h)) n : Nat) : Int)), b4, .un, .un] S)
  | [], n, a4, _, _ => ⟨a4, rfl⟩
  | h :: hs, n, a4, k1, k2 => by
    obtain ⟨b4, ih⟩ := aloop self d down across top S hl hs (n + la top down (subL across h)) (.val (tI h)) (fun u hu => k1 u (by simp [hu])) (fun u hu => k2 u (by simp [hu]))
    rw [List.map_cons]
    exact ⟨b4, (forL_nx rfl (ab_ok self d down across h top n S (k1 h (by simp)) hl (k2 h (by simp)))).trans ih⟩
theorem eq_nil (l : List Nat) : pEq (tI l) (.tup []) = some (.bl (decide (l = []))) := by
  unfold pEq
  rw [dOK_tI, show dOK (.tup []) = true from dOK_tI []]
  have e := eqPL_nats l []
  simp only [Bool.and_self, if_true, tI, eqP]
  exact congrArg (fun z => some (PV.bl z)) e
theorem eq_zero (n : Nat) : pEq (.int (n : Int)) (.int 0) = some (.bl (decide (n = 0))) := by
  unfold pEq
  rw [dOK_int, dOK_int]
  by_cases q : n = 0
  · simp [eqP, q]
  · have q' : ¬ (n : Int) = 0 := by omega
    simp [eqP, q]
theorem subL_len (a h : List Nat) : (subL a h).length ≤ a.length := by unfold subL; rw [List.length_map, List.length_zip]; omega
theorem la_ok (top : Nat) : ∀ (n : Nat) (down across : List Nat), down.length < n → (∀ d ∈ down, d ≤ 8) → across.length ≤ 4 → ∀ S, q_l_arrays n [tI down, tI across, .int (top : Int)] S = .ok (.int ((la top down across : Nat) : Int), S)
  | 0, _, _, h, _, _, _ => by omega
  | n + 1, [], across, _, _, _, S => by
    show runF 7 (F_l_arrays (q_l_arrays n)) _ S = _
    refine runF_rt ?_
    rw [arr_is]
    have e0 : env0 7 [tI [], tI across, .int (top : Int)] = [.val (tI []), .val (tI across), .val (.int (top : Int)), .un, .un, .un, .un] := rfl
    rw [e0]
    refine sSeq_rt ?_
    have c : tV (eOp pEq (eV 0) (eB pTup aNil)) [.val (tI []), .val (tI across), .val (.int (top : Int)), .un, .un, .un, .un] S = .ok (true, S) := tV_ok (eOp_ok (x := tI []) (y := .tup []) rfl rfl (eq_nil []))
    have c2 : tV (eOp pEq (eUn pSum (eV 1)) (eC (.int 0))) [.val (tI []), .val (tI across), .val (.int (top : Int)), .un, .un, .un, .un] S = .ok (decide (across.sum = 0), S) := tV_ok (eOp_ok (y := .int 0) (un_eq (x := tI across) rfl (pSum_tI across)) rfl (eq_zero _))
    unfold sIf
    rw [c]
    show sRet _ _ S = _
    refine sRet_ok ?_
    unfold eIf
    rw [c2]
    unfold la
    by_cases q : across.sum = 0
    · simp [Res.bind, q, eC]
    · simp [Res.bind, q, eC]
  | n + 1, d :: down, across, h, hd, hl, S => by
    have h8 := hd d (by simp)
    show runF 7 (F_l_arrays (q_l_arrays n)) _ S = _
    refine runF_rt ?_
    rw [arr_is]
    have e0 : env0 7 [tI (d :: down), tI across, .int (top : Int)] = [.val (tI (d :: down)), .val (tI across), .val (.int (top : Int)), .un, .un, .un, .un] := rfl
    rw [e0]
    have c : tV (eOp pEq (eV 0) (eB pTup aNil)) [.val (tI (d :: down)), .val (tI across), .val (.int (top : Int)), .un, .un, .un, .un] S = .ok (false, S) := tV_ok (eOp_ok (x := tI (d :: down)) (y := .tup []) rfl rfl (eq_nil (d :: down)))
    obtain ⟨b4, k⟩ := aloop (q_l_arrays n) d down across top S hl (sp d across top) 0 .un (fun u hu => la_ok top n down (subL across u) (by simpa using h) (fun q hq => hd q (by simp [hq])) (Nat.le_trans (subL_len _ _) hl) S) (fun u hu => (sp_le d top across u hu).2)
    have it : iSeq (eCall f_l_split (aCons (eIx (eV 0) (eC (.int 0))) (aCons (eV 1) (aCons (eV 2) aNil)))) [.val (tI (d :: down)), .val (tI across), .val (.int (top : Int)), .val (.int ((0 : Nat) : Int)), .un, .un, .un] S = .ok ((sp d across top).map tI, S) :=
      iSeq_lst (eCall_ok (xs := [.int (d : Int), tI across, .int (top : Int)]) (S1 := S) (aCons_ok (eIx_ok (l := d :: down) (k := 0) (S1 := S) rfl rfl (by simp)) (aCons_ok rfl (aCons_ok rfl rfl))) (sp_ok d top across h8 hl S))
    exact (sSeq_nx (sIf_no c rfl)).trans ((sSeq_nx (sSet_ok (v := .int ((0 : Nat) : Int)) rfl)).trans ((sSeq_nx (sFor_ok it k)).trans (sRet_ok rfl)))
end K56
set_option Elab.async false
set_option linter.all false
set_option maxRecDepth 100000
set_option maxHeartbeats 1000001
/-! margins counted, sides sorted, the sums of products -/
namespace K56
open PySem PySem.Spec PyProof.Rows L2 J
theorem amt_lc (a0 a1 : Slot) (S : Sto) : ∀ l : List Nat, lcL (gN 2) tT (eAnd (eUn (pIsT "int") (eV 2)) (eAnd (eUn pNot (eUn (pIsT "bool") (eV 2))) (eOp pGe (eV 2) (eC (.int 0))))) (natsP l) [a0, a1, .un] S = .ok (List.replicate l.length (.bl true), S)
  | [] => rfl
  | p :: r => by
    rw [natsP_cons, List.length_cons, List.replicate_succ]
    refine lcL_yes (en := [a0, a1, .val (.int (p : Int))]) rfl rfl ?_ (amt_lc a0 a1 S r)
    have e1 : pIsT "int" (.int (p : Int)) = some (.bl true) := rfl
    have e2 : pIsT "bool" (.int (p : Int)) = some (.bl false) := rfl
    have e3 : decide ((0 : Int) ≤ (p : Int)) = true := decide_eq_true (by omega)
    simp [eAnd, eUn, eV, eC, eOp, pCmp, pNot, Res.bind, ofO, e1, e2, e3]
theorem tNo_ok {a : FT} {env : J.Env} {S S1 : Sto} {b : Bool} (h : a env S = .ok (b, S1)) : tNo a env S = .ok (!b, S1) := by
  unfold tNo
  rw [h]
  rfl
theorem gt_nat (a b : Nat) : pGt (.int (a : Int)) (.int (b : Int)) = some (.bl (decide (b < a))) := by
  show some (PV.bl (decide ((b : Int) < (a : Int)))) = _
  by_cases h : b < a
  · rw [decide_eq_true h, decide_eq_true (by omega)]
  · rw [decide_eq_false h, decide_eq_false (by omega)]
theorem amounts_ok (l : List Nat) (n : Nat) (hl : l.length ≤ n) (h2 : l.length ≤ 1000) (S : Sto) : f_are_amounts [tI l, .int (n : Int)] S = .ok (.bl true, S) := by
  refine runF_rt ?_
  have e0 : env0 3 [tI l, .int (n : Int)] = [.val (tI l), .val (.int (n : Int)), .un] := rfl
  rw [e0]
  have c1 : (tNo (tV (eUn (pIsT "tuple") (eV 0)))) [.val (tI l), .val (.int (n : Int)), .un] S = .ok (false, S) := rfl
  have c2 : (tV (eOp pGt (eUn pLen (eV 0)) (eV 1))) [.val (tI l), .val (.int (n : Int)), .un] S = .ok (false, S) := by
    have := tV_ok (eOp_ok (y := .int (n : Int)) (un_eq (a := eV 0) (env := [.val (tI l), .val (.int (n : Int)), .un]) (S1 := S) rfl (pLen_tI l)) (b := eV 1) rfl (gt_nat l.length n))
    rw [decide_eq_false (by omega)] at this
    exact this
  exact (sSeq_nx (sIf_no (tOrr_no c1 c2) rfl)).trans (sRet_ok (un_eq (lc_eq (env := [.val (tI l), .val (.int (n : Int)), .un]) (xs := natsP l) (S1 := S) rfl (by rw [natsP_len]; omega) (amt_lc (.val (tI l)) (.val (.int (n : Int))) S l)) (all_true l.length)))
theorem runF_nx {n : Nat} {F : FS} {args : List PV} {S S1 : Sto} {e : J.Env} (h : F (env0 n args) S = .ok (.nx e S1)) : runF n F args S = .ok (.non, S1) := by unfold runF; rw [h]
theorem margins_ok (l : List Nat) (hl : l.length ≤ 6) (hs : l.sum ≤ 12) (S : Sto) : f_check_margins [tI l] S = .ok (.non, S) := by
  refine runF_nx (e := [.val (tI l)]) ?_
  have e0 : env0 1 [tI l] = [.val (tI l)] := rfl
  rw [e0]
  have c1 : (tNo (tV (eCall f_are_amounts (aCons (eV 0) (aCons (eC (.int 6)) aNil))))) [.val (tI l)] S = .ok (false, S) := tNo_ok (b := true) (tV_ok (eCall_ok (xs := [tI l, .int 6]) (S1 := S) rfl (amounts_ok l 6 hl (by omega) S)))
  have c2 : (tV (eOp pGt (eUn pSum (eV 0)) (eC (.int 12)))) [.val (tI l)] S = .ok (false, S) := by
    have := tV_ok (eOp_ok (y := .int 12) (un_eq (a := eV 0) (env := [.val (tI l)]) (S1 := S) rfl (pSum_tI l)) (b := eC (.int 12)) rfl (gt_nat l.sum 12))
    rw [decide_eq_false (by omega)] at this
    exact this
  exact sIf_no (tOrr_no c1 c2) rfl
theorem sDrop_ok {a : FE} {env : J.Env} {S S1 : Sto} {v : PV} (h : a env S = .ok (v, S1)) : sDrop a env S = .ok (.nx env S1) := by
  unfold sDrop
  rw [h]
  rfl
/-- what a pair must bring for a count -/
def okB (r c : List Nat) (m : Nat) : Bool := decide (c.length ≤ 4) && (decide (r.length ≤ 6) && (decide (r.sum ≤ 12) && (decide (c.sum ≤ 12) && acOk m r [(c, 1)])))
theorem cnt_ok {F : FS} {m : Nat} (e : F = sSeq (sDrop (eCall f_check_margins (aCons (eV 0) aNil))) (sSeq (sDrop (eCall f_check_margins (aCons (eV 1) aNil))) (sRet (eCall f_arrays_counted (aCons (eV 0) (aCons (eV 1) (aCons (eC (.int (m : Int))) aNil))))))) (r c : List Nat) (h : okB r c m = true) (S : Sto) : runF 2 F [tI r, tI c] S = .ok (.int ((ac r c m : Nat) : Int), S) := by
  simp only [okB, Bool.and_eq_true, decide_eq_true_eq] at h
  obtain ⟨h1, h2, h3, h4, h5⟩ := h
  refine runF_rt ?_
  have e0 : env0 2 [tI r, tI c] = [.val (tI r), .val (tI c)] := rfl
  rw [e, e0]
  exact (sSeq_nx (sDrop_ok (eCall_ok (xs := [tI r]) (S1 := S) rfl (margins_ok r h2 h3 S)))).trans ((sSeq_nx (sDrop_ok (eCall_ok (xs := [tI c]) (S1 := S) rfl (margins_ok c (by omega) h4 S)))).trans (sRet_ok (eCall_ok (xs := [tI r, tI c, .int (m : Int)]) (S1 := S) rfl (ac_ok r c m h1 h5 S))))
theorem mc_ok (r c : List Nat) (h : okB r c 12 = true) (S : Sto) : f_margin_count [tI r, tI c] S = .ok (.int ((ac r c 12 : Nat) : Int), S) := cnt_ok rfl r c h S
theorem zc_ok (r c : List Nat) (h : okB r c 1 = true) (S : Sto) : f_zero_one_count [tI r, tI c] S = .ok (.int ((ac r c 1 : Nat) : Int), S) := cnt_ok rfl r c h S
/-! repr of two alike -/
theorem rpr2 (n : Nat) (h : n < 100000000000) : pRpr false (.lst [.int (n : Int), .int (n : Int)]) (.lst [.int (n : Int), .int (n : Int)]) = some (.bl false) := by
  have e : shOk (.int (n : Int)) = true := by
    simp only [shOk, decide_eq_true_eq]
    omega
  unfold pRpr rpOk
  simp [isRef, shOk, shOkL, wtP, wtPL, dpP, dpPL] at e ⊢
  omega
theorem ne_nat (a b : Nat) : pNe (.int (a : Int)) (.int (b : Int)) = some (.bl (!decide (a = b))) := by
  unfold pNe
  rw [dOK_int, dOK_int]
  by_cases q : a = b
  · simp [eqP, q]
  · have q' : ¬ (a : Int) = (b : Int) := by omega
    simp [eqP, q, q']
theorem ne_same (a b : Nat) (h : a = b) : pNe (.int (a : Int)) (.int (b : Int)) = some (.bl false) := by
  rw [ne_nat, decide_eq_true h]
  rfl
/-! a side: its parts above nought, the greatest first -/
def hd (c : List Nat) : List Nat := (nsort (c.filter fun p => decide (0 < p))).reverse
theorem pos_lc (b0 b1 b2 b3 b4 b5 b6 b7 b8 b9 b10 b11 b12 b13 : Slot) (S : Sto) : ∀ l : List Nat, lcL (gN 14) (tV (eOp pGt (eV 14) (eC (.int 0)))) (eV 14) (natsP l) [b0, b1, b2, b3, b4, b5, b6, b7, b8, b9, b10, b11, b12, b13, .un] S = .ok (natsP (l.filter fun p => decide (0 < p)), S)
  | [] => rfl
  | p :: r => by
    have ih := pos_lc b0 b1 b2 b3 b4 b5 b6 b7 b8 b9 b10 b11 b12 b13 S r
    have c : tV (eOp pGt (eV 14) (eC (.int 0))) [b0, b1, b2, b3, b4, b5, b6, b7, b8, b9, b10, b11, b12, b13, .val (.int (p : Int))] S = .ok (decide (0 < p), S) := tV_ok (eOp_ok (x := .int (p : Int)) (y := .int 0) rfl rfl (gt_nat p 0))
    rw [natsP_cons, List.filter_cons]
    by_cases q : 0 < p
    · rw [decide_eq_true q] at c
      rw [if_pos (decide_eq_true q), natsP_cons]
      exact lcL_yes (en := [b0, b1, b2, b3, b4, b5, b6, b7, b8, b9, b10, b11, b12, b13, .val (.int (p : Int))]) rfl c rfl ih
    · rw [decide_eq_false q] at c
      rw [if_neg (by simpa using q)]
      exact lcL_no (en := [b0, b1, b2, b3, b4, b5, b6, b7, b8, b9, b10, b11, b12, b13, .val (.int (p : Int))]) rfl c ih
theorem rev_nats (l : List Nat) : (natsP l).reverse = natsP l.reverse := by unfold natsP; rw [List.map_reverse]
theorem side_ok (b0 b1 b2 b3 b4 b5 b6 b7 b8 b9 b10 b11 b13 : Slot) (l : List Nat) (hl : l.length ≤ 40) (S : Sto) :
    (eUn pTupC (eUn pRevA (eUn (pSrt .int) (eLc [14] (iSeq (eV 12)) (gN 14) (tV (eOp pGt (eV 14) (eC (.int 0)))) (eV 14))))) [b0, b1, b2, b3, b4, b5, b6, b7, b8, b9, b10, b11, .val (tI l), b13, .un] S = .ok (tI (hd l), S) := by
  have hf : (l.filter fun p => decide (0 < p)).length ≤ 40 := Nat.le_trans (List.length_filter_le _ _) hl
  refine un_eq (un_eq (un_eq (lc_eq (xs := natsP l) (S1 := S) rfl (by rw [natsP_len]; omega) (pos_lc _ _ _ _ _ _ _ _ _ _ _ _ _ _ S l)) (srt_ints _ hf)) (z := .lst (natsP (hd l))) ?_) rfl
  show some (PV.lst (natsP _).reverse) = _
  rw [rev_nats]
  rfl
/-! the sum over the shapes -/
theorem mul_nat (a b : Nat) (h : a ≤ 100000) : pMulB (.int (a : Int)) (.int (b : Int)) = some (.int ((a * b : Nat) : Int)) := by
  show (if okMul (a : Int) (b : Int) then some (PV.int ((a : Int) * (b : Int))) else none) = _
  have hm : okMul (a : Int) (b : Int) = true := by unfold okMul; rw [decide_eq_true_eq]; left; omega
  rw [if_pos hm]
  exact congrArg (fun z => some (PV.int z)) (Int.natCast_mul _ _).symm
def TcIs (f c : List Nat) (n : Nat) : Prop := n ≤ 100000 ∧ ∀ S : Sto, f_table_count [tI f, tI c] S = .ok (.int (n : Int), S)
def TlIs (f g : List Nat) : Prop := ∀ S : Sto, f_l_tilted [tI f] S = .ok (tI g, S)
theorem two_lc (k : List Nat → List Nat → Nat) (d a : List Nat) (b0 b1 b2 b3 b4 b5 b8 b9 b10 b11 b12 b14 : Slot) (S : Sto) : ∀ fs : List (List Nat), (∀ f ∈ fs, TcIs f d (k f d) ∧ TcIs f a (k f a)) →
    lcL (gN 13) tT (eOp pMulB (eCall f_table_count (aCons (eV 13) (aCons (eV 6) aNil))) (eCall f_table_count (aCons (eV 13) (aCons (eV 7) aNil)))) (fs.map tI) [b0, b1, b2, b3, b4, b5, .val (tI d), .val (tI a), b8, b9, b10, b11, b12, .un, b14] S = .ok (natsP (fs.map fun f => k f d * k f a), S)
  | [], _ => rfl
  | f :: fs, h => by
    obtain ⟨⟨h1, h2⟩, h3, h4⟩ := h f (by simp)
    rw [List.map_cons, List.map_cons, natsP_cons]
    exact lcL_yes (en := [b0, b1, b2, b3, b4, b5, .val (tI d), .val (tI a), b8, b9, b10, b11, b12, .val (tI f), b14]) rfl rfl (eOp_ok (eCall_ok (xs := [tI f, tI d]) (S1 := S) rfl (h2 S)) (eCall_ok (xs := [tI f, tI a]) (S1 := S) rfl (h4 S)) (mul_nat _ _ h1)) (two_lc k d a b0 b1 b2 b3 b4 b5 b8 b9 b10 b11 b12 b14 S fs fun g hg => h g (by simp [hg]))
theorem tlt_lc (k : List Nat → List Nat → Nat) (tl : List Nat → List Nat) (d a : List Nat) (b0 b1 b2 b3 b4 b5 b8 b9 b10 b11 b12 b14 : Slot) (S : Sto) : ∀ fs : List (List Nat), (∀ f ∈ fs, TcIs f d (k f d) ∧ TlIs f (tl f) ∧ TcIs (tl f) a (k (tl f) a)) →
    lcL (gN 13) tT (eOp pMulB (eCall f_table_count (aCons (eV 13) (aCons (eV 6) aNil))) (eCall f_table_count (aCons (eCall f_l_tilted (aCons (eV 13) aNil)) (aCons (eV 7) aNil)))) (fs.map tI) [b0, b1, b2, b3, b4, b5, .val (tI d), .val (tI a), b8, b9, b10, b11, b12, .un, b14] S = .ok (natsP (fs.map fun f => k f d * k (tl f) a), S)
  | [], _ => rfl
  | f :: fs, h => by
    obtain ⟨⟨h1, h2⟩, h5, h3, h4⟩ := h f (by simp)
    rw [List.map_cons, List.map_cons, natsP_cons]
    exact lcL_yes (en := [b0, b1, b2, b3, b4, b5, .val (tI d), .val (tI a), b8, b9, b10, b11, b12, .val (tI f), b14]) rfl rfl (eOp_ok (eCall_ok (xs := [tI f, tI d]) (S1 := S) rfl (h2 S)) (eCall_ok (xs := [tI (tl f), tI a]) (S1 := S) (aCons_ok (eCall_ok (xs := [tI f]) (S1 := S) rfl (h5 S)) (aCons_ok rfl rfl)) (h4 S)) (mul_nat _ _ h1)) (tlt_lc k tl d a b0 b1 b2 b3 b4 b5 b8 b9 b10 b11 b12 b14 S fs fun g hg => h g (by simp [hg]))
theorem pSum_lst (l : List Nat) : pSum (.lst (natsP l)) = some (.int (l.sum : Int)) := by
  show (intsP (natsP l)).map _ = _
  rw [intsP_nats]
  show some (PV.int _) = _
  rw [sum_cast]
end K56
set_option Elab.async false
set_option linter.all false
set_option maxRecDepth 100000
set_option maxHeartbeats 0
/-! the tables -/
namespace K56
open PySem PySem.Spec PyProof.Rows L2 J
def comps (t : Nat) : List (List Nat) := [t] :: ((List.range' 0 (t + 1)).map (fun a => [a, t - a]) ++ (List.range' 0 (t + 1)).flatMap fun a => (List.range' 0 (t - a + 1)).map fun b => [a, b, t - a - b])
def up (l : List Nat) : List Nat := l.dropLast ++ [l.getLastD 0 + 1]
def forms : Nat → List (List Nat)
  | 0 => [[]]
  | 1 => [[1]]
  | 2 => [[2], [1, 1]]
  | 3 => [[3], [2, 1], [1, 1, 1]]
  | 4 => [[4], [3, 1], [2, 2], [2, 1, 1], [1, 1, 1, 1]]
  | 5 => [[5], [4, 1], [3, 2], [3, 1, 1], [2, 2, 1], [2, 1, 1, 1], [1, 1, 1, 1, 1]]
  | _ => []
def tilt (f : List Nat) : List Nat := (List.range' 0 (f.headD 0)).map fun k => (f.filter fun p => decide (k < p)).length
def below : List Nat → List (List Nat)
  | [] => [[]]
  | [a] => (List.range' 0 (a + 1)).map fun x => [x]
  | a :: b :: r => (List.range' b (a - b + 1)).flatMap fun x => (below (b :: r)).map fun s => x :: s
def kos : List Nat → List Nat → Nat
  | [], f => if f.sum = 0 then 1 else 0
  | n :: c, f => (((below f).filter fun g => decide (g.sum + n = f.sum)).map (kos c)).sum
def tc (f c : List Nat) : Nat := kos c.reverse f
def hvy (a b : List Nat) : Bool := (List.range' 1 (max a.length b.length)).all fun k => decide ((b.take k).sum ≤ (a.take k).sum)
theorem forms_ok0 (S : Sto) : f_l_forms [.int 0] S = .ok (.lst ((forms 0).map tI), S) := by kernel_rfl
theorem forms_ok1 (S : Sto) : f_l_forms [.int 1] S = .ok (.lst ((forms 1).map tI), S) := by kernel_rfl
theorem forms_ok2 (S : Sto) : f_l_forms [.int 2] S = .ok (.lst ((forms 2).map tI), S) := by kernel_rfl
theorem forms_ok3 (S : Sto) : f_l_forms [.int 3] S = .ok (.lst ((forms 3).map tI), S) := by kernel_rfl
theorem forms_ok4 (S : Sto) : f_l_forms [.int 4] S = .ok (.lst ((forms 4).map tI), S) := by kernel_rfl
theorem forms_ok5 (S : Sto) : f_l_forms [.int 5] S = .ok (.lst ((forms 5).map tI), S) := by kernel_rfl
theorem tilt_ok0 (S : Sto) : (forms 0).map (fun f => f_l_tilted [tI f] S) = (forms 0).map (fun f => .ok (tI (tilt f), S)) := by kernel_rfl
theorem tilt_ok1 (S : Sto) : (forms 1).map (fun f => f_l_tilted [tI f] S) = (forms 1).map (fun f => .ok (tI (tilt f), S)) := by kernel_rfl
theorem tilt_ok2 (S : Sto) : (forms 2).map (fun f => f_l_tilted [tI f] S) = (forms 2).map (fun f => .ok (tI (tilt f), S)) := by kernel_rfl
theorem tilt_ok3 (S : Sto) : (forms 3).map (fun f => f_l_tilted [tI f] S) = (forms 3).map (fun f => .ok (tI (tilt f), S)) := by kernel_rfl
theorem tilt_ok4 (S : Sto) : (forms 4).map (fun f => f_l_tilted [tI f] S) = (forms 4).map (fun f => .ok (tI (tilt f), S)) := by kernel_rfl
theorem tilt_ok5 (S : Sto) : (forms 5).map (fun f => f_l_tilted [tI f] S) = (forms 5).map (fun f => .ok (tI (tilt f), S)) := by kernel_rfl
/-- what the checks of a pair ask of plain numbers -/
def pairB (t : Nat) (d a : List Nat) : Bool :=
  okB d a 12 && (okB a d 12 && (okB d a 1 && (okB a d 1 && (okB d (up a) 12 && (okB (d ++ [1]) a 1 &&
  (decide (ac d a 12 = la 12 d a) && (decide (ac a d 12 = la 12 d a) && (decide (ac d a 1 = la 1 d a) && (decide (ac a d 1 = la 1 d a) && (decide (ac d (up a) 12 = 0) && (decide (ac (d ++ [1]) a 1 = 0) &&
  (decide (la 12 d a < 100000000000) && (decide (la 1 d a < 100000000000) &&
  (decide (((forms t).map fun f => tc f d * tc f a).sum = la 12 d a) && (decide (((forms t).map fun f => tc f d * tc (tilt f) a).sum = la 1 d a) &&
  decide (hvy (tilt (hd d)) (hd a) = decide (0 < la 1 d a)))))))))))))))))
/-- what is asked of one side -/
def sideB (t : Nat) (c : List Nat) : Bool := decide (0 < c.length) && (decide (c.length ≤ 3) && (c.all (fun q => decide (q ≤ 8)) && (decide (hd c ∈ forms t) && (forms t).all fun f => decide (tc f c ≤ 100000))))
structure Tab (t : Nat) : Prop where
  fo : ∀ S : Sto, f_l_forms [.int (t : Int)] S = .ok (.lst ((forms t).map tI), S)
  ti : ∀ f ∈ forms t, TlIs f (tilt f)
  cl : ∀ f ∈ forms t, tilt f ∈ forms t
  tc : ∀ c ∈ comps t, ∀ f ∈ forms t, TcIs f c (tc f c)
  hv : ∀ f ∈ forms t, ∀ g ∈ forms t, ∀ S : Sto, f_heavier [tI f, tI g] S = .ok (.bl (hvy f g), S)
  si : ∀ c ∈ comps t, sideB t c = true
  pa : ∀ d ∈ comps t, ∀ a ∈ comps t, pairB t d a = true
theorem map_at {α β : Type} {l : List α} {f g : α → β} (h : l.map f = l.map g) (x : α) (hx : x ∈ l) : f x = g x := List.map_inj_left.mp h x hx
theorem Tab.of {t : Nat} (fo : ∀ S : Sto, f_l_forms [.int (t : Int)] S = .ok (.lst ((forms t).map tI), S)) (ti : ∀ S : Sto, (forms t).map (fun f => f_l_tilted [tI f] S) = (forms t).map (fun f => .ok (tI (tilt f), S))) (cl : (forms t).all (fun f => decide (tilt f ∈ forms t)) = true)
    (tcs : ∀ c ∈ comps t, ∀ S : Sto, (forms t).map (fun f => f_table_count [tI f, tI c] S) = (forms t).map (fun f => .ok (.int ((K56.tc f c : Nat) : Int), S)))
    (hv : ∀ S : Sto, (forms t).map (fun f => (forms t).map (fun g => f_heavier [tI f, tI g] S)) = (forms t).map (fun f => (forms t).map (fun g => .ok (.bl (hvy f g), S))))
    (si : (comps t).all (sideB t) = true) (pa : ∀ d ∈ comps t, (comps t).all (pairB t d) = true) : Tab t where
  fo := fo
  ti f hf S := map_at (ti S) f hf
  cl f hf := of_decide_eq_true (List.all_eq_true.mp cl f hf)
  tc c hc f hf := ⟨by
    have h := List.all_eq_true.mp si c hc
    simp only [sideB, Bool.and_eq_true, List.all_eq_true, decide_eq_true_eq] at h
    exact h.2.2.2.2 f hf, fun S => map_at (tcs c hc S) f hf⟩
  hv f hf g hg S := map_at (map_at (hv S) f hf) g hg
  si c hc := List.all_eq_true.mp si c hc
  pa d hd a ha := List.all_eq_true.mp (pa d hd) a ha
end K56
set_option Elab.async false
set_option linter.all false
set_option maxRecDepth 100000
set_option maxHeartbeats 0
namespace K56
open PySem PySem.Spec PyProof.Rows L2 J
theorem hv0 (S : Sto) : (forms 0).map (fun f => (forms 0).map (fun g => f_heavier [tI f, tI g] S)) = (forms 0).map (fun f => (forms 0).map (fun g => .ok (.bl (hvy f g), S))) := by kernel_rfl
theorem si0 : (comps 0).all (sideB 0) = true := by decide +kernel
theorem cl0 : (forms 0).all (fun f => decide (tilt f ∈ forms 0)) = true := by decide +kernel
theorem tc0_0 (S : Sto) : (forms 0).map (fun f => f_table_count [tI f, tI [0]] S) = (forms 0).map (fun f => .ok (.int ((tc f [0] : Nat) : Int), S)) := by kernel_rfl
theorem tc0_00 (S : Sto) : (forms 0).map (fun f => f_table_count [tI f, tI [0, 0]] S) = (forms 0).map (fun f => .ok (.int ((tc f [0, 0] : Nat) : Int), S)) := by kernel_rfl
theorem tc0_000 (S : Sto) : (forms 0).map (fun f => f_table_count [tI f, tI [0, 0, 0]] S) = (forms 0).map (fun f => .ok (.int ((tc f [0, 0, 0] : Nat) : Int), S)) := by kernel_rfl
theorem hv1 (S : Sto) : (forms 1).map (fun f => (forms 1).map (fun g => f_heavier [tI f, tI g] S)) = (forms 1).map (fun f => (forms 1).map (fun g => .ok (.bl (hvy f g), S))) := by kernel_rfl
theorem si1 : (comps 1).all (sideB 1) = true := by decide +kernel
theorem cl1 : (forms 1).all (fun f => decide (tilt f ∈ forms 1)) = true := by decide +kernel
theorem tc1_1 (S : Sto) : (forms 1).map (fun f => f_table_count [tI f, tI [1]] S) = (forms 1).map (fun f => .ok (.int ((tc f [1] : Nat) : Int), S)) := by kernel_rfl
theorem tc1_01 (S : Sto) : (forms 1).map (fun f => f_table_count [tI f, tI [0, 1]] S) = (forms 1).map (fun f => .ok (.int ((tc f [0, 1] : Nat) : Int), S)) := by kernel_rfl
theorem tc1_10 (S : Sto) : (forms 1).map (fun f => f_table_count [tI f, tI [1, 0]] S) = (forms 1).map (fun f => .ok (.int ((tc f [1, 0] : Nat) : Int), S)) := by kernel_rfl
theorem tc1_001 (S : Sto) : (forms 1).map (fun f => f_table_count [tI f, tI [0, 0, 1]] S) = (forms 1).map (fun f => .ok (.int ((tc f [0, 0, 1] : Nat) : Int), S)) := by kernel_rfl
theorem tc1_010 (S : Sto) : (forms 1).map (fun f => f_table_count [tI f, tI [0, 1, 0]] S) = (forms 1).map (fun f => .ok (.int ((tc f [0, 1, 0] : Nat) : Int), S)) := by kernel_rfl
theorem tc1_100 (S : Sto) : (forms 1).map (fun f => f_table_count [tI f, tI [1, 0, 0]] S) = (forms 1).map (fun f => .ok (.int ((tc f [1, 0, 0] : Nat) : Int), S)) := by kernel_rfl
theorem hv2 (S : Sto) : (forms 2).map (fun f => (forms 2).map (fun g => f_heavier [tI f, tI g] S)) = (forms 2).map (fun f => (forms 2).map (fun g => .ok (.bl (hvy f g), S))) := by kernel_rfl
theorem si2 : (comps 2).all (sideB 2) = true := by decide +kernel
theorem cl2 : (forms 2).all (fun f => decide (tilt f ∈ forms 2)) = true := by decide +kernel
theorem tc2_2 (S : Sto) : (forms 2).map (fun f => f_table_count [tI f, tI [2]] S) = (forms 2).map (fun f => .ok (.int ((tc f [2] : Nat) : Int), S)) := by kernel_rfl
theorem tc2_02 (S : Sto) : (forms 2).map (fun f => f_table_count [tI f, tI [0, 2]] S) = (forms 2).map (fun f => .ok (.int ((tc f [0, 2] : Nat) : Int), S)) := by kernel_rfl
theorem tc2_11 (S : Sto) : (forms 2).map (fun f => f_table_count [tI f, tI [1, 1]] S) = (forms 2).map (fun f => .ok (.int ((tc f [1, 1] : Nat) : Int), S)) := by kernel_rfl
theorem tc2_20 (S : Sto) : (forms 2).map (fun f => f_table_count [tI f, tI [2, 0]] S) = (forms 2).map (fun f => .ok (.int ((tc f [2, 0] : Nat) : Int), S)) := by kernel_rfl
theorem tc2_002 (S : Sto) : (forms 2).map (fun f => f_table_count [tI f, tI [0, 0, 2]] S) = (forms 2).map (fun f => .ok (.int ((tc f [0, 0, 2] : Nat) : Int), S)) := by kernel_rfl
theorem tc2_011 (S : Sto) : (forms 2).map (fun f => f_table_count [tI f, tI [0, 1, 1]] S) = (forms 2).map (fun f => .ok (.int ((tc f [0, 1, 1] : Nat) : Int), S)) := by kernel_rfl
theorem tc2_020 (S : Sto) : (forms 2).map (fun f => f_table_count [tI f, tI [0, 2, 0]] S) = (forms 2).map (fun f => .ok (.int ((tc f [0, 2, 0] : Nat) : Int), S)) := by kernel_rfl
theorem tc2_101 (S : Sto) : (forms 2).map (fun f => f_table_count [tI f, tI [1, 0, 1]] S) = (forms 2).map (fun f => .ok (.int ((tc f [1, 0, 1] : Nat) : Int), S)) := by kernel_rfl
theorem tc2_110 (S : Sto) : (forms 2).map (fun f => f_table_count [tI f, tI [1, 1, 0]] S) = (forms 2).map (fun f => .ok (.int ((tc f [1, 1, 0] : Nat) : Int), S)) := by kernel_rfl
theorem tc2_200 (S : Sto) : (forms 2).map (fun f => f_table_count [tI f, tI [2, 0, 0]] S) = (forms 2).map (fun f => .ok (.int ((tc f [2, 0, 0] : Nat) : Int), S)) := by kernel_rfl
theorem hv3 (S : Sto) : (forms 3).map (fun f => (forms 3).map (fun g => f_heavier [tI f, tI g] S)) = (forms 3).map (fun f => (forms 3).map (fun g => .ok (.bl (hvy f g), S))) := by kernel_rfl
theorem si3 : (comps 3).all (sideB 3) = true := by decide +kernel
theorem cl3 : (forms 3).all (fun f => decide (tilt f ∈ forms 3)) = true := by decide +kernel
theorem tc3_3 (S : Sto) : (forms 3).map (fun f => f_table_count [tI f, tI [3]] S) = (forms 3).map (fun f => .ok (.int ((tc f [3] : Nat) : Int), S)) := by kernel_rfl
theorem tc3_03 (S : Sto) : (forms 3).map (fun f => f_table_count [tI f, tI [0, 3]] S) = (forms 3).map (fun f => .ok (.int ((tc f [0, 3] : Nat) : Int), S)) := by kernel_rfl
theorem tc3_12 (S : Sto) : (forms 3).map (fun f => f_table_count [tI f, tI [1, 2]] S) = (forms 3).map (fun f => .ok (.int ((tc f [1, 2] : Nat) : Int), S)) := by kernel_rfl
theorem tc3_21 (S : Sto) : (forms 3).map (fun f => f_table_count [tI f, tI [2, 1]] S) = (forms 3).map (fun f => .ok (.int ((tc f [2, 1] : Nat) : Int), S)) := by kernel_rfl
theorem tc3_30 (S : Sto) : (forms 3).map (fun f => f_table_count [tI f, tI [3, 0]] S) = (forms 3).map (fun f => .ok (.int ((tc f [3, 0] : Nat) : Int), S)) := by kernel_rfl
theorem tc3_003 (S : Sto) : (forms 3).map (fun f => f_table_count [tI f, tI [0, 0, 3]] S) = (forms 3).map (fun f => .ok (.int ((tc f [0, 0, 3] : Nat) : Int), S)) := by kernel_rfl
theorem tc3_012 (S : Sto) : (forms 3).map (fun f => f_table_count [tI f, tI [0, 1, 2]] S) = (forms 3).map (fun f => .ok (.int ((tc f [0, 1, 2] : Nat) : Int), S)) := by kernel_rfl
theorem tc3_021 (S : Sto) : (forms 3).map (fun f => f_table_count [tI f, tI [0, 2, 1]] S) = (forms 3).map (fun f => .ok (.int ((tc f [0, 2, 1] : Nat) : Int), S)) := by kernel_rfl
theorem tc3_030 (S : Sto) : (forms 3).map (fun f => f_table_count [tI f, tI [0, 3, 0]] S) = (forms 3).map (fun f => .ok (.int ((tc f [0, 3, 0] : Nat) : Int), S)) := by kernel_rfl
theorem tc3_102 (S : Sto) : (forms 3).map (fun f => f_table_count [tI f, tI [1, 0, 2]] S) = (forms 3).map (fun f => .ok (.int ((tc f [1, 0, 2] : Nat) : Int), S)) := by kernel_rfl
theorem tc3_111 (S : Sto) : (forms 3).map (fun f => f_table_count [tI f, tI [1, 1, 1]] S) = (forms 3).map (fun f => .ok (.int ((tc f [1, 1, 1] : Nat) : Int), S)) := by kernel_rfl
theorem tc3_120 (S : Sto) : (forms 3).map (fun f => f_table_count [tI f, tI [1, 2, 0]] S) = (forms 3).map (fun f => .ok (.int ((tc f [1, 2, 0] : Nat) : Int), S)) := by kernel_rfl
theorem tc3_201 (S : Sto) : (forms 3).map (fun f => f_table_count [tI f, tI [2, 0, 1]] S) = (forms 3).map (fun f => .ok (.int ((tc f [2, 0, 1] : Nat) : Int), S)) := by kernel_rfl
theorem tc3_210 (S : Sto) : (forms 3).map (fun f => f_table_count [tI f, tI [2, 1, 0]] S) = (forms 3).map (fun f => .ok (.int ((tc f [2, 1, 0] : Nat) : Int), S)) := by kernel_rfl
theorem tc3_300 (S : Sto) : (forms 3).map (fun f => f_table_count [tI f, tI [3, 0, 0]] S) = (forms 3).map (fun f => .ok (.int ((tc f [3, 0, 0] : Nat) : Int), S)) := by kernel_rfl
theorem hv4 (S : Sto) : (forms 4).map (fun f => (forms 4).map (fun g => f_heavier [tI f, tI g] S)) = (forms 4).map (fun f => (forms 4).map (fun g => .ok (.bl (hvy f g), S))) := by kernel_rfl
theorem si4 : (comps 4).all (sideB 4) = true := by decide +kernel
theorem cl4 : (forms 4).all (fun f => decide (tilt f ∈ forms 4)) = true := by decide +kernel
theorem tc4_4 (S : Sto) : (forms 4).map (fun f => f_table_count [tI f, tI [4]] S) = (forms 4).map (fun f => .ok (.int ((tc f [4] : Nat) : Int), S)) := by kernel_rfl
theorem tc4_04 (S : Sto) : (forms 4).map (fun f => f_table_count [tI f, tI [0, 4]] S) = (forms 4).map (fun f => .ok (.int ((tc f [0, 4] : Nat) : Int), S)) := by kernel_rfl
theorem tc4_13 (S : Sto) : (forms 4).map (fun f => f_table_count [tI f, tI [1, 3]] S) = (forms 4).map (fun f => .ok (.int ((tc f [1, 3] : Nat) : Int), S)) := by kernel_rfl
theorem tc4_22 (S : Sto) : (forms 4).map (fun f => f_table_count [tI f, tI [2, 2]] S) = (forms 4).map (fun f => .ok (.int ((tc f [2, 2] : Nat) : Int), S)) := by kernel_rfl
theorem tc4_31 (S : Sto) : (forms 4).map (fun f => f_table_count [tI f, tI [3, 1]] S) = (forms 4).map (fun f => .ok (.int ((tc f [3, 1] : Nat) : Int), S)) := by kernel_rfl
theorem tc4_40 (S : Sto) : (forms 4).map (fun f => f_table_count [tI f, tI [4, 0]] S) = (forms 4).map (fun f => .ok (.int ((tc f [4, 0] : Nat) : Int), S)) := by kernel_rfl
theorem tc4_004 (S : Sto) : (forms 4).map (fun f => f_table_count [tI f, tI [0, 0, 4]] S) = (forms 4).map (fun f => .ok (.int ((tc f [0, 0, 4] : Nat) : Int), S)) := by kernel_rfl
theorem tc4_013 (S : Sto) : (forms 4).map (fun f => f_table_count [tI f, tI [0, 1, 3]] S) = (forms 4).map (fun f => .ok (.int ((tc f [0, 1, 3] : Nat) : Int), S)) := by kernel_rfl
theorem tc4_022 (S : Sto) : (forms 4).map (fun f => f_table_count [tI f, tI [0, 2, 2]] S) = (forms 4).map (fun f => .ok (.int ((tc f [0, 2, 2] : Nat) : Int), S)) := by kernel_rfl
theorem tc4_031 (S : Sto) : (forms 4).map (fun f => f_table_count [tI f, tI [0, 3, 1]] S) = (forms 4).map (fun f => .ok (.int ((tc f [0, 3, 1] : Nat) : Int), S)) := by kernel_rfl
theorem tc4_040 (S : Sto) : (forms 4).map (fun f => f_table_count [tI f, tI [0, 4, 0]] S) = (forms 4).map (fun f => .ok (.int ((tc f [0, 4, 0] : Nat) : Int), S)) := by kernel_rfl
theorem tc4_103 (S : Sto) : (forms 4).map (fun f => f_table_count [tI f, tI [1, 0, 3]] S) = (forms 4).map (fun f => .ok (.int ((tc f [1, 0, 3] : Nat) : Int), S)) := by kernel_rfl
theorem tc4_112 (S : Sto) : (forms 4).map (fun f => f_table_count [tI f, tI [1, 1, 2]] S) = (forms 4).map (fun f => .ok (.int ((tc f [1, 1, 2] : Nat) : Int), S)) := by kernel_rfl
theorem tc4_121 (S : Sto) : (forms 4).map (fun f => f_table_count [tI f, tI [1, 2, 1]] S) = (forms 4).map (fun f => .ok (.int ((tc f [1, 2, 1] : Nat) : Int), S)) := by kernel_rfl
theorem tc4_130 (S : Sto) : (forms 4).map (fun f => f_table_count [tI f, tI [1, 3, 0]] S) = (forms 4).map (fun f => .ok (.int ((tc f [1, 3, 0] : Nat) : Int), S)) := by kernel_rfl
theorem tc4_202 (S : Sto) : (forms 4).map (fun f => f_table_count [tI f, tI [2, 0, 2]] S) = (forms 4).map (fun f => .ok (.int ((tc f [2, 0, 2] : Nat) : Int), S)) := by kernel_rfl
theorem tc4_211 (S : Sto) : (forms 4).map (fun f => f_table_count [tI f, tI [2, 1, 1]] S) = (forms 4).map (fun f => .ok (.int ((tc f [2, 1, 1] : Nat) : Int), S)) := by kernel_rfl
theorem tc4_220 (S : Sto) : (forms 4).map (fun f => f_table_count [tI f, tI [2, 2, 0]] S) = (forms 4).map (fun f => .ok (.int ((tc f [2, 2, 0] : Nat) : Int), S)) := by kernel_rfl
theorem tc4_301 (S : Sto) : (forms 4).map (fun f => f_table_count [tI f, tI [3, 0, 1]] S) = (forms 4).map (fun f => .ok (.int ((tc f [3, 0, 1] : Nat) : Int), S)) := by kernel_rfl
theorem tc4_310 (S : Sto) : (forms 4).map (fun f => f_table_count [tI f, tI [3, 1, 0]] S) = (forms 4).map (fun f => .ok (.int ((tc f [3, 1, 0] : Nat) : Int), S)) := by kernel_rfl
theorem tc4_400 (S : Sto) : (forms 4).map (fun f => f_table_count [tI f, tI [4, 0, 0]] S) = (forms 4).map (fun f => .ok (.int ((tc f [4, 0, 0] : Nat) : Int), S)) := by kernel_rfl
end K56
set_option Elab.async false
set_option linter.all false
set_option maxRecDepth 100000
set_option maxHeartbeats 0
namespace K56
open PySem PySem.Spec PyProof.Rows L2 J
theorem hv5 (S : Sto) : (forms 5).map (fun f => (forms 5).map (fun g => f_heavier [tI f, tI g] S)) = (forms 5).map (fun f => (forms 5).map (fun g => .ok (.bl (hvy f g), S))) := by kernel_rfl
theorem si5 : (comps 5).all (sideB 5) = true := by decide +kernel
theorem cl5 : (forms 5).all (fun f => decide (tilt f ∈ forms 5)) = true := by decide +kernel
theorem tc5_5 (S : Sto) : (forms 5).map (fun f => f_table_count [tI f, tI [5]] S) = (forms 5).map (fun f => .ok (.int ((tc f [5] : Nat) : Int), S)) := by kernel_rfl
theorem tc5_05 (S : Sto) : (forms 5).map (fun f => f_table_count [tI f, tI [0, 5]] S) = (forms 5).map (fun f => .ok (.int ((tc f [0, 5] : Nat) : Int), S)) := by kernel_rfl
theorem tc5_14 (S : Sto) : (forms 5).map (fun f => f_table_count [tI f, tI [1, 4]] S) = (forms 5).map (fun f => .ok (.int ((tc f [1, 4] : Nat) : Int), S)) := by kernel_rfl
theorem tc5_23 (S : Sto) : (forms 5).map (fun f => f_table_count [tI f, tI [2, 3]] S) = (forms 5).map (fun f => .ok (.int ((tc f [2, 3] : Nat) : Int), S)) := by kernel_rfl
theorem tc5_32 (S : Sto) : (forms 5).map (fun f => f_table_count [tI f, tI [3, 2]] S) = (forms 5).map (fun f => .ok (.int ((tc f [3, 2] : Nat) : Int), S)) := by kernel_rfl
theorem tc5_41 (S : Sto) : (forms 5).map (fun f => f_table_count [tI f, tI [4, 1]] S) = (forms 5).map (fun f => .ok (.int ((tc f [4, 1] : Nat) : Int), S)) := by kernel_rfl
theorem tc5_50 (S : Sto) : (forms 5).map (fun f => f_table_count [tI f, tI [5, 0]] S) = (forms 5).map (fun f => .ok (.int ((tc f [5, 0] : Nat) : Int), S)) := by kernel_rfl
theorem tc5_005 (S : Sto) : (forms 5).map (fun f => f_table_count [tI f, tI [0, 0, 5]] S) = (forms 5).map (fun f => .ok (.int ((tc f [0, 0, 5] : Nat) : Int), S)) := by kernel_rfl
theorem tc5_014 (S : Sto) : (forms 5).map (fun f => f_table_count [tI f, tI [0, 1, 4]] S) = (forms 5).map (fun f => .ok (.int ((tc f [0, 1, 4] : Nat) : Int), S)) := by kernel_rfl
theorem tc5_023 (S : Sto) : (forms 5).map (fun f => f_table_count [tI f, tI [0, 2, 3]] S) = (forms 5).map (fun f => .ok (.int ((tc f [0, 2, 3] : Nat) : Int), S)) := by kernel_rfl
theorem tc5_032 (S : Sto) : (forms 5).map (fun f => f_table_count [tI f, tI [0, 3, 2]] S) = (forms 5).map (fun f => .ok (.int ((tc f [0, 3, 2] : Nat) : Int), S)) := by kernel_rfl
theorem tc5_041 (S : Sto) : (forms 5).map (fun f => f_table_count [tI f, tI [0, 4, 1]] S) = (forms 5).map (fun f => .ok (.int ((tc f [0, 4, 1] : Nat) : Int), S)) := by kernel_rfl
theorem tc5_050 (S : Sto) : (forms 5).map (fun f => f_table_count [tI f, tI [0, 5, 0]] S) = (forms 5).map (fun f => .ok (.int ((tc f [0, 5, 0] : Nat) : Int), S)) := by kernel_rfl
theorem tc5_104 (S : Sto) : (forms 5).map (fun f => f_table_count [tI f, tI [1, 0, 4]] S) = (forms 5).map (fun f => .ok (.int ((tc f [1, 0, 4] : Nat) : Int), S)) := by kernel_rfl
theorem tc5_113 (S : Sto) : (forms 5).map (fun f => f_table_count [tI f, tI [1, 1, 3]] S) = (forms 5).map (fun f => .ok (.int ((tc f [1, 1, 3] : Nat) : Int), S)) := by kernel_rfl
theorem tc5_122 (S : Sto) : (forms 5).map (fun f => f_table_count [tI f, tI [1, 2, 2]] S) = (forms 5).map (fun f => .ok (.int ((tc f [1, 2, 2] : Nat) : Int), S)) := by kernel_rfl
theorem tc5_131 (S : Sto) : (forms 5).map (fun f => f_table_count [tI f, tI [1, 3, 1]] S) = (forms 5).map (fun f => .ok (.int ((tc f [1, 3, 1] : Nat) : Int), S)) := by kernel_rfl
theorem tc5_140 (S : Sto) : (forms 5).map (fun f => f_table_count [tI f, tI [1, 4, 0]] S) = (forms 5).map (fun f => .ok (.int ((tc f [1, 4, 0] : Nat) : Int), S)) := by kernel_rfl
theorem tc5_203 (S : Sto) : (forms 5).map (fun f => f_table_count [tI f, tI [2, 0, 3]] S) = (forms 5).map (fun f => .ok (.int ((tc f [2, 0, 3] : Nat) : Int), S)) := by kernel_rfl
theorem tc5_212 (S : Sto) : (forms 5).map (fun f => f_table_count [tI f, tI [2, 1, 2]] S) = (forms 5).map (fun f => .ok (.int ((tc f [2, 1, 2] : Nat) : Int), S)) := by kernel_rfl
theorem tc5_221 (S : Sto) : (forms 5).map (fun f => f_table_count [tI f, tI [2, 2, 1]] S) = (forms 5).map (fun f => .ok (.int ((tc f [2, 2, 1] : Nat) : Int), S)) := by kernel_rfl
theorem tc5_230 (S : Sto) : (forms 5).map (fun f => f_table_count [tI f, tI [2, 3, 0]] S) = (forms 5).map (fun f => .ok (.int ((tc f [2, 3, 0] : Nat) : Int), S)) := by kernel_rfl
theorem tc5_302 (S : Sto) : (forms 5).map (fun f => f_table_count [tI f, tI [3, 0, 2]] S) = (forms 5).map (fun f => .ok (.int ((tc f [3, 0, 2] : Nat) : Int), S)) := by kernel_rfl
theorem tc5_311 (S : Sto) : (forms 5).map (fun f => f_table_count [tI f, tI [3, 1, 1]] S) = (forms 5).map (fun f => .ok (.int ((tc f [3, 1, 1] : Nat) : Int), S)) := by kernel_rfl
theorem tc5_320 (S : Sto) : (forms 5).map (fun f => f_table_count [tI f, tI [3, 2, 0]] S) = (forms 5).map (fun f => .ok (.int ((tc f [3, 2, 0] : Nat) : Int), S)) := by kernel_rfl
theorem tc5_401 (S : Sto) : (forms 5).map (fun f => f_table_count [tI f, tI [4, 0, 1]] S) = (forms 5).map (fun f => .ok (.int ((tc f [4, 0, 1] : Nat) : Int), S)) := by kernel_rfl
theorem tc5_410 (S : Sto) : (forms 5).map (fun f => f_table_count [tI f, tI [4, 1, 0]] S) = (forms 5).map (fun f => .ok (.int ((tc f [4, 1, 0] : Nat) : Int), S)) := by kernel_rfl
theorem tc5_500 (S : Sto) : (forms 5).map (fun f => f_table_count [tI f, tI [5, 0, 0]] S) = (forms 5).map (fun f => .ok (.int ((tc f [5, 0, 0] : Nat) : Int), S)) := by kernel_rfl
end K56
set_option Elab.async false
set_option linter.all false
set_option maxRecDepth 100000
set_option maxHeartbeats 0
namespace K56
open PySem PySem.Spec PyProof.Rows L2 J
theorem pa0_0 : (comps 0).all (pairB 0 [0]) = true := by decide +kernel
theorem pa0_00 : (comps 0).all (pairB 0 [0, 0]) = true := by decide +kernel
theorem pa0_000 : (comps 0).all (pairB 0 [0, 0, 0]) = true := by decide +kernel
theorem pa1_1 : (comps 1).all (pairB 1 [1]) = true := by decide +kernel
theorem pa1_01 : (comps 1).all (pairB 1 [0, 1]) = true := by decide +kernel
theorem pa1_10 : (comps 1).all (pairB 1 [1, 0]) = true := by decide +kernel
theorem pa1_001 : (comps 1).all (pairB 1 [0, 0, 1]) = true := by decide +kernel
theorem pa1_010 : (comps 1).all (pairB 1 [0, 1, 0]) = true := by decide +kernel
theorem pa1_100 : (comps 1).all (pairB 1 [1, 0, 0]) = true := by decide +kernel
theorem pa2_2 : (comps 2).all (pairB 2 [2]) = true := by decide +kernel
theorem pa2_02 : (comps 2).all (pairB 2 [0, 2]) = true := by decide +kernel
theorem pa2_11 : (comps 2).all (pairB 2 [1, 1]) = true := by decide +kernel
theorem pa2_20 : (comps 2).all (pairB 2 [2, 0]) = true := by decide +kernel
theorem pa2_002 : (comps 2).all (pairB 2 [0, 0, 2]) = true := by decide +kernel
theorem pa2_011 : (comps 2).all (pairB 2 [0, 1, 1]) = true := by decide +kernel
theorem pa2_020 : (comps 2).all (pairB 2 [0, 2, 0]) = true := by decide +kernel
theorem pa2_101 : (comps 2).all (pairB 2 [1, 0, 1]) = true := by decide +kernel
theorem pa2_110 : (comps 2).all (pairB 2 [1, 1, 0]) = true := by decide +kernel
theorem pa2_200 : (comps 2).all (pairB 2 [2, 0, 0]) = true := by decide +kernel
theorem pa3_3 : (comps 3).all (pairB 3 [3]) = true := by decide +kernel
theorem pa3_03 : (comps 3).all (pairB 3 [0, 3]) = true := by decide +kernel
theorem pa3_12 : (comps 3).all (pairB 3 [1, 2]) = true := by decide +kernel
theorem pa3_21 : (comps 3).all (pairB 3 [2, 1]) = true := by decide +kernel
theorem pa3_30 : (comps 3).all (pairB 3 [3, 0]) = true := by decide +kernel
theorem pa3_003 : (comps 3).all (pairB 3 [0, 0, 3]) = true := by decide +kernel
theorem pa3_012 : (comps 3).all (pairB 3 [0, 1, 2]) = true := by decide +kernel
theorem pa3_021 : (comps 3).all (pairB 3 [0, 2, 1]) = true := by decide +kernel
theorem pa3_030 : (comps 3).all (pairB 3 [0, 3, 0]) = true := by decide +kernel
theorem pa3_102 : (comps 3).all (pairB 3 [1, 0, 2]) = true := by decide +kernel
theorem pa3_111 : (comps 3).all (pairB 3 [1, 1, 1]) = true := by decide +kernel
theorem pa3_120 : (comps 3).all (pairB 3 [1, 2, 0]) = true := by decide +kernel
theorem pa3_201 : (comps 3).all (pairB 3 [2, 0, 1]) = true := by decide +kernel
theorem pa3_210 : (comps 3).all (pairB 3 [2, 1, 0]) = true := by decide +kernel
theorem pa3_300 : (comps 3).all (pairB 3 [3, 0, 0]) = true := by decide +kernel
theorem pa4_4 : (comps 4).all (pairB 4 [4]) = true := by decide +kernel
theorem pa4_04 : (comps 4).all (pairB 4 [0, 4]) = true := by decide +kernel
theorem pa4_13 : (comps 4).all (pairB 4 [1, 3]) = true := by decide +kernel
theorem pa4_22 : (comps 4).all (pairB 4 [2, 2]) = true := by decide +kernel
theorem pa4_31 : (comps 4).all (pairB 4 [3, 1]) = true := by decide +kernel
theorem pa4_40 : (comps 4).all (pairB 4 [4, 0]) = true := by decide +kernel
theorem pa4_004 : (comps 4).all (pairB 4 [0, 0, 4]) = true := by decide +kernel
theorem pa4_013 : (comps 4).all (pairB 4 [0, 1, 3]) = true := by decide +kernel
theorem pa4_022 : (comps 4).all (pairB 4 [0, 2, 2]) = true := by decide +kernel
theorem pa4_031 : (comps 4).all (pairB 4 [0, 3, 1]) = true := by decide +kernel
theorem pa4_040 : (comps 4).all (pairB 4 [0, 4, 0]) = true := by decide +kernel
theorem pa4_103 : (comps 4).all (pairB 4 [1, 0, 3]) = true := by decide +kernel
theorem pa4_112 : (comps 4).all (pairB 4 [1, 1, 2]) = true := by decide +kernel
theorem pa4_121 : (comps 4).all (pairB 4 [1, 2, 1]) = true := by decide +kernel
theorem pa4_130 : (comps 4).all (pairB 4 [1, 3, 0]) = true := by decide +kernel
theorem pa4_202 : (comps 4).all (pairB 4 [2, 0, 2]) = true := by decide +kernel
theorem pa4_211 : (comps 4).all (pairB 4 [2, 1, 1]) = true := by decide +kernel
theorem pa4_220 : (comps 4).all (pairB 4 [2, 2, 0]) = true := by decide +kernel
theorem pa4_301 : (comps 4).all (pairB 4 [3, 0, 1]) = true := by decide +kernel
theorem pa4_310 : (comps 4).all (pairB 4 [3, 1, 0]) = true := by decide +kernel
theorem pa4_400 : (comps 4).all (pairB 4 [4, 0, 0]) = true := by decide +kernel
end K56
set_option Elab.async false
set_option linter.all false
set_option maxRecDepth 100000
set_option maxHeartbeats 0
namespace K56
open PySem PySem.Spec PyProof.Rows L2 J
theorem pa5_5 : (comps 5).all (pairB 5 [5]) = true := by decide +kernel
theorem pa5_05 : (comps 5).all (pairB 5 [0, 5]) = true := by decide +kernel
theorem pa5_14 : (comps 5).all (pairB 5 [1, 4]) = true := by decide +kernel
theorem pa5_23 : (comps 5).all (pairB 5 [2, 3]) = true := by decide +kernel
theorem pa5_32 : (comps 5).all (pairB 5 [3, 2]) = true := by decide +kernel
theorem pa5_41 : (comps 5).all (pairB 5 [4, 1]) = true := by decide +kernel
theorem pa5_50 : (comps 5).all (pairB 5 [5, 0]) = true := by decide +kernel
theorem pa5_005 : (comps 5).all (pairB 5 [0, 0, 5]) = true := by decide +kernel
theorem pa5_014 : (comps 5).all (pairB 5 [0, 1, 4]) = true := by decide +kernel
theorem pa5_023 : (comps 5).all (pairB 5 [0, 2, 3]) = true := by decide +kernel
end K56
set_option Elab.async false
set_option linter.all false
set_option maxRecDepth 100000
set_option maxHeartbeats 0
namespace K56
open PySem PySem.Spec PyProof.Rows L2 J
theorem pa5_032 : (comps 5).all (pairB 5 [0, 3, 2]) = true := by decide +kernel
theorem pa5_041 : (comps 5).all (pairB 5 [0, 4, 1]) = true := by decide +kernel
theorem pa5_050 : (comps 5).all (pairB 5 [0, 5, 0]) = true := by decide +kernel
theorem pa5_104 : (comps 5).all (pairB 5 [1, 0, 4]) = true := by decide +kernel
theorem pa5_113 : (comps 5).all (pairB 5 [1, 1, 3]) = true := by decide +kernel
theorem pa5_122 : (comps 5).all (pairB 5 [1, 2, 2]) = true := by decide +kernel
theorem pa5_131 : (comps 5).all (pairB 5 [1, 3, 1]) = true := by decide +kernel
theorem pa5_140 : (comps 5).all (pairB 5 [1, 4, 0]) = true := by decide +kernel
theorem pa5_203 : (comps 5).all (pairB 5 [2, 0, 3]) = true := by decide +kernel
end K56
set_option Elab.async false
set_option linter.all false
set_option maxRecDepth 100000
set_option maxHeartbeats 0
namespace K56
open PySem PySem.Spec PyProof.Rows L2 J
theorem pa5_212 : (comps 5).all (pairB 5 [2, 1, 2]) = true := by decide +kernel
theorem pa5_221 : (comps 5).all (pairB 5 [2, 2, 1]) = true := by decide +kernel
theorem pa5_230 : (comps 5).all (pairB 5 [2, 3, 0]) = true := by decide +kernel
theorem pa5_302 : (comps 5).all (pairB 5 [3, 0, 2]) = true := by decide +kernel
theorem pa5_311 : (comps 5).all (pairB 5 [3, 1, 1]) = true := by decide +kernel
theorem pa5_320 : (comps 5).all (pairB 5 [3, 2, 0]) = true := by decide +kernel
theorem pa5_401 : (comps 5).all (pairB 5 [4, 0, 1]) = true := by decide +kernel
theorem pa5_410 : (comps 5).all (pairB 5 [4, 1, 0]) = true := by decide +kernel
theorem pa5_500 : (comps 5).all (pairB 5 [5, 0, 0]) = true := by decide +kernel
end K56
set_option Elab.async false
set_option linter.all false
set_option maxRecDepth 100000
set_option maxHeartbeats 0
namespace K56
open PySem PySem.Spec PyProof.Rows L2 J
theorem comps0 : comps 0 = [[0], [0, 0], [0, 0, 0]] := by decide +kernel
theorem tab0 : Tab 0 := Tab.of forms_ok0 tilt_ok0 cl0 (comps0 ▸ List.forall_mem_cons.mpr ⟨tc0_0, List.forall_mem_cons.mpr ⟨tc0_00, List.forall_mem_cons.mpr ⟨tc0_000, fun _ h => nomatch h⟩⟩⟩) hv0 si0 (fun d hd => by
  have h : ∀ d ∈ [[0], [0, 0], [0, 0, 0]], (comps 0).all (pairB 0 d) = true := List.forall_mem_cons.mpr ⟨pa0_0, List.forall_mem_cons.mpr ⟨pa0_00, List.forall_mem_cons.mpr ⟨pa0_000, fun _ h => nomatch h⟩⟩⟩
  exact h d (comps0 ▸ hd))
theorem comps1 : comps 1 = [[1], [0, 1], [1, 0], [0, 0, 1], [0, 1, 0], [1, 0, 0]] := by decide +kernel
theorem tab1 : Tab 1 := Tab.of forms_ok1 tilt_ok1 cl1 (comps1 ▸ List.forall_mem_cons.mpr ⟨tc1_1, List.forall_mem_cons.mpr ⟨tc1_01, List.forall_mem_cons.mpr ⟨tc1_10, List.forall_mem_cons.mpr ⟨tc1_001, List.forall_mem_cons.mpr ⟨tc1_010, List.forall_mem_cons.mpr ⟨tc1_100, fun _ h => nomatch h⟩⟩⟩⟩⟩⟩) hv1 si1 (fun d hd => by
  have h : ∀ d ∈ [[1], [0, 1], [1, 0], [0, 0, 1], [0, 1, 0], [1, 0, 0]], (comps 1).all (pairB 1 d) = true := List.forall_mem_cons.mpr ⟨pa1_1, List.forall_mem_cons.mpr ⟨pa1_01, List.forall_mem_cons.mpr ⟨pa1_10, List.forall_mem_cons.mpr ⟨pa1_001, List.forall_mem_cons.mpr ⟨pa1_010, List.forall_mem_cons.mpr ⟨pa1_100, fun _ h => nomatch h⟩⟩⟩⟩⟩⟩
  exact h d (comps1 ▸ hd))
theorem comps2 : comps 2 = [[2], [0, 2], [1, 1], [2, 0], [0, 0, 2], [0, 1, 1], [0, 2, 0], [1, 0, 1], [1, 1, 0], [2, 0, 0]] := by decide +kernel
theorem tab2 : Tab 2 := Tab.of forms_ok2 tilt_ok2 cl2 (comps2 ▸ List.forall_mem_cons.mpr ⟨tc2_2, List.forall_mem_cons.mpr ⟨tc2_02, List.forall_mem_cons.mpr ⟨tc2_11, List.forall_mem_cons.mpr ⟨tc2_20, List.forall_mem_cons.mpr ⟨tc2_002, List.forall_mem_cons.mpr ⟨tc2_011, List.forall_mem_cons.mpr ⟨tc2_020, List.forall_mem_cons.mpr ⟨tc2_101, List.forall_mem_cons.mpr ⟨tc2_110, List.forall_mem_cons.mpr ⟨tc2_200, fun _ h => nomatch h⟩⟩⟩⟩⟩⟩⟩⟩⟩⟩) hv2 si2 (fun d hd => by
  have h : ∀ d ∈ [[2], [0, 2], [1, 1], [2, 0], [0, 0, 2], [0, 1, 1], [0, 2, 0], [1, 0, 1], [1, 1, 0], [2, 0, 0]], (comps 2).all (pairB 2 d) = true := List.forall_mem_cons.mpr ⟨pa2_2, List.forall_mem_cons.mpr ⟨pa2_02, List.forall_mem_cons.mpr ⟨pa2_11, List.forall_mem_cons.mpr ⟨pa2_20, List.forall_mem_cons.mpr ⟨pa2_002, List.forall_mem_cons.mpr ⟨pa2_011, List.forall_mem_cons.mpr ⟨pa2_020, List.forall_mem_cons.mpr ⟨pa2_101, List.forall_mem_cons.mpr ⟨pa2_110, List.forall_mem_cons.mpr ⟨pa2_200, fun _ h => nomatch h⟩⟩⟩⟩⟩⟩⟩⟩⟩⟩
  exact h d (comps2 ▸ hd))
theorem comps3 : comps 3 = [[3], [0, 3], [1, 2], [2, 1], [3, 0], [0, 0, 3], [0, 1, 2], [0, 2, 1], [0, 3, 0], [1, 0, 2], [1, 1, 1], [1, 2, 0], [2, 0, 1], [2, 1, 0], [3, 0, 0]] := by decide +kernel
theorem tab3 : Tab 3 := Tab.of forms_ok3 tilt_ok3 cl3 (comps3 ▸ List.forall_mem_cons.mpr ⟨tc3_3, List.forall_mem_cons.mpr ⟨tc3_03, List.forall_mem_cons.mpr ⟨tc3_12, List.forall_mem_cons.mpr ⟨tc3_21, List.forall_mem_cons.mpr ⟨tc3_30, List.forall_mem_cons.mpr ⟨tc3_003, List.forall_mem_cons.mpr ⟨tc3_012, List.forall_mem_cons.mpr ⟨tc3_021, List.forall_mem_cons.mpr ⟨tc3_030, List.forall_mem_cons.mpr ⟨tc3_102, List.forall_mem_cons.mpr ⟨tc3_111, List.forall_mem_cons.mpr ⟨tc3_120, List.forall_mem_cons.mpr ⟨tc3_201, List.forall_mem_cons.mpr ⟨tc3_210, List.forall_mem_cons.mpr ⟨tc3_300, fun _ h => nomatch h⟩⟩⟩⟩⟩⟩⟩⟩⟩⟩⟩⟩⟩⟩⟩) hv3 si3 (fun d hd => by
  have h : ∀ d ∈ [[3], [0, 3], [1, 2], [2, 1], [3, 0], [0, 0, 3], [0, 1, 2], [0, 2, 1], [0, 3, 0], [1, 0, 2], [1, 1, 1], [1, 2, 0], [2, 0, 1], [2, 1, 0], [3, 0, 0]], (comps 3).all (pairB 3 d) = true := List.forall_mem_cons.mpr ⟨pa3_3, List.forall_mem_cons.mpr ⟨pa3_03, List.forall_mem_cons.mpr ⟨pa3_12, List.forall_mem_cons.mpr ⟨pa3_21, List.forall_mem_cons.mpr ⟨pa3_30, List.forall_mem_cons.mpr ⟨pa3_003, List.forall_mem_cons.mpr ⟨pa3_012, List.forall_mem_cons.mpr ⟨pa3_021, List.forall_mem_cons.mpr ⟨pa3_030, List.forall_mem_cons.mpr ⟨pa3_102, List.forall_mem_cons.mpr ⟨pa3_111, List.forall_mem_cons.mpr ⟨pa3_120, List.forall_mem_cons.mpr ⟨pa3_201, List.forall_mem_cons.mpr ⟨pa3_210, List.forall_mem_cons.mpr ⟨pa3_300, fun _ h => nomatch h⟩⟩⟩⟩⟩⟩⟩⟩⟩⟩⟩⟩⟩⟩⟩
  exact h d (comps3 ▸ hd))
theorem comps4 : comps 4 = [[4], [0, 4], [1, 3], [2, 2], [3, 1], [4, 0], [0, 0, 4], [0, 1, 3], [0, 2, 2], [0, 3, 1], [0, 4, 0], [1, 0, 3], [1, 1, 2], [1, 2, 1], [1, 3, 0], [2, 0, 2], [2, 1, 1], [2, 2, 0], [3, 0, 1], [3, 1, 0], [4, 0, 0]] := by decide +kernel
theorem tab4 : Tab 4 := Tab.of forms_ok4 tilt_ok4 cl4 (comps4 ▸ List.forall_mem_cons.mpr ⟨tc4_4, List.forall_mem_cons.mpr ⟨tc4_04, List.forall_mem_cons.mpr ⟨tc4_13, List.forall_mem_cons.mpr ⟨tc4_22, List.forall_mem_cons.mpr ⟨tc4_31, List.forall_mem_cons.mpr ⟨tc4_40, List.forall_mem_cons.mpr ⟨tc4_004, List.forall_mem_cons.mpr ⟨tc4_013, List.forall_mem_cons.mpr ⟨tc4_022, List.forall_mem_cons.mpr ⟨tc4_031, List.forall_mem_cons.mpr ⟨tc4_040, List.forall_mem_cons.mpr ⟨tc4_103, List.forall_mem_cons.mpr ⟨tc4_112, List.forall_mem_cons.mpr ⟨tc4_121, List.forall_mem_cons.mpr ⟨tc4_130, List.forall_mem_cons.mpr ⟨tc4_202, List.forall_mem_cons.mpr ⟨tc4_211, List.forall_mem_cons.mpr ⟨tc4_220, List.forall_mem_cons.mpr ⟨tc4_301, List.forall_mem_cons.mpr ⟨tc4_310, List.forall_mem_cons.mpr ⟨tc4_400, fun _ h => nomatch h⟩⟩⟩⟩⟩⟩⟩⟩⟩⟩⟩⟩⟩⟩⟩⟩⟩⟩⟩⟩⟩) hv4 si4 (fun d hd => by
  have h : ∀ d ∈ [[4], [0, 4], [1, 3], [2, 2], [3, 1], [4, 0], [0, 0, 4], [0, 1, 3], [0, 2, 2], [0, 3, 1], [0, 4, 0], [1, 0, 3], [1, 1, 2], [1, 2, 1], [1, 3, 0], [2, 0, 2], [2, 1, 1], [2, 2, 0], [3, 0, 1], [3, 1, 0], [4, 0, 0]], (comps 4).all (pairB 4 d) = true := List.forall_mem_cons.mpr ⟨pa4_4, List.forall_mem_cons.mpr ⟨pa4_04, List.forall_mem_cons.mpr ⟨pa4_13, List.forall_mem_cons.mpr ⟨pa4_22, List.forall_mem_cons.mpr ⟨pa4_31, List.forall_mem_cons.mpr ⟨pa4_40, List.forall_mem_cons.mpr ⟨pa4_004, List.forall_mem_cons.mpr ⟨pa4_013, List.forall_mem_cons.mpr ⟨pa4_022, List.forall_mem_cons.mpr ⟨pa4_031, List.forall_mem_cons.mpr ⟨pa4_040, List.forall_mem_cons.mpr ⟨pa4_103, List.forall_mem_cons.mpr ⟨pa4_112, List.forall_mem_cons.mpr ⟨pa4_121, List.forall_mem_cons.mpr ⟨pa4_130, List.forall_mem_cons.mpr ⟨pa4_202, List.forall_mem_cons.mpr ⟨pa4_211, List.forall_mem_cons.mpr ⟨pa4_220, List.forall_mem_cons.mpr ⟨pa4_301, List.forall_mem_cons.mpr ⟨pa4_310, List.forall_mem_cons.mpr ⟨pa4_400, fun _ h => nomatch h⟩⟩⟩⟩⟩⟩⟩⟩⟩⟩⟩⟩⟩⟩⟩⟩⟩⟩⟩⟩⟩
  exact h d (comps4 ▸ hd))
theorem comps5 : comps 5 = [[5], [0, 5], [1, 4], [2, 3], [3, 2], [4, 1], [5, 0], [0, 0, 5], [0, 1, 4], [0, 2, 3], [0, 3, 2], [0, 4, 1], [0, 5, 0], [1, 0, 4], [1, 1, 3], [1, 2, 2], [1, 3, 1], [1, 4, 0], [2, 0, 3], [2, 1, 2], [2, 2, 1], [2, 3, 0], [3, 0, 2], [3, 1, 1], [3, 2, 0], [4, 0, 1], [4, 1, 0], [5, 0, 0]] := by decide +kernel
theorem tab5 : Tab 5 := Tab.of forms_ok5 tilt_ok5 cl5 (comps5 ▸ List.forall_mem_cons.mpr ⟨tc5_5, List.forall_mem_cons.mpr ⟨tc5_05, List.forall_mem_cons.mpr ⟨tc5_14, List.forall_mem_cons.mpr ⟨tc5_23, List.forall_mem_cons.mpr ⟨tc5_32, List.forall_mem_cons.mpr ⟨tc5_41, List.forall_mem_cons.mpr ⟨tc5_50, List.forall_mem_cons.mpr ⟨tc5_005, List.forall_mem_cons.mpr ⟨tc5_014, List.forall_mem_cons.mpr ⟨tc5_023, List.forall_mem_cons.mpr ⟨tc5_032, List.forall_mem_cons.mpr ⟨tc5_041, List.forall_mem_cons.mpr ⟨tc5_050, List.forall_mem_cons.mpr ⟨tc5_104, List.forall_mem_cons.mpr ⟨tc5_113, List.forall_mem_cons.mpr ⟨tc5_122, List.forall_mem_cons.mpr ⟨tc5_131, List.forall_mem_cons.mpr ⟨tc5_140, List.forall_mem_cons.mpr ⟨tc5_203, List.forall_mem_cons.mpr ⟨tc5_212, List.forall_mem_cons.mpr ⟨tc5_221, List.forall_mem_cons.mpr ⟨tc5_230, List.forall_mem_cons.mpr ⟨tc5_302, List.forall_mem_cons.mpr ⟨tc5_311, List.forall_mem_cons.mpr ⟨tc5_320, List.forall_mem_cons.mpr ⟨tc5_401, List.forall_mem_cons.mpr ⟨tc5_410, List.forall_mem_cons.mpr ⟨tc5_500, fun _ h => nomatch h⟩⟩⟩⟩⟩⟩⟩⟩⟩⟩⟩⟩⟩⟩⟩⟩⟩⟩⟩⟩⟩⟩⟩⟩⟩⟩⟩⟩) hv5 si5 (fun d hd => by
  have h : ∀ d ∈ [[5], [0, 5], [1, 4], [2, 3], [3, 2], [4, 1], [5, 0], [0, 0, 5], [0, 1, 4], [0, 2, 3], [0, 3, 2], [0, 4, 1], [0, 5, 0], [1, 0, 4], [1, 1, 3], [1, 2, 2], [1, 3, 1], [1, 4, 0], [2, 0, 3], [2, 1, 2], [2, 2, 1], [2, 3, 0], [3, 0, 2], [3, 1, 1], [3, 2, 0], [4, 0, 1], [4, 1, 0], [5, 0, 0]], (comps 5).all (pairB 5 d) = true := List.forall_mem_cons.mpr ⟨pa5_5, List.forall_mem_cons.mpr ⟨pa5_05, List.forall_mem_cons.mpr ⟨pa5_14, List.forall_mem_cons.mpr ⟨pa5_23, List.forall_mem_cons.mpr ⟨pa5_32, List.forall_mem_cons.mpr ⟨pa5_41, List.forall_mem_cons.mpr ⟨pa5_50, List.forall_mem_cons.mpr ⟨pa5_005, List.forall_mem_cons.mpr ⟨pa5_014, List.forall_mem_cons.mpr ⟨pa5_023, List.forall_mem_cons.mpr ⟨pa5_032, List.forall_mem_cons.mpr ⟨pa5_041, List.forall_mem_cons.mpr ⟨pa5_050, List.forall_mem_cons.mpr ⟨pa5_104, List.forall_mem_cons.mpr ⟨pa5_113, List.forall_mem_cons.mpr ⟨pa5_122, List.forall_mem_cons.mpr ⟨pa5_131, List.forall_mem_cons.mpr ⟨pa5_140, List.forall_mem_cons.mpr ⟨pa5_203, List.forall_mem_cons.mpr ⟨pa5_212, List.forall_mem_cons.mpr ⟨pa5_221, List.forall_mem_cons.mpr ⟨pa5_230, List.forall_mem_cons.mpr ⟨pa5_302, List.forall_mem_cons.mpr ⟨pa5_311, List.forall_mem_cons.mpr ⟨pa5_320, List.forall_mem_cons.mpr ⟨pa5_401, List.forall_mem_cons.mpr ⟨pa5_410, List.forall_mem_cons.mpr ⟨pa5_500, fun _ h => nomatch h⟩⟩⟩⟩⟩⟩⟩⟩⟩⟩⟩⟩⟩⟩⟩⟩⟩⟩⟩⟩⟩⟩⟩⟩⟩⟩⟩⟩
  exact h d (comps5 ▸ hd))
end K56
set_option Elab.async false
set_option linter.all false
set_option maxRecDepth 100000
set_option maxHeartbeats 1000001
/-! the sums drawn, and what is asked of a pair -/
namespace K56
open PySem PySem.Spec PyProof.Rows L2 J
def UB : FS := (sSeq (sApp 3 (eCall f_l_sip (aCons (eV 0) (aCons (eOp pAdd (eV 4) (eC (.int 1))) aNil)))) (sSet 4 (eOp pSub (eV 4) (eIx (eO 3) (eUn pNeg (eC (.int 1)))))))
theorem sums_is : F_l_sums = sSeq (sParFE 3 4 (eB pLst aNil) (eV 1)) (sSeq (sFor (iR1 (aCons (eCall f_l_sip (aCons (eV 0) (aCons (eC (.int 3)) aNil))) aNil)) (gN 2) UB) (sRet (eUn pTupC (eOp pAdd (eO 3) (eB pLst (aCons (eV 4) aNil)))))) := rfl
theorem sip_nat (n : Nat) (S : Sto) (t : Nat) (hS : VatIs S n) (ht : 0 < t) (ht2 : t < 1000000) : ∃ (d : Nat) (S' : Sto), f_l_sip [.obj n, .int (t : Int)] S = .ok (.int (d : Int), S') ∧ d < t ∧ VatIs S' n := by
  obtain ⟨d, S', h1, h2, h3, h4⟩ := sip_ok n S (t : Int) hS (by omega) (by omega)
  refine ⟨d.toNat, S', ?_, by omega, h4⟩
  rw [h1, Int.toNat_of_nonneg h2]
theorem ub_ok (n : Nat) (ps : List Nat) (l : Nat) (a1 a2 : Slot) (S : Sto) (hS : VatIs S n) (hl : l ≤ 100) (hp : ∀ m : Nat, atI (natsP (ps ++ [m])) (-1) = some (PV.int (m : Int))) (hc : ps.length ≤ 5) :
    ∃ (m : Nat) (S' : Sto), m ≤ l ∧ VatIs S' n ∧ UB [.val (.obj n), a1, a2, .own (.lst (natsP ps)), .val (.int (l : Int))] S = .ok (.nx [.val (.obj n), a1, a2, .own (.lst (natsP (ps ++ [m]))), .val (.int ((l - m : Nat) : Int))] S') := by
  obtain ⟨m, S', h1, h2, h3⟩ := sip_nat n S (l + 1) hS (by omega) (by omega)
  refine ⟨m, S', by omega, h3, ?_⟩
  have c : eCall f_l_sip (aCons (eV 0) (aCons (eOp pAdd (eV 4) (eC (.int 1))) aNil)) [.val (.obj n), a1, a2, .own (.lst (natsP ps)), .val (.int (l : Int))] S = .ok (.int (m : Int), S') := eCall_ok (xs := [.obj n, .int ((l : Int) + 1)]) (S1 := S) rfl h1
  have s1 : sApp 3 (eCall f_l_sip (aCons (eV 0) (aCons (eOp pAdd (eV 4) (eC (.int 1))) aNil))) [.val (.obj n), a1, a2, .own (.lst (natsP ps)), .val (.int (l : Int))] S = .ok (.nx [.val (.obj n), a1, a2, .own (.lst (natsP (ps ++ [m]))), .val (.int (l : Int))] S') := by
    unfold sApp
    rw [c]
    show (if (natsP ps).length < 1000000 then _ else _) = _
    rw [if_pos (by rw [natsP_len]; omega), natsP_append]
    rfl
  have ix : eIx (eO 3) (eUn pNeg (eC (.int 1))) [.val (.obj n), a1, a2, .own (.lst (natsP (ps ++ [m]))), .val (.int (l : Int))] S' = .ok (.int (m : Int), S') := by
    show (ofO (atI (natsP (ps ++ [m])) (-1))).bind _ = _
    rw [hp m]
    rfl
  refine (sSeq_nx s1).trans (sSet_ok (eOp_ok (x := .int (l : Int)) rfl ix ?_))
  have hz : (l : Int) - (m : Int) = ((l - m : Nat) : Int) := by omega
  exact congrArg (fun z => some (PV.int z)) hz
theorem fin_ok (n : Nat) (ps : List Nat) (l : Nat) (a1 a2 : Slot) (S : Sto) (hc : ps.length ≤ 5) : sRet (eUn pTupC (eOp pAdd (eO 3) (eB pLst (aCons (eV 4) aNil)))) [.val (.obj n), a1, a2, .own (.lst (natsP ps)), .val (.int (l : Int))] S = .ok (.rt (tI (ps ++ [l])) S) := by
  refine sRet_ok (un_eq (eOp_ok (x := .lst (natsP ps)) (y := .lst [.int (l : Int)]) rfl rfl (pAdd_lst (by rw [natsP_len]; simp; omega))) ?_)
  unfold tI
  rw [natsP_append]
  rfl
theorem sums_ok (n t : Nat) (S : Sto) (hS : VatIs S n) (ht : t ≤ 5) : ∃ (c : List Nat) (S' : Sto), c ∈ comps t ∧ VatIs S' n ∧ f_l_sums [.obj n, .int (t : Int)] S = .ok (tI c, S') := by
  obtain ⟨k, S1, k1, k2, hS1⟩ := sip_nat n S 3 hS (by omega) (by omega)
  have s0 : sParFE 3 4 (eB pLst aNil) (eV 1) [.val (.obj n), .val (.int (t : Int)), .un, .un, .un] S = .ok (.nx [.val (.obj n), .val (.int (t : Int)), .un, .own (.lst (natsP [])), .val (.int (t : Int))] S) := rfl
  have it : iR1 (aCons (eCall f_l_sip (aCons (eV 0) (aCons (eC (.int 3)) aNil))) aNil) [.val (.obj n), .val (.int (t : Int)), .un, .own (.lst (natsP [])), .val (.int (t : Int))] S = .ok ((List.range' 0 k).map fun (i : Nat) => PV.int (i : Int), S1) := by
    have r := iR1_eq (j := (k : Int)) (aCons_ok (r := aNil) (eCall_ok (a := aCons (eV 0) (aCons (eC (.int 3)) aNil)) (env := [.val (.obj n), .val (.int (t : Int)), .un, .own (.lst (natsP [])), .val (.int (t : Int))]) (xs := [.obj n, .int 3]) (S1 := S) rfl k1) rfl) (bdI_of (by omega) (by omega))
    rw [Int.toNat_natCast, rangeP_nat] at r
    exact r
  have fin : ∀ (ps : List Nat) (l : Nat) (a2 : Slot) (S2 : Sto), ps.length ≤ 5 → forL (gN 2) UB ((List.range' 0 k).map fun (i : Nat) => PV.int (i : Int)) [.val (.obj n), .val (.int (t : Int)), .un, .own (.lst (natsP [])), .val (.int (t : Int))] S1 = .ok (.nx [.val (.obj n), .val (.int (t : Int)), a2, .own (.lst (natsP ps)), .val (.int (l : Int))] S2) → f_l_sums [.obj n, .int (t : Int)] S = .ok (tI (ps ++ [l]), S2) := by
    intro ps l a2 S2 hps h
    refine runF_rt ?_
    rw [sums_is]
    have e0 : env0 5 [.obj n, .int (t : Int)] = [.val (.obj n), .val (.int (t : Int)), .un, .un, .un] := rfl
    rw [e0]
    exact (sSeq_nx s0).trans ((sSeq_nx (sFor_ok it h)).trans (fin_ok n ps l _ _ S2 hps))
  have hk : k = 0 ∨ k = 1 ∨ k = 2 := by omega
  rcases hk with rfl | rfl | rfl
  · exact ⟨[t], S1, by simp [comps], hS1, fin [] t _ S1 (by simp) rfl⟩
  · obtain ⟨a, S2, ha, hS2, h2⟩ := ub_ok n [] t (.val (.int (t : Int))) (.val (.int 0)) S1 hS1 (by omega) (fun m => rfl) (by simp)
    refine ⟨[a, t - a], S2, ?_, hS2, fin [a] (t - a) _ S2 (by simp) ((forL_nx rfl h2).trans rfl)⟩
    unfold comps
    refine List.mem_cons_of_mem _ (List.mem_append_left _ (List.mem_map.mpr ⟨a, List.mem_range'_1.mpr (by omega), rfl⟩))
  · obtain ⟨a, S2, ha, hS2, h2⟩ := ub_ok n [] t (.val (.int (t : Int))) (.val (.int 0)) S1 hS1 (by omega) (fun m => rfl) (by simp)
    obtain ⟨b, S3, hb, hS3, h3⟩ := ub_ok n [a] (t - a) (.val (.int (t : Int))) (.val (.int 1)) S2 hS2 (by omega) (fun m => rfl) (by simp)
    refine ⟨[a, b, t - a - b], S3, ?_, hS3, fin [a, b] (t - a - b) _ S3 (by simp) ((forL_nx rfl h2).trans ((forL_nx rfl h3).trans rfl))⟩
    unfold comps
    refine List.mem_cons_of_mem _ (List.mem_append_right _ (List.mem_flatMap.mpr ⟨a, List.mem_range'_1.mpr (by omega), List.mem_map.mpr ⟨b, List.mem_range'_1.mpr (by omega), rfl⟩⟩))
end K56
set_option Elab.async false
set_option linter.all false
set_option maxRecDepth 100000
set_option maxHeartbeats 4000001
/-! right -/
namespace K56
open PySem PySem.Spec PyProof.Rows L2 J
def RS0 : FS := (sSet 4 (eCall f_l_sip (aCons (eV 0) (aCons (eC (.int 6)) aNil))))
def RA0 : FS := (sAsg (eB pTup (aCons (eCall f_l_sums (aCons (eV 0) (aCons (eV 4) aNil))) (aCons (eCall f_l_sums (aCons (eV 0) (aCons (eV 4) aNil))) aNil))) (gT 2 (gNc (gN 6) (gNc (gN 7) gNn))))
def RA1 : FS := (sPar 8 9 (aCons (eCall f_l_arrays (aCons (eV 6) (aCons (eV 7) (aCons (eC (.int 12)) aNil)))) (aCons (eCall f_l_arrays (aCons (eV 6) (aCons (eV 7) (aCons (eC (.int 1)) aNil)))) aNil)))
def RI1 : FS := (sIf (tV (eOp (pRpr false) (eB pLst (aCons (eCall f_margin_count (aCons (eV 6) (aCons (eV 7) aNil))) (aCons (eCallP f_margin_count swap2 (aCons (eV 7) (aCons (eV 6) aNil))) aNil))) (eB pLst (aCons (eV 8) (aCons (eV 8) aNil))))) (sRet (eC (.bl false))) sNext)
def RI2 : FS := (sIf (tV (eOp (pRpr false) (eB pLst (aCons (eCall f_zero_one_count (aCons (eV 6) (aCons (eV 7) aNil))) (aCons (eCallP f_zero_one_count swap2 (aCons (eV 7) (aCons (eV 6) aNil))) aNil))) (eB pLst (aCons (eV 9) (aCons (eV 9) aNil))))) (sRet (eC (.bl false))) sNext)
def RS1 : FS := (sSet 5 (eCall f_l_forms (aCons (eV 4) aNil)))
def RI3 : FS := (sIf (tV (eOp pNe (eUn pSum (eLc [13] (iSeq (eV 5)) (gN 13) tT (eOp pMulB (eCall f_table_count (aCons (eV 13) (aCons (eV 6) aNil))) (eCall f_table_count (aCons (eV 13) (aCons (eV 7) aNil)))))) (eV 8))) (sRet (eC (.bl false))) sNext)
def RI4 : FS := (sIf (tV (eOp pNe (eUn pSum (eLc [13] (iSeq (eV 5)) (gN 13) tT (eOp pMulB (eCall f_table_count (aCons (eV 13) (aCons (eV 6) aNil))) (eCall f_table_count (aCons (eCall f_l_tilted (aCons (eV 13) aNil)) (aCons (eV 7) aNil)))))) (eV 9))) (sRet (eC (.bl false))) sNext)
def RA2 : FS := (sAsg (eLc [12] (iSeq (eB pLst (aCons (eV 6) (aCons (eV 7) aNil)))) (gN 12) tT (eUn pTupC (eUn pRevA (eUn (pSrt .int) (eLc [14] (iSeq (eV 12)) (gN 14) (tV (eOp pGt (eV 14) (eC (.int 0)))) (eV 14)))))) (gT 2 (gNc (gN 10) (gNc (gN 11) gNn))))
def RI5 : FS := (sIf (tV (eOp pNe (eCall f_heavier (aCons (eCall f_l_tilted (aCons (eV 10) aNil)) (aCons (eV 11) aNil))) (eOp pGt (eV 9) (eC (.int 0))))) (sRet (eC (.bl false))) sNext)
def RI6 : FS := (sIf (tOrr (tV (eOp pNe (eCall f_margin_count (aCons (eV 6) (aCons (eOp pAdd (eSl (eV 7) oNo (oSo (eUn pNeg (eC (.int 1))))) (eB pTup (aCons (eOp pAdd (eIx (eV 7) (eUn pNeg (eC (.int 1)))) (eC (.int 1))) aNil))) aNil))) (eC (.int 0)))) (tV (eOp pNe (eCall f_zero_one_count (aCons (eOp pAdd (eV 6) (eB pTup (aCons (eC (.int 1)) aNil))) (aCons (eV 7) aNil))) (eC (.int 0))))) (sRet (eC (.bl false))) sNext)
def RB : FS := sSeq RS0 (sSeq RA0 (sSeq RA1 (sSeq RI1 (sSeq RI2 (sSeq RS1 (sSeq RI3 (sSeq RI4 (sSeq RA2 (sSeq RI5 RI6)))))))))
def RT0 : FS := (sSet 2 (eCall f_l_sip (aCons (eV 0) (aCons (eC (.int 8)) aNil))))
def RT1 : FS := (sSet 3 (eB pLst (aCons (eCall f_own_inverse_count (aCons (eV 2) aNil)) (aCons (eCallK f_own_inverse_count aNil (aCons (eV 2) aNil)) aNil))))
def RT2 : FS := (sRet (eAnd (eOp pEq (eV 3) (eOp pMulB (eB pLst (aCons (eCall f_l_own_inverses (aCons (eV 2) aNil)) aNil)) (eC (.int 2)))) (eOp pEq (eUn pSum (eLc [13] (iSeq (eCall f_l_forms (aCons (eV 2) aNil))) (gN 13) tT (eCall f_growth_count (aCons (eV 13) aNil)))) (eIx (eV 3) (eC (.int 0))))))
theorem right_is : F_l_right = sSeq (sFor (iR1 (aCons (eC (.int 2)) aNil)) (gN 1) RB) (sSeq RT0 (sSeq RT1 RT2)) := rfl
structure Pr (t : Nat) (d a : List Nat) : Prop where
  o1 : okB d a 12 = true
  o2 : okB a d 12 = true
  o3 : okB d a 1 = true
  o4 : okB a d 1 = true
  o5 : okB d (up a) 12 = true
  o6 : okB (d ++ [1]) a 1 = true
  e1 : ac d a 12 = la 12 d a
  e2 : ac a d 12 = la 12 d a
  e3 : ac d a 1 = la 1 d a
  e4 : ac a d 1 = la 1 d a
  e5 : ac d (up a) 12 = 0
  e6 : ac (d ++ [1]) a 1 = 0
  b1 : la 12 d a < 100000000000
  b2 : la 1 d a < 100000000000
  s1 : ((forms t).map fun f => tc f d * tc f a).sum = la 12 d a
  s2 : ((forms t).map fun f => tc f d * tc (tilt f) a).sum = la 1 d a
  h : hvy (tilt (hd d)) (hd a) = decide (0 < la 1 d a)
theorem Pr.of {t : Nat} {d a : List Nat} (h : pairB t d a = true) : Pr t d a := by
  simp only [pairB, Bool.and_eq_true, decide_eq_true_eq] at h
  obtain ⟨h1, h2, h3, h4, h5, h6, h7, h8, h9, h10, h11, h12, h13, h14, h15, h16, h17⟩ := h
  exact ⟨h1, h2, h3, h4, h5, h6, h7, h8, h9, h10, h11, h12, h13, h14, h15, h16, h17⟩
theorem lst2_ok {f g : FE} {env : J.Env} {S : Sto} {x y : PV} (h1 : f env S = .ok (x, S)) (h2 : g env S = .ok (y, S)) : eB pLst (aCons f (aCons g aNil)) env S = .ok (.lst [x, y], S) := eB_ok (aCons_ok h1 (aCons_ok h2 rfl)) rfl
theorem callP_ok {f : List PV → Sto → Res (PV × Sto)} {g h : FE} {env : J.Env} {S S1 : Sto} {x y v : PV} (h1 : g env S = .ok (x, S)) (h2 : h env S = .ok (y, S)) (k : f [y, x] S = .ok (v, S1)) : eCallP f swap2 (aCons g (aCons h aNil)) env S = .ok (v, S1) := by
  unfold eCallP
  rw [aCons_ok h1 (aCons_ok h2 rfl)]
  exact k
theorem ri1 (n t : Nat) (d a : List Nat) (a1 a2 a3 a5 a10 a11 : Slot) (S : Sto) (p : Pr t d a) : RI1 [.val (.obj n), a1, a2, a3, .val (.int (t : Int)), a5, .val (tI d), .val (tI a), .val (.int ((la 12 d a : Nat) : Int)), .val (.int ((la 1 d a : Nat) : Int)), a10, a11, .un, .un, .un] S = .ok (.nx [.val (.obj n), a1, a2, a3, .val (.int (t : Int)), a5, .val (tI d), .val (tI a), .val (.int ((la 12 d a : Nat) : Int)), .val (.int ((la 1 d a : Nat) : Int)), a10, a11, .un, .un, .un] S) := by
  have m1 := mc_ok d a p.o1 S
  have m2 := mc_ok a d p.o2 S
  rw [p.e1] at m1
  rw [p.e2] at m2
  have c : (tV (eOp (pRpr false) (eB pLst (aCons (eCall f_margin_count (aCons (eV 6) (aCons (eV 7) aNil))) (aCons (eCallP f_margin_count swap2 (aCons (eV 7) (aCons (eV 6) aNil))) aNil))) (eB pLst (aCons (eV 8) (aCons (eV 8) aNil))))) [.val (.obj n), a1, a2, a3, .val (.int (t : Int)), a5, .val (tI d), .val (tI a), .val (.int ((la 12 d a : Nat) : Int)), .val (.int ((la 1 d a : Nat) : Int)), a10, a11, .un, .un, .un] S = .ok (false, S) := tV_ok (eOp_ok (lst2_ok (eCall_ok (xs := [tI d, tI a]) (S1 := S) rfl m1) (callP_ok (x := tI a) (y := tI d) rfl rfl m1)) (lst2_ok rfl rfl) (rpr2 _ p.b1))
  exact sIf_no c rfl
theorem ri2 (n t : Nat) (d a : List Nat) (a1 a2 a3 a5 a10 a11 : Slot) (S : Sto) (p : Pr t d a) : RI2 [.val (.obj n), a1, a2, a3, .val (.int (t : Int)), a5, .val (tI d), .val (tI a), .val (.int ((la 12 d a : Nat) : Int)), .val (.int ((la 1 d a : Nat) : Int)), a10, a11, .un, .un, .un] S = .ok (.nx [.val (.obj n), a1, a2, a3, .val (.int (t : Int)), a5, .val (tI d), .val (tI a), .val (.int ((la 12 d a : Nat) : Int)), .val (.int ((la 1 d a : Nat) : Int)), a10, a11, .un, .un, .un] S) := by
  have m1 := zc_ok d a p.o3 S
  have m2 := zc_ok a d p.o4 S
  rw [p.e3] at m1
  rw [p.e4] at m2
  have c : (tV (eOp (pRpr false) (eB pLst (aCons (eCall f_zero_one_count (aCons (eV 6) (aCons (eV 7) aNil))) (aCons (eCallP f_zero_one_count swap2 (aCons (eV 7) (aCons (eV 6) aNil))) aNil))) (eB pLst (aCons (eV 9) (aCons (eV 9) aNil))))) [.val (.obj n), a1, a2, a3, .val (.int (t : Int)), a5, .val (tI d), .val (tI a), .val (.int ((la 12 d a : Nat) : Int)), .val (.int ((la 1 d a : Nat) : Int)), a10, a11, .un, .un, .un] S = .ok (false, S) := tV_ok (eOp_ok (lst2_ok (eCall_ok (xs := [tI d, tI a]) (S1 := S) rfl m1) (callP_ok (x := tI a) (y := tI d) rfl rfl m1)) (lst2_ok rfl rfl) (rpr2 _ p.b2))
  exact sIf_no c rfl
theorem rs1 (n t : Nat) (d a : List Nat) (a1 a2 a3 a5 a10 a11 : Slot) (S : Sto) (T : Tab t) : RS1 [.val (.obj n), a1, a2, a3, .val (.int (t : Int)), a5, .val (tI d), .val (tI a), .val (.int ((la 12 d a : Nat) : Int)), .val (.int ((la 1 d a : Nat) : Int)), a10, a11, .un, .un, .un] S = .ok (.nx [.val (.obj n), a1, a2, a3, .val (.int (t : Int)), .val (.lst ((forms t).map tI)), .val (tI d), .val (tI a), .val (.int ((la 12 d a : Nat) : Int)), .val (.int ((la 1 d a : Nat) : Int)), a10, a11, .un, .un, .un] S) := sSet_ok (eCall_ok (xs := [.int (t : Int)]) (S1 := S) rfl (T.fo S))
theorem forms_len (t : Nat) : (forms t).length ≤ 7 := by
  unfold forms
  split <;> decide
theorem ri3 (n t : Nat) (d a : List Nat) (a1 a2 a3 a5 a10 a11 : Slot) (S : Sto) (T : Tab t) (p : Pr t d a) (hd : d ∈ comps t) (ha : a ∈ comps t) : RI3 [.val (.obj n), a1, a2, a3, .val (.int (t : Int)), .val (.lst ((forms t).map tI)), .val (tI d), .val (tI a), .val (.int ((la 12 d a : Nat) : Int)), .val (.int ((la 1 d a : Nat) : Int)), a10, a11, .un, .un, .un] S = .ok (.nx [.val (.obj n), a1, a2, a3, .val (.int (t : Int)), .val (.lst ((forms t).map tI)), .val (tI d), .val (tI a), .val (.int ((la 12 d a : Nat) : Int)), .val (.int ((la 1 d a : Nat) : Int)), a10, a11, .un, .un, .un] S) := by
  have fl := forms_len t
  have l := lc_eq (vs := [13]) (it := iSeq (eV 5)) (env := [.val (.obj n), a1, a2, a3, .val (.int (t : Int)), .val (.lst ((forms t).map tI)), .val (tI d), .val (tI a), .val (.int ((la 12 d a : Nat) : Int)), .val (.int ((la 1 d a : Nat) : Int)), a10, a11, .un, .un, .un]) (xs := (forms t).map tI) (S1 := S) rfl (by rw [List.length_map]; omega) (two_lc tc d a _ _ _ _ _ _ _ _ _ _ _ _ S (forms t) fun f hf => ⟨T.tc d hd f hf, T.tc a ha f hf⟩)
  have c : (tV (eOp pNe (eUn pSum (eLc [13] (iSeq (eV 5)) (gN 13) tT (eOp pMulB (eCall f_table_count (aCons (eV 13) (aCons (eV 6) aNil))) (eCall f_table_count (aCons (eV 13) (aCons (eV 7) aNil)))))) (eV 8))) [.val (.obj n), a1, a2, a3, .val (.int (t : Int)), .val (.lst ((forms t).map tI)), .val (tI d), .val (tI a), .val (.int ((la 12 d a : Nat) : Int)), .val (.int ((la 1 d a : Nat) : Int)), a10, a11, .un, .un, .un] S = .ok (false, S) := tV_ok (eOp_ok (y := .int ((la 12 d a : Nat) : Int)) (un_eq l (pSum_lst _)) rfl (ne_same _ _ p.s1))
  exact sIf_no c rfl
theorem ri4 (n t : Nat) (d a : List Nat) (a1 a2 a3 a5 a10 a11 : Slot) (S : Sto) (T : Tab t) (p : Pr t d a) (hd : d ∈ comps t) (ha : a ∈ comps t) : RI4 [.val (.obj n), a1, a2, a3, .val (.int (t : Int)), .val (.lst ((forms t).map tI)), .val (tI d), .val (tI a), .val (.int ((la 12 d a : Nat) : Int)), .val (.int ((la 1 d a : Nat) : Int)), a10, a11, .un, .un, .un] S = .ok (.nx [.val (.obj n), a1, a2, a3, .val (.int (t : Int)), .val (.lst ((forms t).map tI)), .val (tI d), .val (tI a), .val (.int ((la 12 d a : Nat) : Int)), .val (.int ((la 1 d a : Nat) : Int)), a10, a11, .un, .un, .un] S) := by
  have fl := forms_len t
  have l := lc_eq (vs := [13]) (it := iSeq (eV 5)) (env := [.val (.obj n), a1, a2, a3, .val (.int (t : Int)), .val (.lst ((forms t).map tI)), .val (tI d), .val (tI a), .val (.int ((la 12 d a : Nat) : Int)), .val (.int ((la 1 d a : Nat) : Int)), a10, a11, .un, .un, .un]) (xs := (forms t).map tI) (S1 := S) rfl (by rw [List.length_map]; omega) (tlt_lc tc tilt d a _ _ _ _ _ _ _ _ _ _ _ _ S (forms t) fun f hf => ⟨T.tc d hd f hf, T.ti f hf, T.tc a ha _ (T.cl f hf)⟩)
  have c : (tV (eOp pNe (eUn pSum (eLc [13] (iSeq (eV 5)) (gN 13) tT (eOp pMulB (eCall f_table_count (aCons (eV 13) (aCons (eV 6) aNil))) (eCall f_table_count (aCons (eCall f_l_tilted (aCons (eV 13) aNil)) (aCons (eV 7) aNil)))))) (eV 9))) [.val (.obj n), a1, a2, a3, .val (.int (t : Int)), .val (.lst ((forms t).map tI)), .val (tI d), .val (tI a), .val (.int ((la 12 d a : Nat) : Int)), .val (.int ((la 1 d a : Nat) : Int)), a10, a11, .un, .un, .un] S = .ok (false, S) := tV_ok (eOp_ok (y := .int ((la 1 d a : Nat) : Int)) (un_eq l (pSum_lst _)) rfl (ne_same _ _ p.s2))
  exact sIf_no c rfl
theorem sAsg_ok {f : FE} {g : GN} {env e : J.Env} {S S1 : Sto} {v : PV} (h : f env S = .ok (v, S1)) (k : g v env = some e) : sAsg f g env S = .ok (.nx e S1) := by
  unfold sAsg
  rw [h]
  simp only [Res.bind]
  rw [k]
  rfl
theorem ra2 (n t : Nat) (d a : List Nat) (a1 a2 a3 a5 a10 a11 : Slot) (S : Sto) (h1 : d.length ≤ 3) (h2 : a.length ≤ 3) : RA2 [.val (.obj n), a1, a2, a3, .val (.int (t : Int)), .val (.lst ((forms t).map tI)), .val (tI d), .val (tI a), .val (.int ((la 12 d a : Nat) : Int)), .val (.int ((la 1 d a : Nat) : Int)), a10, a11, .un, .un, .un] S = .ok (.nx [.val (.obj n), a1, a2, a3, .val (.int (t : Int)), .val (.lst ((forms t).map tI)), .val (tI d), .val (tI a), .val (.int ((la 12 d a : Nat) : Int)), .val (.int ((la 1 d a : Nat) : Int)), .val (tI (hd d)), .val (tI (hd a)), .un, .un, .un] S) := by
  have l1 := side_ok (.val (.obj n)) a1 a2 a3 (.val (.int (t : Int))) (.val (.lst ((forms t).map tI))) (.val (tI d)) (.val (tI a)) (.val (.int ((la 12 d a : Nat) : Int))) (.val (.int ((la 1 d a : Nat) : Int))) a10 a11 .un d (by omega) S
  have l2 := side_ok (.val (.obj n)) a1 a2 a3 (.val (.int (t : Int))) (.val (.lst ((forms t).map tI))) (.val (tI d)) (.val (tI a)) (.val (.int ((la 12 d a : Nat) : Int))) (.val (.int ((la 1 d a : Nat) : Int))) a10 a11 .un a (by omega) S
  have l : (eLc [12] (iSeq (eB pLst (aCons (eV 6) (aCons (eV 7) aNil)))) (gN 12) tT (eUn pTupC (eUn pRevA (eUn (pSrt .int) (eLc [14] (iSeq (eV 12)) (gN 14) (tV (eOp pGt (eV 14) (eC (.int 0)))) (eV 14)))))) [.val (.obj n), a1, a2, a3, .val (.int (t : Int)), .val (.lst ((forms t).map tI)), .val (tI d), .val (tI a), .val (.int ((la 12 d a : Nat) : Int)), .val (.int ((la 1 d a : Nat) : Int)), a10, a11, .un, .un, .un] S = .ok (.lst [tI (hd d), tI (hd a)], S) := lc_eq (xs := [tI d, tI a]) (S1 := S) (iSeq_lst (lst2_ok rfl rfl)) (by simp) (lcL_yes (en := [.val (.obj n), a1, a2, a3, .val (.int (t : Int)), .val (.lst ((forms t).map tI)), .val (tI d), .val (tI a), .val (.int ((la 12 d a : Nat) : Int)), .val (.int ((la 1 d a : Nat) : Int)), a10, a11, .val (tI d), .un, .un]) rfl rfl l1 (lcL_yes (en := [.val (.obj n), a1, a2, a3, .val (.int (t : Int)), .val (.lst ((forms t).map tI)), .val (tI d), .val (tI a), .val (.int ((la 12 d a : Nat) : Int)), .val (.int ((la 1 d a : Nat) : Int)), a10, a11, .val (tI a), .un, .un]) rfl rfl l2 rfl))
  exact sAsg_ok l rfl
theorem ne_bl (b c : Bool) (h : b = c) : pNe (.bl b) (.bl c) = some (.bl false) := by
  subst h
  cases b <;> rfl
theorem ri5 (n t : Nat) (d a : List Nat) (a1 a2 a3 : Slot) (S : Sto) (T : Tab t) (p : Pr t d a) (hd1 : hd d ∈ forms t) (hd2 : hd a ∈ forms t) : RI5 [.val (.obj n), a1, a2, a3, .val (.int (t : Int)), .val (.lst ((forms t).map tI)), .val (tI d), .val (tI a), .val (.int ((la 12 d a : Nat) : Int)), .val (.int ((la 1 d a : Nat) : Int)), .val (tI (hd d)), .val (tI (hd a)), .un, .un, .un] S = .ok (.nx [.val (.obj n), a1, a2, a3, .val (.int (t : Int)), .val (.lst ((forms t).map tI)), .val (tI d), .val (tI a), .val (.int ((la 12 d a : Nat) : Int)), .val (.int ((la 1 d a : Nat) : Int)), .val (tI (hd d)), .val (tI (hd a)), .un, .un, .un] S) := by
  have c : (tV (eOp pNe (eCall f_heavier (aCons (eCall f_l_tilted (aCons (eV 10) aNil)) (aCons (eV 11) aNil))) (eOp pGt (eV 9) (eC (.int 0))))) [.val (.obj n), a1, a2, a3, .val (.int (t : Int)), .val (.lst ((forms t).map tI)), .val (tI d), .val (tI a), .val (.int ((la 12 d a : Nat) : Int)), .val (.int ((la 1 d a : Nat) : Int)), .val (tI (hd d)), .val (tI (hd a)), .un, .un, .un] S = .ok (false, S) := tV_ok (eOp_ok (eCall_ok (xs := [tI (tilt (hd d)), tI (hd a)]) (S1 := S) (aCons_ok (eCall_ok (xs := [tI (hd d)]) (S1 := S) rfl (T.ti _ hd1 S)) (aCons_ok rfl rfl)) (T.hv _ (T.cl _ hd1) _ hd2 S)) (eOp_ok (x := .int ((la 1 d a : Nat) : Int)) (y := .int 0) rfl rfl (gt_nat _ 0)) (ne_bl _ _ p.h))
  exact sIf_no c rfl
theorem up_ok (a : List Nat) (h : 0 < a.length) (h2 : a.length ≤ 3) {env : J.Env} {S : Sto} (e : eV 7 env S = .ok (tI a, S)) : (eOp pAdd (eSl (eV 7) oNo (oSo (eUn pNeg (eC (.int 1))))) (eB pTup (aCons (eOp pAdd (eIx (eV 7) (eUn pNeg (eC (.int 1)))) (eC (.int 1))) aNil))) env S = .ok (tI (up a), S) := by
  have hc : ∃ x, a = [x] ∨ ∃ y, a = [x, y] ∨ ∃ z, a = [x, y, z] := by
    match a, h, h2 with
    | [x], _, _ => exact ⟨x, .inl rfl⟩
    | [x, y], _, _ => exact ⟨x, .inr ⟨y, .inl rfl⟩⟩
    | [x, y, z], _, _ => exact ⟨x, .inr ⟨y, .inr ⟨z, rfl⟩⟩⟩
  have sl : ∀ v, pSl (tI a) none (some (-1)) = some v → eSl (eV 7) oNo (oSo (eUn pNeg (eC (.int 1)))) env S = .ok (v, S) := by
    intro v hv
    unfold eSl
    rw [e]
    have e1 : oSo (eUn pNeg (eC (.int 1))) env S = .ok (some (-1), S) := rfl
    simp only [Res.bind, oNo, e1, hv, ofO]
  have ix : ∀ v, pIx (tI a) (.int (-1)) = some v → eIx (eV 7) (eUn pNeg (eC (.int 1))) env S = .ok (v, S) := by
    intro v hv
    unfold eIx
    rw [e]
    show (ofO (pIx (tI a) (.int (-1)))).bind _ = _
    rw [hv]
    rfl
  rcases hc with ⟨x, rfl | ⟨y, rfl | ⟨z, rfl⟩⟩⟩
  · exact eOp_ok (sl (.tup []) rfl) (eB_ok (aCons_ok (eOp_ok (ix (.int (x : Int)) rfl) (y := .int 1) rfl rfl) rfl) rfl) rfl
  · exact eOp_ok (sl (.tup [.int (x : Int)]) rfl) (eB_ok (aCons_ok (eOp_ok (ix (.int (y : Int)) rfl) (y := .int 1) rfl rfl) rfl) rfl) rfl
  · exact eOp_ok (sl (.tup [.int (x : Int), .int (y : Int)]) rfl) (eB_ok (aCons_ok (eOp_ok (ix (.int (z : Int)) rfl) (y := .int 1) rfl rfl) rfl) rfl) rfl
theorem app_one (d : List Nat) (h : d.length ≤ 3) : pAdd (tI d) (.tup [.int 1]) = some (tI (d ++ [1])) := by
  unfold tI
  rw [pAdd_tup (by rw [natsP_len]; simp; omega), natsP_append]
  rfl
theorem ri6 (n t : Nat) (d a : List Nat) (a1 a2 a3 : Slot) (S : Sto) (p : Pr t d a) (h1 : d.length ≤ 3) (h2 : a.length ≤ 3) (h3 : 0 < a.length) : RI6 [.val (.obj n), a1, a2, a3, .val (.int (t : Int)), .val (.lst ((forms t).map tI)), .val (tI d), .val (tI a), .val (.int ((la 12 d a : Nat) : Int)), .val (.int ((la 1 d a : Nat) : Int)), .val (tI (hd d)), .val (tI (hd a)), .un, .un, .un] S = .ok (.nx [.val (.obj n), a1, a2, a3, .val (.int (t : Int)), .val (.lst ((forms t).map tI)), .val (tI d), .val (tI a), .val (.int ((la 12 d a : Nat) : Int)), .val (.int ((la 1 d a : Nat) : Int)), .val (tI (hd d)), .val (tI (hd a)), .un, .un, .un] S) := by
  have m1 := mc_ok d (up a) p.o5 S
  have m2 := zc_ok (d ++ [1]) a p.o6 S
  have c1 : (tV (eOp pNe (eCall f_margin_count (aCons (eV 6) (aCons (eOp pAdd (eSl (eV 7) oNo (oSo (eUn pNeg (eC (.int 1))))) (eB pTup (aCons (eOp pAdd (eIx (eV 7) (eUn pNeg (eC (.int 1)))) (eC (.int 1))) aNil))) aNil))) (eC (.int 0)))) [.val (.obj n), a1, a2, a3, .val (.int (t : Int)), .val (.lst ((forms t).map tI)), .val (tI d), .val (tI a), .val (.int ((la 12 d a : Nat) : Int)), .val (.int ((la 1 d a : Nat) : Int)), .val (tI (hd d)), .val (tI (hd a)), .un, .un, .un] S = .ok (false, S) := tV_ok (eOp_ok (eCall_ok (xs := [tI d, tI (up a)]) (S1 := S) (aCons_ok rfl (aCons_ok (up_ok a h3 h2 rfl) rfl)) m1) (y := .int 0) rfl (ne_same _ 0 p.e5))
  have c2 : (tV (eOp pNe (eCall f_zero_one_count (aCons (eOp pAdd (eV 6) (eB pTup (aCons (eC (.int 1)) aNil))) (aCons (eV 7) aNil))) (eC (.int 0)))) [.val (.obj n), a1, a2, a3, .val (.int (t : Int)), .val (.lst ((forms t).map tI)), .val (tI d), .val (tI a), .val (.int ((la 12 d a : Nat) : Int)), .val (.int ((la 1 d a : Nat) : Int)), .val (tI (hd d)), .val (tI (hd a)), .un, .un, .un] S = .ok (false, S) := tV_ok (eOp_ok (eCall_ok (xs := [tI (d ++ [1]), tI a]) (S1 := S) (aCons_ok (eOp_ok (x := tI d) (y := .tup [.int 1]) rfl rfl (app_one d h1)) (aCons_ok rfl rfl)) m2) (y := .int 0) rfl (ne_same _ 0 p.e6))
  exact sIf_no (tOrr_no c1 c2) rfl
theorem tabs (t : Nat) (h : t ≤ 5) : Tab t := by
  have hc : t = 0 ∨ t = 1 ∨ t = 2 ∨ t = 3 ∨ t = 4 ∨ t = 5 := by omega
  rcases hc with rfl | rfl | rfl | rfl | rfl | rfl
  · exact tab0
  · exact tab1
  · exact tab2
  · exact tab3
  · exact tab4
  · exact tab5
theorem sPar_ok {i j : Nat} {a : FA} {env : J.Env} {S S1 : Sto} {u v : PV} (h : a env S = .ok ([u, v], S1)) : sPar i j a env S = .ok (.nx ((env.set i (.val u)).set j (.val v)) S1) := by
  unfold sPar
  rw [h]
  rfl
theorem rb_ok (n : Nat) (a1 a2 a3 a4 a5 a6 a7 a8 a9 a10 a11 : Slot) (S : Sto) (hS : VatIs S n) : ∃ (b4 b5 b6 b7 b8 b9 b10 b11 : Slot) (S' : Sto), VatIs S' n ∧ RB [.val (.obj n), a1, a2, a3, a4, a5, a6, a7, a8, a9, a10, a11, .un, .un, .un] S = .ok (.nx [.val (.obj n), a1, a2, a3, b4, b5, b6, b7, b8, b9, b10, b11, .un, .un, .un] S') := by
  obtain ⟨t, S1, t1, t2, hS1⟩ := sip_nat n S 6 hS (by omega) (by omega)
  obtain ⟨d, S2, hd, hS2, d1⟩ := sums_ok n t S1 hS1 (by omega)
  obtain ⟨a, S3, ha, hS3, d2⟩ := sums_ok n t S2 hS2 (by omega)
  have T := tabs t (by omega)
  have p := Pr.of (T.pa d hd a ha)
  have q1 := T.si d hd
  have q2 := T.si a ha
  simp only [sideB, Bool.and_eq_true, decide_eq_true_eq, List.all_eq_true] at q1 q2
  have s0 : RS0 [.val (.obj n), a1, a2, a3, a4, a5, a6, a7, a8, a9, a10, a11, .un, .un, .un] S = .ok (.nx [.val (.obj n), a1, a2, a3, .val (.int (t : Int)), a5, a6, a7, a8, a9, a10, a11, .un, .un, .un] S1) := sSet_ok (eCall_ok (xs := [.obj n, .int 6]) (S1 := S) rfl t1)
  have s1 : RA0 [.val (.obj n), a1, a2, a3, .val (.int (t : Int)), a5, a6, a7, a8, a9, a10, a11, .un, .un, .un] S1 = .ok (.nx [.val (.obj n), a1, a2, a3, .val (.int (t : Int)), a5, .val (tI d), .val (tI a), a8, a9, a10, a11, .un, .un, .un] S3) := sAsg_ok (eB_ok (aCons_ok (eCall_ok (xs := [.obj n, .int (t : Int)]) (S1 := S1) rfl d1) (aCons_ok (eCall_ok (xs := [.obj n, .int (t : Int)]) (S1 := S2) rfl d2) rfl)) (z := .tup [tI d, tI a]) rfl) rfl
  have r1 : f_l_arrays [tI d, tI a, .int 12] S3 = .ok (.int ((la 12 d a : Nat) : Int), S3) := la_ok 12 5 d a (by omega) q1.2.2.1 (by omega) S3
  have r2 : f_l_arrays [tI d, tI a, .int 1] S3 = .ok (.int ((la 1 d a : Nat) : Int), S3) := la_ok 1 5 d a (by omega) q1.2.2.1 (by omega) S3
  have s2 : RA1 [.val (.obj n), a1, a2, a3, .val (.int (t : Int)), a5, .val (tI d), .val (tI a), a8, a9, a10, a11, .un, .un, .un] S3 = .ok (.nx [.val (.obj n), a1, a2, a3, .val (.int (t : Int)), a5, .val (tI d), .val (tI a), .val (.int ((la 12 d a : Nat) : Int)), .val (.int ((la 1 d a : Nat) : Int)), a10, a11, .un, .un, .un] S3) := sPar_ok (aCons_ok (eCall_ok (xs := [tI d, tI a, .int 12]) (S1 := S3) rfl r1) (aCons_ok (eCall_ok (xs := [tI d, tI a, .int 1]) (S1 := S3) rfl r2) rfl))
  exact ⟨_, _, _, _, _, _, _, _, S3, hS3, (sSeq_nx s0).trans ((sSeq_nx s1).trans ((sSeq_nx s2).trans ((sSeq_nx (ri1 n t d a a1 a2 a3 a5 a10 a11 S3 p)).trans ((sSeq_nx (ri2 n t d a a1 a2 a3 a5 a10 a11 S3 p)).trans ((sSeq_nx (rs1 n t d a a1 a2 a3 a5 a10 a11 S3 T)).trans ((sSeq_nx (ri3 n t d a a1 a2 a3 a5 a10 a11 S3 T p hd ha)).trans ((sSeq_nx (ri4 n t d a a1 a2 a3 a5 a10 a11 S3 T p hd ha)).trans ((sSeq_nx (ra2 n t d a a1 a2 a3 a5 a10 a11 S3 q1.2.1 q2.2.1)).trans ((sSeq_nx (ri5 n t d a a1 a2 a3 S3 T p q1.2.2.2.1 q2.2.2.2.1)).trans (ri6 n t d a a1 a2 a3 S3 p q1.2.1 q2.2.1 q2.1))))))))))⟩
theorem tail0 (a0 a1 a3 a4 a5 a6 a7 a8 a9 a10 a11 : Slot) (S : Sto) : sSeq RT1 RT2 [a0, a1, .val (.int 0), a3, a4, a5, a6, a7, a8, a9, a10, a11, .un, .un, .un] S = .ok (.rt (.bl true) S) := by kernel_rfl
theorem tail1 (a0 a1 a3 a4 a5 a6 a7 a8 a9 a10 a11 : Slot) (S : Sto) : sSeq RT1 RT2 [a0, a1, .val (.int 1), a3, a4, a5, a6, a7, a8, a9, a10, a11, .un, .un, .un] S = .ok (.rt (.bl true) S) := by kernel_rfl
theorem tail2 (a0 a1 a3 a4 a5 a6 a7 a8 a9 a10 a11 : Slot) (S : Sto) : sSeq RT1 RT2 [a0, a1, .val (.int 2), a3, a4, a5, a6, a7, a8, a9, a10, a11, .un, .un, .un] S = .ok (.rt (.bl true) S) := by kernel_rfl
theorem tail3 (a0 a1 a3 a4 a5 a6 a7 a8 a9 a10 a11 : Slot) (S : Sto) : sSeq RT1 RT2 [a0, a1, .val (.int 3), a3, a4, a5, a6, a7, a8, a9, a10, a11, .un, .un, .un] S = .ok (.rt (.bl true) S) := by kernel_rfl
theorem tail4 (a0 a1 a3 a4 a5 a6 a7 a8 a9 a10 a11 : Slot) (S : Sto) : sSeq RT1 RT2 [a0, a1, .val (.int 4), a3, a4, a5, a6, a7, a8, a9, a10, a11, .un, .un, .un] S = .ok (.rt (.bl true) S) := by kernel_rfl
theorem tail5 (a0 a1 a3 a4 a5 a6 a7 a8 a9 a10 a11 : Slot) (S : Sto) : sSeq RT1 RT2 [a0, a1, .val (.int 5), a3, a4, a5, a6, a7, a8, a9, a10, a11, .un, .un, .un] S = .ok (.rt (.bl true) S) := by kernel_rfl
theorem tail6 (a0 a1 a3 a4 a5 a6 a7 a8 a9 a10 a11 : Slot) (S : Sto) : sSeq RT1 RT2 [a0, a1, .val (.int 6), a3, a4, a5, a6, a7, a8, a9, a10, a11, .un, .un, .un] S = .ok (.rt (.bl true) S) := by kernel_rfl
theorem tail7 (a0 a1 a3 a4 a5 a6 a7 a8 a9 a10 a11 : Slot) (S : Sto) : sSeq RT1 RT2 [a0, a1, .val (.int 7), a3, a4, a5, a6, a7, a8, a9, a10, a11, .un, .un, .un] S = .ok (.rt (.bl true) S) := by kernel_rfl
theorem right_ok (n : Nat) (S : Sto) (hS : VatIs S n) : ∃ S', f_l_right [.obj n] S = .ok (.bl true, S') := by
  obtain ⟨b4, b5, b6, b7, b8, b9, b10, b11, S1, hS1, h1⟩ := rb_ok n (.val (.int 0)) .un .un .un .un .un .un .un .un .un .un S hS
  obtain ⟨c4, c5, c6, c7, c8, c9, c10, c11, S2, hS2, h2⟩ := rb_ok n (.val (.int 1)) .un .un b4 b5 b6 b7 b8 b9 b10 b11 S1 hS1
  obtain ⟨k, S3, k1, k2, _⟩ := sip_nat n S2 8 hS2 (by omega) (by omega)
  refine ⟨S3, runF_rt ?_⟩
  rw [right_is]
  have e0 : env0 15 [.obj n] = [.val (.obj n), .un, .un, .un, .un, .un, .un, .un, .un, .un, .un, .un, .un, .un, .un] := rfl
  rw [e0]
  have it : iR1 (aCons (eC (.int 2)) aNil) [.val (.obj n), .un, .un, .un, .un, .un, .un, .un, .un, .un, .un, .un, .un, .un, .un] S = .ok ([.int 0, .int 1], S) := rfl
  have t0 : RT0 [.val (.obj n), .val (.int 1), .un, .un, c4, c5, c6, c7, c8, c9, c10, c11, .un, .un, .un] S2 = .ok (.nx [.val (.obj n), .val (.int 1), .val (.int (k : Int)), .un, c4, c5, c6, c7, c8, c9, c10, c11, .un, .un, .un] S3) := sSet_ok (eCall_ok (xs := [.obj n, .int 8]) (S1 := S2) rfl k1)
  refine (sSeq_nx (sFor_ok it ((forL_nx rfl h1).trans ((forL_nx rfl h2).trans rfl)))).trans ((sSeq_nx t0).trans ?_)
  have hc : k = 0 ∨ k = 1 ∨ k = 2 ∨ k = 3 ∨ k = 4 ∨ k = 5 ∨ k = 6 ∨ k = 7 := by omega
  rcases hc with rfl | rfl | rfl | rfl | rfl | rfl | rfl | rfl
  · exact tail0 _ _ _ _ _ _ _ _ _ _ _ S3
  · exact tail1 _ _ _ _ _ _ _ _ _ _ _ S3
  · exact tail2 _ _ _ _ _ _ _ _ _ _ _ S3
  · exact tail3 _ _ _ _ _ _ _ _ _ _ _ S3
  · exact tail4 _ _ _ _ _ _ _ _ _ _ _ S3
  · exact tail5 _ _ _ _ _ _ _ _ _ _ _ S3
  · exact tail6 _ _ _ _ _ _ _ _ _ _ _ S3
  · exact tail7 _ _ _ _ _ _ _ _ _ _ _ S3
theorem law_ok (ns : List Int) : ∃ S', f_law [.scr ns] [] = .ok (.bl true, S') :=
  law_all ns 2 5 (by omega) (by omega) (each_of (Is := VatIs) (fun k hk S => vat_ok ns k hk S) right_ok)
end K56
set_option Elab.async false
set_option linter.all false
set_option maxRecDepth 100000
set_option maxHeartbeats 0
open PySem.W PySem PySem.Calls PyProof.Rows
theorem PySem.Challenge.cw_wordshapes_k56_whole_margins_holds : PySem.Challenge.rw_wordshapes_k56_whole_margins.Holds := by
  w_on; o_law
  refine HandSHeadRun.head_any (r := OpenLaw.row PySem.Challenge.rw_wordshapes_k56_whole_margins) (q := view (OpenLaw.row PySem.Challenge.rw_wordshapes_k56_whole_margins).prog [46]) (H := K56.hk) (ob := K56.ob) (M := 9000) (loose := K56.loose) (d := HandSHeadRun.topDef (OpenLaw.row PySem.Challenge.rw_wordshapes_k56_whole_margins).prog 46) (kwd := []) K56.ob_eq
    (by kernel_rfl) (fun s => by kernel_rfl) K56.run (by kernel_rfl) (by kernel_rfl) (by kernel_rfl) (by rfl) (by first | assumption | decide +kernel) (by decide +kernel) ⟨rfl, rfl, rfl, rfl, rfl, by decide +kernel⟩ ?hw ?hc
  case hw => w_witness2
  case hc =>
    refine J.walk_ofG (l := PySem.Challenge.rw_wordshapes_k56_whole_margins) (n := 63) (k := 9) (x := "_law_script") (ct := fun _ => K56.ct0) (f := K56.f_law) rfl (by decide) (by kernel_rfl) ⟨rfl, by decide, by decide⟩ (fun ns _ => K56.law_ok ns) ?F
    intro w mg fa h Y G hmg0
    obtain ⟨K, KX, c⟩ := Y
    have named : mg ("law" : PySem.Str) = some (.ref fa) := by
      have e : (HandSHeadRun.topDef (OpenLaw.row PySem.Challenge.rw_wordshapes_k56_whole_margins).prog 46).name = ("law" : PySem.Str) := by kernel_rfl
      rw [← e]
      exact hmg0
    have Z := K56.facts KX G c
    obtain ⟨fa', fd, FD, hm, FG⟩ := K56.ok_law (P := (PySem.Challenge.rw_wordshapes_k56_whole_margins).prog) (w := w) (base := h) Z
    have e := named.symm.trans hm
    cases e
    have b := L2.FunD.bindsA (ps := ["_law_script"]) FD fun _ _ _ _ _ _ us hl => match us, hl with | [_], _ => rfl
    refine ⟨K, fd, KX, fun s v => b s [v] rfl, fun base _ _ => ?_⟩
    obtain ⟨fa2, fd2, FD2, hm2, FG2⟩ := K56.ok_law (P := (PySem.Challenge.rw_wordshapes_k56_whole_margins).prog) (w := w) (base := base) Z
    have e2 := hm.symm.trans hm2
    cases e2
    have e3 := J.funD_same FD FD2
    subst e3
    exact FG2
