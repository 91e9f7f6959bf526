import PyProof.Rows.All
import Wide.All
import OpenK.AllK
import Wide.FinOn
import HandS.ForMost
import HandS.Walk
import HandS.NoneIn
import KE.GoesEnum
import HandS.Zip
import HandS.Defaults
import HandS.TupAny
import HandS.IsInst
import HandS.Deep
import KE.KTupSum
import HandS.Style
import HandS.SortInts
import HandS.TupLen
import HandS.WordsDict
import KE.DataEq
import KE.DataCmp
import HandS.TupMul
import HandS.Conv
import HandS.More
import PyProof.TupleOfSeq
import HandS.SortOrd
import KE.SortData
import PyProof.ReprRoads
import PyProof.ReprLen
import PyProof.FitsInt
import KE.KDictPairs
import KE.KDictDisplayH
import PyProof.DictTable
import HandS.Ends
import HandS.HeadEnd
import HandS.Head0
import HandS.Head1
import HandS.Head2
import HandS.HeadHook1
import HandS.HeadHook2
import HandS.Flt
import PyProof.Rows.SetFrom
import PyProof.SetRoads
import HandS.Set
import PyProof.ListMulRoad
import HandS.Iter
import HandS.Star
import HandS.DictTup
import HandS.DictSubView
import HandS.Comp
import PyProof.SumWalkG
import PySem.Challenge.RW_wordshapes_k72_whole_reduced_rows
import KE.GoesMore
set_option Elab.async false
set_option linter.all false
set_option maxRecDepth 100000
/-! J: pure readings over the hand layer. Values as trees, the representation, the frame's invariant. -/
namespace J
open PySem L2

theorem falseNe : ¬ (false = true) := Bool.false_ne_true
inductive PV where
  | non
  | bl (b : Bool)
  | int (i : Int)
  | str (x : Str)
  | tup (xs : List PV)
  | lst (xs : List PV)
  | dic (t : Bool) (ks vs : List PV)
  | ins (c : String) (fs : List PV)
  | obj (n : Nat)
  | scr (ns : List Int)

mutual
def PV.eqb : PV → PV → Bool
  | .non, .non => true
  | .bl a, .bl b => a == b
  | .int a, .int b => decide (a = b)
  | .str a, .str b => decide (a = b)
  | .tup a, .tup b => eqbL a b
  | .lst a, .lst b => eqbL a b
  | .dic t a b, .dic u c d => (t == u) && (eqbL a c && eqbL b d)
  | .ins a b, .ins c d => decide (a = c) && eqbL b d
  | .obj a, .obj b => decide (a = b)
  | .scr a, .scr b => decide (a = b)
  | _, _ => false
def eqbL : List PV → List PV → Bool
  | [], [] => true
  | a :: r, b :: s => PV.eqb a b && eqbL r s
  | _, _ => false
end
mutual
theorem PV.eqb_iff : ∀ (a b : PV), PV.eqb a b = true ↔ a = b
  | .non, b => by cases b <;> simp [PV.eqb]
  | .bl a, b => by cases b <;> simp [PV.eqb]
  | .int a, b => by cases b <;> simp [PV.eqb]
  | .str a, b => by cases b <;> simp [PV.eqb]
  | .tup a, b => by cases b <;> simp [PV.eqb, eqbL_iff a]
  | .lst a, b => by cases b <;> simp [PV.eqb, eqbL_iff a]
  | .dic t a c, b => by cases b <;> simp [PV.eqb, eqbL_iff a, eqbL_iff c]
  | .ins a c, b => by cases b <;> simp [PV.eqb, eqbL_iff c]
  | .obj a, b => by cases b <;> simp [PV.eqb]
  | .scr a, b => by cases b <;> simp [PV.eqb]
theorem eqbL_iff : ∀ (a b : List PV), eqbL a b = true ↔ a = b
  | [], b => by cases b <;> simp [eqbL]
  | x :: r, b => by cases b <;> simp [eqbL, PV.eqb_iff x, eqbL_iff r]
end
instance : DecidableEq PV := fun a b =>
  if h : PV.eqb a b = true then .isTrue ((PV.eqb_iff a b).mp h) else .isFalse fun e => h ((PV.eqb_iff a b).mpr e)

/-- a local name: nothing is known, a value, a list or dict that only this name holds -/
inductive Slot where
  | un
  | val (v : PV)
  | own (v : PV)
abbrev Env := List Slot
/-- shared lists, by their numbers -/
abbrev Sto := List (List PV)
abbrev Ct := String → Option (Addr × List Str)

/-- seen: neither a shared list nor one that a name owns -/
def Vw (H : Hp) (A M : List Addr) (a : Addr) (u : HO) : Prop := H a = some u ∧ a ∉ A ∧ a ∉ M
def VwR (H : Hp) (A M : List Addr) (a : Addr) (u : HO) : Prop := Rd H a u ∧ a ∉ A ∧ a ∉ M
/-- locked: a dict that no name owns -/
def VwF (H : Hp) (A M : List Addr) (a : Addr) (u : HO) : Prop := (∃ o, H a = some (.frz o u)) ∧ a ∉ A ∧ a ∉ M
abbrev H00 : Hp := fun _ => none

def keyV : Key → PV
  | .inl i => .int i
  | .inr x => .str x

section
variable (K : PySem.W.Frag) (ct : Ct)
mutual
def Rep (H : Hp) (A M : List Addr) : PV → V → Prop
  | .non, x => x = .non
  | .bl b, x => x = .bl b
  | .int i, x => x = .int i
  | .str z, x => x = .str z
  | .tup xs, x => ∃ a vs, x = .ref a ∧ Vw H A M a (.tup vs) ∧ RepL H A M xs vs
  | .lst xs, x => ∃ a vs, x = .ref a ∧ Vw H A M a (.lst vs) ∧ RepL H A M xs vs
  | .dic t ks xs, x => ∃ a, x = .ref a ∧ ((t = false ∧ ∃ ws : List (Key × V), VwF H A M a (.dK ws) ∧ ks = ws.map (fun w => keyV w.1) ∧ RepL H A M xs (ws.map (·.2))) ∨
      t = true ∧ ∃ ws : List (List Key × V), VwF H A M a (.dT ws) ∧ ks = ws.map (fun w => .tup (w.1.map keyV)) ∧ RepL H A M xs (ws.map (·.2)))
  | .ins c fs, x => ∃ a C dx ns vs, x = .ref a ∧ ct c = some (C, ns) ∧ Vw H A M a (.ins C dx (ns.zip vs)) ∧ vs.length = ns.length ∧ RepL H A M fs vs
  | .obj n, x => ∃ a, x = .ref a ∧ A[n]? = some a
  | .scr ns, x => ∃ a, x = .ref a ∧ (VwR H A M a (.lst (ns.map V.int)) ∨ SqL K H00 a (ns.map V.int))
def RepL (H : Hp) (A M : List Addr) : List PV → List V → Prop
  | [], vs => vs = []
  | p :: ps, vs => ∃ v r, vs = v :: r ∧ Rep H A M p v ∧ RepL H A M ps r
end

/-- what stands at p, itself hidden -/
def Cont (H : Hp) (A M : List Addr) (p : Addr) : PV → Prop
  | .lst xs => ∃ vs, H p = some (.lst vs) ∧ RepL K ct H A M xs vs
  | .dic t ks xs => (t = false ∧ ∃ ws : List (Key × V), H p = some (.dK ws) ∧ ks = ws.map (fun w => keyV w.1) ∧ RepL K ct H A M xs (ws.map (·.2))) ∨
      t = true ∧ ∃ ws : List (List Key × V), H p = some (.dT ws) ∧ ks = ws.map (fun w => .tup (w.1.map keyV)) ∧ RepL K ct H A M xs (ws.map (·.2))
  | _ => False

structure StoOk (H : Hp) (A M : List Addr) (S : Sto) : Prop where
  len : S.length = A.length
  at' : ∀ (n : Nat) (a : Addr) (xs : List PV), A[n]? = some a → S[n]? = some xs → ∃ vs, H a = some (.lst vs) ∧ RepL K ct H A M xs vs
structure Bs (A M : List Addr) (H : Hp) (S : Sto) : Prop where
  sto : StoOk K ct H A M S
  nodup : A.Nodup
  inM : ∀ a ∈ M, H a ≠ none
  disj : ∀ a ∈ M, a ∉ A
  noT : ∀ a ∈ M, ∀ vs, H a ≠ some (.tup vs)
end

/-- later: what is seen stays seen -/
structure Lat (A M : List Addr) (H : Hp) (A' M' : List Addr) (H' : Hp) : Prop where
  pre : A <+: A'
  vis : ∀ a o, H a = some o → a ∉ A → a ∉ M → H' a = some o ∧ a ∉ A' ∧ a ∉ M'
theorem Lat.refl (A M : List Addr) (H : Hp) : Lat A M H A M H := ⟨List.prefix_refl A, fun _ _ h h1 h2 => ⟨h, h1, h2⟩⟩
theorem Lat.trans {A M A1 M1 A2 M2 : List Addr} {H H1 H2 : Hp} (x : Lat A M H A1 M1 H1) (y : Lat A1 M1 H1 A2 M2 H2) : Lat A M H A2 M2 H2 :=
  ⟨x.pre.trans y.pre, fun a o h h1 h2 => let ⟨p, q, r⟩ := x.vis a o h h1 h2; y.vis a o p q r⟩
/-- behind an expression or a call: all but the shared lists is as it was -/
structure Post (A : List Addr) (H : Hp) (A' : List Addr) (H' : Hp) : Prop where
  pre : A <+: A'
  ext : ∀ a o, H a = some o → a ∉ A → H' a = some o
  new : ∀ a ∈ A', a ∈ A ∨ H a = none
  nodup : A'.Nodup
theorem Post.refl {A : List Addr} (H : Hp) (n : A.Nodup) : Post A H A H := ⟨List.prefix_refl A, fun _ _ h _ => h, fun _ h => .inl h, n⟩
theorem Post.out {A A' : List Addr} {H H' : Hp} (x : Post A H A' H') {a : Addr} {o : HO} (h : H a = some o) (n : a ∉ A) : a ∉ A' := fun z => by
  rcases x.new a z with q | q
  · exact n q
  · rw [q] at h; cases h
theorem Post.trans {A A1 A2 : List Addr} {H H1 H2 : Hp} (x : Post A H A1 H1) (y : Post A1 H1 A2 H2) : Post A H A2 H2 :=
  ⟨x.pre.trans y.pre, fun a o h n => y.ext a o (x.ext a o h n) (x.out h n), fun a h => by
    rcases y.new a h with q | q
    · exact x.new a q
    · by_cases ha : a ∈ A
      · exact .inl ha
      · refine .inr ?_
        cases e : H a with
        | none => rfl
        | some o => exact absurd ((x.ext a o e ha).symm.trans q) (by simp), y.nodup⟩
theorem Post.lat {A A' : List Addr} {H H' : Hp} (x : Post A H A' H') (M : List Addr) : Lat A M H A' M H' :=
  ⟨x.pre, fun a o h n m => ⟨x.ext a o h n, x.out h n, m⟩⟩
theorem Post.grow {A : List Addr} {H H' : Hp} (n : A.Nodup) (g : Same H H') : Post A H A H' := ⟨List.prefix_refl A, fun a o h _ => g a o h, fun _ h => .inl h, n⟩
theorem same_new {H : Hp} {p : Addr} {o : HO} (h : H p = none) : Same H (upd H p o) := fun b x e => by
  rw [upd_ne (ne_of_none e h)]; exact e

section
variable {K : PySem.W.Frag} {ct : Ct} {A M A' M' : List Addr} {H H' : Hp}
theorem VwR.lat (l : Lat A M H A' M' H') {a : Addr} {u : HO} (v : VwR H A M a u) : VwR H' A' M' a u := by
  obtain ⟨r, n, m⟩ := v
  rcases r with r | ⟨o, r⟩
  · obtain ⟨h1, h2, h3⟩ := l.vis a _ r n m
    exact ⟨.inl h1, h2, h3⟩
  · obtain ⟨h1, h2, h3⟩ := l.vis a _ r n m
    exact ⟨.inr ⟨o, h1⟩, h2, h3⟩
theorem Vw.lat (l : Lat A M H A' M' H') {a : Addr} {u : HO} (v : Vw H A M a u) : Vw H' A' M' a u := l.vis a u v.1 v.2.1 v.2.2
theorem VwF.lat (l : Lat A M H A' M' H') {a : Addr} {u : HO} (v : VwF H A M a u) : VwF H' A' M' a u := by
  obtain ⟨⟨o, r⟩, n, m⟩ := v
  obtain ⟨h1, h2, h3⟩ := l.vis a _ r n m
  exact ⟨⟨o, h1⟩, h2, h3⟩
theorem VwF.rd {a : Addr} {u : HO} (v : VwF H A M a u) : Rd H a u := .inr v.1
theorem Vw.r {a : Addr} {u : HO} (v : Vw H A M a u) : VwR H A M a u := ⟨.inl v.1, v.2⟩
mutual
theorem Rep.lat (l : Lat A M H A' M' H') : ∀ (p : PV) (x : V), Rep K ct H A M p x → Rep K ct H' A' M' p x
  | .non, x, e => by simpa only [Rep] using e
  | .bl b, x, e => by simpa only [Rep] using e
  | .int b, x, e => by simpa only [Rep] using e
  | .str b, x, e => by simpa only [Rep] using e
  | .tup xs, x, e => by
    simp only [Rep] at e ⊢
    obtain ⟨a, vs, e1, e2, e3⟩ := e
    exact ⟨a, vs, e1, e2.lat l, RepL.lat l xs vs e3⟩
  | .lst xs, x, e => by
    simp only [Rep] at e ⊢
    obtain ⟨a, vs, e1, e2, e3⟩ := e
    exact ⟨a, vs, e1, e2.lat l, RepL.lat l xs vs e3⟩
  | .dic t ks xs, x, e => by
    simp only [Rep] at e ⊢
    obtain ⟨a, e1, e2⟩ := e
    refine ⟨a, e1, ?_⟩
    rcases e2 with ⟨ht, ws, h1, h2, h3⟩ | ⟨ht, ws, h1, h2, h3⟩
    · exact .inl ⟨ht, ws, h1.lat l, h2, RepL.lat l xs _ h3⟩
    · exact .inr ⟨ht, ws, h1.lat l, h2, RepL.lat l xs _ h3⟩
  | .ins c fs, x, e => by
    simp only [Rep] at e ⊢
    obtain ⟨a, C, dx, ns, vs, e1, e2, e3, e4, e5⟩ := e
    exact ⟨a, C, dx, ns, vs, e1, e2, e3.lat l, e4, RepL.lat l fs vs e5⟩
  | .obj n, x, e => by
    simp only [Rep] at e ⊢
    obtain ⟨a, e1, e2⟩ := e
    exact ⟨a, e1, by
      obtain ⟨t, rfl⟩ := l.pre
      rw [List.getElem?_append_left (List.getElem?_eq_some_iff.mp e2).1]; exact e2⟩
  | .scr ns, x, e => by
    simp only [Rep] at e ⊢
    obtain ⟨a, e1, e2⟩ := e
    exact ⟨a, e1, e2.imp (VwR.lat l) id⟩
theorem RepL.lat (l : Lat A M H A' M' H') : ∀ (p : List PV) (x : List V), RepL K ct H A M p x → RepL K ct H' A' M' p x
  | [], x, e => by simpa only [RepL] using e
  | p :: ps, x, e => by
    simp only [RepL] at e ⊢
    obtain ⟨v, r, e1, e2, e3⟩ := e
    exact ⟨v, r, e1, Rep.lat l p v e2, RepL.lat l ps r e3⟩
end
theorem RepL.nil_iff {vs : List V} : RepL K ct H A M [] vs ↔ vs = [] := by simp only [RepL]
theorem RepL.cons {p : PV} {ps : List PV} {v : V} {vs : List V} (h : Rep K ct H A M p v) (t : RepL K ct H A M ps vs) : RepL K ct H A M (p :: ps) (v :: vs) := by
  simp only [RepL]; exact ⟨v, vs, rfl, h, t⟩
theorem RepL.inv {p : PV} {ps : List PV} {vs : List V} (h : RepL K ct H A M (p :: ps) vs) : ∃ v r, vs = v :: r ∧ Rep K ct H A M p v ∧ RepL K ct H A M ps r := by
  simpa only [RepL] using h
theorem RepL.nil : RepL K ct H A M [] [] := by simp only [RepL]
theorem RepL.length : ∀ {ps : List PV} {vs : List V}, RepL K ct H A M ps vs → vs.length = ps.length
  | [], vs, h => by rw [RepL.nil_iff.mp h]; rfl
  | p :: ps, vs, h => by
    obtain ⟨v, r, rfl, _, t⟩ := h.inv
    rw [List.length_cons, List.length_cons, t.length]
theorem RepL.append : ∀ {ps qs : List PV} {vs ws : List V}, RepL K ct H A M ps vs → RepL K ct H A M qs ws → RepL K ct H A M (ps ++ qs) (vs ++ ws)
  | [], qs, vs, ws, h, t => by rw [RepL.nil_iff.mp h]; exact t
  | p :: ps, qs, vs, ws, h, t => by
    obtain ⟨v, r, rfl, h1, h2⟩ := h.inv
    exact .cons h1 (h2.append t)
theorem RepL.get : ∀ {ps : List PV} {vs : List V} {i : Nat} {p : PV}, RepL K ct H A M ps vs → ps[i]? = some p → ∃ v, vs[i]? = some v ∧ Rep K ct H A M p v
  | [], vs, i, p, h, e => by simp at e
  | q :: ps, vs, 0, p, h, e => by
    obtain ⟨v, r, rfl, h1, h2⟩ := h.inv
    cases e
    exact ⟨v, rfl, h1⟩
  | q :: ps, vs, i + 1, p, h, e => by
    obtain ⟨v, r, rfl, h1, h2⟩ := h.inv
    exact h2.get (i := i) e
theorem RepL.getV : ∀ {ps : List PV} {vs : List V} {i : Nat} {v : V}, RepL K ct H A M ps vs → vs[i]? = some v → ∃ p, ps[i]? = some p ∧ Rep K ct H A M p v := fun {ps vs i v} h e => by
  have hl := h.length
  have hi : i < vs.length := (List.getElem?_eq_some_iff.mp e).1
  obtain ⟨w, e2, r⟩ := h.get (i := i) (List.getElem?_eq_getElem (by omega))
  rw [e] at e2; cases e2
  exact ⟨_, List.getElem?_eq_getElem (by omega), r⟩
theorem RepL.take : ∀ {ps : List PV} {vs : List V} (n : Nat), RepL K ct H A M ps vs → RepL K ct H A M (ps.take n) (vs.take n)
  | _, _, 0, h => by simp only [List.take_zero]; exact .nil
  | [], vs, n + 1, h => by rw [RepL.nil_iff.mp h]; exact .nil
  | p :: ps, vs, n + 1, h => by
    obtain ⟨v, r, rfl, h1, h2⟩ := h.inv
    exact .cons h1 (h2.take n)
theorem RepL.drop : ∀ {ps : List PV} {vs : List V} (n : Nat), RepL K ct H A M ps vs → RepL K ct H A M (ps.drop n) (vs.drop n)
  | _, _, 0, h => by simpa only [List.drop_zero] using h
  | [], vs, n + 1, h => by rw [RepL.nil_iff.mp h]; exact .nil
  | p :: ps, vs, n + 1, h => by
    obtain ⟨v, r, rfl, h1, h2⟩ := h.inv
    exact h2.drop n
theorem RepL.set : ∀ {ps : List PV} {vs : List V} (n : Nat) {p : PV} {v : V}, RepL K ct H A M ps vs → Rep K ct H A M p v → RepL K ct H A M (ps.set n p) (vs.set n v)
  | [], vs, n, p, v, h, _ => by rw [RepL.nil_iff.mp h]; exact .nil
  | q :: ps, vs, 0, p, v, h, e => by
    obtain ⟨w, r, rfl, h1, h2⟩ := h.inv
    exact .cons e h2
  | q :: ps, vs, n + 1, p, v, h, e => by
    obtain ⟨w, r, rfl, h1, h2⟩ := h.inv
    exact .cons h1 (h2.set n e)
theorem RepL.reverse : ∀ {ps : List PV} {vs : List V}, RepL K ct H A M ps vs → RepL K ct H A M ps.reverse vs.reverse
  | [], vs, h => by rw [RepL.nil_iff.mp h]; exact .nil
  | p :: ps, vs, h => by
    obtain ⟨v, r, rfl, h1, h2⟩ := h.inv
    simp only [List.reverse_cons]
    exact h2.reverse.append (.cons h1 .nil)
theorem RepL.one {p : PV} {vs : List V} (h : RepL K ct H A M [p] vs) : ∃ v, vs = [v] ∧ Rep K ct H A M p v := by
  obtain ⟨v, r, rfl, h1, h2⟩ := h.inv
  rw [RepL.nil_iff.mp h2]; exact ⟨v, rfl, h1⟩
theorem RepL.two {p q : PV} {vs : List V} (h : RepL K ct H A M [p, q] vs) : ∃ v w, vs = [v, w] ∧ Rep K ct H A M p v ∧ Rep K ct H A M q w := by
  obtain ⟨v, r, rfl, h1, h2⟩ := h.inv
  obtain ⟨w, rfl, h3⟩ := h2.one
  exact ⟨v, w, rfl, h1, h3⟩
theorem RepL.three {p q u : PV} {vs : List V} (h : RepL K ct H A M [p, q, u] vs) : ∃ v w z, vs = [v, w, z] ∧ Rep K ct H A M p v ∧ Rep K ct H A M q w ∧ Rep K ct H A M u z := by
  obtain ⟨v, r, rfl, h1, h2⟩ := h.inv
  obtain ⟨w, z, rfl, h3, h4⟩ := h2.two
  exact ⟨v, w, z, rfl, h1, h3, h4⟩
/-- ints -/
theorem Rep.int_iff {i : Int} {x : V} : Rep K ct H A M (.int i) x ↔ x = .int i := by simp only [Rep]
theorem Rep.bl_iff {i : Bool} {x : V} : Rep K ct H A M (.bl i) x ↔ x = .bl i := by simp only [Rep]
theorem Rep.str_iff {i : Str} {x : V} : Rep K ct H A M (.str i) x ↔ x = .str i := by simp only [Rep]
theorem Rep.non_iff {x : V} : Rep K ct H A M .non x ↔ x = .non := by simp only [Rep]
theorem RepL.ints : ∀ {ns : List Int} {vs : List V}, RepL K ct H A M (ns.map PV.int) vs → vs = ns.map V.int
  | [], vs, h => by rw [RepL.nil_iff.mp h]; rfl
  | n :: ns, vs, h => by
    obtain ⟨v, r, rfl, h1, h2⟩ := RepL.inv (by simpa only [List.map_cons] using h)
    rw [Rep.int_iff.mp h1, h2.ints]; rfl
theorem RepL.of_ints : ∀ (ns : List Int), RepL K ct H A M (ns.map PV.int) (ns.map V.int)
  | [] => .nil
  | n :: ns => .cons (Rep.int_iff.mpr rfl) (RepL.of_ints ns)
theorem RepL.bls : ∀ {ns : List Bool} {vs : List V}, RepL K ct H A M (ns.map PV.bl) vs → vs = ns.map V.bl
  | [], vs, h => by rw [RepL.nil_iff.mp h]; rfl
  | n :: ns, vs, h => by
    obtain ⟨v, r, rfl, h1, h2⟩ := RepL.inv (by simpa only [List.map_cons] using h)
    rw [Rep.bl_iff.mp h1, h2.bls]; rfl
/-- as the layer's own sequences -/
theorem Vw.sqL {a : Addr} {vs : List V} (h : Vw H A M a (.lst vs)) : SqL K H a vs := .inl (.inl h.1)
theorem Vw.sqT {a : Addr} {vs : List V} (h : Vw H A M a (.tup vs)) : SqT K H a vs := .inl (.inl h.1)
theorem sq_scr {a : Addr} {vs : List V} (h : VwR H A M a (.lst vs) ∨ SqL K H00 a vs) : SqL K H a vs := by
  rcases h with ⟨r, _, _⟩ | h
  · exact .inl r
  · rcases h with (h | ⟨o, h⟩) | h
    · cases h
    · cases h
    · exact .inr h
theorem Rep.lst_inv {xs : List PV} {x : V} (h : Rep K ct H A M (.lst xs) x) : ∃ a vs, x = .ref a ∧ Vw H A M a (.lst vs) ∧ RepL K ct H A M xs vs := by
  simpa only [Rep] using h
theorem Rep.tup_inv {xs : List PV} {x : V} (h : Rep K ct H A M (.tup xs) x) : ∃ a vs, x = .ref a ∧ Vw H A M a (.tup vs) ∧ RepL K ct H A M xs vs := by
  simpa only [Rep] using h
theorem Rep.scr_inv {ns : List Int} {x : V} (h : Rep K ct H A M (.scr ns) x) : ∃ a, x = .ref a ∧ SqL K H a (ns.map V.int) ∧ (VwR H A M a (.lst (ns.map V.int)) ∨ SqL K H00 a (ns.map V.int)) := by
  simp only [Rep] at h
  obtain ⟨a, e1, e2⟩ := h
  exact ⟨a, e1, sq_scr e2, e2⟩
/-- a new tuple, a new list -/
theorem Rep.new_tup {xs : List PV} {vs : List V} {p : Addr} (h : RepL K ct H A M xs vs) (np : H p = none) (hA : ∀ a ∈ A, H a ≠ none) (hM : ∀ a ∈ M, H a ≠ none) (nd : A.Nodup) : Rep K ct (upd H p (.tup vs)) A M (.tup xs) (.ref p) := by
  simp only [Rep]
  exact ⟨p, vs, rfl, ⟨upd_same, fun z => hA p z np, fun z => hM p z np⟩, h.lat ((Post.grow nd (same_new np)).lat M) xs vs⟩
theorem Rep.new_lst {xs : List PV} {vs : List V} {p : Addr} (h : RepL K ct H A M xs vs) (np : H p = none) (hA : ∀ a ∈ A, H a ≠ none) (hM : ∀ a ∈ M, H a ≠ none) (nd : A.Nodup) : Rep K ct (upd H p (.lst vs)) A M (.lst xs) (.ref p) := by
  simp only [Rep]
  exact ⟨p, vs, rfl, ⟨upd_same, fun z => hA p z np, fun z => hM p z np⟩, h.lat ((Post.grow nd (same_new np)).lat M) xs vs⟩

theorem StoOk.inA {S : Sto} (s : StoOk K ct H A M S) : ∀ a ∈ A, H a ≠ none := fun a ha e => by
  obtain ⟨n, hn, rfl⟩ := List.mem_iff_getElem.mp ha
  have hs : n < S.length := by rw [s.len]; exact hn
  obtain ⟨vs, h, _⟩ := s.at' n A[n] S[n] (List.getElem?_eq_getElem hn) (List.getElem?_eq_getElem hs)
  rw [e] at h; cases h
/-- the shared lists behind a step that lays new objects alone -/
theorem StoOk.grow {S : Sto} (s : StoOk K ct H A M S) (nd : A.Nodup) (g : Same H H') : StoOk K ct H' A M S :=
  ⟨s.len, fun n a xs h1 h2 => let ⟨vs, h3, h4⟩ := s.at' n a xs h1 h2; ⟨vs, g _ _ h3, h4.lat ((Post.grow nd g).lat M) xs vs⟩⟩
theorem StoOk.less {S : Sto} {M' : List Addr} (s : StoOk K ct H A M S) (h : ∀ a ∈ M', a ∈ M) : StoOk K ct H A M' S :=
  ⟨s.len, fun n a xs h1 h2 => let ⟨vs, h3, h4⟩ := s.at' n a xs h1 h2; ⟨vs, h3, h4.lat ⟨List.prefix_refl A, fun b o e n m => ⟨e, n, fun z => m (h b z)⟩⟩ xs vs⟩⟩
theorem lat_less {M' : List Addr} (h : ∀ a ∈ M', a ∈ M) : Lat A M H A M' H := ⟨List.prefix_refl A, fun b o e n m => ⟨e, n, fun z => m (h b z)⟩⟩
theorem lat_hide {p : Addr} (np : H p = none) (g : Same H H') : Lat A M H A (p :: M) H' := ⟨List.prefix_refl A, fun b o e n m => ⟨g b o e, n, fun z => by
  rcases List.mem_cons.mp (show _ ∈ _ :: _ from z) with z | z
  · subst z; rw [np] at e; cases e
  · exact m z⟩⟩
/-- an object that is hidden or shared changes -/
theorem lat_upd {p : Addr} {o : HO} (hp : p ∈ A ∨ p ∈ M) : Lat A M H A M (upd H p o) := ⟨List.prefix_refl A, fun b u e n m => ⟨by
  rw [upd_ne (fun z => by subst z; exact hp.elim n m)]; exact e, n, m⟩⟩
end

/-! ### the frame -/
structure Gh where
  H0 : Hp
  A0 : List Addr
  M0 : List Addr
  A : List Addr
  M : List Addr
section
variable (K : PySem.W.Frag) (ct : Ct)
def SlotOk (G : Gh) (σ : St) (H : Hp) (i : Nat) : Slot → Prop
  | .un => True
  | .val v => ∃ x, σ[i]? = some (some x) ∧ Rep K ct H G.A G.M v x
  | .own v => ∃ p, σ[i]? = some (some (.ref p)) ∧ p ∈ G.M ∧ G.H0 p = none ∧ Cont K ct H G.A G.M p v
structure Good (G : Gh) (σ : St) (H : Hp) (env : Env) (S : Sto) : Prop where
  bs : Bs K ct G.A G.M H S
  slot : ∀ (i : Nat) (s : Slot), env[i]? = some s → SlotOk K ct G σ H i s
  uniq : ∀ (i j : Nat) (v w : PV) (p : Addr), env[i]? = some (.own v) → env[j]? = some (.own w) → σ[i]? = some (some (.ref p)) → σ[j]? = some (some (.ref p)) → i = j
  ext0 : ∀ a o, G.H0 a = some o → a ∉ G.A0 → H a = some o
  pre0 : G.A0 <+: G.A
  new0 : ∀ a ∈ G.A, a ∈ G.A0 ∨ G.H0 a = none
  sub0 : ∀ a ∈ G.M0, a ∈ G.M
  in0 : ∀ a ∈ G.M0, G.H0 a ≠ none
  len : env.length = σ.length
end
section
variable {K : PySem.W.Frag} {ct : Ct} {G : Gh} {σ : St} {H H' : Hp} {env : Env} {S S' : Sto} {A' : List Addr}
theorem Cont.lat {A M A' M' : List Addr} {p : Addr} {v : PV} (l : Lat A M H A' M' H') (e : H' p = H p) (c : Cont K ct H A M p v) : Cont K ct H' A' M' p v := by
  cases v with
  | lst xs =>
    obtain ⟨vs, h1, h2⟩ := c
    exact ⟨vs, e.trans h1, h2.lat l xs vs⟩
  | dic t ks xs =>
    rcases c with ⟨ht, ws, h1, h2, h3⟩ | ⟨ht, ws, h1, h2, h3⟩
    · exact .inl ⟨ht, ws, e.trans h1, h2, h3.lat l xs _⟩
    · exact .inr ⟨ht, ws, e.trans h1, h2, h3.lat l xs _⟩
  | _ => exact False.elim c
theorem Cont.there {A M : List Addr} {p : Addr} {v : PV} (c : Cont K ct H A M p v) : ∃ o, H p = some o := by
  cases v with
  | lst xs => obtain ⟨vs, h1, h2⟩ := c; exact ⟨_, h1⟩
  | dic t ks xs => rcases c with ⟨ht, ws, h1, h2, h3⟩ | ⟨ht, ws, h1, h2, h3⟩ <;> exact ⟨_, h1⟩
  | _ => exact False.elim c
theorem Cont.noT {A M : List Addr} {p : Addr} {v : PV} (c : Cont K ct H A M p v) : ∀ vs, H p ≠ some (.tup vs) := fun us e => by
  cases v with
  | lst xs => obtain ⟨vs, h1, h2⟩ := c; rw [e] at h1; cases h1
  | dic t ks xs => rcases c with ⟨ht, ws, h1, h2, h3⟩ | ⟨ht, ws, h1, h2, h3⟩ <;> (rw [e] at h1; cases h1)
  | _ => exact False.elim c
theorem Good.inA (g : Good K ct G σ H env S) : ∀ a ∈ G.A, H a ≠ none := g.bs.sto.inA
/-- behind an expression -/
theorem Good.post (g : Good K ct G σ H env S) (x : Post G.A H A' H') (s : StoOk K ct H' A' G.M S') : Good K ct { G with A := A' } σ H' env S' where
  bs := ⟨s, x.nodup, fun a ha e => by
    cases q : H a with
    | none => exact g.bs.inM a ha q
    | some o => exact absurd ((x.ext a o q (g.bs.disj a ha)).symm.trans e) (by simp), fun a ha => by
    cases q : H a with
    | none => exact absurd q (g.bs.inM a ha)
    | some o => exact x.out q (g.bs.disj a ha), fun a ha vs e => by
    cases q : H a with
    | none => exact absurd q (g.bs.inM a ha)
    | some o => exact g.bs.noT a ha vs (by rw [q, ← e]; exact (x.ext a o q (g.bs.disj a ha)).symm)⟩
  slot := fun i s hs => by
    have q := g.slot i s hs
    cases s with
    | un => trivial
    | val v =>
      obtain ⟨y, h1, h2⟩ := q
      exact ⟨y, h1, h2.lat (x.lat G.M) v y⟩
    | own v =>
      obtain ⟨p, h1, h2, h3, h4⟩ := q
      obtain ⟨o, ho⟩ := h4.there
      exact ⟨p, h1, h2, h3, h4.lat (x.lat G.M) ((x.ext p o ho (g.bs.disj p h2)).trans ho.symm)⟩
  uniq := g.uniq
  ext0 := fun a o h n => x.ext a o (g.ext0 a o h n) (fun z => by
    rcases g.new0 a z with q | q
    · exact n q
    · rw [q] at h; cases h)
  pre0 := g.pre0.trans x.pre
  new0 := fun a h => by
    rcases x.new a h with q | q
    · exact g.new0 a q
    · by_cases ha : a ∈ G.A0
      · exact .inl ha
      · refine .inr ?_
        cases e : G.H0 a with
        | none => rfl
        | some o => rw [g.ext0 a o e ha] at q; cases q
  sub0 := g.sub0
  in0 := g.in0
  len := g.len
theorem Good.grow (g : Good K ct G σ H env S) (h : Same H H') : Good K ct G σ H' env S := g.post (Post.grow g.bs.nodup h) (g.bs.sto.grow g.bs.nodup h)
theorem Good.fresh0 (g : Good K ct G σ H env S) {p : Addr} (h : H p = none) : G.H0 p = none := by
  cases e : G.H0 p with
  | none => rfl
  | some o =>
    by_cases ha : p ∈ G.A0
    · exact absurd h (g.inA p (g.pre0.subset ha))
    · rw [g.ext0 p o e ha] at h; cases h
/-- fewer hidden: those that no name owns -/
theorem Good.less {M' : List Addr} (g : Good K ct G σ H env S) (h : ∀ a ∈ M', a ∈ G.M) (h0 : ∀ a ∈ G.M0, a ∈ M') (ho : ∀ (i : Nat) (v : PV) (p : Addr), env[i]? = some (.own v) → σ[i]? = some (some (.ref p)) → p ∈ M') : Good K ct { G with M := M' } σ H env S where
  bs := ⟨g.bs.sto.less h, g.bs.nodup, fun a ha => g.bs.inM a (h a ha), fun a ha => g.bs.disj a (h a ha), fun a ha => g.bs.noT a (h a ha)⟩
  slot := fun i s hs => by
    have q := g.slot i s hs
    cases s with
    | un => trivial
    | val v =>
      obtain ⟨y, h1, h2⟩ := q
      exact ⟨y, h1, h2.lat (lat_less h) v y⟩
    | own v =>
      obtain ⟨p, h1, h2, h3, h4⟩ := q
      exact ⟨p, h1, ho i v p hs h1, h3, h4.lat (lat_less h) rfl⟩
  uniq := g.uniq
  ext0 := g.ext0
  pre0 := g.pre0
  new0 := g.new0
  sub0 := h0
  in0 := g.in0
  len := g.len
/-- a new object, hidden -/
theorem Good.hide {p : Addr} (g : Good K ct G σ H env S) (np : H p = none) (h : Same H H') (ht : H' p ≠ none) (hu : ∀ vs, H' p ≠ some (.tup vs)) : Good K ct { G with M := p :: G.M } σ H' env S where
  bs := ⟨⟨g.bs.sto.len, fun n a xs h1 h2 => let ⟨vs, h3, h4⟩ := g.bs.sto.at' n a xs h1 h2; ⟨vs, h _ _ h3, h4.lat (lat_hide np h) xs vs⟩⟩, g.bs.nodup, fun a ha e => by
      rcases List.mem_cons.mp ha with z | z
      · subst z; exact ht e
      · cases q : H a with
        | none => exact g.bs.inM a z q
        | some o => exact absurd ((h a o q).symm.trans e) (by simp), fun a ha hA => by
      rcases List.mem_cons.mp ha with z | z
      · subst z; exact g.inA a hA np
      · exact g.bs.disj a z hA, fun a ha vs e => by
      rcases List.mem_cons.mp ha with z | z
      · subst z; exact hu vs e
      · cases q : H a with
        | none => exact g.bs.inM a z q
        | some o => exact g.bs.noT a z vs (by rw [q, ← e]; exact (h a o q).symm)⟩
  slot := fun i s hs => by
    have q := g.slot i s hs
    cases s with
    | un => trivial
    | val v =>
      obtain ⟨y, h1, h2⟩ := q
      exact ⟨y, h1, h2.lat (lat_hide np h) v y⟩
    | own v =>
      obtain ⟨p', h1, h2, h3, h4⟩ := q
      obtain ⟨o, ho⟩ := h4.there
      exact ⟨p', h1, List.mem_cons_of_mem _ h2, h3, h4.lat (lat_hide np h) ((h p' o ho).trans ho.symm)⟩
  uniq := g.uniq
  ext0 := fun a o e n => h a o (g.ext0 a o e n)
  pre0 := g.pre0
  new0 := g.new0
  sub0 := fun a ha => List.mem_cons_of_mem _ (g.sub0 a ha)
  in0 := g.in0
  len := g.len
theorem getSet {α : Type} {l : List α} {i j : Nat} {a b : α} (h : (l.set i a)[j]? = some b) : (i = j ∧ b = a ∧ i < l.length) ∨ (i ≠ j ∧ l[j]? = some b) := by
  by_cases hj : i = j
  · subst hj
    by_cases hi : i < l.length
    · rw [List.getElem?_set_self hi] at h; cases h; exact .inl ⟨rfl, rfl, hi⟩
    · rw [List.getElem?_eq_none (by rw [List.length_set]; omega)] at h; cases h
  · rw [List.getElem?_set_ne hj] at h; exact .inr ⟨hj, h⟩
/-- a name stored -/
theorem Good.set {i : Nat} {x : V} {v : PV} (g : Good K ct G σ H env S) (r : Rep K ct H G.A G.M v x) : Good K ct G (σ.set i (some x)) H (env.set i (.val v)) S where
  bs := g.bs
  slot := fun j s hs => by
    rcases getSet hs with ⟨rfl, rfl, hi⟩ | ⟨hj, hs⟩
    · exact ⟨x, List.getElem?_set_self (by rw [← g.len]; exact hi), r⟩
    · have q := g.slot j s hs
      cases s with
      | un => trivial
      | val w => obtain ⟨y, h1, h2⟩ := q; exact ⟨y, (List.getElem?_set_ne hj).trans h1, h2⟩
      | own w => obtain ⟨p, h1, h2⟩ := q; exact ⟨p, (List.getElem?_set_ne hj).trans h1, h2⟩
  uniq := fun a b u w p h1 h2 h3 h4 => by
    rcases getSet h1 with ⟨_, h, _⟩ | ⟨ha, h1⟩
    · cases h
    · rcases getSet h2 with ⟨_, h, _⟩ | ⟨hb, h2⟩
      · cases h
      · rw [List.getElem?_set_ne ha] at h3
        rw [List.getElem?_set_ne hb] at h4
        exact g.uniq a b u w p h1 h2 h3 h4
  ext0 := g.ext0
  pre0 := g.pre0
  new0 := g.new0
  sub0 := g.sub0
  in0 := g.in0
  len := by rw [List.length_set, List.length_set]; exact g.len
/-- a name forgotten -/
theorem Good.setUn {i : Nat} (g : Good K ct G σ H env S) : Good K ct G (σ.set i none) H (env.set i .un) S where
  bs := g.bs
  slot := fun j s hs => by
    rcases getSet hs with ⟨rfl, rfl, hi⟩ | ⟨hj, hs⟩
    · trivial
    · have q := g.slot j s hs
      cases s with
      | un => trivial
      | val w => obtain ⟨y, h1, h2⟩ := q; exact ⟨y, (List.getElem?_set_ne hj).trans h1, h2⟩
      | own w => obtain ⟨p, h1, h2⟩ := q; exact ⟨p, (List.getElem?_set_ne hj).trans h1, h2⟩
  uniq := fun a b u w p h1 h2 h3 h4 => by
    rcases getSet h1 with ⟨_, h, _⟩ | ⟨ha, h1⟩
    · cases h
    · rcases getSet h2 with ⟨_, h, _⟩ | ⟨hb, h2⟩
      · cases h
      · rw [List.getElem?_set_ne ha] at h3
        rw [List.getElem?_set_ne hb] at h4
        exact g.uniq a b u w p h1 h2 h3 h4
  ext0 := g.ext0
  pre0 := g.pre0
  new0 := g.new0
  sub0 := g.sub0
  in0 := g.in0
  len := by rw [List.length_set, List.length_set]; exact g.len
/-- a name stored that owns what is hidden at p -/
theorem Good.setOwn {i : Nat} {p : Addr} {v : PV} (g : Good K ct G σ H env S) (hp : p ∈ G.M) (h0 : G.H0 p = none) (c : Cont K ct H G.A G.M p v) (hu : ∀ (j : Nat) (w : PV), j ≠ i → env[j]? = some (.own w) → σ[j]? ≠ some (some (.ref p))) :
    Good K ct G (σ.set i (some (.ref p))) H (env.set i (.own v)) S where
  bs := g.bs
  slot := fun j s hs => by
    rcases getSet hs with ⟨rfl, rfl, hi⟩ | ⟨hj, hs⟩
    · exact ⟨p, List.getElem?_set_self (by rw [← g.len]; exact hi), hp, h0, c⟩
    · have q := g.slot j s hs
      cases s with
      | un => trivial
      | val w => obtain ⟨y, h1, h2⟩ := q; exact ⟨y, (List.getElem?_set_ne hj).trans h1, h2⟩
      | own w => obtain ⟨p, h1, h2⟩ := q; exact ⟨p, (List.getElem?_set_ne hj).trans h1, h2⟩
  uniq := fun a b u w q h1 h2 h3 h4 => by
    rcases getSet h1 with ⟨ea, _, hi⟩ | ⟨ha, h1⟩
    · rcases getSet h2 with ⟨eb, _, _⟩ | ⟨hb, h2⟩
      · exact ea.symm.trans eb
      · subst ea
        rw [List.getElem?_set_self (by rw [← g.len]; exact hi)] at h3; cases h3
        rw [List.getElem?_set_ne hb] at h4
        exact absurd h4 (hu b w (Ne.symm hb) h2)
    · rcases getSet h2 with ⟨eb, _, hi⟩ | ⟨hb, h2⟩
      · subst eb
        rw [List.getElem?_set_self (by rw [← g.len]; exact hi)] at h4; cases h4
        rw [List.getElem?_set_ne ha] at h3
        exact absurd h3 (hu a u (Ne.symm ha) h1)
      · rw [List.getElem?_set_ne ha] at h3
        rw [List.getElem?_set_ne hb] at h4
        exact g.uniq a b u w q h1 h2 h3 h4
  ext0 := g.ext0
  pre0 := g.pre0
  new0 := g.new0
  sub0 := g.sub0
  in0 := g.in0
  len := by rw [List.length_set, List.length_set]; exact g.len
/-- what a name owns is changed -/
theorem Good.mutOwn {i : Nat} {p : Addr} {v w : PV} {o : HO} (g : Good K ct G σ H env S) (e : env[i]? = some (.own v)) (eσ : σ[i]? = some (some (.ref p))) (c : Cont K ct (upd H p o) G.A G.M p w) : Good K ct G σ (upd H p o) (env.set i (.own w)) S := by
  obtain ⟨p', h1, hp, h0, c0⟩ := g.slot i _ e
  rw [eσ] at h1; cases h1
  obtain ⟨o0, ho0⟩ := c0.there
  have l : Lat G.A G.M H G.A G.M (upd H p o) := lat_upd (.inr hp)
  have hi : i < σ.length := (List.getElem?_eq_some_iff.mp eσ).1
  refine ⟨⟨⟨g.bs.sto.len, fun n a xs h1 h2 => ?_⟩, g.bs.nodup, fun a ha => ?_, g.bs.disj, fun a ha vs ev => ?_⟩, fun j s hs => ?_, fun a b u w' q h1 h2 h3 h4 => ?_, fun a ob h n => ?_, g.pre0, g.new0, g.sub0, g.in0, by rw [List.length_set]; exact g.len⟩
  · obtain ⟨vs, h3, h4⟩ := g.bs.sto.at' n a xs h1 h2
    have hne : a ≠ p := fun z => g.bs.disj p hp (z ▸ List.mem_of_getElem? h1)
    exact ⟨vs, by rw [upd_ne hne]; exact h3, h4.lat l xs vs⟩
  · by_cases hap : a = p
    · subst hap; rw [upd_same]; simp
    · rw [upd_ne hap]; exact g.bs.inM a ha
  · by_cases hap : a = p
    · subst hap; exact c.noT vs ev
    · rw [upd_ne hap] at ev; exact g.bs.noT a ha vs ev
  · by_cases hj : i = j
    · subst hj
      rw [List.getElem?_set_self (by rw [g.len]; exact hi)] at hs
      cases hs
      exact ⟨p, eσ, hp, h0, c⟩
    · rw [List.getElem?_set_ne hj] at hs
      have q := g.slot j s hs
      cases s with
      | un => trivial
      | val u => obtain ⟨y, h1, h2⟩ := q; exact ⟨y, h1, h2.lat l u y⟩
      | own u =>
        obtain ⟨p', h1, h2, h3, h4⟩ := q
        have hne : p' ≠ p := fun z => by subst z; exact hj (g.uniq i j _ _ _ e hs eσ h1)
        exact ⟨p', h1, h2, h3, h4.lat l (by rw [upd_ne hne])⟩
  · have k1 : ∃ u', env[a]? = some (.own u') := by
      by_cases ha : i = a
      · subst ha; exact ⟨_, e⟩
      · rw [List.getElem?_set_ne ha] at h1; exact ⟨_, h1⟩
    have k2 : ∃ u', env[b]? = some (.own u') := by
      by_cases hb : i = b
      · subst hb; exact ⟨_, e⟩
      · rw [List.getElem?_set_ne hb] at h2; exact ⟨_, h2⟩
    obtain ⟨u1, k1⟩ := k1
    obtain ⟨u2, k2⟩ := k2
    exact g.uniq a b u1 u2 q k1 k2 h3 h4
  · have hne : a ≠ p := fun z => by subst z; rw [h0] at h; cases h
    rw [upd_ne hne]; exact g.ext0 a ob h n
end
end J
set_option Elab.async false
set_option linter.all false
set_option maxRecDepth 100000
/-! J: the judgements, basic expressions and statements. -/
namespace J
open PySem L2

inductive Res (α : Type) where
  | ok (a : α)
  | err
def Res.bind {α β : Type} : Res α → (α → Res β) → Res β
  | .ok a, f => f a
  | .err, _ => .err
theorem Res.bind_ok {α β : Type} {x : Res α} {f : α → Res β} {b : β} (h : x.bind f = .ok b) : ∃ a, x = .ok a ∧ f a = .ok b := by
  cases x with
  | ok a => exact ⟨a, rfl, h⟩
  | err => cases h
def ofO {α : Type} : Option α → Res α
  | some a => .ok a
  | none => .err
theorem ofO_ok {α : Type} {x : Option α} {a : α} (h : ofO x = .ok a) : x = some a := by
  cases x with
  | some b => cases h; rfl
  | none => cases h
abbrev FE := Env → Sto → Res (PV × Sto)
abbrev FT := Env → Sto → Res (Bool × Sto)
abbrev FA := Env → Sto → Res (List PV × Sto)
inductive Fl where
  | nx (e : Env) (S : Sto)
  | rt (v : PV) (S : Sto)
  | bk (e : Env) (S : Sto)
  | ct (e : Env) (S : Sto)
abbrev FS := Env → Sto → Res Fl

structure Hx (A M : List Addr) (H : Hp) : Prop where
  nd : A.Nodup
  inA : ∀ a ∈ A, H a ≠ none
  inM : ∀ a ∈ M, H a ≠ none
  noA : ∀ a ∈ A, ∀ vs, H a ≠ some (.tup vs)
  noM : ∀ a ∈ M, ∀ vs, H a ≠ some (.tup vs)
section
variable (K : PySem.W.Frag) (ct : Ct)
def rd (f : FE) : TE := fun σ H Q => ∃ G env S v S', Good K ct G σ H env S ∧ f env S = .ok (v, S') ∧
  ∀ x H' A', Post G.A H A' H' → StoOk K ct H' A' G.M S' → Rep K ct H' A' G.M v x → Q x H'
def rdT (f : FT) : TT := fun σ H Q => ∃ G env S v S', Good K ct G σ H env S ∧ f env S = .ok (v, S') ∧
  ∀ H' A', Post G.A H A' H' → StoOk K ct H' A' G.M S' → Q v H'
def rdA (f : FA) : TA := fun σ H Q => ∃ G env S v S', Good K ct G σ H env S ∧ f env S = .ok (v, S') ∧
  ∀ x H' A', Post G.A H A' H' → StoOk K ct H' A' G.M S' → RepL K ct H' A' G.M v x → Q x H'
/-- a new list or dict, hidden at once -/
def rdF (f : FE) : TE := fun σ H Q => ∃ G env S v S', Good K ct G σ H env S ∧ f env S = .ok (v, S') ∧
  ∀ p H' A', Post G.A H A' H' → H p = none → p ∉ A' → StoOk K ct H' A' (p :: G.M) S' → Cont K ct H' A' (p :: G.M) p v → Q (.ref p) H'
/-- what may be read at once, be it owned -/
def RepB (H : Hp) (A M : List Addr) (v : PV) (x : V) : Prop := Rep K ct H A M v x ∨ ∃ p, x = .ref p ∧ p ∈ M ∧ Cont K ct H A M p v
def rdB (f : FE) : TE := fun σ H Q => ∃ G env S v S', Good K ct G σ H env S ∧ f env S = .ok (v, S') ∧
  ∀ x H' A', Post G.A H A' H' → StoOk K ct H' A' G.M S' → RepB K ct H' A' G.M v x → Q x H'
def FlOk (G : Gh) (H : Hp) (D : Ends) : Fl → Prop
  | .nx e S => ∀ σ' H' A' M', Lat G.A G.M H A' M' H' → Good K ct { G with A := A', M := M' } σ' H' e S → D.nx σ' H'
  | .bk e S => ∀ σ' H' A' M', Lat G.A G.M H A' M' H' → Good K ct { G with A := A', M := M' } σ' H' e S → D.bk σ' H'
  | .ct e S => ∀ σ' H' A' M', Lat G.A G.M H A' M' H' → Good K ct { G with A := A', M := M' } σ' H' e S → D.ct σ' H'
  | .rt v S => ∀ x H' A', Post G.A0 G.H0 A' H' → StoOk K ct H' A' G.M0 S → Rep K ct H' A' G.M0 v x → D.rt x H'
def rdS (f : FS) : TS := fun D σ H => ∃ G env S fl, Good K ct G σ H env S ∧ f env S = .ok fl ∧ FlOk K ct G H D fl
end
structure JE (ct : Ct) (X : Cx) (e : Expr) (f : FE) : Prop where
  pe : PE X e (rd X.K ct f)
structure JF (ct : Ct) (X : Cx) (e : Expr) (f : FE) : Prop where
  pe : PE X e (rdF X.K ct f)
structure JB (ct : Ct) (X : Cx) (e : Expr) (f : FE) : Prop where
  pe : PE X e (rdB X.K ct f)
structure JT (ct : Ct) (X : Cx) (e : Expr) (f : FT) : Prop where
  pt : PT X e (rdT X.K ct f)
structure JW (ct : Ct) (X : Cx) (e : Expr) (f : FT) : Prop where
  pw : PW X e (rdT X.K ct f)
structure JA (ct : Ct) (X : Cx) (es : List Expr) (f : FA) : Prop where
  pa : PA X es (rdA X.K ct f)
structure JK (ct : Ct) (X : Cx) (es : List Keyword) (f : FA) : Prop where
  pk : PK X es (rdA X.K ct f)
structure JS (ct : Ct) (X : Cx) (st : Stmt) (f : FS) : Prop where
  ps : PS X st (rdS X.K ct f)
structure JSs (ct : Ct) (X : Cx) (st : List Stmt) (f : FS) : Prop where
  ps : PSs X st (rdS X.K ct f)

theorem _root_.L2.PE.imp {X : Cx} {e : Expr} {t t' : TE} (h : PE X e t) (i : ∀ σ H Q, t' σ H Q → t σ H Q) : PE X e t' := ⟨fun pins s σ H Q I q => h.run pins s σ H Q I (i σ H Q q)⟩
theorem _root_.L2.PT.imp {X : Cx} {e : Expr} {t t' : TT} (h : PT X e t) (i : ∀ σ H Q, t' σ H Q → t σ H Q) : PT X e t' := ⟨fun pins s σ H Q I q => h.run pins s σ H Q I (i σ H Q q)⟩
theorem _root_.L2.PW.imp {X : Cx} {e : Expr} {t t' : TT} (h : PW X e t) (i : ∀ σ H Q, t' σ H Q → t σ H Q) : PW X e t' := ⟨fun wh pins s σ H Q I q => h.run wh pins s σ H Q I (i σ H Q q)⟩
theorem _root_.L2.PA.imp {X : Cx} {e : List Expr} {t t' : TA} (h : PA X e t) (i : ∀ σ H Q, t' σ H Q → t σ H Q) : PA X e t' := ⟨fun pos pins s σ H Q I q => h.run pos pins s σ H Q I (i σ H Q q)⟩
theorem _root_.L2.PK.imp {X : Cx} {e : List Keyword} {t t' : TA} (h : PK X e t) (i : ∀ σ H Q, t' σ H Q → t σ H Q) : PK X e t' := ⟨fun pos pins s σ H Q I q => h.run pos pins s σ H Q I (i σ H Q q)⟩
theorem _root_.L2.PS.imp {X : Cx} {e : Stmt} {t t' : TS} (h : PS X e t) (i : ∀ D σ H, t' D σ H → t D σ H) : PS X e t' := ⟨fun pins s σ H Q I q => h.run pins s σ H Q I (i Q σ H q)⟩
theorem _root_.L2.PSs.imp {X : Cx} {e : List Stmt} {t t' : TS} (h : PSs X e t) (i : ∀ D σ H, t' D σ H → t D σ H) : PSs X e t' := ⟨fun pins s σ H Q I q => h.run pins s σ H Q I (i Q σ H q)⟩

theorem Good.hx {K : PySem.W.Frag} {ct : Ct} {G : Gh} {σ : St} {H : Hp} {env : Env} {S : Sto} (g : Good K ct G σ H env S) : Hx G.A G.M H := ⟨g.bs.nodup, g.inA, g.bs.inM, fun a ha vs e => by
  obtain ⟨n, hn, rfl⟩ := List.mem_iff_getElem.mp ha
  have hs : n < S.length := by rw [g.bs.sto.len]; exact hn
  obtain ⟨us, h, _⟩ := g.bs.sto.at' n _ S[n] (List.getElem?_eq_getElem hn) (List.getElem?_eq_getElem hs)
  exact absurd (e.symm.trans h) (by simp), g.bs.noT⟩

/-! ### the pure words -/
def eV (i : Nat) : FE := fun env S => match env[i]? with
  | some (.val v) => .ok (v, S)
  | _ => .err
/-- a name that owns, read at once -/
def eO (i : Nat) : FE := fun env S => match env[i]? with
  | some (.own v) => .ok (v, S)
  | _ => .err
def eC (v : PV) : FE := fun _ S => .ok (v, S)
def eX : FE := fun _ _ => .err
def eOp (op : PV → PV → Option PV) (a b : FE) : FE := fun env S => (a env S).bind fun x => (b env x.2).bind fun y => (ofO (op x.1 y.1)).bind fun z => .ok (z, y.2)
def eUn (op : PV → Option PV) (a : FE) : FE := fun env S => (a env S).bind fun x => (ofO (op x.1)).bind fun z => .ok (z, x.2)
def eAnd (a b : FE) : FE := fun env S => (a env S).bind fun x => match x.1 with
  | .bl true => b env x.2
  | .bl false => .ok (.bl false, x.2)
  | _ => .err
def eOr (a b : FE) : FE := fun env S => (a env S).bind fun x => match x.1 with
  | .bl true => .ok (.bl true, x.2)
  | .bl false => b env x.2
  | _ => .err
def pNot : PV → Option PV
  | .bl b => some (.bl (!b))
  | _ => none
def tV (a : FE) : FT := fun env S => (a env S).bind fun x => match x.1 with
  | .bl b => .ok (b, x.2)
  | _ => .err
def tAn (a b : FT) : FT := fun env S => (a env S).bind fun x => if x.1 then b env x.2 else .ok (false, x.2)
def tOrr (a b : FT) : FT := fun env S => (a env S).bind fun x => if x.1 then .ok (true, x.2) else b env x.2
def tNo (a : FT) : FT := fun env S => (a env S).bind fun x => .ok (!x.1, x.2)
def eIf (c : FT) (a b : FE) : FE := fun env S => (c env S).bind fun x => if x.1 then a env x.2 else b env x.2
def aNil : FA := fun _ S => .ok ([], S)
def aCons (a : FE) (r : FA) : FA := fun env S => (a env S).bind fun x => (r env x.2).bind fun y => .ok (x.1 :: y.1, y.2)
def eB (op : List PV → Option PV) (a : FA) : FE := fun env S => (a env S).bind fun x => (ofO (op x.1)).bind fun z => .ok (z, x.2)
def eCall (f : List PV → Sto → Res (PV × Sto)) (a : FA) : FE := fun env S => (a env S).bind fun x => f x.1 x.2
def sNext : FS := fun env S => .ok (.nx env S)
def sX : FS := fun _ _ => .err
def sBreak : FS := fun env S => .ok (.bk env S)
def sCont : FS := fun env S => .ok (.ct env S)
def sSeq (a b : FS) : FS := fun env S => (a env S).bind fun r => match r with
  | .nx e S' => b e S'
  | x => .ok x
def sRet (a : FE) : FS := fun env S => (a env S).bind fun x => .ok (.rt x.1 x.2)
def sIf (c : FT) (a b : FS) : FS := fun env S => (c env S).bind fun x => if x.1 then a env x.2 else b env x.2
def sSet (i : Nat) (a : FE) : FS := fun env S => (a env S).bind fun x => .ok (.nx (env.set i (.val x.1)) x.2)
def sOwn (i : Nat) (a : FE) : FS := fun env S => (a env S).bind fun x => .ok (.nx (env.set i (.own x.1)) x.2)
def sDrop (a : FE) : FS := fun env S => (a env S).bind fun x => .ok (.nx env x.2)
def frz (i : Nat) (env : Env) : Env := match env[i]? with
  | some (.own v) => env.set i (.val v)
  | _ => env
def sFrz (i : Nat) (a : FS) : FS := fun env S => a (frz i env) S

section
variable {ct : Ct} {X : Cx} {e a b c : Expr} {fa fb fe : FE} {pos : Pos}
theorem je_never : JE ct X e eX := ⟨⟨fun _ _ _ _ _ _ h => by obtain ⟨_, _, _, _, _, _, h, _⟩ := h; cases h⟩⟩
theorem je_var (i : Nat) {x : Str} (hN : X.N[i]? = some x := by rfl) (hv : Vis X.env.scope x := by first | exact Or.inl rfl | exact Or.inr (Or.inl rfl) | exact Or.inr (Or.inr rfl)) (hd : (x == ("__debug__" : Str)) = false := by decide) (hcd : (x == ("__classdict__" : Str)) = false := by decide) : JE ct X (.Name x pos) (eV i) := by
  refine ⟨(pe_var hN hv hd hcd).imp fun σ H Q h => ?_⟩
  obtain ⟨G, env, S, v, S', g, h1, q⟩ := h
  unfold eV at h1
  split at h1
  · rename_i w hw
    cases h1
    obtain ⟨x, h2, r⟩ := g.slot i _ hw
    exact ⟨x, h2, q x H G.A (Post.refl H g.bs.nodup) g.bs.sto r⟩
  · cases h1
theorem jb_own (i : Nat) {x : Str} (hN : X.N[i]? = some x := by rfl) (hv : Vis X.env.scope x := by first | exact Or.inl rfl | exact Or.inr (Or.inl rfl) | exact Or.inr (Or.inr rfl)) (hd : (x == ("__debug__" : Str)) = false := by decide) (hcd : (x == ("__classdict__" : Str)) = false := by decide) : JB ct X (.Name x pos) (eO i) := by
  refine ⟨(pe_var hN hv hd hcd).imp fun σ H Q h => ?_⟩
  obtain ⟨G, env, S, v, S', g, h1, q⟩ := h
  unfold eO at h1
  split at h1
  · rename_i w hw
    cases h1
    obtain ⟨p, h2, h3, h4, r⟩ := g.slot i _ hw
    exact ⟨.ref p, h2, q _ H G.A (Post.refl H g.bs.nodup) g.bs.sto (.inr ⟨p, rfl, h3, r⟩)⟩
  · cases h1
theorem je_const {v : PV} {x : V} (h : PE X e (tC x)) (r : ∀ H A M, Rep X.K ct H A M v x) : JE ct X e (eC v) := by
  refine ⟨h.imp fun σ H Q h => ?_⟩
  obtain ⟨G, env, S, v, S', g, h1, q⟩ := h
  cases h1
  exact q x H G.A (Post.refl H g.bs.nodup) g.bs.sto (r H G.A G.M)
theorem je_int {i : Int} {j} : JE ct X (.Constant (.int i) j pos) (eC (.int i)) := je_const pe_int fun _ _ _ => Rep.int_iff.mpr rfl
theorem je_bl {i : Bool} {j} : JE ct X (.Constant (.bool i) j pos) (eC (.bl i)) := je_const pe_bl fun _ _ _ => Rep.bl_iff.mpr rfl
theorem je_str {i : Str} {j} : JE ct X (.Constant (.str i) j pos) (eC (.str i)) := je_const pe_str fun _ _ _ => Rep.str_iff.mpr rfl
theorem je_non {j} : JE ct X (.Constant .none j pos) (eC .non) := je_const pe_non fun _ _ _ => Rep.non_iff.mpr rfl
theorem je_globI {x : Str} {i : Int} {t : Tok} (hg : Gl X x) (hm : X.mg x = some (.int i t)) (hd : (x == ("__debug__" : Str)) = false := by decide) : JE ct X (.Name x pos) (eC (.int i)) := je_const (pe_glob (v := .int i) hg hm ⟨t, rfl⟩ hd) fun _ _ _ => Rep.int_iff.mpr rfl
theorem je_globS {x : Str} {i : Str} {t : Tok} (hg : Gl X x) (hm : X.mg x = some (.str i t)) (hd : (x == ("__debug__" : Str)) = false := by decide) : JE ct X (.Name x pos) (eC (.str i)) := je_const (pe_glob (v := .str i) hg hm ⟨t, rfl⟩ hd) fun _ _ _ => Rep.str_iff.mpr rfl

/-- a two-place operation by values: r does what op says -/
def OpOk (K : PySem.W.Frag) (ct : Ct) (r : R2) (op : PV → PV → Option PV) : Prop := ∀ (H : Hp) (A M : List Addr) (x y : V) (vx vy v : PV) (Q : VK), Hx A M H → RepB K ct H A M vx x → RepB K ct H A M vy y → op vx vy = some v →
  (∀ z H', Same H H' → Rep K ct H' A M v z → Q z H') → r x y H Q
theorem je_jb (h : JE ct X e fe) : JB ct X e fe := ⟨h.pe.imp fun σ H Q ⟨G, env, S, v, S', g, h1, q⟩ => ⟨G, env, S, v, S', g, h1, fun x H' A' p s r => q x H' A' p s (.inl r)⟩⟩
theorem RepB.lat {K : PySem.W.Frag} {A M A' : List Addr} {H H' : Hp} {v : PV} {x : V} (p : Post A H A' H') (d : ∀ a ∈ M, a ∉ A) (h : RepB K ct H A M v x) : RepB K ct H' A' M v x := by
  rcases h with h | ⟨q, e, hq, c⟩
  · exact .inl (h.lat (p.lat M) v x)
  · obtain ⟨o, ho⟩ := c.there
    exact .inr ⟨q, e, hq, c.lat (p.lat M) ((p.ext q o ho (d q hq)).trans ho.symm)⟩
theorem rd_op {K : PySem.W.Frag} {op : PV → PV → Option PV} {r : R2} (ho : OpOk K ct r op) {σ : St} {H : Hp} {Q : VK} (h : rd K ct (eOp op fa fb) σ H Q) : tOp r (rdB K ct fa) (rdB K ct fb) σ H Q := by
  obtain ⟨G, env, S, v, S', g, h1, q⟩ := h
  obtain ⟨⟨x, S1⟩, e1, h1⟩ := Res.bind_ok h1
  obtain ⟨⟨y, S2⟩, e2, h1⟩ := Res.bind_ok h1
  obtain ⟨z, e3, h1⟩ := Res.bind_ok h1
  cases h1
  refine ⟨G, env, S, x, S1, g, e1, fun x' H1 A1 p1 s1 r1 => ⟨{ G with A := A1 }, env, S1, y, _, g.post p1 s1, e2, fun y' H2 A2 p2 s2 r2 => ?_⟩⟩
  have g2 := (g.post p1 s1).post p2 s2
  refine ho H2 A2 G.M x' y' x y v Q g2.hx (r1.lat p2 (g.post p1 s1).bs.disj) r2 (ofO_ok e3) fun z H3 sm r3 => q z H3 A2 ((p1.trans p2).trans (Post.grow g2.bs.nodup sm)) (s2.grow g2.bs.nodup sm) r3
theorem je_op {o : Operator} {r : R2} {op : PV → PV → Option PV} (hr : OpR X (binaryOp o) r) (ho : OpOk X.K ct r op) (ha : JB ct X a fa) (hb : JB ct X b fb) : JE ct X (.BinOp a o b pos) (eOp op fa fb) :=
  ⟨(pe_op hr ha.pe hb.pe).imp fun _ _ _ h => rd_op ho h⟩
theorem je_cmp {o : CmpOp} {r : R2} {op : PV → PV → Option PV} (hr : OpR X (compareOp o) r) (ho : OpOk X.K ct r op) (ha : JB ct X a fa) (hb : JB ct X b fb) (hm : behindInMarks o b = false := by first | exact nomark _ | rfl) : JE ct X (.Compare a [o] [b] pos) (eOp op fa fb) :=
  ⟨(pe_cmpR hr ha.pe hb.pe hm).imp fun _ _ _ h => rd_op ho h⟩
theorem rdT_tTest {K : PySem.W.Frag} {f : FE} {t : TE} (i : ∀ σ H Q, rd K ct f σ H Q → t σ H Q) {σ : St} {H : Hp} {Q : Bool → Hp → Prop} (h : rdT K ct (tV f) σ H Q) : tTest t σ H Q := by
  obtain ⟨G, env, S, v, S', g, h1, q⟩ := h
  obtain ⟨⟨x, S1⟩, e1, h1⟩ := Res.bind_ok h1
  refine i σ H _ ⟨G, env, S, x, S1, g, e1, fun y H' A' p s r => ?_⟩
  dsimp only at h1
  split at h1
  · rename_i b hb
    cases h1
    exact ⟨_, Rep.bl_iff.mp r, q H' A' p s⟩
  · cases h1
theorem jt_cmp {o : CmpOp} {r : R2} {op : PV → PV → Option PV} (hr : OpR X (compareOp o) r) (ho : OpOk X.K ct r op) (ha : JB ct X a fa) (hb : JB ct X b fb) (hm : behindInMarks o b = false := by first | exact nomark _ | rfl) : JT ct X (.Compare a [o] [b] pos) (tV (eOp op fa fb)) :=
  ⟨(pt_cmpR hr ha.pe hb.pe hm).imp fun _ _ _ h => rdT_tTest (fun _ _ _ z => rd_op ho z) h⟩
theorem jt_val (h : JE ct X e fe) (he : ∀ whole, isTrue e X.env whole = (do let v ← whole; standAt e.pos; holding [v] (truthy v)) := by intro _; rfl) : JT ct X e (tV fe) :=
  ⟨(pt_val h.pe he).imp fun _ _ _ h => rdT_tTest (fun _ _ _ z => z) h⟩
theorem je_un {o : UnaryOp} {r : V → Hp → VK → Prop} {op : PV → Option PV} (hr : UnR X (unaryOp o) r)
    (ho : ∀ (H : Hp) (A M : List Addr) (x : V) (vx v : PV) (Q : VK), Rep X.K ct H A M vx x → op vx = some v → (∀ z, (∀ H A M, Rep X.K ct H A M v z) → Q z H) → r x H Q) (ha : JE ct X a fa) : JE ct X (.UnaryOp o a pos) (eUn op fa) := by
  refine ⟨(pe_un hr ha.pe).imp fun σ H Q h => ?_⟩
  obtain ⟨G, env, S, v, S', g, h1, q⟩ := h
  obtain ⟨⟨x, S1⟩, e1, h1⟩ := Res.bind_ok h1
  obtain ⟨z, e3, h1⟩ := Res.bind_ok h1
  cases h1
  exact ⟨G, env, S, x, _, g, e1, fun x' H1 A1 p1 s1 r1 => ho H1 A1 G.M x' x v Q r1 (ofO_ok e3) fun z rz => q z H1 A1 p1 s1 (rz H1 A1 G.M)⟩
theorem je_not (ha : JE ct X a fa) : JE ct X (.UnaryOp .Not a pos) (eUn pNot fa) := by
  refine ⟨(pe_not ha.pe).imp fun σ H Q h => ?_⟩
  obtain ⟨G, env, S, v, S', g, h1, q⟩ := h
  obtain ⟨⟨x, S1⟩, e1, h1⟩ := Res.bind_ok h1
  obtain ⟨z, e3, h1⟩ := Res.bind_ok h1
  cases h1
  refine ⟨G, env, S, x, _, g, e1, fun x' H1 A1 p1 s1 r1 => ?_⟩
  have e4 := ofO_ok e3
  cases x with
  | bl b =>
    cases e4
    exact ⟨b, Rep.bl_iff.mp r1, q _ H1 A1 p1 s1 (Rep.bl_iff.mpr rfl)⟩
  | _ => cases e4
theorem je_one {o} (h : JE ct X a fa) : JE ct X (.BoolOp o [a] pos) fa := ⟨pe_one h.pe⟩
variable {rest : List Expr}
theorem je_and (ha : JE ct X a fa) (hb : JE ct X (.BoolOp .And (b :: rest) pos) fb) : JE ct X (.BoolOp .And (a :: b :: rest) pos) (eAnd fa fb) := by
  refine ⟨(pe_and ha.pe hb.pe).imp fun σ H Q h => ?_⟩
  obtain ⟨G, env, S, v, S', g, h1, q⟩ := h
  obtain ⟨⟨x, S1⟩, e1, h1⟩ := Res.bind_ok h1
  refine ⟨G, env, S, x, S1, g, e1, fun x' H1 A1 p1 s1 r1 => ?_⟩
  dsimp only at h1
  split at h1
  · refine ⟨true, Rep.bl_iff.mp r1, ?_⟩
    rw [if_pos rfl]
    exact ⟨{ G with A := A1 }, env, S1, v, S', g.post p1 s1, h1, fun y H2 A2 p2 s2 r2 => q y H2 A2 (p1.trans p2) s2 r2⟩
  · cases h1
    refine ⟨false, Rep.bl_iff.mp r1, ?_⟩
    rw [if_neg falseNe]
    exact q _ H1 A1 p1 s1 (Rep.bl_iff.mpr rfl)
  · cases h1
theorem je_or (ha : JE ct X a fa) (hb : JE ct X (.BoolOp .Or (b :: rest) pos) fb) : JE ct X (.BoolOp .Or (a :: b :: rest) pos) (eOr fa fb) := by
  refine ⟨(pe_or ha.pe hb.pe).imp fun σ H Q h => ?_⟩
  obtain ⟨G, env, S, v, S', g, h1, q⟩ := h
  obtain ⟨⟨x, S1⟩, e1, h1⟩ := Res.bind_ok h1
  refine ⟨G, env, S, x, S1, g, e1, fun x' H1 A1 p1 s1 r1 => ?_⟩
  dsimp only at h1
  split at h1
  · cases h1
    refine ⟨true, Rep.bl_iff.mp r1, ?_⟩
    rw [if_pos rfl]
    exact q _ H1 A1 p1 s1 (Rep.bl_iff.mpr rfl)
  · refine ⟨false, Rep.bl_iff.mp r1, ?_⟩
    rw [if_neg falseNe]
    exact ⟨{ G with A := A1 }, env, S1, v, S', g.post p1 s1, h1, fun y H2 A2 p2 s2 r2 => q y H2 A2 (p1.trans p2) s2 r2⟩
  · cases h1
variable {ta tb : FT}
theorem jw_and1 (h : JT ct X a ta) : JW ct X (.BoolOp .And [a] pos) ta := ⟨pw_and1 h.pt⟩
theorem jw_or1 (h : JT ct X a ta) : JW ct X (.BoolOp .Or [a] pos) ta := ⟨pw_or1 h.pt⟩
theorem jw_and (ha : JT ct X a ta) (hb : JW ct X (.BoolOp .And (b :: rest) pos) tb) : JW ct X (.BoolOp .And (a :: b :: rest) pos) (tAn ta tb) := by
  refine ⟨(pw_and ha.pt hb.pw).imp fun σ H Q h => ?_⟩
  obtain ⟨G, env, S, v, S', g, h1, q⟩ := h
  obtain ⟨⟨x, S1⟩, e1, h1⟩ := Res.bind_ok h1
  refine ⟨G, env, S, x, S1, g, e1, fun H1 A1 p1 s1 => ?_⟩
  cases x with
  | true =>
    rw [if_pos rfl]
    exact ⟨{ G with A := A1 }, env, S1, v, S', g.post p1 s1, h1, fun H2 A2 p2 s2 => q H2 A2 (p1.trans p2) s2⟩
  | false =>
    cases h1
    rw [if_neg falseNe]
    exact q H1 A1 p1 s1
theorem jw_or (ha : JT ct X a ta) (hb : JW ct X (.BoolOp .Or (b :: rest) pos) tb) : JW ct X (.BoolOp .Or (a :: b :: rest) pos) (tOrr ta tb) := by
  refine ⟨(pw_or ha.pt hb.pw).imp fun σ H Q h => ?_⟩
  obtain ⟨G, env, S, v, S', g, h1, q⟩ := h
  obtain ⟨⟨x, S1⟩, e1, h1⟩ := Res.bind_ok h1
  refine ⟨G, env, S, x, S1, g, e1, fun H1 A1 p1 s1 => ?_⟩
  cases x with
  | true =>
    cases h1
    rw [if_pos rfl]
    exact q H1 A1 p1 s1
  | false =>
    rw [if_neg falseNe]
    exact ⟨{ G with A := A1 }, env, S1, v, S', g.post p1 s1, h1, fun H2 A2 p2 s2 => q H2 A2 (p1.trans p2) s2⟩
theorem jt_w (h : JW ct X e ta) : JT ct X e ta := ⟨h.pw.pt⟩
theorem jt_not (h : JT ct X a ta) : JT ct X (.UnaryOp .Not a pos) (tNo ta) := by
  refine ⟨(pt_not h.pt).imp fun σ H Q h => ?_⟩
  obtain ⟨G, env, S, v, S', g, h1, q⟩ := h
  obtain ⟨⟨x, S1⟩, e1, h1⟩ := Res.bind_ok h1
  cases h1
  exact ⟨G, env, S, x, _, g, e1, q⟩
theorem je_if {c : Expr} {tc : FT} (hc : JT ct X c tc) (ha : JE ct X a fa) (hb : JE ct X b fb) : JE ct X (.IfExp c a b pos) (eIf tc fa fb) := by
  refine ⟨(pe_ifExp hc.pt ha.pe hb.pe).imp fun σ H Q h => ?_⟩
  obtain ⟨G, env, S, v, S', g, h1, q⟩ := h
  obtain ⟨⟨x, S1⟩, e1, h1⟩ := Res.bind_ok h1
  refine ⟨G, env, S, x, S1, g, e1, fun H1 A1 p1 s1 => ?_⟩
  cases x with
  | true =>
    rw [if_pos rfl]
    exact ⟨{ G with A := A1 }, env, S1, v, S', g.post p1 s1, h1, fun y H2 A2 p2 s2 r2 => q y H2 A2 (p1.trans p2) s2 r2⟩
  | false =>
    rw [if_neg falseNe]
    exact ⟨{ G with A := A1 }, env, S1, v, S', g.post p1 s1, h1, fun y H2 A2 p2 s2 r2 => q y H2 A2 (p1.trans p2) s2 r2⟩
/-! ### arguments, displays -/
variable {es : List Expr} {fr : FA}
theorem ja_nil : JA ct X [] aNil := by
  refine ⟨pa_nil.imp fun σ H Q h => ?_⟩
  obtain ⟨G, env, S, v, S', g, h1, q⟩ := h
  cases h1
  exact q [] H G.A (Post.refl H g.bs.nodup) g.bs.sto .nil
theorem rdA_cons {K : PySem.W.Frag} {σ : St} {H : Hp} {Q : List V → Hp → Prop} (h : rdA K ct (aCons fa fr) σ H Q) : tCons (rd K ct fa) (rdA K ct fr) σ H Q := by
  obtain ⟨G, env, S, v, S', g, h1, q⟩ := h
  obtain ⟨⟨x, S1⟩, e1, h1⟩ := Res.bind_ok h1
  obtain ⟨⟨y, S2⟩, e2, h1⟩ := Res.bind_ok h1
  cases h1
  refine ⟨G, env, S, x, S1, g, e1, fun x' H1 A1 p1 s1 r1 => ⟨{ G with A := A1 }, env, S1, y, _, g.post p1 s1, e2, fun y' H2 A2 p2 s2 r2 => ?_⟩⟩
  exact q _ H2 A2 (p1.trans p2) s2 (.cons (r1.lat (p2.lat G.M) x x') r2)
theorem ja_cons (ha : JE ct X a fa) (hr : JA ct X es fr) (hs : starEach (a :: es) X.env = (false, eval a X.env) :: starEach es X.env := by rfl) : JA ct X (a :: es) (aCons fa fr) :=
  ⟨(pa_cons ha.pe hr.pa hs).imp fun _ _ _ h => rdA_cons h⟩
theorem jk_nil : JK ct X [] aNil := by
  refine ⟨pk_nil.imp fun σ H Q h => ?_⟩
  obtain ⟨G, env, S, v, S', g, h1, q⟩ := h
  cases h1
  exact q [] H G.A (Post.refl H g.bs.nodup) g.bs.sto .nil
theorem jk_cons {nm : Option Str} {kpos : Pos} {kws : List Keyword} (ha : JE ct X a fa) (hr : JK ct X kws fr) : JK ct X (⟨nm, a, kpos⟩ :: kws) (aCons fa fr) := ⟨(pk_cons ha.pe hr.pk).imp fun _ _ _ h => rdA_cons h⟩
def szV (xs : List PV) : Bool := decide (xs.length ≤ sizeLine)
def pTup (xs : List PV) : Option PV := if xs.length ≤ 1000000 then some (.tup xs) else none
def pLst (xs : List PV) : Option PV := if xs.length ≤ 1000000 then some (.lst xs) else none
theorem sz_mil {n : Nat} (h : n ≤ 1000000) : n ≤ sizeLine := Nat.le_trans h (by decide)
theorem je_tup {k} (h : JA ct X es fr) : JE ct X (.Tuple es k pos) (eB pTup fr) := by
  refine ⟨(pe_tup h.pa).imp fun σ H Q h => ?_⟩
  obtain ⟨G, env, S, v, S', g, h1, q⟩ := h
  obtain ⟨⟨x, S1⟩, e1, h1⟩ := Res.bind_ok h1
  obtain ⟨z, e3, h1⟩ := Res.bind_ok h1
  cases h1
  have e4 := ofO_ok e3
  unfold pTup at e4
  split at e4
  · rename_i hz
    cases e4
    refine ⟨G, env, S, x, _, g, e1, fun xs H1 A1 p1 s1 r1 => ⟨by rw [r1.length]; exact sz_mil hz, fun p np => ?_⟩⟩
    have g1 := g.post p1 s1
    exact q _ _ A1 (p1.trans (Post.grow g1.bs.nodup (same_new np))) (s1.grow g1.bs.nodup (same_new np)) (Rep.new_tup r1 np g1.inA g1.bs.inM g1.bs.nodup)
  · cases e4
theorem jf_je (h : JF ct X e fe) : JE ct X e fe := by
  refine ⟨⟨fun pins s σ H Q I hq => ?_⟩⟩
  obtain ⟨G, env, S, v, S', g, h1, q⟩ := hq
  have hQ : rdF X.K ct fe σ H (fun x H' => ∃ p A', x = .ref p ∧ Post G.A H A' H' ∧ H p = none ∧ p ∉ A' ∧ StoOk X.K ct H' A' (p :: G.M) S' ∧ Cont X.K ct H' A' (p :: G.M) p v) := ⟨G, env, S, v, S', g, h1, fun p H' A' k1 k2 k3 k4 k5 => ⟨p, A', rfl, k1, k2, k3, k4, k5⟩⟩
  refine thn (h.pe.run pins s σ H _ I hQ) fun u s1 ⟨x, H', I', rv, p, A', ex, pp, np, hA, s, c⟩ => ?_
  subst ex
  have hM : p ∉ G.M := fun z => g.bs.inM p z np
  have l : Lat A' (p :: G.M) H' A' G.M H' := lat_less fun a ha => List.mem_cons_of_mem _ ha
  have s0 := s.less (M' := G.M) fun a ha => List.mem_cons_of_mem _ ha
  cases v with
  | lst xs =>
    obtain ⟨vs, h2, h3⟩ := c
    refine ⟨.ref p, H', I', rv, q _ H' A' pp s0 ?_⟩
    simp only [Rep]
    exact ⟨p, vs, rfl, ⟨h2, hA, hM⟩, h3.lat l xs vs⟩
  | dic tt ks xs =>
    have lock : ∀ (u0 : HO), H' p = some u0 → Mut (some u0) → ∃ od, Inv X pins σ (upd H' p (.frz od u0)) s1 := fun u0 e mu => I'.lock e mu
    have lu : ∀ (o' : HO), Lat A' (p :: G.M) H' A' G.M (upd H' p o') := fun o' => (lat_upd (o := o') (.inr List.mem_cons_self)).trans (lat_less fun a ha => List.mem_cons_of_mem _ ha)
    have pu : ∀ (o' : HO), Post G.A H A' (upd H' p o') := fun o' => ⟨pp.pre, fun a o k1 k2 => by
      rw [upd_ne (fun z => by subst z; rw [np] at k1; cases k1)]; exact pp.ext a o k1 k2, pp.new, pp.nodup⟩
    have su : ∀ (o' : HO), StoOk X.K ct (upd H' p o') A' G.M S' := fun o' => ⟨s.len, fun n a us k1 k2 => by
      obtain ⟨ws, k3, k4⟩ := s.at' n a us k1 k2
      exact ⟨ws, by rw [upd_ne (fun z => hA (by rw [← z]; exact List.mem_of_getElem? k1))]; exact k3, k4.lat (lu o') us ws⟩⟩
    rcases c with ⟨ht, ws, h2, h3, h4⟩ | ⟨ht, ws, h2, h3, h4⟩
    · obtain ⟨od, I2⟩ := lock _ h2 trivial
      refine ⟨.ref p, _, I2, rv, q _ _ A' (pu _) (su _) ?_⟩
      simp only [Rep]
      exact ⟨p, rfl, .inl ⟨ht, ws, ⟨⟨od, upd_same⟩, hA, hM⟩, h3, h4.lat (lu _) xs _⟩⟩
    · obtain ⟨od, I2⟩ := lock _ h2 trivial
      refine ⟨.ref p, _, I2, rv, q _ _ A' (pu _) (su _) ?_⟩
      simp only [Rep]
      exact ⟨p, rfl, .inr ⟨ht, ws, ⟨⟨od, upd_same⟩, hA, hM⟩, h3, h4.lat (lu _) xs _⟩⟩
  | _ => exact False.elim c
/-- from a new object's place in a reading -/
theorem fresh_lst {K : PySem.W.Frag} {G : Gh} {σ : St} {env : Env} {H H1 : Hp} {S S1 : Sto} {A1 : List Addr} {xs : List PV} {vs : List V} (g : Good K ct G σ H env S) (p1 : Post G.A H A1 H1) (s1 : StoOk K ct H1 A1 G.M S1) (r1 : RepL K ct H1 A1 G.M xs vs) {p : Addr} (np : H1 p = none) :
    Post G.A H A1 (upd H1 p (.lst vs)) ∧ H p = none ∧ p ∉ A1 ∧ StoOk K ct (upd H1 p (.lst vs)) A1 (p :: G.M) S1 ∧ Cont K ct (upd H1 p (.lst vs)) A1 (p :: G.M) p (.lst xs) := by
  have g1 := g.post p1 s1
  have sm : Same H1 (upd H1 p (.lst vs)) := same_new np
  refine ⟨p1.trans (Post.grow g1.bs.nodup sm), ?_, fun z => g1.inA p z np, ?_, vs, upd_same, r1.lat (lat_hide np sm) xs vs⟩
  · cases e : H p with
    | none => rfl
    | some o =>
      by_cases ha : p ∈ G.A
      · exact absurd np (g1.inA p (p1.pre.subset ha))
      · rw [p1.ext p o e ha] at np; cases np
  · exact (g1.hide np sm (by rw [upd_same]; simp) (by rw [upd_same]; simp)).bs.sto
theorem jf_lst (h : JA ct X es fr) : JF ct X (.List es pos) (eB pLst fr) := by
  refine ⟨(pe_lst h.pa).imp fun σ H Q h => ?_⟩
  obtain ⟨G, env, S, v, S', g, h1, q⟩ := h
  obtain ⟨⟨x, S1⟩, e1, h1⟩ := Res.bind_ok h1
  obtain ⟨z, e3, h1⟩ := Res.bind_ok h1
  cases h1
  have e4 := ofO_ok e3
  unfold pLst at e4
  split at e4
  · rename_i hz
    cases e4
    refine ⟨G, env, S, x, _, g, e1, fun xs H1 A1 p1 s1 r1 => ⟨by rw [r1.length]; exact sz_mil hz, fun p np => ?_⟩⟩
    obtain ⟨k1, k2, k3, k4, k5⟩ := fresh_lst g p1 s1 r1 np
    exact q p _ A1 k1 k2 k3 k4 k5
  · cases e4

/-! ### built-ins by values -/
def CallOk (K : PySem.W.Frag) (ct : Ct) (r : List V → Hp → VK → Prop) (op : List PV → Option PV) : Prop := ∀ (H : Hp) (A M : List Addr) (xs : List V) (vs : List PV) (v : PV) (Q : VK), Hx A M H → RepL K ct H A M vs xs → op vs = some v →
  (∀ z H', Same H H' → Rep K ct H' A M v z → Q z H') → r xs H Q
/-- one that makes a new list -/
def FreshOk (K : PySem.W.Frag) (ct : Ct) (r : List V → Hp → VK → Prop) (op : List PV → Option PV) : Prop := ∀ (H : Hp) (A M : List Addr) (xs : List V) (vs : List PV) (v : PV) (Q : VK), Hx A M H → RepL K ct H A M vs xs → op vs = some v →
  (∀ p ys zs, H p = none → v = .lst ys → RepL K ct H A M ys zs → Q (.ref p) (upd H p (.lst zs))) → r xs H Q
theorem rd_callB {K : PySem.W.Frag} {op : List PV → Option PV} {r : List V → Hp → VK → Prop} (ho : CallOk K ct r op) {σ : St} {H : Hp} {Q : VK} (h : rd K ct (eB op fr) σ H Q) : tCB r (rdA K ct fr) σ H Q := by
  obtain ⟨G, env, S, v, S', g, h1, q⟩ := h
  obtain ⟨⟨x, S1⟩, e1, h1⟩ := Res.bind_ok h1
  obtain ⟨z, e3, h1⟩ := Res.bind_ok h1
  cases h1
  refine ⟨G, env, S, x, _, g, e1, fun xs H1 A1 p1 s1 r1 => ?_⟩
  have g1 := g.post p1 s1
  exact ho H1 A1 G.M xs x v Q g1.hx r1 (ofO_ok e3) fun z H2 sm r2 => q z H2 A1 (p1.trans (Post.grow g1.bs.nodup sm)) (s1.grow g1.bs.nodup sm) r2
theorem rdF_callB {K : PySem.W.Frag} {op : List PV → Option PV} {r : List V → Hp → VK → Prop} (ho : FreshOk K ct r op) {σ : St} {H : Hp} {Q : VK} (h : rdF K ct (eB op fr) σ H Q) : tCB r (rdA K ct fr) σ H Q := by
  obtain ⟨G, env, S, v, S', g, h1, q⟩ := h
  obtain ⟨⟨x, S1⟩, e1, h1⟩ := Res.bind_ok h1
  obtain ⟨z, e3, h1⟩ := Res.bind_ok h1
  cases h1
  refine ⟨G, env, S, x, _, g, e1, fun xs H1 A1 p1 s1 r1 => ?_⟩
  have g1 := g.post p1 s1
  refine ho H1 A1 G.M xs x v Q g1.hx r1 (ofO_ok e3) fun p ys zs np ev ry => ?_
  subst ev
  obtain ⟨k1, k2, k3, k4, k5⟩ := fresh_lst g p1 s1 ry np
  exact q p _ A1 k1 k2 k3 k4 k5
variable {x : Str} {p : Pos} {id : String} {r : List V → Hp → VK → Prop} {op : List PV → Option PV}
theorem je_callB (hc : CallR X (.builtin id) r) (ho : CallOk X.K ct r op) (hm : X.mg x = none) (ha : JA ct X (a :: es) fr) (hg : Gl X x := by rfl) (hv : bootBuiltins x = some (.builtin id) := by decide +kernel) (hn : x ≠ "__name__" := by decide) (hdb : (x == ("__debug__" : Str)) = false := by decide)
    (he : starEach (a :: es) X.env = (false, eval a X.env) :: starEach es X.env := by rfl) (hpl : (backTo pos (starEach es X.env)).any (·.1) = false := by rfl) : JE ct X (.Call (.Name x p) (a :: es) [] pos) (eB op fr) :=
  ⟨(pe_callB hc hg hm hv ha.pa hn hdb he hpl).imp fun _ _ _ h => rd_callB ho h⟩
theorem je_callT (hc : CallR X (.type id) r) (ho : CallOk X.K ct r op) (hm : X.mg x = none) (ha : JA ct X (a :: es) fr) (hg : Gl X x := by rfl) (hv : bootBuiltins x = some (.type id) := by decide +kernel) (hn : x ≠ "__name__" := by decide) (hdb : (x == ("__debug__" : Str)) = false := by decide)
    (he : starEach (a :: es) X.env = (false, eval a X.env) :: starEach es X.env := by rfl) (hpl : (backTo pos (starEach es X.env)).any (·.1) = false := by rfl) : JE ct X (.Call (.Name x p) (a :: es) [] pos) (eB op fr) :=
  ⟨(pe_callTy hc hg hm hv ha.pa hn hdb he hpl).imp fun _ _ _ h => rd_callB ho h⟩
theorem jf_callB (hc : CallR X (.builtin id) r) (ho : FreshOk X.K ct r op) (hm : X.mg x = none) (ha : JA ct X (a :: es) fr) (hg : Gl X x := by rfl) (hv : bootBuiltins x = some (.builtin id) := by decide +kernel) (hn : x ≠ "__name__" := by decide) (hdb : (x == ("__debug__" : Str)) = false := by decide)
    (he : starEach (a :: es) X.env = (false, eval a X.env) :: starEach es X.env := by rfl) (hpl : (backTo pos (starEach es X.env)).any (·.1) = false := by rfl) : JF ct X (.Call (.Name x p) (a :: es) [] pos) (eB op fr) :=
  ⟨(pe_callB hc hg hm hv ha.pa hn hdb he hpl).imp fun _ _ _ h => rdF_callB ho h⟩
theorem jf_callT (hc : CallR X (.type id) r) (ho : FreshOk X.K ct r op) (hm : X.mg x = none) (ha : JA ct X (a :: es) fr) (hg : Gl X x := by rfl) (hv : bootBuiltins x = some (.type id) := by decide +kernel) (hn : x ≠ "__name__" := by decide) (hdb : (x == ("__debug__" : Str)) = false := by decide)
    (he : starEach (a :: es) X.env = (false, eval a X.env) :: starEach es X.env := by rfl) (hpl : (backTo pos (starEach es X.env)).any (·.1) = false := by rfl) : JF ct X (.Call (.Name x p) (a :: es) [] pos) (eB op fr) :=
  ⟨(pe_callTy hc hg hm hv ha.pa hn hdb he hpl).imp fun _ _ _ h => rdF_callB ho h⟩
end
end J
set_option Elab.async false
set_option linter.all false
set_option maxRecDepth 100000
/-! J: statements, targets, loops, comprehensions. -/
namespace J
open PySem L2

section
variable {K : PySem.W.Frag} {ct : Ct}
theorem FlOk.later {G : Gh} {H H' : Hp} {A' M' : List Addr} {D : Ends} {fl : Fl} (l : Lat G.A G.M H A' M' H') (h : FlOk K ct G H D fl) : FlOk K ct { G with A := A', M := M' } H' D fl := by
  cases fl with
  | nx e S => exact fun σ1 H1 A1 M1 l1 g1 => h σ1 H1 A1 M1 (l.trans l1) g1
  | bk e S => exact fun σ1 H1 A1 M1 l1 g1 => h σ1 H1 A1 M1 (l.trans l1) g1
  | ct e S => exact fun σ1 H1 A1 M1 l1 g1 => h σ1 H1 A1 M1 (l.trans l1) g1
  | rt v S => exact h
theorem Good.post0 {G : Gh} {σ : St} {H : Hp} {env : Env} {S : Sto} (g : Good K ct G σ H env S) : Post G.A0 G.H0 G.A H := ⟨g.pre0, g.ext0, g.new0, g.bs.nodup⟩
end

section
variable {ct : Ct} {X : Cx} {st : Stmt} {rest : List Stmt} {f g : FS} {e : Expr} {fe : FE} {pos : Pos}
theorem js_never : JS ct X st sX := ⟨⟨fun _ _ _ _ _ _ h => by obtain ⟨_, _, _, _, _, h, _⟩ := h; cases h⟩⟩
theorem jss_never {sts : List Stmt} : JSs ct X sts sX := ⟨⟨fun _ _ _ _ _ _ h => by obtain ⟨_, _, _, _, _, h, _⟩ := h; cases h⟩⟩
theorem next_ok {K : PySem.W.Frag} {D : Ends} {σ : St} {H : Hp} (h : rdS K ct sNext D σ H) : D.nx σ H := by
  obtain ⟨G, env, S, fl, g, e, h⟩ := h
  cases e
  exact h σ H G.A G.M (Lat.refl _ _ _) g
theorem jss_nil : JSs ct X [] sNext := ⟨pss_nil.imp fun _ _ _ h => next_ok h⟩
theorem js_pass : JS ct X (.Pass pos) sNext := ⟨ps_pass.imp fun _ _ _ h => next_ok h⟩
theorem js_break : JS ct X (.Break pos) sBreak := ⟨ps_break.imp fun D σ H h => by
  obtain ⟨G, env, S, fl, g, e, h⟩ := h
  cases e
  exact h σ H G.A G.M (Lat.refl _ _ _) g⟩
theorem js_cont : JS ct X (.Continue pos) sCont := ⟨ps_continue.imp fun D σ H h => by
  obtain ⟨G, env, S, fl, g, e, h⟩ := h
  cases e
  exact h σ H G.A G.M (Lat.refl _ _ _) g⟩
theorem jss_cons (h1 : JS ct X st f) (h2 : JSs ct X rest g) : JSs ct X (st :: rest) (sSeq f g) := by
  refine ⟨(pss_cons h1.ps h2.ps).imp fun D σ H h => ?_⟩
  obtain ⟨G, env, S, fl, gd, e, h⟩ := h
  obtain ⟨r, e1, e2⟩ := Res.bind_ok e
  refine ⟨G, env, S, r, gd, e1, ?_⟩
  cases r with
  | nx en S1 => exact fun σ1 H1 A1 M1 l g1 => ⟨_, en, S1, fl, g1, e2, h.later l⟩
  | rt v S1 => cases e2; exact h
  | bk v S1 => cases e2; exact h
  | ct v S1 => cases e2; exact h
theorem jss_one (h1 : JS ct X st f) : JSs ct X [st] f := ⟨pss_one h1.ps⟩
theorem js_ret (he : JE ct X e fe) : JS ct X (.Return (some e) pos) (sRet fe) := by
  refine ⟨(ps_ret he.pe).imp fun D σ H h => ?_⟩
  obtain ⟨G, env, S, fl, gd, e, h⟩ := h
  obtain ⟨⟨x, S1⟩, e1, e2⟩ := Res.bind_ok e
  cases e2
  refine ⟨G, env, S, x, S1, gd, e1, fun y H1 A1 p s r => ?_⟩
  have g1 := gd.post p s
  exact h y H1 A1 g1.post0 (s.less g1.sub0) (r.lat (lat_less g1.sub0) x y)
theorem js_retN : JS ct X (.Return none pos) (sRet (eC .non)) := by
  refine ⟨ps_retN.imp fun D σ H h => ?_⟩
  obtain ⟨G, env, S, fl, gd, e, h⟩ := h
  cases e
  exact h _ H G.A gd.post0 (gd.bs.sto.less gd.sub0) (Rep.non_iff.mpr rfl)
theorem js_if {c : Expr} {a b : List Stmt} {tc : FT} (hc : JT ct X c tc) (ha : JSs ct X a f) (hb : JSs ct X b g) : JS ct X (.If c a b pos) (sIf tc f g) := by
  refine ⟨(ps_if hc.pt ha.ps hb.ps).imp fun D σ H h => ?_⟩
  obtain ⟨G, env, S, fl, gd, e, h⟩ := h
  obtain ⟨⟨x, S1⟩, e1, e2⟩ := Res.bind_ok e
  refine ⟨G, env, S, x, S1, gd, e1, fun H1 A1 p s => ?_⟩
  cases x with
  | true => rw [if_pos rfl]; exact ⟨_, env, S1, fl, gd.post p s, e2, h.later (p.lat G.M)⟩
  | false => rw [if_neg Bool.false_ne_true]; exact ⟨_, env, S1, fl, gd.post p s, e2, h.later (p.lat G.M)⟩
theorem js_expr (he : JE ct X e fe) (hs : swapsWith e none pos.line X.env = pure false := by rfl) : JS ct X (.Expr e pos) (sDrop fe) := by
  refine ⟨(ps_expr he.pe hs).imp fun D σ H h => ?_⟩
  obtain ⟨G, env, S, fl, gd, e, h⟩ := h
  obtain ⟨⟨x, S1⟩, e1, e2⟩ := Res.bind_ok e
  cases e2
  exact ⟨G, env, S, x, S1, gd, e1, fun y H1 A1 p s r => h σ H1 A1 G.M (p.lat G.M) (gd.post p s)⟩
/-- a name that owned is a plain value from here on -/
theorem Good.freezeAt {K : PySem.W.Frag} {G : Gh} {σ : St} {H H1 : Hp} {env : Env} {S : Sto} {i : Nat} {p : Addr} {v : PV} (g : Good K ct G σ H env S) (hv : env[i]? = some (.own v)) (h1 : σ[i]? = some (some (.ref p))) (hH : ∀ a, a ≠ p → H1 a = H a)
    (rep : Rep K ct H1 G.A (G.M.filter (fun a => decide (a ≠ p))) v (.ref p)) : Lat G.A G.M H G.A (G.M.filter (fun a => decide (a ≠ p))) H1 ∧ Good K ct { G with M := G.M.filter (fun a => decide (a ≠ p)) } σ H1 (env.set i (.val v)) S := by
  obtain ⟨p', k1, h2, h3, c⟩ := g.slot i _ hv
  rw [h1] at k1; cases k1
  have sub : ∀ a ∈ G.M.filter (fun a => decide (a ≠ p)), a ∈ G.M := fun a ha => (List.mem_filter.mp ha).1
  have l : Lat G.A G.M H G.A (G.M.filter (fun a => decide (a ≠ p))) H1 := ⟨List.prefix_refl _, fun b o e n m => ⟨by
    rw [hH b (fun z => by subst z; exact m h2)]; exact e, n, fun z => m (sub b z)⟩⟩
  refine ⟨l, ⟨⟨g.bs.sto.len, fun n a xs k1 k2 => ?_⟩, g.bs.nodup, fun a ha => ?_, fun a ha => g.bs.disj a (sub a ha), fun a ha vs ev => ?_⟩, fun j s hs => ?_, fun a b u w q k1 k2 k3 k4 => ?_, fun a o k1 k2 => ?_, g.pre0, g.new0, fun a ha => ?_, g.in0, by rw [List.length_set]; exact g.len⟩
  · obtain ⟨vs, k3, k4⟩ := g.bs.sto.at' n a xs k1 k2
    exact ⟨vs, by rw [hH a (fun z => g.bs.disj p h2 (by rw [← z]; exact List.mem_of_getElem? k1))]; exact k3, k4.lat l xs vs⟩
  · have hne : a ≠ p := by simpa using (List.mem_filter.mp ha).2
    rw [hH a hne]; exact g.bs.inM a (sub a ha)
  · have hne : a ≠ p := by simpa using (List.mem_filter.mp ha).2
    rw [hH a hne] at ev; exact g.bs.noT a (sub a ha) vs ev
  · rcases getSet hs with ⟨rfl, rfl, hi⟩ | ⟨hj, hs⟩
    · exact ⟨_, h1, rep⟩
    · have q := g.slot j s hs
      cases s with
      | un => trivial
      | val w => obtain ⟨y, k1, k2⟩ := q; exact ⟨y, k1, k2.lat l w y⟩
      | own w =>
        obtain ⟨p', k1, k2, k3, k4⟩ := q
        have hne : p' ≠ p := fun z => by subst z; exact hj (g.uniq i j _ _ _ hv hs h1 k1)
        exact ⟨p', k1, List.mem_filter.mpr ⟨k2, decide_eq_true hne⟩, k3, k4.lat l (hH p' hne)⟩
  · rcases getSet k1 with ⟨_, h, _⟩ | ⟨_, k1⟩
    · cases h
    · rcases getSet k2 with ⟨_, h, _⟩ | ⟨_, k2⟩
      · cases h
      · exact g.uniq a b u w q k1 k2 k3 k4
  · rw [hH a (fun z => by subst z; rw [h3] at k1; cases k1)]; exact g.ext0 a o k1 k2
  · refine List.mem_filter.mpr ⟨g.sub0 a ha, decide_eq_true fun z => ?_⟩
    subst z
    exact g.in0 a ha h3
theorem frz_run {i : Nat} {pins : List (Addr × Obj)} {s : Shared} {σ : St} {H : Hp} {G : Gh} {env : Env} {S : Sto} (I : Inv X pins σ H s) (g : Good X.K ct G σ H env S) :
    ∃ H1 M', Inv X pins σ H1 s ∧ Lat G.A G.M H G.A M' H1 ∧ Good X.K ct { G with M := M' } σ H1 (frz i env) S := by
  unfold frz
  split
  · rename_i v hv
    obtain ⟨p, h1, h2, h3, c⟩ := g.slot i _ hv
    have np : p ∉ G.M.filter (fun a => decide (a ≠ p)) := fun z => by simpa using (List.mem_filter.mp z).2
    have sub : ∀ a ∈ G.M.filter (fun a => decide (a ≠ p)), a ∈ G.M := fun a ha => (List.mem_filter.mp ha).1
    cases v with
    | lst xs =>
      obtain ⟨vs, k1, k2⟩ := c
      obtain ⟨l, g'⟩ := g.freezeAt hv h1 (H1 := H) (fun _ _ => rfl) (by
        simp only [Rep]
        exact ⟨p, vs, rfl, ⟨k1, g.bs.disj p h2, np⟩, k2.lat (lat_less sub) xs vs⟩)
      exact ⟨H, _, I, l, g'⟩
    | dic tt ks xs =>
      have lu : ∀ (o' : HO), Lat G.A G.M H G.A (G.M.filter (fun a => decide (a ≠ p))) (upd H p o') := fun o' => (lat_upd (o := o') (.inr h2)).trans (lat_less sub)
      rcases c with ⟨ht, ws, k1, k2, k3⟩ | ⟨ht, ws, k1, k2, k3⟩
      · obtain ⟨od, I2⟩ := I.lock k1 trivial
        obtain ⟨l, g'⟩ := g.freezeAt hv h1 (H1 := upd H p (.frz od (.dK ws))) (fun _ hn => upd_ne hn) (by
          simp only [Rep]
          exact ⟨p, rfl, .inl ⟨ht, ws, ⟨⟨od, upd_same⟩, g.bs.disj p h2, np⟩, k2, k3.lat (lu _) xs _⟩⟩)
        exact ⟨_, _, I2, l, g'⟩
      · obtain ⟨od, I2⟩ := I.lock k1 trivial
        obtain ⟨l, g'⟩ := g.freezeAt hv h1 (H1 := upd H p (.frz od (.dT ws))) (fun _ hn => upd_ne hn) (by
          simp only [Rep]
          exact ⟨p, rfl, .inr ⟨ht, ws, ⟨⟨od, upd_same⟩, g.bs.disj p h2, np⟩, k2, k3.lat (lu _) xs _⟩⟩)
        exact ⟨_, _, I2, l, g'⟩
    | _ => exact False.elim c
  · exact ⟨H, G.M, I, Lat.refl _ _ _, g⟩
theorem js_frz (i : Nat) (h : JS ct X st f) : JS ct X st (sFrz i f) := by
  refine ⟨⟨fun pins s σ H D I hq => ?_⟩⟩
  obtain ⟨G, env, S, fl, gd, e, hq⟩ := hq
  obtain ⟨H1, M', I1, l, g'⟩ := frz_run (i := i) I gd
  exact h.ps.run pins s σ H1 D I1 ⟨_, frz i env, S, fl, g', e, hq.later l⟩
theorem jss_frz (i : Nat) {sts : List Stmt} (h : JSs ct X sts f) : JSs ct X sts (sFrz i f) := by
  refine ⟨⟨fun pins s σ H D I hq => ?_⟩⟩
  obtain ⟨G, env, S, fl, gd, e, hq⟩ := hq
  obtain ⟨H1, M', I1, l, g'⟩ := frz_run (i := i) I gd
  exact h.ps.run pins s σ H1 D I1 ⟨_, frz i env, S, fl, g', e, hq.later l⟩

/-! ### names stored -/
theorem asg_set {K : PySem.W.Frag} {i : Nat} {D : Ends} {σ : St} {H : Hp} (h : rdS K ct (sSet i fe) D σ H) : tAsg (rd K ct fe) (gName i) D σ H := by
  obtain ⟨G, env, S, fl, gd, e, h⟩ := h
  obtain ⟨⟨x, S1⟩, e1, e2⟩ := Res.bind_ok e
  cases e2
  exact ⟨G, env, S, x, S1, gd, e1, fun y H1 A1 p s r => h _ H1 A1 G.M (p.lat G.M) ((gd.post p s).set r)⟩
theorem asg_own {K : PySem.W.Frag} {i : Nat} {D : Ends} {σ : St} {H : Hp} (h : rdS K ct (sOwn i fe) D σ H) : tAsg (rdF K ct fe) (gName i) D σ H := by
  obtain ⟨G, env, S, fl, gd, e, h⟩ := h
  obtain ⟨⟨x, S1⟩, e1, e2⟩ := Res.bind_ok e
  cases e2
  refine ⟨G, env, S, x, S1, gd, e1, fun p H1 A1 pp np nA s c => ?_⟩
  have s0 : StoOk K ct H1 A1 G.M S1 := s.less fun a ha => List.mem_cons_of_mem _ ha
  have g1 := gd.post pp s0
  obtain ⟨o, ho⟩ := c.there
  have lat : Lat G.A G.M H A1 (p :: G.M) H1 := ⟨pp.pre, fun b u eb n m => ⟨pp.ext b u eb n, pp.out eb n, fun zZ => by
    rcases List.mem_cons.mp zZ with zZ | zZ
    · subst zZ; rw [np] at eb; cases eb
    · exact m zZ⟩⟩
  have g2 : Good K ct { G with A := A1, M := p :: G.M } σ H1 env S1 := by
    refine ⟨⟨s, g1.bs.nodup, fun a ha => ?_, fun a ha => ?_, fun a ha vs ev => ?_⟩, fun j sl hs => ?_, gd.uniq, g1.ext0, g1.pre0, g1.new0, fun a ha => List.mem_cons_of_mem _ (gd.sub0 a ha), gd.in0, gd.len⟩
    · rcases List.mem_cons.mp ha with zZ | zZ
      · subst zZ; rw [ho]; simp
      · exact g1.bs.inM a zZ
    · rcases List.mem_cons.mp ha with zZ | zZ
      · subst zZ; exact nA
      · exact g1.bs.disj a zZ
    · rcases List.mem_cons.mp ha with zZ | zZ
      · subst zZ; exact c.noT vs ev
      · exact g1.bs.noT a zZ vs ev
    · have q := gd.slot j sl hs
      cases sl with
      | un => trivial
      | val w => obtain ⟨y, k1, k2⟩ := q; exact ⟨y, k1, k2.lat lat w y⟩
      | own w =>
        obtain ⟨p', k1, k2, k3, k4⟩ := q
        obtain ⟨o', ho'⟩ := k4.there
        exact ⟨p', k1, List.mem_cons_of_mem _ k2, k3, k4.lat lat ((pp.ext p' o' ho' (gd.bs.disj p' k2)).trans ho'.symm)⟩
  refine h _ H1 A1 (p :: G.M) lat (g2.setOwn List.mem_cons_self (gd.fresh0 np) c fun j w hj ho' hz => ?_)
  obtain ⟨p', k1, k2, k3, k4⟩ := gd.slot j _ ho'
  rw [hz] at k1; cases k1
  exact gd.bs.inM p k2 np
theorem js_set (i : Nat) {x : Str} {pos' : Pos} (hN : X.N.Nodup) (he : JE ct X e fe) (hi : X.N[i]? = some x := by rfl) (hx : Loc X.env.scope x := by first | exact Or.inl rfl | exact Or.inr rfl) (hs : swapsWith e (some (.Name x pos')) pos.line X.env = pure false := by rfl)
    (hf : X.fn x = true ∨ X.env.scope.names.lookup x = some .local := by first | exact .inl rfl | exact .inr rfl | assumption) : JS ct X (.Assign [.Name x pos'] e pos) (sSet i fe) := ⟨(ps_set hN hi hx he.pe hs hf).imp fun _ _ _ h => asg_set h⟩
theorem js_own (i : Nat) {x : Str} {pos' : Pos} (hN : X.N.Nodup) (he : JF ct X e fe) (hi : X.N[i]? = some x := by rfl) (hx : Loc X.env.scope x := by first | exact Or.inl rfl | exact Or.inr rfl) (hs : swapsWith e (some (.Name x pos')) pos.line X.env = pure false := by rfl)
    (hf : X.fn x = true ∨ X.env.scope.names.lookup x = some .local := by first | exact .inl rfl | exact .inr rfl | assumption) : JS ct X (.Assign [.Name x pos'] e pos) (sOwn i fe) := ⟨(ps_set hN hi hx he.pe hs hf).imp fun _ _ _ h => asg_own h⟩

end
/-! ### targets that are names -/
abbrev GN := PV → Env → Option Env
abbrev GNs := List PV → Env → Option Env
section
variable (K : PySem.W.Frag) (ct : Ct)
def rdN (ws : List Nat) (g : GN) : TG := fun x σ H Q => ∃ G env S v env', Good K ct G σ H env S ∧ Rep K ct H G.A G.M v x ∧ g v env = some env' ∧
  ∀ σ', (∀ j, j ∉ ws → σ'[j]? = σ[j]?) → σ'.length = σ.length → Good K ct G σ' H env' S → Q σ' H
def rdNs (ws : List Nat) (g : GNs) : TGs := fun x σ H Q => ∃ G env S v env', Good K ct G σ H env S ∧ RepL K ct H G.A G.M v x ∧ g v env = some env' ∧
  ∀ σ', (∀ j, j ∉ ws → σ'[j]? = σ[j]?) → σ'.length = σ.length → Good K ct G σ' H env' S → Q σ' H
end
structure JN (ct : Ct) (X : Cx) (tg : Expr) (ws : List Nat) (g : GN) : Prop where
  pg : PG X tg (rdN X.K ct ws g)
structure JNs (ct : Ct) (X : Cx) (tg : List Expr) (ws : List Nat) (g : GNs) : Prop where
  pg : PGs X tg (rdNs X.K ct ws g)
def gN (i : Nat) : GN := fun v env => some (env.set i (.val v))
def gNn : GNs := fun vs env => match vs with
  | [] => some env
  | _ => none
def gNc (a : GN) (r : GNs) : GNs := fun vs env => match vs with
  | v :: rs => (a v env).bind (r rs)
  | [] => none
def gT (n : Nat) (r : GNs) : GN := fun v env => match v with
  | .tup xs => if xs.length = n then r xs env else none
  | .lst xs => if xs.length = n then r xs env else none
  | _ => none
theorem _root_.L2.PG.imp {X : Cx} {e : Expr} {t t' : TG} (h : PG X e t) (i : ∀ x σ H Q, t' x σ H Q → t x σ H Q) : PG X e t' := ⟨fun pins s σ H v u Q I r q => h.run pins s σ H v u Q I r (i v σ H Q q)⟩
theorem _root_.L2.PGs.imp {X : Cx} {e : List Expr} {t t' : TGs} (h : PGs X e t) (i : ∀ x σ H Q, t' x σ H Q → t x σ H Q) : PGs X e t' := ⟨fun pins s σ H v u Q I r q => h.run pins s σ H v u Q I r (i v σ H Q q)⟩
theorem _root_.L2.PG.or {X : Cx} {e : Expr} {t t' : TG} (h : PG X e t) (h' : PG X e t') : PG X e (fun x σ H Q => t x σ H Q ∨ t' x σ H Q) := ⟨fun pins s σ H v u Q I r q => q.elim (h.run pins s σ H v u Q I r) (h'.run pins s σ H v u Q I r)⟩
section
variable {ct : Ct} {X : Cx} {e : Expr} {es : List Expr} {pos : Pos} {ws us : List Nat} {g : GN} {gs : GNs}
theorem jn_name (i : Nat) {x : Str} (hN : X.N.Nodup) (hi : X.N[i]? = some x := by rfl) (hx : Loc X.env.scope x := by first | exact Or.inl rfl | exact Or.inr rfl) (hf : X.fn x = true ∨ X.env.scope.names.lookup x = some .local := by first | exact .inl rfl | exact .inr rfl | assumption) : JN ct X (.Name x pos) [i] (gN i) := by
  refine ⟨(pg_name hN hi hx hf).imp fun v σ H Q h => ?_⟩
  obtain ⟨G, env, S, v, env', gd, r, e, q⟩ := h
  cases e
  exact q _ (fun j hj => List.getElem?_set_ne fun z => hj (by simp [z])) (List.length_set ..) (gd.set r)
theorem jns_nil : JNs ct X [] [] gNn := by
  refine ⟨pgs_nil.imp fun v σ H Q h => ?_⟩
  obtain ⟨G, env, S, vs, env', gd, r, e, q⟩ := h
  cases vs with
  | nil => cases e; exact ⟨RepL.nil_iff.mp r, q σ (fun _ _ => rfl) rfl gd⟩
  | cons _ _ => cases e
theorem jns_cons (h1 : JN ct X e ws g) (h2 : JNs ct X es us gs) (hs : (assignEach (e :: es) X.env).map (·.2) = assign e X.env :: (assignEach es X.env).map (·.2) := by rfl) : JNs ct X (e :: es) (ws ++ us) (gNc g gs) := by
  refine ⟨(pgs_cons h1.pg h2.pg hs).imp fun v σ H Q h => ?_⟩
  obtain ⟨G, env, S, vs, env', gd, r, e, q⟩ := h
  cases vs with
  | nil => cases e
  | cons p ps =>
    obtain ⟨x, xs, rfl, r1, r2⟩ := r.inv
    obtain ⟨en, e1, e2⟩ := Option.bind_eq_some_iff.mp e
    refine ⟨x, xs, rfl, G, env, S, p, en, gd, r1, e1, fun σ1 k1 l1 g1 => ⟨G, en, S, ps, env', g1, r2, e2, fun σ2 k2 l2 g2 => q σ2 (fun j hj => ?_) (l2.trans l1) g2⟩⟩
    rw [k2 j (fun z => hj (List.mem_append_right _ z)), k1 j (fun z => hj (List.mem_append_left _ z))]
theorem jn_tup {k n : Nat} (hc : X.calm = true) (h : JNs ct X es ws gs) (hn : (assignEach es X.env).length = n := by rfl) (hst : (assignEach es X.env).findIdx? (·.1) = none := by rfl) : JN ct X (.Tuple es k pos) ws (gT n gs) := by
  refine ⟨((pg_tup hc h.pg hn hst).or (pg_unl hc h.pg hn hst)).imp fun v σ H Q h => ?_⟩
  obtain ⟨G, env, S, vs, env', gd, r, e, q⟩ := h
  cases vs with
  | tup xs =>
    obtain ⟨a, ys, rfl, hq, ry⟩ := r.tup_inv
    unfold gT at e
    dsimp only at e
    split at e
    · rename_i hl
      exact .inl ⟨a, ys, rfl, hq.sqT, by rw [ry.length]; exact hl, G, env, S, xs, env', gd, ry, e, q⟩
    · cases e
  | lst xs =>
    obtain ⟨a, ys, rfl, hq, ry⟩ := r.lst_inv
    unfold gT at e
    dsimp only at e
    split at e
    · rename_i hl
      exact .inr ⟨a, ys, rfl, hq.sqL, by rw [ry.length]; exact hl, G, env, S, xs, env', gd, ry, e, q⟩
    · cases e
  | _ => cases e
end
def sAsg (a : FE) (g : GN) : FS := fun env S => (a env S).bind fun x => (ofO (g x.1 env)).bind fun e => .ok (.nx e x.2)
section
variable {ct : Ct} {X : Cx} {e tg : Expr} {fe : FE} {es : List Expr} {pos : Pos} {ws us : List Nat} {g : GN} {gs : GNs}
theorem js_asg (he : JE ct X e fe) (hg : JN ct X tg ws g) (hs : swapsWithSole [tg] e pos.line X.env = pure false := by rfl) (hw : swappedStores [tg] e X.env = pure none := by rfl)
    (h1 : (assignEach [tg] X.env).map (·.2) = [assign tg X.env] := by rfl) : JS ct X (.Assign [tg] e pos) (sAsg fe g) := by
  refine ⟨(ps_asg he.pe hg.pg hs hw h1).imp fun D σ H h => ?_⟩
  obtain ⟨G, env, S, fl, gd, e, h⟩ := h
  obtain ⟨⟨x, S1⟩, e1, e2⟩ := Res.bind_ok e
  obtain ⟨en, e3, e2⟩ := Res.bind_ok e2
  cases e2
  exact ⟨G, env, S, x, S1, gd, e1, fun y H1 A1 p s r => ⟨_, env, S1, x, en, gd.post p s, r, ofO_ok e3, fun σ' _ _ g' => h σ' H1 A1 G.M (p.lat G.M) g'⟩⟩
end
/-- a, b = x, y of plain local names -/
def sPar (i j : Nat) (a : FA) : FS := fun env S => (a env S).bind fun x => match x.1 with
  | [u, v] => .ok (.nx ((env.set i (.val u)).set j (.val v)) x.2)
  | _ => .err
def sPar3 (i j l : Nat) (a : FA) : FS := fun env S => (a env S).bind fun x => match x.1 with
  | [u, v, w] => .ok (.nx (((env.set i (.val u)).set j (.val v)).set l (.val w)) x.2)
  | _ => .err
section
variable {ct : Ct} {X : Cx} {a b : Expr} {fa : FA} {pos : Pos}
theorem js_par (i j : Nat) {x y : Str} {px py pt : Pos} {kt k2 pt2} (hN : X.N.Nodup) (ha : JA ct X [a, b] fa) (hc : X.calm = true := by rfl) (hi : X.N[i]? = some x := by rfl) (hj : X.N[j]? = some y := by rfl) (hij : i ≠ j := by decide)
    (hx : X.env.scope.names.lookup x = some .local := by rfl) (hy : X.env.scope.names.lookup y = some .local := by rfl)
    (hw : swappedStores [.Tuple [.Name x px, .Name y py] kt pt] (.Tuple [a, b] k2 pt2) X.env = pure (some [x, y]) := by rfl)
    (hsZ : swapsWithSole [.Tuple [.Name x px, .Name y py] kt pt] (.Tuple [a, b] k2 pt2) pos.line X.env = pure false := by rfl) :
    JS ct X (.Assign [.Tuple [.Name x px, .Name y py] kt pt] (.Tuple [a, b] k2 pt2) pos) (sPar i j fa) := by
  refine ⟨(ps_par hc hN hi hj hij hx hy ha.pa hw hsZ).imp fun D σ H h => ?_⟩
  obtain ⟨G, env, S, fl, gd, e, h⟩ := h
  obtain ⟨⟨vs, S1⟩, e1, e2⟩ := Res.bind_ok e
  dsimp only at e2
  split at e2
  · rename_i u v
    cases e2
    refine ⟨G, env, S, _, S1, gd, e1, fun xs H1 A1 p s r => ?_⟩
    obtain ⟨p1, p2, rfl, r1, r2⟩ := r.two
    exact ⟨p1, p2, rfl, h _ H1 A1 G.M (p.lat G.M) (((gd.post p s).set r1).set r2)⟩
  · cases e2
end
/-! ### loops -/
def forL (g : GN) (b : FS) : List PV → Env → Sto → Res Fl
  | [], env, S => .ok (.nx env S)
  | x :: r, env, S => (ofO (g x env)).bind fun e => (b e S).bind fun fl => match fl with
    | .nx e' S' => forL g b r e' S'
    | .ct e' S' => forL g b r e' S'
    | .bk e' S' => .ok (.nx e' S')
    | .rt v S' => .ok (.rt v S')
def sFor (it : FA) (g : GN) (b : FS) : FS := fun env S => (it env S).bind fun xs => forL g b xs.1 env xs.2
def whL (c : FT) (b : FS) : Nat → Env → Sto → Res Fl
  | 0, _, _ => .err
  | n + 1, env, S => (c env S).bind fun x => if x.1 then (b env x.2).bind fun fl => match fl with
      | .nx e' S' => whL c b n e' S'
      | .ct e' S' => whL c b n e' S'
      | .bk e' S' => .ok (.nx e' S')
      | .rt v S' => .ok (.rt v S')
    else .ok (.nx env x.2)
def sWh (n : Nat) (c : FT) (b : FS) : FS := fun env S => whL c b n env S
section
variable (K : PySem.W.Frag) (ct : Ct)
/-- an iterator that gives xs, whatever the loop does to what it owns or shares -/
def ItOk (J : It) (A M : List Addr) (H : Hp) (xs : List PV) : Prop := ∀ (A' M' : List Addr) (H' : Hp), Lat A M H A' M' H' → Hx A' M' H' →
  (∀ i, i < xs.length → J.go i H') ∧ J.stop xs.length H' ∧ ∀ i x H'', i < xs.length → J.yld i H' x H'' → Same H' H'' ∧ ∃ v, xs[i]? = some v ∧ Rep K ct H'' A' M' v x
def rdI (f : FA) : TI := fun σ H R => ∃ G env S v S', Good K ct G σ H env S ∧ f env S = .ok (v, S') ∧
  ∀ J H' A', Post G.A H A' H' → StoOk K ct H' A' G.M S' → ItOk K ct J A' G.M H' v → R J H'
end
structure JI (ct : Ct) (X : Cx) (tg iter : Expr) (f : FA) : Prop where
  pi : PI X tg iter (rdI X.K ct f)
theorem _root_.L2.PI.imp {X : Cx} {tg e : Expr} {t t' : TI} (h : PI X tg e t) (i : ∀ σ H Q, t' σ H Q → t σ H Q) : PI X tg e t' := ⟨fun pins s σ H Q I q => h.run pins s σ H Q I (i σ H Q q)⟩
theorem _root_.L2.PI.or {X : Cx} {tg e : Expr} {t t' : TI} (h : PI X tg e t) (h' : PI X tg e t') : PI X tg e (fun σ H Q => t σ H Q ∨ t' σ H Q) := ⟨fun pins s σ H Q I q => q.elim (h.run pins s σ H Q I) (h'.run pins s σ H Q I)⟩
theorem drop_cons {α : Type} {xs : List α} {i : Nat} {v : α} (h : xs[i]? = some v) : xs.drop i = v :: xs.drop (i + 1) := by
  obtain ⟨hi, rfl⟩ := List.getElem?_eq_some_iff.mp h
  exact List.drop_eq_getElem_cons hi
section
variable {ct : Ct} {X : Cx} {tg iter : Expr} {body : List Stmt} {it : FA} {g : GN} {ws : List Nat} {b : FS} {pos : Pos}
theorem js_for (hi : JI ct X tg iter it) (hg : JN ct X tg ws g) (hb : JSs ct X body b) (hc : X.calm = true := by rfl) (hp : PassesOwn (model X.prog X.w) X.A X.env X.xe := by exact PassesOwn.never)
    (hs : ∀ x, foldedSetIterable iter X.env x = pure x := by intro _; rfl) : JS ct X (.For tg iter body [] pos) (sFor it g b) := by
  refine ⟨(ps_for hp hc hi.pi hg.pg hb.ps hs).imp fun D σ H h => ?_⟩
  obtain ⟨G, env, S, fl, gd, e, h⟩ := h
  obtain ⟨⟨xs, S1⟩, e1, e2⟩ := Res.bind_ok e
  refine ⟨G, env, S, xs, S1, gd, e1, fun J H1 A1 p s io => ?_⟩
  refine ⟨fun i m σ H => m = xs.length - i ∧ i ≤ xs.length ∧ ∃ A' M' env' S', Lat A1 G.M H1 A' M' H ∧ Good X.K ct { G with A := A', M := M' } σ H env' S' ∧ forL g b (xs.drop i) env' S' = .ok fl,
    ⟨xs.length, by simp, Nat.zero_le _, A1, G.M, env, S1, Lat.refl _ _ _, gd.post p s, by simpa using e2⟩, ?_⟩
  rintro i m σ2 H2 ⟨rfl, hi2, A2, M2, env2, S2, l2, g2, e2⟩
  obtain ⟨go, stop, yl⟩ := io A2 M2 H2 l2 g2.hx
  by_cases hlt : i < xs.length
  · refine .inr ⟨go i hlt, fun σ' H' => i + 1 ≤ xs.length ∧ ∃ A' M' env' S', Lat A1 G.M H1 A' M' H' ∧ Good X.K ct { G with A := A', M := M' } σ' H' env' S' ∧ forL g b (xs.drop (i + 1)) env' S' = .ok fl, fun σ' H' q => ⟨xs.length - (i + 1), by omega, rfl, q⟩, fun x H3 hy => ?_⟩
    obtain ⟨sm, v, hv, rv⟩ := yl i x H3 hlt hy
    rw [drop_cons hv] at e2
    obtain ⟨en, e3, e2⟩ := Res.bind_ok e2
    obtain ⟨fl3, e4, e2⟩ := Res.bind_ok e2
    have g3 := g2.grow sm
    refine ⟨_, env2, S2, v, en, g3, rv, ofO_ok e3, fun σ4 _ _ g4 => ⟨_, en, S2, fl3, g4, e4, ?_⟩⟩
    have l3 : Lat A1 G.M H1 A2 M2 H3 := l2.trans ((Post.grow g2.bs.nodup sm).lat M2)
    cases fl3 with
    | nx e' S' => exact fun σ5 H5 A5 M5 l5 g5 => ⟨hlt, A5, M5, e', S', l3.trans l5, g5, e2⟩
    | ct e' S' => exact fun σ5 H5 A5 M5 l5 g5 => ⟨hlt, A5, M5, e', S', l3.trans l5, g5, e2⟩
    | bk e' S' =>
      cases e2
      exact fun σ5 H5 A5 M5 l5 g5 => h σ5 H5 A5 M5 ((p.lat G.M).trans (l3.trans l5)) g5
    | rt v S' => cases e2; exact h
  · have hn : i = xs.length := by omega
    subst hn
    rw [List.drop_length] at e2
    cases e2
    exact .inl ⟨stop, h σ2 H2 A2 M2 ((p.lat G.M).trans l2) g2⟩
theorem js_while (n : Nat) {c : Expr} {tc : FT} (hc : JT ct X c tc) (hb : JSs ct X body b) (hp : PassesOwn (model X.prog X.w) X.A X.env X.xe := by exact PassesOwn.never) : JS ct X (.While c body [] pos) (sWh n tc b) := by
  refine ⟨(ps_while hp hc.pt hb.ps).imp fun D σ H h => ?_⟩
  obtain ⟨G, env, S, fl, gd, e, h⟩ := h
  refine ⟨fun m σ' H' => ∃ A' M' env' S', Lat G.A G.M H A' M' H' ∧ Good X.K ct { G with A := A', M := M' } σ' H' env' S' ∧ whL tc b m env' S' = .ok fl, ⟨n, G.A, G.M, env, S, Lat.refl _ _ _, gd, e⟩, ?_⟩
  rintro m σ2 H2 ⟨A2, M2, env2, S2, l2, g2, e2⟩
  cases m with
  | zero => cases e2
  | succ m =>
    obtain ⟨⟨x, S3⟩, e3, e2⟩ := Res.bind_ok e2
    refine ⟨_, env2, S2, x, S3, g2, e3, fun H3 A3 p3 s3 => ?_⟩
    have l3 : Lat G.A G.M H A3 M2 H3 := l2.trans (p3.lat M2)
    cases x with
    | true =>
      dsimp only at e2 ⊢
      rw [if_pos rfl] at e2 ⊢
      obtain ⟨fl3, e4, e2⟩ := Res.bind_ok e2
      refine ⟨fun σ' H' => ∃ A' M' env' S', Lat G.A G.M H A' M' H' ∧ Good X.K ct { G with A := A', M := M' } σ' H' env' S' ∧ whL tc b m env' S' = .ok fl, fun σ' H' q => ⟨m, Nat.lt_succ_self m, q⟩, _, env2, S3, fl3, g2.post p3 s3, e4, ?_⟩
      cases fl3 with
      | nx e' S' => exact fun σ5 H5 A5 M5 l5 g5 => ⟨A5, M5, e', S', l3.trans l5, g5, e2⟩
      | ct e' S' => exact fun σ5 H5 A5 M5 l5 g5 => ⟨A5, M5, e', S', l3.trans l5, g5, e2⟩
      | bk e' S' =>
        cases e2
        exact fun σ5 H5 A5 M5 l5 g5 => h σ5 H5 A5 M5 (l3.trans l5) g5
      | rt v S' => cases e2; exact h
    | false =>
      dsimp only at e2 ⊢
      rw [if_neg Bool.false_ne_true] at e2 ⊢
      cases e2
      exact h σ2 H3 A3 M2 l3 (g2.post p3 s3)
end
end J
set_option Elab.async false
set_option linter.all false
set_option maxRecDepth 100000
/-! enumerate over a tuple, for the layer's loops. -/
namespace J
open PySem L2
set_option maxHeartbeats 1100000 in
theorem meets_enumB {v : Value} {o : Obj} {H : Heap → Prop} (B : Begins v o H) :
    Meets (Builtin.«enumerate.__new__» ⟨[.type "enumerate", v], []⟩) (fun _ R s => H s.heap ∧
      R (.ok (.ret (.ref (s.heap.push o).objs.size))) { s with heap := (s.heap.push o).push ⟨.type "enumerate", none, .fields #[.none, .bool false, .ref s.heap.objs.size, rawInt 0, .none, .none], #[]⟩ }) :=
  .of_wp fun progZ w A R s h => by
    obtain ⟨hpZ, g, d, tk, os⟩ := s
    obtain ⟨h1, h⟩ := h
    have hsub := sub_enumerate
    have q1 : ∀ {A' : Around} {E : Value → Shared → Prop} {Q : Value → Shared → Prop}, Q (.ref hpZ.objs.size) ⟨hpZ.push o, g, d, tk, os⟩ → wpAny (model progZ w) A' (pyIter v) Q E ⟨hpZ, g, d, tk, os⟩ :=
      fun q => B.iter progZ w _ _ ⟨hpZ, g, d, tk, os⟩ _ h1 q
    wp_walk using q1
    refine wpAny_stack_any fun stZ => wpAny_pure ?_
    split
    · rename_i cZ _ _ _ _ _
      cases (cZ == Value.type "enumerate")
      · wp_walk using q1; exact ⟨_, rfl, h⟩
      · wp_walk using q1; exact ⟨_, rfl, h⟩
    · wp_walk using q1; exact ⟨_, rfl, h⟩
theorem call_enumB {prog : Program} {w : World} {A : Around} {E : Value → Shared → Prop} {s : Shared} {v : Value} {o : Obj} {H : Heap → Prop} {Q : Value → Shared → Prop} (B : Begins v o H) (h1 : H s.heap)
    (h : ∀ h', IsEnum h' (s.heap.objs.size + 1) s.heap.objs.size 0 .none → h'.get? s.heap.objs.size = some o → (∀ b u, s.heap.get? b = some u → h'.get? b = some u) → Q (.ref (s.heap.objs.size + 1)) { s with heap := h' }) :
    wpAny (model prog w) A (call (.type "enumerate") [v]) Q E s := by
  refine callType_new F.called_enumerate (by decide) (F.typeCall_enumerate_1 _) (F.newCall_enumerate_1 _) (fun obj => F.args_object_init_2 obj _) F.entry_enumerate_new (meets_enumB B) ⟨h1, ?_⟩
  have hzZ : (s.heap.push o).objs.size = s.heap.objs.size + 1 := Heap.size_push ..
  show _ ∧ _
  rw [hzZ]
  have he : IsEnum ((s.heap.push o).push ⟨.type "enumerate", none, .fields #[.none, .bool false, .ref s.heap.objs.size, rawInt 0, .none, .none], #[]⟩) (s.heap.objs.size + 1) s.heap.objs.size 0 .none := by
    have q := Heap.get?_push_size (s.heap.push o) (o := ⟨.type "enumerate", none, .fields #[.none, .bool false, .ref s.heap.objs.size, rawInt 0, .none, .none], #[]⟩) rfl
    rw [hzZ] at q
    exact q
  exact ⟨⟨_, he, rfl⟩, h _ he (Heap.get?_push_of_some _ (Heap.get?_push_size _ B.free)) fun b u x => Heap.get?_push_of_some _ (Heap.get?_push_of_some _ x)⟩
def IteT (K : PySem.W.Frag) (a : Addr) : It where
  go := fun i H => ∃ (xs : List V) (x : V), SqT K H a xs ∧ xs[i]? = some x
  yld := fun i H v H' => ∃ T x, v = .ref T ∧ H T = none ∧ H' = upd H T (.tup [.int (i : Nat), x]) ∧ ∀ xs, SqT K H a xs → xs[i]? = some x
  stop := fun i H => ∃ xs : List V, SqT K H a xs ∧ xs.length = i
theorem turn_enumT {P : Program} {w : World} {K : PySem.W.Frag} {elts : List Expr} {kk : Nat} {tpos : Pos} (a e it : Addr) :
    Turn P w K (.Tuple elts kk tpos) (IteT K a) [e, it] e (fun i h => (∃ old, IsEnum h e it ((i : Nat) : Int) old) ∧ h.IsTupleIter it a i ∧ e ≠ it ∧ a ≠ it ∧ e ≠ a) where
  mem := by simp
  obj := fun i h st b hb => by
    obtain ⟨⟨old, heZ⟩, ⟨o, ho, hc, hd⟩, _⟩ := st
    have eZ' : b = e ∨ b = it := by simpa using hb
    rcases eZ' with zZ | zZ
    · rw [zZ]; exact ⟨_, heZ, fun v q => nomatch q⟩
    · rw [zZ]; exact ⟨o, ho, fun v q => by rw [hd] at q; cases q⟩
  keep := fun i h h' st k => let ⟨⟨old, heZ⟩, hi, hne⟩ := st; ⟨⟨old, k e (by simp) _ heZ⟩, hi.at fun o q => k it (by simp) o q, hne⟩
  item := by
    intro XZ hP hw hK hc i pins s σ H E I hf st hg
    subst hP hw hK
    obtain ⟨⟨old, heZ⟩, hit, hne, hai, hea⟩ := st
    obtain ⟨xs, x, hq, hx⟩ := hg
    obtain ⟨itsZ, rv, p, hz⟩ := I.tuple hq
    obtain ⟨uZ, hu, ru⟩ := rv.get hx
    have hel : e < s.heap.objs.size := Heap.lt_size heZ
    have hilZ : it < s.heap.objs.size := by obtain ⟨_, q, _⟩ := hit; exact Heap.lt_size q
    have hD := Draws.tuple (prog := XZ.prog) (w := XZ.w) (A := XZ.A.in1) (I.ok.hd hc) it a hai itsZ.toArray
    have hlt : i < itsZ.toArray.size := by simpa using (List.getElem?_eq_some_iff.mp hu).1
    refine wpAny_pyNext_enum_itemD hD heZ ⟨hit, p⟩ hlt hne (by simp [hne, hea]) fun y h' tk hy ho hit' hT hsz hk => ?_
    have hyu : y = uZ := by
      rw [List.getElem?_toArray, hu] at hy
      exact (Option.some.inj hy).symm
    subst hyu
    refine ⟨_, rfl, wpAny_letOwnedTupleGo_enum (s := { s with heap := h', toks := tk + 1 }) ho fun h'' he' sb => ?_⟩
    have hT2 : h''.get? s.heap.objs.size = some ⟨.type "tuple", none, .seq #[.int i tk, y] 0, #[]⟩ := (sb.2 _ (Nat.ne_of_gt hel)).trans hT
    have new : ObjOk XZ.prog XZ.w (upd H s.heap.objs.size (.tup [.int (i : Nat), x])) h'' s.heap.objs.size (.tup [.int (i : Nat), x]) :=
      ⟨by show 2 ≤ sizeLine; decide, [.int i tk, y], .cons ⟨_, rfl⟩ (.cons ru .nil), ⟨_, hT2, rfl, _, rfl⟩⟩
    have I1 : Inv XZ pins σ (upd H s.heap.objs.size (.tup [.int (i : Nat), x])) { s with heap := h'', toks := tk + 1 } :=
      I.turnedNew (ch := [e, it]) (fun b ob hb q => (sb.2 b (fun zZ => hb (by simp [zZ]))).trans (hk b ob (fun zZ => hb (by simp [zZ])) (fun zZ => hb (by simp [zZ])) q)) hf (Nat.le_refl _) new
    refine ⟨.ref s.heap.objs.size, _, I1, rfl, ⟨_, x, rfl, I.hok.fresh (Nat.le_refl _), rfl, fun ys hy => by rw [I.tuple_inj hy hq]; exact hx⟩, ⟨⟨y, ?_⟩, hit'.1.at fun o q => (sb.2 it (Ne.symm hne)).trans q, hne, hai, hea⟩, fun b hb => ?_⟩
    · have e1Z : ((i + 1 : Nat) : Int) = (i : Int) + 1 := by omega
      rw [e1Z]; exact he'
    · have hbZ' : b < s.heap.objs.size := by
        have eZ' : b = e ∨ b = it := by simpa using hb
        rcases eZ' with zZ | zZ
        · rw [zZ]; exact hel
        · rw [zZ]; exact hilZ
      rw [upd_ne (Nat.ne_of_lt hbZ')]
      exact (hf b hb).1
  done := by
    intro XZ hP hw hK hc i pins s σ H E I hf st hg
    subst hP hw hK
    obtain ⟨⟨old, heZ⟩, hit, hne, hai, hea⟩ := st
    obtain ⟨xs, hq, hx⟩ := hg
    obtain ⟨itsZ, rv, p, hz⟩ := I.tuple hq
    obtain ⟨f0Z, f1, f2, f3, f4, f5⟩ := hf it (by simp)
    have hl := rv.length
    have hD := Draws.tuple (prog := XZ.prog) (w := XZ.w) (A := XZ.A.in1) (I.ok.hd hc) it a hai itsZ.toArray
    have hn : itsZ.toArray.size = i := by simp; omega
    refine wpAny_pyNext_enum_endD hD heZ (by rw [hn]; exact ⟨hit, p⟩) fun h' eb => ⟨rfl, I.turned (t' := s.toks) (fun b o hb q => eb b o hb q) f0Z f1 f3 f4 f5⟩
  self := fun A i s Q E st h => let ⟨⟨_, heZ⟩, _⟩ := st; wpAny_pyIter_enum heZ h
def iEnumT (K : PySem.W.Frag) (ta : TA) : TI := fun σ H R => ta σ H fun vs H1 => ∃ a xs, vs = [.ref a] ∧ SqT K H1 a xs ∧ R (IteT K a) H1
theorem pi_enumT {X : Cx} {e : Expr} {ta : TA} {p pos tpos : Pos} {elts : List Expr} {kk : Nat} (hg : Gl X "enumerate") (hm : X.mg "enumerate" = none) (ha : PA X [e] ta) (hs : starEach [e] X.env = [(false, eval e X.env)] := by rfl) :
    PI X (.Tuple elts kk tpos) (.Call (.Name "enumerate" p) [e] [] pos) (iEnumT X.K ta) := by
  refine ⟨fun pinsZ s σ H R I h => ?_⟩
  refine PyProof.Rows.Call_ (ld_blt I hg hm PyProof.Rows.boot_enumerate (PyProof.Rows.callWith_type1 (thn (ha.run pos pinsZ s σ H _ I h) fun us s1 ⟨vs, H1, I1, r1, q1⟩ => ?_) hs rfl))
  obtain ⟨aZ, xs, ex, hq, q⟩ := q1
  subst ex
  cases r1 with
  | cons r rr =>
    cases rr
    cases r
    obtain ⟨its, rv, p', hz⟩ := I1.tuple hq
    have hal : aZ < s1.heap.objs.size := p'.lt
    refine call_enumB (begins_tuple aZ its.toArray) p' fun h' he hit hk => wpAny_pyIter_enum he ?_
    have I2 : Inv X pinsZ σ H1 { s1 with heap := h' } := I1.kept (t' := s1.toks) hk
    refine ⟨s1.heap.objs.size + 1, [s1.heap.objs.size + 1, s1.heap.objs.size], _, _, H1, rfl, I2, turn_enumT aZ (s1.heap.objs.size + 1) s1.heap.objs.size, ⟨⟨.none, he⟩, ⟨_, hit, rfl, rfl⟩, Nat.succ_ne_self _, Nat.ne_of_lt hal, Nat.ne_of_gt (Nat.lt_succ_of_lt hal)⟩, fun b hb => ?_, q⟩
    have eZ' : b = s1.heap.objs.size + 1 ∨ b = s1.heap.objs.size := by simpa using hb
    have hleZ : s1.heap.objs.size ≤ b := by
      rcases eZ' with zZ | zZ
      · rw [zZ]; exact Nat.le_add_right _ _
      · rw [zZ]; exact Nat.le_refl _
    exact I1.fpOk hleZ (I1.hok.fresh hleZ)
end J
set_option Elab.async false
set_option linter.all false
set_option maxRecDepth 100000
/-! J: what is walked; comprehensions. -/
namespace J
open PySem L2

def iSeq (f : FE) : FA := fun env S => (f env S).bind fun x => match x.1 with
  | .lst xs => .ok (xs, x.2)
  | .tup xs => .ok (xs, x.2)
  | .scr ns => .ok (ns.map PV.int, x.2)
  | _ => .err
def rangeP (lo : Int) (n : Nat) : List PV := (List.range n).map fun (i : Nat) => PV.int (lo + (i : Int))
def bdI (i : Int) : Bool := decide (-(2 ^ 62) ≤ i) && decide (i < 2 ^ 62)
def iR1 (f : FA) : FA := fun env S => (f env S).bind fun x => match x.1 with
  | [.int j] => if bdI j then .ok (rangeP 0 j.toNat, x.2) else .err
  | _ => .err
def iR2 (f : FA) : FA := fun env S => (f env S).bind fun x => match x.1 with
  | [.int i, .int j] => if bdI i && bdI j then .ok (rangeP i (j - i).toNat, x.2) else .err
  | _ => .err
def rangeD (lo : Int) (n : Nat) : List PV := (List.range n).map fun (i : Nat) => PV.int (lo - (i : Int))
/-- range(i, j, -1) -/
def iR3 (f : FA) : FA := fun env S => (f env S).bind fun x => match x.1 with
  | [.int i, .int j, .int c] => if c = -1 ∧ bdI i = true ∧ bdI j = true then .ok (rangeD i (i - j).toNat, x.2) else .err
  | _ => .err
def enumP : Nat → List PV → List PV
  | _, [] => []
  | n, x :: r => .tup [.int (n : Int), x] :: enumP (n + 1) r
def zipP : List PV → List PV → List PV
  | x :: r, y :: s => .tup [x, y] :: zipP r s
  | _, _ => []
def iEn (f : FA) : FA := fun env S => (f env S).bind fun x => match x.1 with
  | [.lst xs] => .ok (enumP 0 xs, x.2)
  | [.tup xs] => .ok (enumP 0 xs, x.2)
  | _ => .err
def iZp (f : FA) : FA := fun env S => (f env S).bind fun x => match x.1 with
  | [.lst xs, .lst ys] => .ok (zipP xs ys, x.2)
  | [.tup xs, .tup ys] => .ok (zipP xs ys, x.2)
  | _ => .err
theorem enumP_length : ∀ (n : Nat) (xs : List PV), (enumP n xs).length = xs.length
  | _, [] => rfl
  | n, x :: r => by rw [enumP, List.length_cons, List.length_cons, enumP_length (n + 1) r]
theorem enumP_get : ∀ (n : Nat) (xs : List PV) (i : Nat), (enumP n xs)[i]? = (xs[i]?).map fun x => .tup [.int ((n + i : Nat) : Int), x]
  | _, [], i => by simp [enumP]
  | n, x :: r, 0 => by simp [enumP]
  | n, x :: r, i + 1 => by
    rw [enumP, List.getElem?_cons_succ, List.getElem?_cons_succ, enumP_get (n + 1) r i]
    have e : n + 1 + i = n + (i + 1) := by omega
    rw [e]
theorem zipP_length : ∀ (xs ys : List PV), (zipP xs ys).length = min xs.length ys.length
  | [], ys => by simp [zipP]
  | x :: r, [] => by simp [zipP]
  | x :: r, y :: s => by rw [zipP, List.length_cons, List.length_cons, List.length_cons, zipP_length r s]; omega
theorem zipP_get : ∀ (xs ys : List PV) (i : Nat) (x y : PV), xs[i]? = some x → ys[i]? = some y → (zipP xs ys)[i]? = some (.tup [x, y])
  | [], ys, i, x, y, h, _ => by simp at h
  | a :: r, [], i, x, y, _, h => by simp at h
  | a :: r, b :: s, 0, x, y, h1, h2 => by
    cases h1; cases h2; rfl
  | a :: r, b :: s, i + 1, x, y, h1, h2 => zipP_get r s i x y h1 h2
section
variable {K : PySem.W.Frag} {ct : Ct} {A M : List Addr} {H : Hp}
theorem it_list {a : Addr} {xs : List PV} {vs : List V} (h : Vw H A M a (.lst vs)) (r : RepL K ct H A M xs vs) : ItOk K ct (Itl K a) A M H xs := fun A' M' H' l hx => by
  have q : SqL K H' a vs := (h.lat l).sqL
  have r' := r.lat l xs vs
  have hl := r.length
  have w := walk_list (K := K) (a := a) (xs := vs)
  refine ⟨fun i hi => w.goes i H' (by omega) q, ?_, fun i x H'' hi y => ?_⟩
  · rw [← hl]; exact w.stops H' q
  · obtain ⟨e, y'⟩ := w.yields i H' x H'' (by omega) q y
    subst e
    exact ⟨Same.refl _, r'.getV y'⟩
theorem it_tup {a : Addr} {xs : List PV} {vs : List V} (h : Vw H A M a (.tup vs)) (r : RepL K ct H A M xs vs) : ItOk K ct (Itt K a) A M H xs := fun A' M' H' l hx => by
  have q : SqT K H' a vs := (h.lat l).sqT
  have r' := r.lat l xs vs
  have hl := r.length
  have w := walk_tup (K := K) (a := a) (xs := vs)
  refine ⟨fun i hi => w.goes i H' (by omega) q, ?_, fun i x H'' hi y => ?_⟩
  · rw [← hl]; exact w.stops H' q
  · obtain ⟨e, y'⟩ := w.yields i H' x H'' (by omega) q y
    subst e
    exact ⟨Same.refl _, r'.getV y'⟩
theorem it_scr {a : Addr} {ns : List Int} (h : VwR H A M a (.lst (ns.map V.int)) ∨ SqL K H00 a (ns.map V.int)) : ItOk K ct (Itl K a) A M H (ns.map PV.int) := fun A' M' H' l hx => by
  have q : SqL K H' a (ns.map V.int) := sq_scr (h.imp (VwR.lat l) id : VwR H' A' M' a (.lst (ns.map V.int)) ∨ _)
  have w := walk_list (K := K) (a := a) (xs := ns.map V.int)
  have hl : (ns.map V.int).length = (ns.map PV.int).length := by simp
  refine ⟨fun i hi => w.goes i H' (by omega) q, ?_, fun i x H'' hi y => ?_⟩
  · rw [← hl]; exact w.stops H' q
  · obtain ⟨e, y'⟩ := w.yields i H' x H'' (by omega) q y
    subst e
    exact ⟨Same.refl _, (RepL.of_ints ns).getV y'⟩
theorem pair_rep {H' H'' : Hp} {A' M' : List Addr} {T : Addr} {x y : V} {p q : PV} (hx : Hx A' M' H') (np : H' T = none) (rp : Rep K ct H' A' M' p x) (rq : Rep K ct H' A' M' q y) (e : H'' = upd H' T (.tup [x, y])) : Same H' H'' ∧ Rep K ct H'' A' M' (.tup [p, q]) (.ref T) := by
  subst e
  exact ⟨same_new np, Rep.new_tup (.cons rp (.cons rq .nil)) np hx.inA hx.inM hx.nd⟩
theorem it_enumL {a : Addr} {xs : List PV} {vs : List V} (h : Vw H A M a (.lst vs)) (r : RepL K ct H A M xs vs) : ItOk K ct (Ite K a) A M H (enumP 0 xs) := fun A' M' H' l hx => by
  have q : SqL K H' a vs := (h.lat l).sqL
  have r' := r.lat l xs vs
  have hl := r.length
  have w := walk_enum (K := K) (a := a) (xs := vs)
  rw [enumP_length]
  refine ⟨fun i hi => w.goes i H' (by omega) q, ?_, fun i x H'' hi y => ?_⟩
  · rw [← hl]; exact w.stops H' q
  · obtain ⟨T, u, z, e1, e2, e3, e4, e5⟩ := w.yields i H' x H'' (by omega) q y
    obtain ⟨p, h1, h2⟩ := r'.getV e5
    cases e4
    subst e1
    obtain ⟨k1, k2⟩ := pair_rep (ct := ct) (p := .int (i : Int)) hx e2 (Rep.int_iff.mpr rfl) h2 e3
    exact ⟨k1, _, by rw [enumP_get, h1]; simp, k2⟩
theorem it_enumT {a : Addr} {xs : List PV} {vs : List V} (h : Vw H A M a (.tup vs)) (r : RepL K ct H A M xs vs) : ItOk K ct (IteT K a) A M H (enumP 0 xs) := fun A' M' H' l hx => by
  have q : SqT K H' a vs := (h.lat l).sqT
  have r' := r.lat l xs vs
  have hl := r.length
  rw [enumP_length]
  refine ⟨fun i hi => ⟨vs, vs[i]'(by omega), q, by simp [show i < vs.length by omega]⟩, ⟨vs, q, by omega⟩, fun i x H'' hi y => ?_⟩
  obtain ⟨T, z, e1, e2, e3, e5⟩ := y
  obtain ⟨p, h1, h2⟩ := r'.getV (e5 vs q)
  subst e1
  obtain ⟨k1, k2⟩ := pair_rep (ct := ct) (p := .int (i : Int)) hx e2 (Rep.int_iff.mpr rfl) h2 e3
  exact ⟨k1, _, by rw [enumP_get, h1]; simp, k2⟩
theorem it_range {lo : Int} {n : Nat} : ItOk K ct (Itr lo n) A M H (rangeP lo n) := fun A' M' H' l hx => by
  have hl : (rangeP lo n).length = n := by simp [rangeP]
  rw [hl]
  refine ⟨fun i hi => hi, Nat.le_refl _, fun i x H'' hi y => ?_⟩
  obtain ⟨e, y⟩ := y
  subst e
  subst y
  exact ⟨Same.refl _, .int (lo + (i : Int)), by simp [rangeP, hi], Rep.int_iff.mpr rfl⟩
theorem it_rangeD {lo : Int} {n : Nat} : ItOk K ct (Itc lo (-1) n) A M H (rangeD lo n) := fun A' M' H' l hx => by
  have hl : (rangeD lo n).length = n := by simp [rangeD]
  rw [hl]
  refine ⟨fun i hi => hi, Nat.le_refl _, fun i x H'' hi y => ?_⟩
  obtain ⟨e, y⟩ := y
  subst e
  subst y
  refine ⟨Same.refl _, .int (lo - (i : Int)), by simp [rangeD, hi], Rep.int_iff.mpr ?_⟩
  congr 1
  omega
end
section
variable {ct : Ct} {X : Cx} {tg l a : Expr} {es : List Expr} {f : FE} {fa : FA} {pos p : Pos}
theorem ji_seq (h : JE ct X l f) : JI ct X tg l (iSeq f) := by
  refine ⟨((pi_list h.pe).or (pi_tup h.pe)).imp fun σ H R q => ?_⟩
  obtain ⟨G, env, S, v, S', g, h1, q⟩ := q
  obtain ⟨⟨x, S1⟩, e1, h1⟩ := Res.bind_ok h1
  cases x with
  | lst xs =>
    cases h1
    refine .inl ⟨G, env, S, _, _, g, e1, fun y H1 A1 p1 s1 r1 => ?_⟩
    obtain ⟨b, vs, e2, h3, h4⟩ := r1.lst_inv
    exact ⟨b, e2, ⟨vs, h3.sqL⟩, q _ H1 A1 p1 s1 (it_list h3 h4)⟩
  | tup xs =>
    cases h1
    refine .inr ⟨G, env, S, _, _, g, e1, fun y H1 A1 p1 s1 r1 => ?_⟩
    obtain ⟨b, vs, e2, h3, h4⟩ := r1.tup_inv
    exact ⟨b, e2, ⟨vs, h3.sqT⟩, q _ H1 A1 p1 s1 (it_tup h3 h4)⟩
  | scr ns =>
    cases h1
    refine .inl ⟨G, env, S, _, _, g, e1, fun y H1 A1 p1 s1 r1 => ?_⟩
    obtain ⟨b, e2, h2, h3⟩ := r1.scr_inv
    exact ⟨b, e2, ⟨_, h2⟩, q _ H1 A1 p1 s1 (it_scr h3)⟩
  | _ => cases h1
theorem bdI_ok {i : Int} (h : bdI i = true) : -(2 ^ 62) ≤ i ∧ i < 2 ^ 62 := by
  unfold bdI at h
  rw [Bool.and_eq_true, decide_eq_true_eq, decide_eq_true_eq] at h
  exact h
theorem ji_range1 (hm : X.mg "range" = none) (h : JA ct X [a] fa) (hg : Gl X "range" := by rfl) (hs : starEach [a] X.env = [(false, eval a X.env)] := by rfl) : JI ct X tg (.Call (.Name "range" p) [a] [] pos) (iR1 fa) := by
  refine ⟨(pi_range1 hg hm h.pa hs).imp fun σ H R q => ?_⟩
  obtain ⟨G, env, S, v, S', g, h1, q⟩ := q
  obtain ⟨⟨x, S1⟩, e1, h1⟩ := Res.bind_ok h1
  refine ⟨G, env, S, x, S1, g, e1, fun vs H1 A1 p1 s1 r1 => ?_⟩
  dsimp only at h1
  split at h1
  · rename_i j
    split at h1
    · rename_i hb
      cases h1
      obtain ⟨b1, b2⟩ := bdI_ok hb
      obtain ⟨v, rfl, rv⟩ := r1.one
      exact ⟨j, by rw [Rep.int_iff.mp rv], b1, b2, q _ H1 A1 p1 s1 it_range⟩
    · cases h1
  · cases h1
theorem ji_range2 {b : Expr} (hm : X.mg "range" = none) (h : JA ct X [a, b] fa) (hg : Gl X "range" := by rfl) (hs : starEach [a, b] X.env = [(false, eval a X.env), (false, eval b X.env)] := by rfl) (hs2 : starEach [b] X.env = [(false, eval b X.env)] := by rfl) : JI ct X tg (.Call (.Name "range" p) [a, b] [] pos) (iR2 fa) := by
  refine ⟨(pi_range2 hg hm h.pa hs hs2).imp fun σ H R q => ?_⟩
  obtain ⟨G, env, S, v, S', g, h1, q⟩ := q
  obtain ⟨⟨x, S1⟩, e1, h1⟩ := Res.bind_ok h1
  refine ⟨G, env, S, x, S1, g, e1, fun vs H1 A1 p1 s1 r1 => ?_⟩
  dsimp only at h1
  split at h1
  · rename_i i j
    split at h1
    · rename_i hb
      cases h1
      rw [Bool.and_eq_true] at hb
      obtain ⟨b1, b2⟩ := bdI_ok hb.1
      obtain ⟨b3, b4⟩ := bdI_ok hb.2
      obtain ⟨v, w, rfl, rv, rw'⟩ := r1.two
      exact ⟨i, j, by rw [Rep.int_iff.mp rv, Rep.int_iff.mp rw'], ⟨b1, b2, b3, b4⟩, q _ H1 A1 p1 s1 it_range⟩
    · cases h1
  · cases h1
theorem ji_range3 {b c : Expr} (hm : X.mg "range" = none) (h : JA ct X [a, b, c] fa) (hg : Gl X "range" := by rfl) (hs : starEach [a, b, c] X.env = (false, eval a X.env) :: starEach [b, c] X.env := by rfl) (hpl : (backTo pos (starEach [b, c] X.env)).any (·.1) = false := by rfl) : JI ct X tg (.Call (.Name "range" p) [a, b, c] [] pos) (iR3 fa) := by
  refine ⟨(pi_range3 hg hm h.pa hs hpl).imp fun σ H R q => ?_⟩
  obtain ⟨G, env, S, v, S', g, h1, q⟩ := q
  obtain ⟨⟨x, S1⟩, e1, h1⟩ := Res.bind_ok h1
  refine ⟨G, env, S, x, S1, g, e1, fun vs H1 A1 p1 s1 r1 => ?_⟩
  dsimp only at h1
  split at h1
  · rename_i i j c
    split at h1
    · rename_i hb
      cases h1
      obtain ⟨hc, hb1, hb2⟩ := hb
      subst hc
      obtain ⟨b1, b2⟩ := bdI_ok hb1
      obtain ⟨b3, b4⟩ := bdI_ok hb2
      obtain ⟨v, w, z, rfl, rv, rw', rz⟩ := r1.three
      exact ⟨i, j, -1, (i - j).toNat, by rw [Rep.int_iff.mp rv, Rep.int_iff.mp rw', Rep.int_iff.mp rz], RgC.neg b1 b2 b3 b4, q _ H1 A1 p1 s1 it_rangeD⟩
    · cases h1
  · cases h1
theorem ji_enum {elts : List Expr} {kk : Nat} {tpos : Pos} (hm : X.mg "enumerate" = none) (h : JA ct X [a] fa) (hg : Gl X "enumerate" := by rfl) (hs : starEach [a] X.env = [(false, eval a X.env)] := by rfl) : JI ct X (.Tuple elts kk tpos) (.Call (.Name "enumerate" p) [a] [] pos) (iEn fa) := by
  refine ⟨((pi_enum hg hm h.pa hs).or (pi_enumT hg hm h.pa hs)).imp fun σ H R q => ?_⟩
  obtain ⟨G, env, S, v, S', g, h1, q⟩ := q
  obtain ⟨⟨x, S1⟩, e1, h1⟩ := Res.bind_ok h1
  dsimp only at h1
  split at h1
  · cases h1
    refine .inl ⟨G, env, S, _, _, g, e1, fun y H1 A1 p1 s1 r1 => ?_⟩
    obtain ⟨z, rfl, r2⟩ := r1.one
    obtain ⟨b, vs, rfl, h3, h4⟩ := r2.lst_inv
    exact ⟨b, vs, rfl, h3.sqL, q _ H1 A1 p1 s1 (it_enumL h3 h4)⟩
  · cases h1
    refine .inr ⟨G, env, S, _, _, g, e1, fun y H1 A1 p1 s1 r1 => ?_⟩
    obtain ⟨z, rfl, r2⟩ := r1.one
    obtain ⟨b, vs, rfl, h3, h4⟩ := r2.tup_inv
    exact ⟨b, vs, rfl, h3.sqT, q _ H1 A1 p1 s1 (it_enumT h3 h4)⟩
  · cases h1
end

/-! ### comprehensions -/
def wipeE (env : Env) : List Nat → Env
  | [] => env
  | v :: vs => (wipeE env vs).set v .un
theorem Good.wipe {K : PySem.W.Frag} {ct : Ct} {G : Gh} {σ : St} {H : Hp} {env : Env} {S : Sto} (g : Good K ct G σ H env S) : ∀ vs : List Nat, Good K ct G (wipe σ vs) H (wipeE env vs) S
  | [] => g
  | v :: vs => (g.wipe vs).setUn
def lcL (g : GN) (t : FT) (e : FE) : List PV → Env → Sto → Res (List PV × Sto)
  | [], _, S => .ok ([], S)
  | x :: r, env, S => (ofO (g x env)).bind fun en => (t en S).bind fun b => if b.1 then (e en b.2).bind fun y => (lcL g t e r env y.2).bind fun z => .ok (y.1 :: z.1, z.2) else lcL g t e r env b.2
def eLc (vs : List Nat) (it : FA) (g : GN) (t : FT) (e : FE) : FE := fun env S => (it env S).bind fun xs => if xs.1.length ≤ 1000000 then (lcL g t e xs.1 (wipeE env vs) xs.2).bind fun ys => .ok (.lst ys.1, ys.2) else .err
def tT : FT := fun _ S => .ok (true, S)
structure JTs (ct : Ct) (X : Cx) (ifs : List Expr) (t : FT) : Prop where
  pts : PTs X ifs (rdT X.K ct t)
theorem _root_.L2.PTs.imp {X : Cx} {e : List Expr} {t t' : TT} (h : PTs X e t) (i : ∀ σ H Q, t' σ H Q → t σ H Q) : PTs X e t' := ⟨fun pins s σ H Q I q => h.run pins s σ H Q I (i σ H Q q)⟩
theorem jts_nil {ct : Ct} {X : Cx} : JTs ct X [] tT := ⟨pts_nil.imp fun σ H Q h => by
  obtain ⟨G, env, S, v, S', g, h1, q⟩ := h
  cases h1
  exact q H G.A (Post.refl H g.bs.nodup) g.bs.sto⟩
theorem jts_one {ct : Ct} {X : Cx} {c : Expr} {t : FT} (h : JT ct X c t) : JTs ct X [c] t := ⟨pts_one h.pt⟩
theorem lcL_len {g : GN} {t : FT} {e : FE} : ∀ {xs : List PV} {env : Env} {S : Sto} {ys : List PV} {S' : Sto}, lcL g t e xs env S = .ok (ys, S') → ys.length ≤ xs.length
  | [], env, S, ys, S', h => by cases h; exact Nat.le_refl _
  | x :: r, env, S, ys, S', h => by
    obtain ⟨en, e1, h⟩ := Res.bind_ok h
    obtain ⟨⟨b, S1⟩, e2, h⟩ := Res.bind_ok h
    cases b with
    | true =>
      obtain ⟨⟨y, S2⟩, e3, h⟩ := Res.bind_ok h
      obtain ⟨⟨z, S3⟩, e4, h⟩ := Res.bind_ok h
      cases h
      have := lcL_len e4
      simp only [List.length_cons]
      omega
    | false =>
      have := lcL_len (xs := r) h
      simp only [List.length_cons]
      omega
theorem wipe_same {σ σ' : St} {ws vs : List Nat} (h1 : ∀ j, j ∉ ws → σ'[j]? = (wipe σ vs)[j]?) (h2 : σ'.length = (wipe σ vs).length) (hs : ∀ j ∈ ws, j ∈ vs) : wipe σ' vs = wipe σ vs := by
  refine List.ext_getElem? fun (j : Nat) => ?_
  have key : ∀ (τ : St) (us : List Nat), (wipe τ us)[j]? = if j ∈ us then (if j < τ.length then some none else none) else τ[j]? := by
    intro τ us
    induction us with
    | nil => simp [wipe]
    | cons u us ih =>
      unfold wipe
      rw [List.getElem?_set]
      by_cases e : u = j
      · subst e; simp [wipe_length]
      · have e' : ¬ j = u := fun z => e z.symm
        rw [if_neg e, ih]
        simp [e']
  rw [key, key]
  by_cases hj : j ∈ vs
  · rw [if_pos hj, if_pos hj, h2, wipe_length]
  · rw [if_neg hj, if_neg hj, h1 j (fun z => hj (hs j z)), key, if_neg hj]
theorem rdF_lc {K : PySem.W.Frag} {ct : Ct} {vs ws : List Nat} {it : FA} {g : GN} {t : FT} {e : FE} (hw : ∀ j ∈ ws, j ∈ vs) {σ : St} {H : Hp} {Q : VK} (h : rdF K ct (eLc vs it g t e) σ H Q) :
    tLc (rdI K ct it) (rdN K ct ws g) (rdT K ct t) (rd K ct e) vs σ H Q := by
  obtain ⟨G, env, S, v, S', gd, h1, q⟩ := h
  obtain ⟨⟨xs, S1⟩, e1, h1⟩ := Res.bind_ok h1
  dsimp only at h1
  split at h1
  · rename_i hsz
    obtain ⟨⟨ys, S2⟩, e2, h1⟩ := Res.bind_ok h1
    cases h1
    refine ⟨G, env, S, xs, S1, gd, e1, fun J H1 A1 p1 s1 io D nD => ?_⟩
    have g1 := gd.post p1 s1
    have smD : Same H1 (upd H1 D (.lst [])) := same_new nD
    have nDH : H D = none := by
      cases eD : H D with
      | none => rfl
      | some o =>
        by_cases ha : D ∈ G.A
        · exact absurd nD (g1.inA D (p1.pre.subset ha))
        · rw [p1.ext D o eD ha] at nD; cases nD
    refine ⟨fun i m Hc => m = xs.length - i ∧ i ≤ xs.length ∧ ∃ A' S' acc accV zs, Good K ct { G with A := A', M := D :: G.M } (wipe σ vs) Hc (wipeE env vs) S' ∧ Lat A1 G.M H1 A' (D :: G.M) Hc ∧ Post G.A H A' Hc ∧ Hc D = some (.lst accV) ∧
      RepL K ct Hc A' (D :: G.M) acc accV ∧ lcL g t e (xs.drop i) (wipeE env vs) S' = .ok (zs, S2) ∧ ys = acc ++ zs, ⟨xs.length, by simp, Nat.zero_le _, A1, S1, [], [], ys, (g1.hide nD smD (by rw [upd_same]; simp) (by rw [upd_same]; simp)).wipe vs, lat_hide nD smD, p1.trans (Post.grow g1.bs.nodup smD), upd_same, .nil, by simpa using e2, rfl⟩, ?_⟩
    rintro i m Hc ⟨rfl, hi, Ac, Sc, acc, accV, zs, gc, lc, pc, hD, rD, ec, ey⟩
    obtain ⟨go, stop, yl⟩ := io Ac (D :: G.M) Hc lc gc.hx
    by_cases hlt : i < xs.length
    · refine .inr ⟨go i hlt, fun Hn => i + 1 ≤ xs.length ∧ ∃ A' S' acc accV zs, Good K ct { G with A := A', M := D :: G.M } (wipe σ vs) Hn (wipeE env vs) S' ∧ Lat A1 G.M H1 A' (D :: G.M) Hn ∧ Post G.A H A' Hn ∧ Hn D = some (.lst accV) ∧
        RepL K ct Hn A' (D :: G.M) acc accV ∧ lcL g t e (xs.drop (i + 1)) (wipeE env vs) S' = .ok (zs, S2) ∧ ys = acc ++ zs, fun Hn qn => ⟨xs.length - (i + 1), by omega, rfl, qn⟩, fun x H3 hy => ?_⟩
      obtain ⟨sm, v, hv, rv⟩ := yl i x H3 hlt hy
      rw [drop_cons hv] at ec
      obtain ⟨en, e3, ec⟩ := Res.bind_ok ec
      obtain ⟨⟨b, S4⟩, e4, ec⟩ := Res.bind_ok ec
      have g3 := gc.grow sm
      have pp3 : Post Ac Hc Ac H3 := Post.grow gc.bs.nodup sm
      refine ⟨_, _, Sc, v, en, g3, rv, ofO_ok e3, fun σ4 k1 k2 g4 => ⟨wipe_same k1 k2 hw, _, en, Sc, b, S4, g4, e4, fun H5 A5 p5 s5 => ?_⟩⟩
      have l5 : Lat A1 G.M H1 A5 (D :: G.M) H5 := lc.trans ((pp3.trans p5).lat _)
      have q5 : Post G.A H A5 H5 := pc.trans (pp3.trans p5)
      have nDA : D ∉ Ac := gc.bs.disj D List.mem_cons_self
      have hD5 : H5 D = some (.lst accV) := p5.ext D _ (sm D _ hD) nDA
      have r5 := rD.lat ((pp3.trans p5).lat (D :: G.M)) acc accV
      have g5w : Good K ct { G with A := A5, M := D :: G.M } (wipe σ vs) H5 (wipeE env vs) S4 := g3.post p5 s5
      cases b with
      | true =>
        dsimp only at ec ⊢
        rw [if_pos rfl] at ec ⊢
        obtain ⟨⟨y, S6⟩, e6, ec⟩ := Res.bind_ok ec
        obtain ⟨⟨z, S7⟩, e7, ec⟩ := Res.bind_ok ec
        cases ec
        refine ⟨_, en, S4, y, S6, g4.post p5 s5, e6, fun yv H8 A8 p8 s8 r8 => ?_⟩
        have g8w := g5w.post p8 s8
        have nDA5 : D ∉ A5 := g5w.bs.disj D List.mem_cons_self
        have hD8 : H8 D = some (.lst accV) := p8.ext D _ hD5 nDA5
        have r9 := r5.lat (p8.lat (D :: G.M)) acc accV
        refine ⟨accV, hD8, ?_, hlt, ?_⟩
        · have l1 := lcL_len e7
          have l2 := lcL_len e2
          have l3 := congrArg List.length ey
          rw [rD.length]
          simp only [List.length_append, List.length_cons] at l3
          exact Nat.lt_of_lt_of_le (show acc.length < 1000001 by omega) (by decide)
        · have hm : D ∈ D :: G.M := List.mem_cons_self
          have lu : Lat A8 (D :: G.M) H8 A8 (D :: G.M) (upd H8 D (.lst (accV ++ [yv]))) := lat_upd (.inr hm)
          have nDA8 : D ∉ A8 := g8w.bs.disj D hm
          refine ⟨A8, S6, acc ++ [y], accV ++ [yv], z, ?_, (l5.trans (p8.lat _)).trans lu, ?_, upd_same, (r9.append (.cons r8 .nil)).lat lu _ _, e7, by rw [ey]; simp⟩
          · refine ⟨⟨⟨g8w.bs.sto.len, fun n a us k1 k2 => ?_⟩, g8w.bs.nodup, fun a ha => ?_, g8w.bs.disj, fun a ha vs ev => ?_⟩, fun j sl hs => ?_, g8w.uniq, fun a o k1 k2 => ?_, g8w.pre0, g8w.new0, g8w.sub0, g8w.in0, g8w.len⟩
            · obtain ⟨ws', k3, k4⟩ := g8w.bs.sto.at' n a us k1 k2
              exact ⟨ws', by rw [upd_ne (fun zz => nDA8 (by rw [← zz]; exact List.mem_of_getElem? k1))]; exact k3, k4.lat lu us ws'⟩
            · by_cases hap : a = D
              · subst hap; rw [upd_same]; simp
              · rw [upd_ne hap]; exact g8w.bs.inM a ha
            · by_cases hap : a = D
              · subst hap; rw [upd_same] at ev; cases ev
              · rw [upd_ne hap] at ev; exact g8w.bs.noT a ha vs ev
            · have qs := g8w.slot j sl hs
              cases sl with
              | un => trivial
              | val w => obtain ⟨u, k1, k2⟩ := qs; exact ⟨u, k1, k2.lat lu w u⟩
              | own w =>
                obtain ⟨p', k1, k2, k3, k4⟩ := qs
                have hne : p' ≠ D := fun zz => by
                  subst zz
                  obtain ⟨p'', k5, k6, k7, k8⟩ := ((gd.wipe vs).slot j _ hs)
                  have : (wipe σ vs)[j]? = some (some (.ref p')) := k1
                  rw [this] at k5; cases k5
                  exact gd.bs.inM p' k6 nDH
                exact ⟨p', k1, k2, k3, k4.lat lu (by rw [upd_ne hne])⟩
            · have hne : a ≠ D := fun zz => by
                subst zz
                rw [gd.fresh0 nDH] at k1; cases k1
              rw [upd_ne hne]; exact g8w.ext0 a o k1 k2
          · have q8 : Post G.A H A8 H8 := q5.trans p8
            exact ⟨q8.pre, fun a o k1 k2 => by
              rw [upd_ne (fun zz => by subst zz; rw [nDH] at k1; cases k1)]; exact q8.ext a o k1 k2, q8.new, q8.nodup⟩
      | false =>
        dsimp only at ec ⊢
        rw [if_neg Bool.false_ne_true] at ec ⊢
        exact ⟨hlt, A5, S4, acc, accV, zs, g5w, l5, q5, hD5, r5, ec, ey⟩
    · have hn : i = xs.length := by omega
      subst hn
      rw [List.drop_length] at ec
      cases ec
      rw [List.append_nil] at ey
      subst ey
      refine .inl ⟨stop, q D Hc Ac pc nDH (gc.bs.disj D List.mem_cons_self) gc.bs.sto ⟨accV, hD, rD⟩⟩
  · cases h1
section
variable {ct : Ct} {X : Cx} {tg iter elt : Expr} {ifs : List Expr} {it : FA} {g : GN} {ws : List Nat} {t : FT} {fe : FE} {pos : Pos} {scope : Scope} {own : List (Str × Nat)}
theorem jf_lc (own : List (Str × Nat)) (hN : X.N.Nodup) (hi : JI ct X tg iter it) (ok : BlkOk X.N X.env.scope scope own)
    (hg : ∀ (s : Shared) (H : Hp) (C : Addr) (cl : List (Str × Addr)) (fp : List Addr), JN ct (X.blk s H scope (compEnvC scope cl C X.env) fp) tg ws g)
    (ht : ∀ (s : Shared) (H : Hp) (C : Addr) (cl : List (Str × Addr)) (fp : List Addr), JTs ct (X.blk s H scope (compEnvC scope cl C X.env) fp) ifs t)
    (he : ∀ (s : Shared) (H : Hp) (C : Addr) (cl : List (Str × Addr)) (fp : List Addr), JE ct (X.blk s H scope (compEnvC scope cl C X.env) fp) elt fe) (hc : X.calm = true := by rfl) (hw : ∀ j ∈ ws, j ∈ own.map (·.2) := by decide) (hs : ∀ x, foldedSetIterable iter X.env x = pure x := by intro _; rfl) :
    JF ct X (.ListComp elt [⟨tg, iter, ifs, 0⟩] scope pos) (eLc (own.map (·.2)) it g t fe) :=
  ⟨(pe_lc hc hN hi.pi ok (fun s H C cl fp => (hg s H C cl fp).pg) (fun s H C cl fp => (ht s H C cl fp).pts) (fun s H C cl fp => (he s H C cl fp).pe) hs).imp fun _ _ _ h => rdF_lc hw h⟩
theorem js_ownLc (i : Nat) (own : List (Str × Nat)) {y : Str} {py spos : Pos} (hN : X.N.Nodup) (hi : JI ct X tg iter it) (ok : BlkOk X.N X.env.scope scope own)
    (hg : ∀ (s : Shared) (H : Hp) (C : Addr) (cl : List (Str × Addr)) (fp : List Addr), JN ct (X.blk s H scope (compEnvC scope cl C X.env) fp) tg ws g)
    (ht : ∀ (s : Shared) (H : Hp) (C : Addr) (cl : List (Str × Addr)) (fp : List Addr), JTs ct (X.blk s H scope (compEnvC scope cl C X.env) fp) ifs t)
    (he : ∀ (s : Shared) (H : Hp) (C : Addr) (cl : List (Str × Addr)) (fp : List Addr), JE ct (X.blk s H scope (compEnvC scope cl C X.env) fp) elt fe) (hc : X.calm = true := by rfl) (hy : X.N[i]? = some y := by rfl) (hyl : X.env.scope.names.lookup y = some .local := by rfl)
    (hsw : swapsWith (.ListComp elt [⟨tg, iter, ifs, 0⟩] scope pos) (some (.Name y py)) spos.line X.env = pure true := by exact sw_true rfl rfl rfl (by decide +kernel)) (hw : ∀ j ∈ ws, j ∈ own.map (·.2) := by decide) (hs : ∀ x, foldedSetIterable iter X.env x = pure x := by intro _; rfl) :
    JS ct X (.Assign [.Name y py] (.ListComp elt [⟨tg, iter, ifs, 0⟩] scope pos) spos) (sOwn i (eLc (own.map (·.2)) it g t fe)) :=
  ⟨(ps_setLc hc hN hy hyl hsw hi.pi ok (fun s H C cl fp => (hg s H C cl fp).pg) (fun s H C cl fp => (ht s H C cl fp).pts) (fun s H C cl fp => (he s H C cl fp).pe) hs).imp fun D σ H h => rdF_lc hw (asg_own h)⟩
end
end J
set_option Elab.async false
set_option linter.all false
set_option maxRecDepth 100000
/-! J: defs and their calls. -/
namespace J
open L2 PySem PySem.Spec PyProof.Rows

structure FnG (P : Program) (w : World) (K : PySem.W.Frag) (mg : Str → Option Value) (base : Heap) (k : Nat) (f : Addr) (fd : FuncData) (ps : List Str) (sp : Sp) : Prop where
  len : ∀ (vs : List V) (H : Hp) Q E, sp vs H Q E → vs.length = ps.length
  run : ∀ (A : Around) (outer : List PySem.Env) (s : Shared) (H : Hp) (args : Args) (us : List Value) (vs : List V) (Q : VK) (E : XK), Room k A → A.guards = some [] → Env0 P w K mg base A outer s H →
    BindsTo s fd args (ps.zip us) → Vals vs us → sp vs H Q E → codeAny (model P w) A (.call (.ref f) args) (CR CX0 outer P w H s Q E) s
theorem FnG.mono {P : Program} {w : World} {K : PySem.W.Frag} {mg : Str → Option Value} {base : Heap} {j k : Nat} {f : Addr} {fd : FuncData} {ps : List Str} {sp : Sp} (F : FnG P w K mg base j f fd ps sp) (h : j ≤ k) : FnG P w K mg base k f fd ps sp :=
  ⟨F.len, fun A outer s H args us vs Q E hr => F.run A outer s H args us vs Q E (hr.mono h)⟩
/-- the pure promise -/
def spM (K : PySem.W.Frag) (ct : Ct) (n : Nat) (f : List PV → Sto → Res (PV × Sto)) : Sp := fun vs H Q _ => vs.length = n ∧ ∃ A M args S v S', Bs K ct A M H S ∧ RepL K ct H A M args vs ∧ f args S = .ok (v, S') ∧
  ∀ x H' A', Post A H A' H' → StoOk K ct H' A' M S' → Rep K ct H' A' M v x → Q x H'
def env0 (n : Nat) (args : List PV) : Env := args.map Slot.val ++ List.replicate (n - args.length) Slot.un
def runF (n : Nat) (F : FS) (args : List PV) (S : Sto) : Res (PV × Sto) := match F (env0 n args) S with
  | .ok (.rt v S') => .ok (v, S')
  | .ok (.nx _ S') => .ok (.non, S')
  | _ => .err
section
variable {P : Program} {w : World} {K : PySem.W.Frag} {mg : Str → Option Value} {base : Heap} {ct : Ct}
theorem good_start {A M : List Addr} {H : Hp} {S : Sto} {args : List PV} {vs : List V} {N : List Str} (b : Bs K ct A M H S) (r : RepL K ct H A M args vs) : Good K ct ⟨H, A, M, A, M⟩ (L2.start N vs) H (env0 N.length args) S where
  bs := b
  slot := fun i s hs => by
    unfold env0 at hs
    by_cases hi : i < args.length
    · rw [List.getElem?_append_left (by simpa using hi), List.getElem?_map, List.getElem?_eq_getElem hi] at hs
      cases hs
      obtain ⟨v, hv, rv⟩ := r.get (List.getElem?_eq_getElem hi)
      refine ⟨v, ?_, rv⟩
      unfold L2.start
      rw [List.getElem?_append_left (by rw [List.length_map, r.length]; exact hi), List.getElem?_map, hv]
      rfl
    · rw [List.getElem?_append_right (by simpa using hi), List.getElem?_replicate] at hs
      split at hs
      · cases hs; trivial
      · cases hs
  uniq := fun i j v w' p h1 h2 h3 h4 => by
    exfalso
    have hm : Slot.own v ∈ env0 N.length args := List.mem_of_getElem? h1
    unfold env0 at hm
    rcases List.mem_append.mp (show _ ∈ _ ++ _ from hm) with q | q
    · obtain ⟨x, _, e⟩ := List.mem_map.mp q
      cases e
    · rw [(List.mem_replicate.mp q).2] at h1
      have := (List.mem_replicate.mp q).2
      cases this
  ext0 := fun _ _ h _ => h
  pre0 := List.prefix_refl _
  new0 := fun _ h => .inl h
  sub0 := fun _ h => h
  in0 := b.inM
  len := by
    unfold env0 L2.start
    rw [List.length_append, List.length_append, List.length_map, List.length_map, List.length_replicate, List.length_replicate, r.length]
/-- a def of the text, where it stands -/
def Def1 (K : PySem.W.Frag) (mg : Str → Option Value) (x : Str) (st : Stmt) : Prop := ∃ f fd, FunD K x x (defArgs st) (defBody st) (defScope st) [] [] f fd ∧ mg x = some (.ref f)
def DefOk (ct : Ct) (P : Program) (w : World) (K : PySem.W.Frag) (mg : Str → Option Value) (base : Heap) (x : Str) (st : Stmt) (k : Nat) (ps : List Str) (f : List PV → Sto → Res (PV × Sto)) : Prop :=
  ∃ fa fd, FunD K x x (defArgs st) (defBody st) (defScope st) [] [] fa fd ∧ mg x = some (.ref fa) ∧ FnG P w K mg base k fa fd ps (spM K ct ps.length f)
theorem DefOk.mono {x : Str} {st : Stmt} {j k : Nat} {ps : List Str} {f : List PV → Sto → Res (PV × Sto)} (D : DefOk ct P w K mg base x st j ps f) (h : j ≤ k) : DefOk ct P w K mg base x st k ps f := by
  obtain ⟨fa, fd, F, g, G⟩ := D
  exact ⟨fa, fd, F, g, G.mono h⟩
/-- the same values by another function -/
theorem DefOk.sub {x : Str} {st : Stmt} {k : Nat} {ps : List Str} {f f' : List PV → Sto → Res (PV × Sto)} (D : DefOk ct P w K mg base x st k ps f) (h : ∀ args S v, f' args S = .ok v → f args S = .ok v) : DefOk ct P w K mg base x st k ps f' := by
  obtain ⟨fa, fd, F, g, G⟩ := D
  refine ⟨fa, fd, F, g, ⟨fun vs H Q E q => q.1, fun A outer s H args us vs Q E hr hg e0 hb hv hs => G.run A outer s H args us vs Q E hr hg e0 hb hv ?_⟩⟩
  obtain ⟨l, A1, M1, as, S, v, S', b, r, e, q⟩ := hs
  exact ⟨l, A1, M1, as, S, v, S', b, r, h _ _ _ e, q⟩
theorem def_ok {x : Str} {st : Stmt} {N ps : List Str} {k : Nat} {F : FS} (D : Def1 K mg x st) (S : FnScope N ps (defScope st))
    (body : ∀ (f : Addr) (cdv : Value) (A : Around) (outer : List PySem.Env) (s : Shared) (H : Hp) (E : XK), Room k (A.deeper (envOfC x (defScope st) s.heap.objs.size f cdv)) → A.guards = some [] →
      JSs ct (cxOf CX0 P w K mg base N x (defScope st) f cdv A outer s H E).nox (defBody st) F) : DefOk ct P w K mg base x st (k + 1) ps (runF N.length F) := by
  obtain ⟨f, fd, FD, g⟩ := D
  refine ⟨f, fd, FD, g, ⟨fun vs H Q E qZ => qZ.1, ?_⟩⟩
  obtain ⟨oc, od, dV, kV, doc, pm, an, cdv, ctv, osl, rfl, lk, hcd, hD, hK⟩ := FD.ex
  intro A outer s H args us vs Q E hr hg e0 hb r hsp
  have hl : vs.length = ps.length := hsp.1
  have KXZ : K.In s.heap := e0.mod.kin.keeps fun b o e => (e0.bs b o e).1
  have limZ : s.heap.NoLimit := e0.mod.nolimit.keeps fun b o e => (e0.bs b o e).1
  refine codeAny_call_function hr.depth (KXZ _ _ lk) rfl S.co S.gen rfl (PySem.W.codeRec_of KXZ hcd) (hb _ _ _ _ ?_)
  refine wpAny_newFunctionEnv_cells S.kind (fun y hy => ?_) fun env he s1 x1 => ?_
  · rcases S.par y.1 (List.of_mem_zip (show (y.1, y.2) ∈ ps.zip us from hy)).1 with qZ | qZ
    · exact .inl qZ
    · exact .inr ⟨qZ, PySem.W.cellsFrom_some _ _ _ (.inl qZ)⟩
  subst he
  refine ⟨limZ.keeps x1.toInCall.keep, codeAny_func ?_⟩
  obtain ⟨_, A1, M1, as, S1, v, S', b, ra, e, qZ⟩ := hsp
  have ht := (body f cdv A outer s H E (hr.deeper _) hg).ps.nox
  have I : Inv (cxOf CX0 P w K mg base N x (defScope st) f cdv A outer s H E) [] (L2.start N vs) H s1 := inv_start S hr.hd e0 hl r x1
  have gs : Good K ct ⟨H, A1, M1, A1, M1⟩ (L2.start N vs) H (env0 N.length as) S1 := good_start b ra
  have rd : rdS K ct F { nx := fun _ H' => Q .non H', rt := Q } (L2.start N vs) H := by
    unfold runF at e
    split at e
    · rename_i v1 S2 hF
      cases e
      exact ⟨_, _, S1, _, gs, hF, fun y H' A' p1 s1 r1 => qZ y H' A' p1 s1 r1⟩
    · rename_i en S2 hF
      cases e
      refine ⟨_, _, S1, _, gs, hF, fun σ' H' A' M' l g' => ?_⟩
      exact qZ .non H' A' g'.post0 (g'.bs.sto.less g'.sub0) (Rep.non_iff.mpr rfl)
    · cases e
  refine wpAny_mono (ht.run [] s1 (L2.start N vs) H _ I rd) (fun fl s' hs => ?_) fun e s' hs => hs
  have fin : ∀ {σ' : L2.St} {H' : Hp} {v : V} {u : Value}, Inv (cxOf CX0 P w K mg base N x (defScope st) f cdv A outer s H E) [] σ' H' s' → RelV v u → Q v H' → CE outer P w H s Q u s' := fun {σ' H' v u} J' rv qZ => ⟨v, H', J'.os, J'.bare, J'.base, J'.hok, rv, qZ⟩
  cases fl with
  | ret u => obtain ⟨v, σ', H', J', rv, qZ⟩ := hs; exact fin J' rv qZ
  | next => obtain ⟨σ', H', J', qZ⟩ := hs; exact fin (v := V.non) (u := Value.none) J' rfl qZ
  | brk => obtain ⟨_, _, _, qZ⟩ := hs; exact False.elim qZ
  | cont => obtain ⟨_, _, _, qZ⟩ := hs; exact False.elim qZ
end
section
variable {X : Cx} {k : Nat} {f : Addr} {fd : FuncData} {ps : List Str} {sp : Sp}
theorem run_fnG {pins : List (Addr × Obj)} {σ : L2.St} {H : Hp} {s : Shared} {Q : VK} {us : List Value} {kw : List (Str × Value)} {uz : List Value} {vs : List V} (F : FnG X.prog X.w X.K X.mg X.base k f fd ps sp) (hr : Room k X.A) (hG : X.A.guards = some [])
    (hb : BindsTo s fd ⟨us, kw⟩ (ps.zip uz)) (I : Inv X pins σ H s) (r : Vals vs uz) (h : sp vs H Q E0) : wpAny (model X.prog X.w) X.A (call (.ref f) us kw) (EP X pins σ Q) X.xe s := by
  refine wpAny_call (codeAny_mono (F.run X.A X.stack s H ⟨us, kw⟩ uz vs Q E0 hr hG I.env0 hb r h) fun r s' hqZ => ?_)
  cases r with
  | error e => exact False.elim hqZ
  | ok fl =>
    cases fl with
    | ret u => exact I.after hqZ
    | next => exact False.elim hqZ
    | brk => exact False.elim hqZ
    | cont => exact False.elim hqZ
end
/-- how a call's arguments bind: us by place, then the rest by name, in the parameters' order -/
def KwB (x : Str) (st : Stmt) (ps : List Str) (n : Nat) : Prop := ∀ (kV doc pm : Value) (an : Option Addr) (cdv ct : Value) (us ws : List Value), us.length = n → us.length + ws.length = ps.length →
  bindArgs (PySem.W.fnOf x x (defArgs st) (defBody st) (defScope st) .none kV doc pm an cdv ct) ⟨us, (ps.drop n).zip ws⟩ = pure (ps.zip (us ++ ws))
def PosB (x : Str) (st : Stmt) (ps : List Str) : Prop := ∀ (kV doc pm : Value) (an : Option Addr) (cdv ct : Value) (us : List Value), us.length = ps.length →
  bindArgs (PySem.W.fnOf x x (defArgs st) (defBody st) (defScope st) .none kV doc pm an cdv ct) ⟨us, []⟩ = pure (ps.zip us)
def eCallK (f : List PV → Sto → Res (PV × Sto)) (a b : FA) : FE := fun env S => (a env S).bind fun x => (b env x.2).bind fun y => f (x.1 ++ y.1) y.2
section
variable {ct : Ct} {X : Cx} {k : Nat} {ps : List Str} {f : List PV → Sto → Res (PV × Sto)} {x : Str} {st : Stmt} {e : Expr} {es : List Expr} {fa fk : FA} {pos p : Pos}
theorem call_of {K : PySem.W.Frag} {n : Nat} {G : Gh} {σ : L2.St} {env : Env} {H H1 : Hp} {S S1 S' : Sto} {A1 : List Addr} {xs : List PV} {vs : List V} {v : PV} {Q : VK} (gd : Good K ct G σ H env S) (p1 : Post G.A H A1 H1) (s1 : StoOk K ct H1 A1 G.M S1) (r1 : RepL K ct H1 A1 G.M xs vs) (hl : vs.length = n)
    (e : f xs S1 = .ok (v, S')) (q : ∀ x H' A', Post G.A H A' H' → StoOk K ct H' A' G.M S' → Rep K ct H' A' G.M v x → Q x H') : spM K ct n f vs H1 Q E0 :=
  ⟨hl, A1, G.M, xs, S1, v, S', (gd.post p1 s1).bs, r1, e, fun y H' A' p2 s2 r2 => q y H' A' (p1.trans p2) s2 r2⟩
theorem je_call (D : DefOk ct X.prog X.w X.K X.mg X.base x st k ps f) (hr : Room k X.A) (hG : X.A.guards = some []) (hP : PosB x st ps) (ha : JA ct X (e :: es) fa) (hn : (e :: es).length = ps.length := by rfl) (hl : ∀ env S xs S', fa env S = .ok (xs, S') → xs.length = (e :: es).length) (hg : Gl X x := by rfl) (hdb : (x == ("__debug__" : Str)) = false := by decide)
    (he : starEach (e :: es) X.env = (false, eval e X.env) :: starEach es X.env := by rfl) (hpl : (backTo pos (starEach es X.env)).any (·.1) = false := by rfl) : JE ct X (.Call (.Name x p) (e :: es) [] pos) (eCall f fa) := by
  obtain ⟨fad, fd, FD, hm, F⟩ := D
  refine ⟨⟨fun pins s σ H Q IZ h => ?_⟩⟩
  obtain ⟨G, env, S, v, S', gd, h1, q⟩ := h
  obtain ⟨⟨xs, S1⟩, e1, h1⟩ := Res.bind_ok h1
  refine wpAny_Call_Name_kw (ld_glob IZ hg hm ?_ hdb)
  have A0 : rdA X.K ct fa σ H (fun vs H1 => spM X.K ct ps.length f vs H1 Q E0) := ⟨G, env, S, xs, S1, gd, e1, fun vs H1 A1 p1 s1 r1 => call_of gd p1 s1 r1 (by rw [r1.length, hl _ _ _ _ e1, hn]) h1 q⟩
  refine PySem.W.callWith_K (h₀ := X.base) IZ.ok.mod.kin FD.kp (thn (ha.pa.run pos pins s σ H _ IZ A0) fun us s1 ⟨vs, H1, I1, r, q1⟩ => ⟨I1.kIn, ?_⟩) he hpl
  have hlu : us.length = ps.length := by rw [← r.length]; exact q1.1
  have hb : BindsTo s1 fd ⟨us, []⟩ (ps.zip us) := FD.bindsA hP s1 us hlu
  exact run_fnG F hr hG hb I1 r q1
theorem je_call0 (D : DefOk ct X.prog X.w X.K X.mg X.base x st k [] f) (hr : Room k X.A) (hG : X.A.guards = some []) (hP : PosB x st []) (hg : Gl X x := by rfl) (hdb : (x == ("__debug__" : Str)) = false := by decide) : JE ct X (.Call (.Name x p) [] [] pos) (eCall f aNil) := by
  obtain ⟨fad, fd, FD, hm, F⟩ := D
  refine ⟨⟨fun pins s σ H Q IZ h => ?_⟩⟩
  obtain ⟨G, env, S, v, S', gd, h1, q⟩ := h
  obtain ⟨⟨xs, S1⟩, e1, h1⟩ := Res.bind_ok h1
  cases e1
  refine wpAny_Call_Name_kw (ld_glob IZ hg hm ?_ hdb)
  have q1 : spM X.K ct 0 f [] H Q E0 := call_of gd (Post.refl H gd.bs.nodup) gd.bs.sto .nil rfl h1 q
  exact PySem.W.callWith_K0 IZ.kIn FD.kp (run_fnG (us := []) (uz := []) F hr hG (FD.bindsA hP s [] rfl) IZ .nil q1)
theorem je_callK {kws : List Keyword} (n : Nat) (D : DefOk ct X.prog X.w X.K X.mg X.base x st k ps f) (hr : Room k X.A) (hG : X.A.guards = some []) (hK : KwB x st ps n) (ha : JA ct X (e :: es) fa) (hk : JK ct X kws fk)
    (hl : ∀ env S xs S', fa env S = .ok (xs, S') → xs.length = n) (hl2 : ∀ env S xs S', fk env S = .ok (xs, S') → n + xs.length = ps.length)
    (hall : (backToKw pos (keywordEach kws X.env)).all (·.1.isSome) = true := by rfl) (hks : (backToKw pos (keywordEach kws X.env)).filterMap (·.1) = ps.drop n := by rfl) (hg : Gl X x := by rfl) (hdb : (x == ("__debug__" : Str)) = false := by decide)
    (he : starEach (e :: es) X.env = (false, eval e X.env) :: starEach es X.env := by rfl) (hpl : ((backTo pos (starEach (e :: es) X.env)).any (·.1) || (backToKw pos (keywordEach kws X.env)).any (·.1.isNone)) = false := by rfl) : JE ct X (.Call (.Name x p) (e :: es) kws pos) (eCallK f fa fk) := by
  obtain ⟨fad, fd, FD, hm, F⟩ := D
  refine ⟨⟨fun pins s σ H Q IZ h => ?_⟩⟩
  obtain ⟨G, env, S, v, S', gd, h1, q⟩ := h
  obtain ⟨⟨xs, S1⟩, e1, h1⟩ := Res.bind_ok h1
  obtain ⟨⟨zs, S2⟩, e2, h1⟩ := Res.bind_ok h1
  refine wpAny_Call_Name_kw (ld_glob IZ hg hm ?_ hdb)
  have A0 : rdA X.K ct fa σ H (fun vs H1 => rdA X.K ct fk σ H1 fun ws H2 => vs.length = n ∧ spM X.K ct ps.length f (vs ++ ws) H2 Q E0) := ⟨G, env, S, xs, S1, gd, e1, fun vs H1 A1 p1 s1 r1 => ⟨{ G with A := A1 }, env, S1, zs, S2, gd.post p1 s1, e2, fun ws H2 A2 p2 s2 r2 => ⟨by rw [r1.length, hl _ _ _ _ e1], call_of gd (p1.trans p2) s2 ((r1.lat (p2.lat G.M) xs vs).append r2) (by rw [List.length_append, r1.length, r2.length, hl _ _ _ _ e1, hl2 _ _ _ _ e2]) h1 q⟩⟩⟩
  refine PySem.W.callWith_KW (h₀ := X.base) IZ.ok.mod.kin FD.kp hall (thn (ha.pa.run pos pins s σ H _ IZ A0) fun us s1 ⟨vs, H1, I1, r, q1⟩ => ?_) hpl he
  refine thn (hk.pk.run pos pins s1 σ H1 _ I1 q1) fun ws s2 ⟨wv, H2, I2, rz, hvn, q2⟩ => ⟨I2.kIn, ?_⟩
  rw [hks]
  have l1 : us.length = n := by rw [← r.length]; exact hvn
  have l2 : us.length + ws.length = ps.length := by
    rw [← r.length, ← rz.length, ← List.length_append]; exact q2.1
  have hb : BindsTo s2 fd ⟨[] ++ us, (ps.drop n).zip ws⟩ (ps.zip (us ++ ws)) := by
    obtain ⟨oc, od, dV, kV, doc, pm, an, cdv, ctv, osl, rfl, lk, hcd, hDZ, hKK⟩ := FD.ex
    rcases hDZ with ⟨_, rfl⟩ | ⟨e, _⟩
    · exact .of_eq (hK kV doc pm an cdv ctv us ws l1 l2)
    · exact absurd rfl e
  exact run_fnG F hr hG hb I2 (r.append rz) q2
theorem je_callK0 {kws : List Keyword} (D : DefOk ct X.prog X.w X.K X.mg X.base x st k ps f) (hr : Room k X.A) (hG : X.A.guards = some []) (hK : KwB x st ps 0) (hk : JK ct X kws fk)
    (hl2 : ∀ env S xs S', fk env S = .ok (xs, S') → xs.length = ps.length)
    (hall : (backToKw pos (keywordEach kws X.env)).all (·.1.isSome) = true := by rfl) (hks : (backToKw pos (keywordEach kws X.env)).filterMap (·.1) = ps := by rfl) (hg : Gl X x := by rfl) (hdb : (x == ("__debug__" : Str)) = false := by decide)
    (hpl : ((backTo pos (starEach [] X.env)).any (·.1) || (backToKw pos (keywordEach kws X.env)).any (·.1.isNone)) = false := by rfl) : JE ct X (.Call (.Name x p) [] kws pos) (eCallK f aNil fk) := by
  obtain ⟨fad, fd, FD, hm, F⟩ := D
  refine ⟨⟨fun pins s σ H Q IZ h => ?_⟩⟩
  obtain ⟨G, env, S, v, S', gd, h1, q⟩ := h
  obtain ⟨⟨xs, S1⟩, e1, h1⟩ := Res.bind_ok h1
  cases e1
  obtain ⟨⟨zs, S2⟩, e2, h1⟩ := Res.bind_ok h1
  refine wpAny_Call_Name_kw (ld_glob IZ hg hm ?_ hdb)
  have A0 : rdA X.K ct fk σ H fun ws H2 => spM X.K ct ps.length f ws H2 Q E0 := ⟨G, env, _, zs, S2, gd, e2, fun ws H2 A2 p2 s2 r2 => call_of gd p2 s2 r2 (by rw [r2.length, hl2 _ _ _ _ e2]) h1 q⟩
  refine PySem.W.callWith_KW0 (h₀ := X.base) IZ.ok.mod.kin FD.kp hall (thn (hk.pk.run pos pins s σ H _ IZ A0) fun ws s2 ⟨wv, H2, I2, rz, q2⟩ => ⟨I2.kIn, ?_⟩) hpl
  rw [hks]
  have l2 : ws.length = ps.length := by rw [← rz.length]; exact q2.1
  have hb : BindsTo s2 fd ⟨[] ++ [], ps.zip ws⟩ (ps.zip ws) := by
    obtain ⟨oc, od, dV, kV, doc, pm, an, cdv, ctv, osl, rfl, lk, hcd, hDZ, hKK⟩ := FD.ex
    rcases hDZ with ⟨_, rfl⟩ | ⟨e, _⟩
    · exact .of_eq (hK kV doc pm an cdv ctv [] ws rfl (by simpa using l2))
    · exact absurd rfl e
  exact run_fnG F hr hG hb I2 rz q2
end
end J
set_option Elab.async false
set_option linter.all false
set_option maxRecDepth 100000
/-! J: operators and built-in functions by values. -/
namespace J
open PySem L2

section
variable {K : PySem.W.Frag} {ct : Ct} {H : Hp} {A M : List Addr}
theorem RepB.int {i : Int} {x : V} (h : RepB K ct H A M (.int i) x) : x = .int i := by
  rcases h with h | ⟨p, _, _, c⟩
  · exact Rep.int_iff.mp h
  · exact False.elim c
theorem RepB.bl {i : Bool} {x : V} (h : RepB K ct H A M (.bl i) x) : x = .bl i := by
  rcases h with h | ⟨p, _, _, c⟩
  · exact Rep.bl_iff.mp h
  · exact False.elim c
theorem RepB.str {i : Str} {x : V} (h : RepB K ct H A M (.str i) x) : x = .str i := by
  rcases h with h | ⟨p, _, _, c⟩
  · exact Rep.str_iff.mp h
  · exact False.elim c
theorem RepB.non {x : V} (h : RepB K ct H A M .non x) : x = .non := by
  rcases h with h | ⟨p, _, _, c⟩
  · exact Rep.non_iff.mp h
  · exact False.elim c
theorem RepB.tup {xs : List PV} {x : V} (h : RepB K ct H A M (.tup xs) x) : ∃ a vs, x = .ref a ∧ Vw H A M a (.tup vs) ∧ RepL K ct H A M xs vs := by
  rcases h with h | ⟨p, _, _, c⟩
  · exact h.tup_inv
  · exact False.elim c
theorem RepB.lst {xs : List PV} {x : V} (h : RepB K ct H A M (.lst xs) x) : ∃ a vs, x = .ref a ∧ H a = some (.lst vs) ∧ RepL K ct H A M xs vs := by
  rcases h with h | ⟨p, e, _, c⟩
  · obtain ⟨a, vs, h1, h2, h3⟩ := h.lst_inv
    exact ⟨a, vs, h1, h2.1, h3⟩
  · obtain ⟨vs, h1, h2⟩ := c
    exact ⟨p, vs, e, h1, h2⟩
theorem Hx.new_tup {xs : List PV} {vs : List V} {p : Addr} (hx : Hx A M H) (r : RepL K ct H A M xs vs) (np : H p = none) : Same H (upd H p (.tup vs)) ∧ Rep K ct (upd H p (.tup vs)) A M (.tup xs) (.ref p) := ⟨same_new np, Rep.new_tup r np hx.inA hx.inM hx.nd⟩
theorem Hx.new_lst {xs : List PV} {vs : List V} {p : Addr} (hx : Hx A M H) (r : RepL K ct H A M xs vs) (np : H p = none) : Same H (upd H p (.lst vs)) ∧ Rep K ct (upd H p (.lst vs)) A M (.lst xs) (.ref p) := ⟨same_new np, Rep.new_lst r np hx.inA hx.inM hx.nd⟩
end

/-! ### arithmetic -/
def okMul (i j : Int) : Bool := decide ((-(2 ^ 64) < i ∧ i < 2 ^ 64) ∨ (-(2 ^ 64) < j ∧ j < 2 ^ 64))
def pAdd : PV → PV → Option PV
  | .int i, .int j => some (.int (i + j))
  | .tup a, .tup b => if a.length + b.length ≤ 1000000 then some (.tup (a ++ b)) else none
  | .lst a, .lst b => if a.length + b.length ≤ 1000000 then some (.lst (a ++ b)) else none
  | .str a, .str b => if a.length + b.length ≤ 1000000 then some (.str (a ++ b)) else none
  | _, _ => none
def pSub : PV → PV → Option PV
  | .int i, .int j => some (.int (i - j))
  | _, _ => none
def pMul : PV → PV → Option PV
  | .int i, .int j => if okMul i j then some (.int (i * j)) else none
  | _, _ => none
def pMod : PV → PV → Option PV
  | .int i, .int j => if 0 < j then some (.int (i % j)) else none
  | _, _ => none
def pDiv : PV → PV → Option PV
  | .int i, .int j => if 0 < j ∧ j < 1073741824 then some (.int (i / j)) else none
  | _, _ => none
def pPow : PV → PV → Option PV
  | .int i, .int j => if 0 ≤ j ∧ j ≤ 1000 ∧ i.natAbs < 2 ^ 64 then some (.int (i ^ j.toNat)) else none
  | _, _ => none
def pNeg : PV → Option PV
  | .int i => some (.int (-i))
  | _ => none
def pCmp (f : Int → Int → Bool) : PV → PV → Option PV
  | .int i, .int j => some (.bl (f i j))
  | _, _ => none
abbrev pLt := pCmp fun i j => decide (i < j)
abbrev pLe := pCmp fun i j => decide (i ≤ j)
abbrev pGt := pCmp fun i j => decide (j < i)
abbrev pGe := pCmp fun i j => decide (j ≤ i)
/-- list + list, whatever stands there -/
def rAdd4 (K : PySem.W.Frag) : R2 := fun x y H Q => rI0 (fun i j => .int (i + j)) x y H Q ∨ rCatA K x y H Q ∨ rCat x y H Q ∨ ∃ i j, x = .str i ∧ y = .str j ∧ i.length + j.length ≤ sizeLine ∧ Q (.str (i ++ j)) H
section
variable {ct : Ct} {X : Cx} {K : PySem.W.Frag}
theorem or_add : OpR X (binaryOp .Add) (rAdd4 X.K) := op_add.or (op_catA.or (op_cat.or op_add_str))
theorem ok_add : OpOk K ct (rAdd4 K) pAdd := fun H A M x y vx vy v Q hx rx ry e q => by
  unfold pAdd at e
  split at e
  · cases e
    exact .inl ⟨_, _, rx.int, ry.int, q _ H (Same.refl H) (Rep.int_iff.mpr rfl)⟩
  · split at e
    · rename_i xs ys hz
      cases e
      obtain ⟨a, vs, rfl, h1, h2⟩ := rx.tup
      obtain ⟨b, ws, rfl, h3, h4⟩ := ry.tup
      have l1 := h2.length
      have l2 := h4.length
      refine .inr (.inl ⟨a, b, vs, ws, rfl, rfl, h1.sqT, h3.sqT, by rw [l1, l2]; exact sz_mil hz, fun e0 => ?_, fun _ e0 => ?_, fun _ _ p np => ?_⟩)
      · subst e0
        have : xs = [] := List.eq_nil_of_length_eq_zero (by simpa using l1.symm)
        subst this
        refine q _ H (Same.refl H) ?_
        simp only [Rep]
        exact ⟨b, ws, rfl, h3, h4⟩
      · subst e0
        have : ys = [] := List.eq_nil_of_length_eq_zero (by simpa using l2.symm)
        subst this
        refine q _ H (Same.refl H) ?_
        rw [List.append_nil]
        simp only [Rep]
        exact ⟨a, vs, rfl, h1, h2⟩
      · obtain ⟨k1, k2⟩ := hx.new_tup (h2.append h4) np
        exact q _ _ k1 k2
    · cases e
  · split at e
    · rename_i xs ys hz
      cases e
      obtain ⟨a, vs, rfl, h1, h2⟩ := rx.lst
      obtain ⟨b, ws, rfl, h3, h4⟩ := ry.lst
      refine .inr (.inr (.inl ⟨a, b, vs, ws, rfl, rfl, h1, h3, by rw [h2.length, h4.length]; exact sz_mil hz, fun p np => ?_⟩))
      obtain ⟨k1, k2⟩ := hx.new_lst (h2.append h4) np
      exact q _ _ k1 k2
    · cases e
  · split at e
    · rename_i xs ys hz
      cases e
      exact .inr (.inr (.inr ⟨_, _, rx.str, ry.str, sz_mil hz, q _ H (Same.refl H) (Rep.str_iff.mpr rfl)⟩))
    · cases e
  · cases e
theorem ok_sub : OpOk K ct (rI0 fun i j => .int (i - j)) pSub := fun H A M x y vx vy v Q hx rx ry e q => by
  unfold pSub at e
  split at e
  · cases e
    exact ⟨_, _, rx.int, ry.int, q _ H (Same.refl H) (Rep.int_iff.mpr rfl)⟩
  · cases e
theorem ok_mul : OpOk K ct (rI CMul fun i j => .int (i * j)) pMul := fun H A M x y vx vy v Q hx rx ry e q => by
  unfold pMul at e
  split at e
  · split at e
    · rename_i hz
      cases e
      exact ⟨_, _, rx.int, ry.int, by unfold okMul at hz; have h := of_decide_eq_true hz; exact h, q _ H (Same.refl H) (Rep.int_iff.mpr rfl)⟩
    · cases e
  · cases e
theorem ok_mod : OpOk K ct (rI (fun _ j => 0 < j) fun i j => .int (i % j)) pMod := fun H A M x y vx vy v Q hx rx ry e q => by
  unfold pMod at e
  split at e
  · split at e
    · rename_i hz
      cases e
      exact ⟨_, _, rx.int, ry.int, hz, q _ H (Same.refl H) (Rep.int_iff.mpr rfl)⟩
    · cases e
  · cases e
theorem ok_div : OpOk K ct (rI CDiv fun i j => .int (i / j)) pDiv := fun H A M x y vx vy v Q hx rx ry e q => by
  unfold pDiv at e
  split at e
  · split at e
    · rename_i hz
      cases e
      exact ⟨_, _, rx.int, ry.int, hz, q _ H (Same.refl H) (Rep.int_iff.mpr rfl)⟩
    · cases e
  · cases e
theorem ok_pow : OpOk K ct (rI CPow fun i j => .int (i ^ j.toNat)) pPow := fun H A M x y vx vy v Q hx rx ry e q => by
  unfold pPow at e
  split at e
  · split at e
    · rename_i hz
      cases e
      exact ⟨_, _, rx.int, ry.int, ⟨hz.1, by have := hz.2.1; omega, hz.2.2⟩, q _ H (Same.refl H) (Rep.int_iff.mpr rfl)⟩
    · cases e
  · cases e
theorem ok_cmp {f : Int → Int → Bool} : OpOk K ct (rI0 fun i j => .bl (f i j)) (pCmp f) := fun H A M x y vx vy v Q hx rx ry e q => by
  unfold pCmp at e
  split at e
  · cases e
    exact ⟨_, _, rx.int, ry.int, q _ H (Same.refl H) (Rep.bl_iff.mpr rfl)⟩
  · cases e
variable {a b c : Expr} {fa fb fc : FE} {pos : Pos}
theorem je_add (ha : JB ct X a fa) (hb : JB ct X b fb) : JE ct X (.BinOp a .Add b pos) (eOp pAdd fa fb) := je_op or_add ok_add ha hb
theorem je_sub (ha : JB ct X a fa) (hb : JB ct X b fb) : JE ct X (.BinOp a .Sub b pos) (eOp pSub fa fb) := je_op op_sub ok_sub ha hb
theorem je_mul (ha : JB ct X a fa) (hb : JB ct X b fb) : JE ct X (.BinOp a .Mult b pos) (eOp pMul fa fb) := je_op op_mul ok_mul ha hb
theorem je_mod (ha : JB ct X a fa) (hb : JB ct X b fb) : JE ct X (.BinOp a .Mod b pos) (eOp pMod fa fb) := je_op op_mod ok_mod ha hb
theorem je_div (ha : JB ct X a fa) (hb : JB ct X b fb) : JE ct X (.BinOp a .FloorDiv b pos) (eOp pDiv fa fb) := je_op op_fdiv ok_div ha hb
theorem je_pow (ha : JB ct X a fa) (hb : JB ct X b fb) : JE ct X (.BinOp a .Pow b pos) (eOp pPow fa fb) := je_op op_pow ok_pow ha hb
theorem je_neg (ha : JE ct X a fa) : JE ct X (.UnaryOp .USub a pos) (eUn pNeg fa) := je_un un_neg (fun H A M x vx v Q r e q => by
  cases vx with
  | int i => cases e; exact ⟨i, Rep.int_iff.mp r, q _ fun _ _ _ => Rep.int_iff.mpr rfl⟩
  | _ => cases e) ha
theorem je_lt (ha : JB ct X a fa) (hb : JB ct X b fb) : JE ct X (.Compare a [.Lt] [b] pos) (eOp pLt fa fb) := je_cmp op_lt ok_cmp ha hb
theorem je_le (ha : JB ct X a fa) (hb : JB ct X b fb) : JE ct X (.Compare a [.LtE] [b] pos) (eOp pLe fa fb) := je_cmp op_le ok_cmp ha hb
theorem je_gt (ha : JB ct X a fa) (hb : JB ct X b fb) : JE ct X (.Compare a [.Gt] [b] pos) (eOp pGt fa fb) := je_cmp op_gt ok_cmp ha hb
theorem je_ge (ha : JB ct X a fa) (hb : JB ct X b fb) : JE ct X (.Compare a [.GtE] [b] pos) (eOp pGe fa fb) := je_cmp op_ge ok_cmp ha hb
theorem jt_lt (ha : JB ct X a fa) (hb : JB ct X b fb) : JT ct X (.Compare a [.Lt] [b] pos) (tV (eOp pLt fa fb)) := jt_cmp op_lt ok_cmp ha hb
theorem jt_le (ha : JB ct X a fa) (hb : JB ct X b fb) : JT ct X (.Compare a [.LtE] [b] pos) (tV (eOp pLe fa fb)) := jt_cmp op_le ok_cmp ha hb
theorem jt_gt (ha : JB ct X a fa) (hb : JB ct X b fb) : JT ct X (.Compare a [.Gt] [b] pos) (tV (eOp pGt fa fb)) := jt_cmp op_gt ok_cmp ha hb
theorem jt_ge (ha : JB ct X a fa) (hb : JB ct X b fb) : JT ct X (.Compare a [.GtE] [b] pos) (tV (eOp pGe fa fb)) := jt_cmp op_ge ok_cmp ha hb
/-- a op b op' c -/
def eChain (op op' : PV → PV → Option PV) (a b c : FE) : FE := fun env S => (a env S).bind fun x => (b env x.2).bind fun y => (ofO (op x.1 y.1)).bind fun z => match z with
  | .bl true => (c env y.2).bind fun u => (ofO (op' y.1 u.1)).bind fun t => .ok (t, u.2)
  | .bl false => .ok (.bl false, y.2)
  | _ => .err
theorem rd_chain {op op' : PV → PV → Option PV} {r r' : R2} (ho : OpOk K ct r op) (ho' : OpOk K ct r' op') (hb1 : ∀ x y v, op x y = some v → ∃ k, v = .bl k) {σ : St} {H : Hp} {Q : VK} (h : rd K ct (eChain op op' fa fb fc) σ H Q) : tChain r r' (rd K ct fa) (rd K ct fb) (rd K ct fc) σ H Q := by
  obtain ⟨G, env, S, v, S', g, h1, q⟩ := h
  obtain ⟨⟨x, S1⟩, e1, h1⟩ := Res.bind_ok h1
  obtain ⟨⟨y, S2⟩, e2, h1⟩ := Res.bind_ok h1
  obtain ⟨z, e3, h1⟩ := Res.bind_ok h1
  refine ⟨G, env, S, x, S1, g, e1, fun x' H1 A1 p1 s1 r1 => ⟨{ G with A := A1 }, env, S1, y, _, g.post p1 s1, e2, fun y' H2 A2 p2 s2 r2 => ?_⟩⟩
  have g2 := (g.post p1 s1).post p2 s2
  have e3' := ofO_ok e3
  refine ho H2 A2 G.M x' y' x y z _ g2.hx (.inl (r1.lat (p2.lat G.M) x x')) (.inl r2) e3' fun z' H3 sm r3 => ?_
  obtain ⟨k, rfl⟩ := hb1 _ _ _ e3'
  refine ⟨k, Rep.bl_iff.mp r3, ?_⟩
  have p3 : Post A2 H2 A2 H3 := Post.grow g2.bs.nodup sm
  have s3 := s2.grow g2.bs.nodup sm
  cases k with
  | true =>
    rw [if_pos rfl]
    obtain ⟨⟨u, S4⟩, e4, h1⟩ := Res.bind_ok h1
    obtain ⟨t, e5, h1⟩ := Res.bind_ok h1
    cases h1
    refine ⟨_, env, S2, u, _, g2.post p3 s3, e4, fun u' H4 A4 p4 s4 r4 => ?_⟩
    have g4 := (g2.post p3 s3).post p4 s4
    refine ho' H4 A4 G.M y' u' y u v Q g4.hx (.inl ((r2.lat (p3.lat G.M) y y').lat (p4.lat G.M) y y')) (.inl r4) (ofO_ok e5) fun t' H5 sm5 r5 => ?_
    exact q _ H5 A4 ((((p1.trans p2).trans p3).trans p4).trans (Post.grow g4.bs.nodup sm5)) (s4.grow g4.bs.nodup sm5) r5
  | false =>
    rw [if_neg falseNe]
    cases h1
    exact q _ H3 A2 ((p1.trans p2).trans p3) s3 (Rep.bl_iff.mpr rfl)
theorem pCmp_bl {f : Int → Int → Bool} {x y v : PV} (h : pCmp f x y = some v) : ∃ k, v = .bl k := by
  unfold pCmp at h
  split at h
  · cases h; exact ⟨_, rfl⟩
  · cases h
theorem je_chain {op op' : CmpOp} {f f' : Int → Int → Bool} (ho : OpR X (compareOp op) (rI0 fun i j => .bl (f i j))) (ho' : OpR X (compareOp op') (rI0 fun i j => .bl (f' i j))) (ha : JE ct X a fa) (hb : JE ct X b fb) (hc : JE ct X c fc) (hm : lastMarks [op, op'] [b, c] = false := by with_unfolding_all rfl) :
    JE ct X (.Compare a [op, op'] [b, c] pos) (eChain (pCmp f) (pCmp f') fa fb fc) := ⟨(pe_chain ho ho' ha.pe hb.pe hc.pe hm).imp fun _ _ _ h => rd_chain ok_cmp ok_cmp (fun _ _ _ => pCmp_bl) h⟩
theorem jt_chain {op op' : CmpOp} {f f' : Int → Int → Bool} (ho : OpR X (compareOp op) (rI0 fun i j => .bl (f i j))) (ho' : OpR X (compareOp op') (rI0 fun i j => .bl (f' i j))) (ha : JE ct X a fa) (hb : JE ct X b fb) (hc : JE ct X c fc) (hm : lastMarks [op, op'] [b, c] = false := by with_unfolding_all rfl) :
    JT ct X (.Compare a [op, op'] [b, c] pos) (tV (eChain (pCmp f) (pCmp f') fa fb fc)) := ⟨(pt_chain ho ho' ha.pe hb.pe hc.pe hm).imp fun _ _ _ h => rdT_tTest (fun _ _ _ z => rd_chain ok_cmp ok_cmp (fun _ _ _ => pCmp_bl) z) h⟩
end

/-! ### equality of data -/
mutual
def isD : PV → Bool
  | .non => true
  | .bl _ => true
  | .int _ => true
  | .str x => PyData.strOk x
  | .tup xs => isDL xs
  | .lst xs => isDL xs
  | _ => false
def isDL : List PV → Bool
  | [] => true
  | x :: r => isD x && isDL r
end
mutual
def toD : PV → PyData
  | .bl b => .bool b
  | .int i => .int i
  | .str x => .str x
  | .tup xs => .tuple (toDL xs)
  | .lst xs => .list (toDL xs)
  | _ => .none
def toDL : List PV → List PyData
  | [] => []
  | x :: r => toD x :: toDL r
end
-- == as Python has it
mutual
def eqP : PV → PV → Bool
  | .non, .non => true
  | .bl a, .bl b => a == b
  | .bl a, .int j => (if a then 1 else 0) == j
  | .int i, .bl b => i == (if b then 1 else 0)
  | .int i, .int j => i == j
  | .str x, .str y => x == y
  | .lst xs, .lst ys => eqPL xs ys
  | .tup xs, .tup ys => eqPL xs ys
  | _, _ => false
def eqPL : List PV → List PV → Bool
  | [], [] => true
  | x :: xs, y :: ys => eqP x y && eqPL xs ys
  | _, _ => false
end
mutual
theorem eqv_toD : ∀ (a b : PV), isD a = true → isD b = true → PyData.eqv (toD a) (toD b) = eqP a b
  | .non, b, _, hb => by cases b <;> first | rfl | cases hb
  | .bl a, b, _, hb => by cases b <;> first | rfl | cases hb
  | .int a, b, _, hb => by cases b <;> first | rfl | cases hb
  | .str a, b, _, hb => by cases b <;> first | rfl | cases hb
  | .tup xs, b, ha, hb => by
    cases b with
    | tup ys =>
      simp only [toD, eqP, PyData.eqv]
      exact eqvAll_toD xs ys (by simpa only [isD] using ha) (by simpa only [isD] using hb)
    | dic _ _ _ => cases hb
    | ins _ _ => cases hb
    | obj _ => cases hb
    | scr _ => cases hb
    | _ => rfl
  | .lst xs, b, ha, hb => by
    cases b with
    | lst ys =>
      simp only [toD, eqP, PyData.eqv]
      exact eqvAll_toD xs ys (by simpa only [isD] using ha) (by simpa only [isD] using hb)
    | dic _ _ _ => cases hb
    | ins _ _ => cases hb
    | obj _ => cases hb
    | scr _ => cases hb
    | _ => rfl
  | .dic _ _ _, _, ha, _ => by cases ha
  | .ins _ _, _, ha, _ => by cases ha
  | .obj _, _, ha, _ => by cases ha
  | .scr _, _, ha, _ => by cases ha
theorem eqvAll_toD : ∀ (xs ys : List PV), isDL xs = true → isDL ys = true → PyData.eqvAll (toDL xs) (toDL ys) = eqPL xs ys
  | [], [], _, _ => rfl
  | [], _ :: _, _, _ => rfl
  | _ :: _, [], _, _ => rfl
  | x :: xs, y :: ys, hx, hy => by
    simp only [isDL, Bool.and_eq_true] at hx hy
    simp only [toDL, eqPL, PyData.eqvAll]
    rw [eqv_toD x y hx.1 hy.1, eqvAll_toD xs ys hx.2 hy.2]
end
mutual
def dpP : PV → Nat
  | .tup xs => dpPL xs + 1
  | .lst xs => dpPL xs + 1
  | _ => 0
def dpPL : List PV → Nat
  | [] => 0
  | x :: r => max (dpP x) (dpPL r)
end
mutual
theorem depth_toD : ∀ (a : PV), (toD a).depth = dpP a
  | .tup xs => by simp only [toD, dpP, PyData.depth]; rw [depth_toDL xs]
  | .lst xs => by simp only [toD, dpP, PyData.depth]; rw [depth_toDL xs]
  | .non => rfl
  | .bl _ => rfl
  | .int _ => rfl
  | .str _ => rfl
  | .dic _ _ _ => rfl
  | .ins _ _ => rfl
  | .obj _ => rfl
  | .scr _ => rfl
theorem depth_toDL : ∀ (xs : List PV), PyData.depthAll (toDL xs) = dpPL xs
  | [] => rfl
  | x :: r => by simp only [toDL, dpPL, PyData.depthAll]; rw [depth_toD x, depth_toDL r]
end
mutual
theorem lay_toD : ∀ (a : PV), isD a = true → (toD a).canLay0 = true
  | .tup xs, h => by simp only [toD, PyData.canLay0]; exact lay_toDL xs (by simpa only [isD] using h)
  | .lst xs, h => by simp only [toD, PyData.canLay0]; exact lay_toDL xs (by simpa only [isD] using h)
  | .non, _ => rfl
  | .bl _, _ => rfl
  | .int _, _ => rfl
  | .str _, h => h
  | .dic _ _ _, h => by cases h
  | .ins _ _, h => by cases h
  | .obj _, h => by cases h
  | .scr _, h => by cases h
theorem lay_toDL : ∀ (xs : List PV), isDL xs = true → PyData.canLayAll0 (toDL xs) = true
  | [], _ => rfl
  | x :: r, h => by
    simp only [isDL, Bool.and_eq_true] at h
    simp only [toDL, PyData.canLayAll0, Bool.and_eq_true]
    exact ⟨lay_toD x h.1, lay_toDL r h.2⟩
end
section
variable {K : PySem.W.Frag} {ct : Ct} {H : Hp} {A M : List Addr}
mutual
theorem Rep.dp : ∀ (v : PV) (x : V), isD v = true → Rep K ct H A M v x → Dp K H x (toD v)
  | .non, x, _, r => by rw [Rep.non_iff.mp r]; exact .non
  | .bl b, x, _, r => by rw [Rep.bl_iff.mp r]; exact .bl b
  | .int i, x, _, r => by rw [Rep.int_iff.mp r]; exact .int i
  | .str i, x, _, r => by rw [Rep.str_iff.mp r]; exact .str i
  | .tup xs, x, h, r => by
    obtain ⟨a, vs, rfl, h1, h2⟩ := r.tup_inv
    simp only [toD]
    exact .tup h1.sqT (RepL.dp xs vs (by simpa only [isD] using h) h2)
  | .lst xs, x, h, r => by
    obtain ⟨a, vs, rfl, h1, h2⟩ := r.lst_inv
    simp only [toD]
    exact .lst h1.sqL (RepL.dp xs vs (by simpa only [isD] using h) h2)
  | .dic _ _ _, _, h, _ => by cases h
  | .ins _ _, _, h, _ => by cases h
  | .obj _, _, h, _ => by cases h
  | .scr _, _, h, _ => by cases h
theorem RepL.dp : ∀ (xs : List PV) (vs : List V), isDL xs = true → RepL K ct H A M xs vs → DpAll K H vs (toDL xs)
  | [], vs, _, r => by rw [RepL.nil_iff.mp r]; exact .nil
  | x :: xs, vs, h, r => by
    obtain ⟨v, ws, rfl, h1, h2⟩ := r.inv
    simp only [isDL, Bool.and_eq_true] at h
    simp only [toDL]
    exact .cons (Rep.dp x v h.1 h1) (RepL.dp xs ws h.2 h2)
end
theorem RepB.dp {v : PV} {x : V} (h : isD v = true) (r : RepB K ct H A M v x) : Dp K H x (toD v) := by
  rcases r with r | ⟨p, rfl, _, c⟩
  · exact r.dp v x h
  · cases v with
    | lst xs =>
      obtain ⟨vs, h1, h2⟩ := c
      simp only [toD]
      exact .lst (.inl (.inl h1)) (RepL.dp xs vs (by simpa only [isD] using h) h2)
    | dic _ _ _ => cases h
    | _ => exact False.elim c
end
def dOK (v : PV) : Bool := isD v && decide (dpP v ≤ 60)
theorem dOK.shaped {v : PV} (h : dOK v = true) : isD v = true ∧ SeqAt.shaped (toD v) = true := by
  unfold dOK at h
  simp only [Bool.and_eq_true, decide_eq_true_eq (p := dpP v ≤ 60)] at h
  refine ⟨h.1, ?_⟩
  unfold SeqAt.shaped
  rw [Bool.and_eq_true, decide_eq_true_eq, depth_toD]
  exact ⟨lay_toD v h.1, Nat.le_trans h.2 (by decide)⟩
def pEq (a b : PV) : Option PV := if dOK a && dOK b then some (.bl (eqP a b)) else none
def pNe (a b : PV) : Option PV := if dOK a && dOK b then some (.bl (!eqP a b)) else none
section
variable {ct : Ct} {X : Cx} {K : PySem.W.Frag} {a b : Expr} {fa fb : FE} {pos : Pos}
theorem ok_eq : OpOk K ct (rEqD K) pEq := fun H A M x y vx vy v Q hx rx ry e q => by
  unfold pEq at e
  split at e
  · rename_i h
    cases e
    rw [Bool.and_eq_true] at h
    obtain ⟨a1, a2⟩ := dOK.shaped h.1
    obtain ⟨b1, b2⟩ := dOK.shaped h.2
    refine ⟨_, _, rx.dp a1, ry.dp b1, a2, b2, ?_⟩
    rw [eqv_toD _ _ a1 b1]
    exact q _ H (Same.refl H) (Rep.bl_iff.mpr rfl)
  · cases e
theorem ok_ne : OpOk K ct (rNeD K) pNe := fun H A M x y vx vy v Q hx rx ry e q => by
  unfold pNe at e
  split at e
  · rename_i h
    cases e
    rw [Bool.and_eq_true] at h
    obtain ⟨a1, a2⟩ := dOK.shaped h.1
    obtain ⟨b1, b2⟩ := dOK.shaped h.2
    refine ⟨_, _, rx.dp a1, ry.dp b1, a2, b2, ?_⟩
    rw [eqv_toD _ _ a1 b1]
    exact q _ H (Same.refl H) (Rep.bl_iff.mpr rfl)
  · cases e
theorem je_eq {k : Nat} (hr : Room k X.A) (ha : JB ct X a fa) (hb : JB ct X b fb) : JE ct X (.Compare a [.Eq] [b] pos) (eOp pEq fa fb) := je_cmp (op_eqD hr.units) ok_eq ha hb
theorem je_ne {k : Nat} (hr : Room k X.A) (ha : JB ct X a fa) (hb : JB ct X b fb) : JE ct X (.Compare a [.NotEq] [b] pos) (eOp pNe fa fb) := je_cmp (op_neD hr.units) ok_ne ha hb
theorem jt_eq {k : Nat} (hr : Room k X.A) (ha : JB ct X a fa) (hb : JB ct X b fb) : JT ct X (.Compare a [.Eq] [b] pos) (tV (eOp pEq fa fb)) := jt_cmp (op_eqD hr.units) ok_eq ha hb
theorem jt_ne {k : Nat} (hr : Room k X.A) (ha : JB ct X a fa) (hb : JB ct X b fb) : JT ct X (.Compare a [.NotEq] [b] pos) (tV (eOp pNe fa fb)) := jt_cmp (op_neD hr.units) ok_ne ha hb
/-- is None, is not None -/
def nonP : PV → Bool
  | .non => true
  | _ => false
def pIsN : PV → PV → Option PV
  | x, .non => some (.bl (nonP x))
  | _, _ => none
def pNotN : PV → PV → Option PV
  | x, .non => some (.bl (!nonP x))
  | _, _ => none
theorem RepB.isNon {H : Hp} {A M : List Addr} {v : PV} {x : V} (r : RepB K ct H A M v x) : decide (x = .non) = nonP v := by
  cases v with
  | non => have e := r.non; subst e; rfl
  | bl b => have e := r.bl; subst e; rfl
  | int b => have e := r.int; subst e; rfl
  | str b => have e := r.str; subst e; rfl
  | tup xs => obtain ⟨_, _, rfl, _⟩ := r.tup; rfl
  | lst xs => obtain ⟨_, _, rfl, _⟩ := r.lst; rfl
  | dic t ks xs =>
    rcases r with r | ⟨p, rfl, _⟩
    · simp only [Rep] at r
      obtain ⟨a, rfl, _⟩ := r
      rfl
    · rfl
  | ins c fs =>
    rcases r with r | ⟨p, rfl, _⟩
    · simp only [Rep] at r
      obtain ⟨a, _, _, _, _, rfl, _⟩ := r
      rfl
    · rfl
  | obj n =>
    rcases r with r | ⟨p, rfl, _⟩
    · simp only [Rep] at r
      obtain ⟨a, rfl, _⟩ := r
      rfl
    · rfl
  | scr n =>
    rcases r with r | ⟨p, rfl, _⟩
    · simp only [Rep] at r
      obtain ⟨a, rfl, _⟩ := r
      rfl
    · rfl
theorem ok_isN : OpOk K ct (fun x y H Q => y = .non ∧ Q (.bl (decide (x = .non))) H) pIsN := fun H A M x y vx vy v Q hx rx ry e q => by
  cases vy with
  | non =>
    cases e
    refine ⟨ry.non, ?_⟩
    rw [rx.isNon]
    exact q _ H (Same.refl H) (Rep.bl_iff.mpr rfl)
  | _ => cases e
theorem ok_notN : OpOk K ct (fun x y H Q => y = .non ∧ Q (.bl (!decide (x = .non))) H) pNotN := fun H A M x y vx vy v Q hx rx ry e q => by
  cases vy with
  | non =>
    cases e
    refine ⟨ry.non, ?_⟩
    rw [rx.isNon]
    exact q _ H (Same.refl H) (Rep.bl_iff.mpr rfl)
  | _ => cases e
theorem je_is (ha : JB ct X a fa) (hb : JB ct X b fb) : JE ct X (.Compare a [.Is] [b] pos) (eOp pIsN fa fb) := je_cmp op_isN ok_isN ha hb
theorem jt_is (ha : JB ct X a fa) (hb : JB ct X b fb) : JT ct X (.Compare a [.Is] [b] pos) (tV (eOp pIsN fa fb)) := jt_cmp op_isN ok_isN ha hb
theorem je_isnot (ha : JB ct X a fa) (hb : JB ct X b fb) : JE ct X (.Compare a [.IsNot] [b] pos) (eOp pNotN fa fb) := je_cmp op_notN ok_notN ha hb
theorem jt_isnot (ha : JB ct X a fa) (hb : JB ct X b fb) : JT ct X (.Compare a [.IsNot] [b] pos) (tV (eOp pNotN fa fb)) := jt_cmp op_notN ok_notN ha hb
end
end J
set_option Elab.async false
set_option linter.all false
set_option maxRecDepth 100000
/-! J: subscripts, slices, membership, dicts read. -/
namespace J
open PySem L2

theorem _root_.L2.PE.or {X : Cx} {e : Expr} {t t' : TE} (h : PE X e t) (h' : PE X e t') : PE X e (fun σ H Q => t σ H Q ∨ t' σ H Q) := ⟨fun pins s σ H Q I q => q.elim (h.run pins s σ H Q I) (h'.run pins s σ H Q I)⟩
theorem _root_.L2.PC.or {X : Cx} {op : CmpOp} {a b : Expr} {t t' : TE} (h : PC X op a b t) (h' : PC X op a b t') : PC X op a b (fun σ H Q => t σ H Q ∨ t' σ H Q) := ⟨fun pins s σ H Q I q => q.elim (h.run pins s σ H Q I) (h'.run pins s σ H Q I)⟩

/-! ### dicts, read -/
def keyOf : PV → Option Key
  | .int i => some (.inl i)
  | .str x => some (.inr x)
  | _ => none
def keysOf : List PV → Option (List Key)
  | [] => some []
  | p :: r => (keyOf p).bind fun k => (keysOf r).map fun ks => k :: ks
theorem keyOf_eq {p : PV} {k : Key} (h : keyOf p = some k) : p = keyV k := by
  cases p with
  | int i => cases h; rfl
  | str i => cases h; rfl
  | _ => cases h
theorem keysOf_eq : ∀ {ps : List PV} {ks : List Key}, keysOf ps = some ks → ps = ks.map keyV
  | [], ks, h => by cases h; rfl
  | p :: r, ks, h => by
    unfold keysOf at h
    obtain ⟨k, e1, h⟩ := Option.bind_eq_some_iff.mp h
    obtain ⟨l, e2, rfl⟩ := Option.map_eq_some_iff.mp h
    rw [keyOf_eq e1, keysOf_eq e2]; rfl
theorem keyV_inj {a b : Key} (h : keyV a = keyV b) : a = b := by
  cases a <;> cases b <;> cases h <;> rfl
theorem mapKey_inj : ∀ {a b : List Key}, a.map keyV = b.map keyV → a = b
  | [], [], _ => rfl
  | [], _ :: _, hZ => by cases hZ
  | _ :: _, [], hZ => by cases hZ
  | x :: a, y :: b, hZ => by
    simp only [List.map_cons, List.cons.injEq] at hZ
    rw [keyV_inj hZ.1, mapKey_inj hZ.2]
theorem tupKey_inj {a b : List Key} (h : PV.tup (a.map keyV) = PV.tup (b.map keyV)) : a = b := mapKey_inj (PV.tup.inj h)
def dGet : List PV → List PV → PV → Option PV
  | k' :: ks, v :: vs, k => if k' = k then some v else dGet ks vs k
  | _, _, _ => none
/-- a key that a dict of this kind takes -/
def keyFit (t : Bool) (k : PV) : Bool := match t, k with
  | false, p => (keyOf p).isSome
  | true, .tup ps => (keysOf ps).isSome
  | _, _ => false
section
variable {K : PySem.W.Frag} {ct : Ct} {H : Hp} {A M : List Addr}
theorem dGet_val {κ : Type} [DecidableEq κ] {e : κ → PV} (inj : ∀ a b, e a = e b → a = b) (k : κ) : ∀ (ws : List (κ × V)) (vs : List PV), RepL K ct H A M vs (ws.map (·.2)) →
    (∃ v x, dGet (ws.map fun w => e w.1) vs (e k) = some v ∧ valV ws k = some x ∧ Rep K ct H A M v x) ∨ (dGet (ws.map fun w => e w.1) vs (e k) = none ∧ valV ws k = none)
  | [], vs, r => .inr ⟨by unfold dGet; rfl, rfl⟩
  | w :: ws, vs, r => by
    cases vs with
    | nil => have := r.length; simp at this
    | cons v vs =>
      obtain ⟨x, xs, e0, h1, h2⟩ := r.inv
      simp only [List.map_cons, List.cons.injEq] at e0
      obtain ⟨e1, e2⟩ := e0
      subst e1 e2
      simp only [List.map_cons, dGet]
      by_cases hk : w.1 = k
      · left
        refine ⟨v, w.2, by rw [if_pos (by rw [hk])], valV_pos hk, h1⟩
      · rw [if_neg (fun z => hk (inj _ _ z)), valV_neg hk]
        exact dGet_val inj k ws vs h2
theorem RepL.keys : ∀ {ks : List Key} {vs : List V}, RepL K ct H A M (ks.map keyV) vs → vs = ks.map kV
  | [], vs, h => by rw [RepL.nil_iff.mp h]; rfl
  | k :: ks, vs, h => by
    obtain ⟨v, r, rfl, h1, h2⟩ := RepL.inv (by simpa only [List.map_cons] using h)
    rw [h2.keys]
    cases k with
    | inl i => rw [show keyV (.inl i) = .int i from rfl] at h1; rw [Rep.int_iff.mp h1]; rfl
    | inr i => rw [show keyV (.inr i) = .str i from rfl] at h1; rw [Rep.str_iff.mp h1]; rfl
theorem RepL.of_keys : ∀ (ks : List Key), RepL K ct H A M (ks.map keyV) (ks.map kV)
  | [] => .nil
  | .inl i :: ks => .cons (Rep.int_iff.mpr rfl) (RepL.of_keys ks)
  | .inr i :: ks => .cons (Rep.str_iff.mpr rfl) (RepL.of_keys ks)
theorem Rep.key {k : Key} {x : V} (h : Rep K ct H A M (keyV k) x) : x = kV k := by
  cases k with
  | inl i => exact Rep.int_iff.mp h
  | inr i => exact Rep.str_iff.mp h
/-- what a dict says of a key -/
theorem dict_get {t : Bool} {ks vs : List PV} {x : V} {k : PV} {y : V} (r : RepB K ct H A M (.dic t ks vs) x) (ry : Rep K ct H A M k y) (hf : keyFit t k = true) :
    ∃ a o, x = .ref a ∧ DGet H a y o ∧ ((∃ v z, dGet ks vs k = some v ∧ o = some z ∧ Rep K ct H A M v z) ∨ (dGet ks vs k = none ∧ o = none)) := by
  have both : ∃ a, x = .ref a ∧ ((t = false ∧ ∃ ws : List (Key × V), Rd H a (.dK ws) ∧ ks = ws.map (fun w => keyV w.1) ∧ RepL K ct H A M vs (ws.map (·.2))) ∨
      t = true ∧ ∃ ws : List (List Key × V), Rd H a (.dT ws) ∧ ks = ws.map (fun w => .tup (w.1.map keyV)) ∧ RepL K ct H A M vs (ws.map (·.2))) := by
    rcases r with r | ⟨p, rfl, _, c⟩
    · simp only [Rep] at r
      obtain ⟨a, rfl, r⟩ := r
      rcases r with ⟨ht, ws, h1, h2, h3⟩ | ⟨ht, ws, h1, h2, h3⟩
      · exact ⟨a, rfl, .inl ⟨ht, ws, h1.rd, h2, h3⟩⟩
      · exact ⟨a, rfl, .inr ⟨ht, ws, h1.rd, h2, h3⟩⟩
    · rcases c with ⟨ht, ws, h1, h2, h3⟩ | ⟨ht, ws, h1, h2, h3⟩
      · exact ⟨p, rfl, .inl ⟨ht, ws, .inl h1, h2, h3⟩⟩
      · exact ⟨p, rfl, .inr ⟨ht, ws, .inl h1, h2, h3⟩⟩
  obtain ⟨a, rfl, both⟩ := both
  rcases both with ⟨rfl, ws, h1, rfl, h3⟩ | ⟨rfl, ws, h1, rfl, h3⟩
  · have hf : (keyOf k).isSome = true := hf
    obtain ⟨k', hk'⟩ := Option.isSome_iff_exists.mp hf
    have ek := keyOf_eq hk'
    subst ek
    have ey := ry.key
    subst ey
    refine ⟨a, valV ws k', rfl, .inl ⟨ws, k', h1, rfl, rfl⟩, ?_⟩
    rcases dGet_val (e := keyV) (fun _ _ z => keyV_inj z) k' ws vs h3 with ⟨v, z, e1, e2, e3⟩ | ⟨e1, e2⟩
    · exact .inl ⟨v, z, e1, e2, e3⟩
    · exact .inr ⟨e1, e2⟩
  · cases k with
    | tup ps =>
      have hf : (keysOf ps).isSome = true := hf
      obtain ⟨k', hk'⟩ := Option.isSome_iff_exists.mp hf
      have ek := keysOf_eq hk'
      subst ek
      obtain ⟨b, us, rfl, hb, hu⟩ := ry.tup_inv
      have eu := hu.keys
      subst eu
      refine ⟨a, valV ws k', rfl, .inr ⟨ws, k', b, h1, rfl, hb.1, rfl⟩, ?_⟩
      rcases dGet_val (e := fun l : List Key => PV.tup (l.map keyV)) (fun _ _ z => tupKey_inj z) k' ws vs h3 with ⟨v, z, e1, e2, e3⟩ | ⟨e1, e2⟩
      · exact .inl ⟨v, z, e1, e2, e3⟩
      · exact .inr ⟨e1, e2⟩
    | _ => cases hf
end

/-! ### subscripts -/
def pIx : PV → PV → Option PV
  | .lst xs, .int i => atI xs i
  | .tup xs, .int i => atI xs i
  | .scr ns, .int i => (atI ns i).map PV.int
  | .str z, .int i => if z.length ≤ 1000000 then (atI z.cps.toList i).map fun c => .str ⟨#[c]⟩ else none
  | .dic t ks vs, k => if keyFit t k then dGet ks vs k else none
  | _, _ => none
def eIx (a b : FE) : FE := fun env S => (a env S).bind fun x => (b env x.2).bind fun y => match x.1 with
  | .obj n => (ofO ((y.2[n]?).bind fun xs => pIx (.lst xs) y.1)).bind fun z => .ok (z, y.2)
  | v => (ofO (pIx v y.1)).bind fun z => .ok (z, y.2)
section
variable {K : PySem.W.Frag} {ct : Ct} {H : Hp} {A M : List Addr}
theorem atI_rep {xs : List PV} {vs : List V} {i : Int} {v : PV} (r : RepL K ct H A M xs vs) (h : atI xs i = some v) : ∃ x, atI vs i = some x ∧ Rep K ct H A M v x := by
  unfold atI at h ⊢
  rw [r.length]
  obtain ⟨j, e1, e2⟩ := Option.bind_eq_some_iff.mp h
  obtain ⟨x, e3, rx⟩ := r.get e2
  exact ⟨x, by rw [e1]; exact e3, rx⟩
theorem atI_map {α β : Type} {f : α → β} {xs : List α} {i : Int} {v : α} (h : atI xs i = some v) : atI (xs.map f) i = some (f v) := by
  unfold atI at h ⊢
  rw [List.length_map]
  obtain ⟨j, e1, e2⟩ := Option.bind_eq_some_iff.mp h
  rw [e1]
  show (xs.map f)[j]? = some (f v)
  rw [List.getElem?_map, e2]; rfl
end
section
variable {ct : Ct} {X : Cx} {a b : Expr} {fa fb : FE} {pos : Pos}
theorem je_ix {k : Nat} (hr : Room k X.A) (ha : JB ct X a fa) (hb : JE ct X b fb) (hs : PlainIx b := by exact fun _ _ => rfl) : JE ct X (.Subscript a b pos) (eIx fa fb) := by
  refine ⟨((pe_ix ix_seq ha.pe hb.pe hs).or (pe_dget (hu_of hr) ha.pe hb.pe hs)).imp fun σ H Q h => ?_⟩
  obtain ⟨G, env, S, v, S', g, h1, q⟩ := h
  obtain ⟨⟨x, S1⟩, e1, h1⟩ := Res.bind_ok h1
  obtain ⟨⟨y, S2⟩, e2, h1⟩ := Res.bind_ok h1
  -- the two operands
  have two : ∀ (R : V → V → Hp → Prop), (∀ x' y' H2 A2, Post G.A H A2 H2 → StoOk X.K ct H2 A2 G.M S2 → RepB X.K ct H2 A2 G.M x x' → Rep X.K ct H2 A2 G.M y y' → R x' y' H2) →
      rdB X.K ct fa σ H fun x' H1 => rd X.K ct fb σ H1 fun y' H2 => R x' y' H2 := fun R hR =>
    ⟨G, env, S, x, S1, g, e1, fun x' H1 A1 p1 s1 r1 => ⟨{ G with A := A1 }, env, S1, y, S2, g.post p1 s1, e2, fun y' H2 A2 p2 s2 r2 => hR x' y' H2 A2 (p1.trans p2) s2 (r1.lat p2 (g.post p1 s1).bs.disj) r2⟩⟩
  cases x with
  | obj n =>
    obtain ⟨z, e3, h1⟩ := Res.bind_ok h1
    cases h1
    obtain ⟨xs, e4, e5⟩ := Option.bind_eq_some_iff.mp (ofO_ok e3)
    refine .inl (two _ fun x' y' H2 A2 p s rx ry => ?_)
    cases y with
    | int i =>
      rcases rx with rx | ⟨_, _, _, c⟩
      · simp only [Rep] at rx
        obtain ⟨ad, rfl, hA⟩ := rx
        obtain ⟨vs, k1, k2⟩ := s.at' n ad xs hA e4
        obtain ⟨w, k3, k4⟩ := atI_rep k2 e5
        exact .inl ⟨ad, vs, i, w, rfl, Rep.int_iff.mp ry, .inl (.inl k1), k3, q w H2 A2 p s k4⟩
      · exact False.elim c
    | _ => cases e5
  | lst xs =>
    obtain ⟨z, e3, h1⟩ := Res.bind_ok h1
    cases h1
    refine .inl (two _ fun x' y' H2 A2 p s rx ry => ?_)
    cases y with
    | int i =>
      obtain ⟨ad, vs, rfl, k1, k2⟩ := rx.lst
      obtain ⟨w, k3, k4⟩ := atI_rep k2 (ofO_ok e3)
      exact .inl ⟨ad, vs, i, w, rfl, Rep.int_iff.mp ry, .inl (.inl k1), k3, q w H2 A2 p s k4⟩
    | _ => cases e3
  | tup xs =>
    obtain ⟨z, e3, h1⟩ := Res.bind_ok h1
    cases h1
    refine .inl (two _ fun x' y' H2 A2 p s rx ry => ?_)
    cases y with
    | int i =>
      obtain ⟨ad, vs, rfl, k1, k2⟩ := rx.tup
      obtain ⟨w, k3, k4⟩ := atI_rep k2 (ofO_ok e3)
      exact .inr (.inl ⟨ad, vs, i, w, rfl, Rep.int_iff.mp ry, k1.sqT, k3, q w H2 A2 p s k4⟩)
    | _ => cases e3
  | scr ns =>
    obtain ⟨z, e3, h1⟩ := Res.bind_ok h1
    cases h1
    refine .inl (two _ fun x' y' H2 A2 p s rx ry => ?_)
    cases y with
    | int i =>
      rcases rx with rx | ⟨_, _, _, c⟩
      · obtain ⟨ad, rfl, k1, _⟩ := rx.scr_inv
        obtain ⟨j, e4, rfl⟩ := Option.map_eq_some_iff.mp (ofO_ok e3)
        exact .inl ⟨ad, _, i, _, rfl, Rep.int_iff.mp ry, k1, atI_map e4, q _ H2 A2 p s (Rep.int_iff.mpr rfl)⟩
      · exact False.elim c
    | _ => cases e3
  | str z0 =>
    obtain ⟨z, e3, h1⟩ := Res.bind_ok h1
    cases h1
    refine .inl (two _ fun x' y' H2 A2 p s rx ry => ?_)
    cases y with
    | int i =>
      have e4 := ofO_ok e3
      unfold pIx at e4
      dsimp only at e4
      split at e4
      · rename_i hz
        obtain ⟨c, e5, rfl⟩ := Option.map_eq_some_iff.mp e4
        exact .inr (.inr ⟨z0, i, c, rx.str, Rep.int_iff.mp ry, sz_mil hz, e5, q _ H2 A2 p s (Rep.str_iff.mpr rfl)⟩)
      · cases e4
    | _ => cases e3
  | dic t ks vs =>
    obtain ⟨z, e3, h1⟩ := Res.bind_ok h1
    cases h1
    refine .inr (two _ fun x' y' H2 A2 p s rx ry => ?_)
    have e4 := ofO_ok e3
    unfold pIx at e4
    dsimp only at e4
    split at e4
    · rename_i hf
      obtain ⟨ad, o, rfl, dg, c⟩ := dict_get rx ry hf
      rcases c with ⟨v', z', c1, rfl, c3⟩ | ⟨c1, _⟩
      · rw [e4] at c1; cases c1
        exact ⟨ad, z', rfl, dg, q z' H2 A2 p s c3⟩
      · rw [e4] at c1; cases c1
    · cases e4
  | non => obtain ⟨z, e3, h1⟩ := Res.bind_ok h1; cases e3
  | bl _ => obtain ⟨z, e3, h1⟩ := Res.bind_ok h1; cases e3
  | int _ => obtain ⟨z, e3, h1⟩ := Res.bind_ok h1; cases e3
  | ins _ _ => obtain ⟨z, e3, h1⟩ := Res.bind_ok h1; cases e3
end
/-! ### slices -/
def cutP {α : Type} (xs : List α) (lo hi : Option Int) : List α := (xs.drop (HT.sIx xs.length 0 lo)).take (HT.sIx xs.length xs.length hi - HT.sIx xs.length 0 lo)
def pSl (v : PV) (lo hi : Option Int) : Option PV := match v with
  | .lst xs => some (.lst (cutP xs lo hi))
  | .tup xs => some (.tup (cutP xs lo hi))
  | .scr ns => some (.lst ((cutP ns lo hi).map PV.int))
  | .str z => if z.length ≤ 1000000 then some (.str (cutS z lo hi)) else none
  | _ => none
abbrev FO := Env → Sto → Res (Option Int × Sto)
def oNo : FO := fun _ S => .ok (none, S)
def oSo (a : FE) : FO := fun env S => (a env S).bind fun x => match x.1 with
  | .int i => .ok (some i, x.2)
  | _ => .err
def eSl (a : FE) (l h : FO) : FE := fun env S => (a env S).bind fun x => (l env x.2).bind fun y => (h env y.2).bind fun z => (ofO (pSl x.1 y.1 z.1)).bind fun r => .ok (r, z.2)
section
variable (K : PySem.W.Frag) (ct : Ct)
def rdO (f : FO) : TO := fun σ H Q => ∃ G env S v S', Good K ct G σ H env S ∧ f env S = .ok (v, S') ∧ ∀ H' A', Post G.A H A' H' → StoOk K ct H' A' G.M S' → Q v H'
end
structure JO (ct : Ct) (X : Cx) (e : Option Expr) (f : FO) : Prop where
  po : PO X e (rdO X.K ct f)
theorem _root_.L2.PO.imp {X : Cx} {e : Option Expr} {t t' : TO} (h : PO X e t) (i : ∀ σ H Q, t' σ H Q → t σ H Q) : PO X e t' := ⟨fun pins s σ H Q I q => h.run pins s σ H Q I (i σ H Q q)⟩
section
variable {ct : Ct} {X : Cx} {a b : Expr} {fa fb : FE} {pos : Pos} {lo hi : Option Expr} {fl fh : FO} {p2 : Pos}
theorem jo_none : JO ct X none oNo := ⟨po_none.imp fun σ H Q h => by
  obtain ⟨G, env, S, v, S', g, h1, q⟩ := h
  cases h1
  exact q H G.A (Post.refl H g.bs.nodup) g.bs.sto⟩
theorem jo_some (ha : JE ct X a fa) : JO ct X (some a) (oSo fa) := ⟨(po_some ha.pe).imp fun σ H Q h => by
  obtain ⟨G, env, S, v, S', g, h1, q⟩ := h
  obtain ⟨⟨x, S1⟩, e1, h1⟩ := Res.bind_ok h1
  refine ⟨G, env, S, x, S1, g, e1, fun x' H1 A1 p1 s1 r1 => ?_⟩
  cases x with
  | int i => cases h1; exact ⟨i, Rep.int_iff.mp r1, q H1 A1 p1 s1⟩
  | _ => cases h1⟩
theorem cutP_rep {K : PySem.W.Frag} {H : Hp} {A M : List Addr} {xs : List PV} {vs : List V} {lo hi : Option Int} (r : RepL K ct H A M xs vs) : RepL K ct H A M (cutP xs lo hi) (cutV vs lo hi) := by
  unfold cutP cutV
  rw [r.length]
  exact (r.drop _).take _
theorem cutV_map {α : Type} {f : α → V} {xs : List α} {lo hi : Option Int} : cutV (xs.map f) lo hi = (cutP xs lo hi).map f := by
  unfold cutP cutV
  rw [List.length_map, List.map_take, List.map_drop]
theorem je_sl (ha : JB ct X a fa) (hl : JO ct X lo fl) (hh : JO ct X hi fh) : JE ct X (.Subscript a (.Slice lo hi none p2) pos) (eSl fa fl fh) := by
  refine ⟨(pe_slice (sl_list.or (sl_tupA.or sl_str)) ha.pe hl.po hh.po).imp fun σ H Q h => ?_⟩
  obtain ⟨G, env, S, v, S', g, h1, q⟩ := h
  obtain ⟨⟨x, S1⟩, e1, h1⟩ := Res.bind_ok h1
  obtain ⟨⟨y, S2⟩, e2, h1⟩ := Res.bind_ok h1
  obtain ⟨⟨z, S3⟩, e3, h1⟩ := Res.bind_ok h1
  obtain ⟨r, e4, h1⟩ := Res.bind_ok h1
  cases h1
  refine ⟨G, env, S, x, S1, g, e1, fun x' H1 A1 p1 s1 r1 => ⟨{ G with A := A1 }, env, S1, y, S2, g.post p1 s1, e2, fun H2 A2 p2 s2 => ⟨{ G with A := A2 }, env, S2, z, _, (g.post p1 s1).post p2 s2, e3, fun H3 A3 p3 s3 => ?_⟩⟩⟩
  have g3 := ((g.post p1 s1).post p2 s2).post p3 s3
  have rx := (r1.lat p2 (g.post p1 s1).bs.disj).lat p3 ((g.post p1 s1).post p2 s2).bs.disj
  have pp := (p1.trans p2).trans p3
  have fin : ∀ (w : V) (H4 : Hp), Same H3 H4 → Rep X.K ct H4 A3 G.M v w → Q w H4 := fun w H4 sm rw' => q w H4 A3 (pp.trans (Post.grow g3.bs.nodup sm)) (s3.grow g3.bs.nodup sm) rw'
  have e5 := ofO_ok e4
  cases x with
  | lst xs =>
    cases e5
    obtain ⟨ad, vs, rfl, k1, k2⟩ := rx.lst
    refine .inl ⟨ad, vs, rfl, .inl (.inl k1), fun p np => ?_⟩
    obtain ⟨k3, k4⟩ := g3.hx.new_lst (cutP_rep (lo := y) (hi := z) k2) np
    exact fin _ _ k3 k4
  | tup xs =>
    cases e5
    obtain ⟨ad, vs, rfl, k1, k2⟩ := rx.tup
    refine .inr (.inl ⟨ad, vs, rfl, k1.sqT, fun hc => ?_, fun _ p np => ?_⟩)
    · refine fin _ H3 (Same.refl H3) ?_
      have hl := k2.length
      have : cutP xs y z = xs := by
        unfold cutP
        rw [← hl, hc.1, hc.2, List.drop_zero, Nat.sub_zero]
        exact List.take_of_length_le (by omega)
      rw [this]
      simp only [Rep]
      exact ⟨ad, vs, rfl, k1, k2⟩
    · obtain ⟨k3, k4⟩ := g3.hx.new_tup (cutP_rep (lo := y) (hi := z) k2) np
      exact fin _ _ k3 k4
  | scr ns =>
    cases e5
    rcases rx with rx | ⟨_, _, _, c⟩
    · obtain ⟨ad, rfl, k1, _⟩ := rx.scr_inv
      refine .inl ⟨ad, _, rfl, k1, fun p np => ?_⟩
      rw [cutV_map]
      obtain ⟨k3, k4⟩ := g3.hx.new_lst (RepL.of_ints (cutP ns y z)) np
      exact fin _ _ k3 k4
    · exact False.elim c
  | str z0 =>
    unfold pSl at e5
    dsimp only at e5
    split at e5
    · rename_i hz
      cases e5
      exact .inr (.inr ⟨z0, rx.str, sz_mil hz, fin _ H3 (Same.refl H3) (Rep.str_iff.mpr rfl)⟩)
    · cases e5
  | _ => cases e5
/-- xs[::-1] of a list -/
def pRev : PV → Option PV
  | .lst xs => some (.lst xs.reverse)
  | _ => none
theorem je_revL {k : Nat} {q1 q2 q3 : Pos} (ha : JB ct X a fa) : JE ct X (.Subscript a (.Slice none none (some (.UnaryOp .USub (.Constant (.int 1) k q1) q2)) q3) pos) (eUn pRev fa) := by
  refine ⟨(pe_revL ha.pe).imp fun σ H Q h => ?_⟩
  obtain ⟨G, env, S, v, S', g, h1, q⟩ := h
  obtain ⟨⟨x, S1⟩, e1, h1⟩ := Res.bind_ok h1
  obtain ⟨z, e3, h1⟩ := Res.bind_ok h1
  cases h1
  refine ⟨G, env, S, x, _, g, e1, fun x' H1 A1 p1 s1 r1 => ?_⟩
  have g1 := g.post p1 s1
  have e4 := ofO_ok e3
  cases x with
  | lst xs =>
    cases e4
    obtain ⟨ad, vs, rfl, k1, k2⟩ := r1.lst
    refine ⟨ad, vs, rfl, .inl (.inl k1), fun p np => ?_⟩
    obtain ⟨k3, k4⟩ := g1.hx.new_lst k2.reverse np
    exact q _ _ A1 (p1.trans (Post.grow g1.bs.nodup k3)) (s1.grow g1.bs.nodup k3) k4
  | _ => cases e4
end
end J
set_option Elab.async false
set_option linter.all false
set_option maxRecDepth 100000
/-! J: built-in functions. -/
namespace J
open PySem L2

/-! ### lengths of argument lists -/
def AL (n : Nat) (f : FA) : Prop := ∀ env S xs S', f env S = .ok (xs, S') → xs.length = n
theorem al_nil : AL 0 aNil := fun _ _ _ _ h => by cases h; rfl
theorem al_cons {n : Nat} {a : FE} {r : FA} (h : AL n r) : AL (n + 1) (aCons a r) := fun env S xs S' e => by
  obtain ⟨⟨x, S1⟩, e1, e⟩ := Res.bind_ok e
  obtain ⟨⟨y, S2⟩, e2, e⟩ := Res.bind_ok e
  cases e
  exact congrArg Nat.succ (h _ _ _ _ e2)

/-! ### len -/
def pLen : PV → Option PV
  | .lst xs => some (.int xs.length)
  | .tup xs => some (.int xs.length)
  | .scr xs => some (.int xs.length)
  | .str z => if z.length ≤ 1000000 then some (.int z.length) else none
  | _ => none
section
variable {ct : Ct} {X : Cx} {a b : Expr} {fa fb : FE} {pos p : Pos}
theorem rd_un {K : PySem.W.Frag} {op : PV → Option PV} {r : List V → Hp → VK → Prop} (ho : ∀ (H : Hp) (A M : List Addr) (x : V) (vx v : PV) (Q : VK), Hx A M H → RepB K ct H A M vx x → op vx = some v → (∀ z H', Same H H' → Rep K ct H' A M v z → Q z H') → r [x] H Q)
    {σ : St} {H : Hp} {Q : VK} (h : rd K ct (eUn op fa) σ H Q) : tCB r (tCons (rdB K ct fa) tNil) σ H Q := by
  obtain ⟨G, env, S, v, S', g, h1, q⟩ := h
  obtain ⟨⟨x, S1⟩, e1, h1⟩ := Res.bind_ok h1
  obtain ⟨z, e3, h1⟩ := Res.bind_ok h1
  cases h1
  refine ⟨G, env, S, x, _, g, e1, fun x' H1 A1 p1 s1 r1 => ?_⟩
  have g1 := g.post p1 s1
  exact ho H1 A1 G.M x' x v Q g1.hx r1 (ofO_ok e3) fun z H' sm rz => q z H' A1 (p1.trans (Post.grow g1.bs.nodup sm)) (s1.grow g1.bs.nodup sm) rz
theorem je_len (hm : X.mg "len" = none) (ha : JB ct X a fa) (hg : Gl X "len" := by rfl) (he : starEach [a] X.env = (false, eval a X.env) :: starEach [] X.env := by rfl) : JE ct X (.Call (.Name "len" p) [a] [] pos) (eUn pLen fa) := by
  refine ⟨(pe_callB call_len hg hm PySem.boot_len (pa_cons ha.pe pa_nil he) (by decide) (by decide) he rfl).imp fun σ H Q h => rd_un (fun H A M x vx v Q hx r e q => ?_) h⟩
  cases vx with
  | lst xs =>
    cases e
    obtain ⟨ad, vs, rfl, k1, k2⟩ := r.lst
    refine ⟨_, vs.length, rfl, .inl ⟨vs, .inl (.inl k1), rfl⟩, ?_⟩
    rw [k2.length]
    exact q _ H (Same.refl H) (Rep.int_iff.mpr rfl)
  | tup xs =>
    cases e
    obtain ⟨ad, vs, rfl, k1, k2⟩ := r.tup
    refine ⟨_, vs.length, rfl, .inr ⟨vs, k1.sqT, rfl⟩, ?_⟩
    rw [k2.length]
    exact q _ H (Same.refl H) (Rep.int_iff.mpr rfl)
  | scr ns =>
    cases e
    rcases r with r | ⟨_, _, _, c⟩
    · obtain ⟨ad, rfl, k1, _⟩ := r.scr_inv
      refine ⟨_, (ns.map V.int).length, rfl, .inl ⟨_, k1, rfl⟩, ?_⟩
      rw [List.length_map]
      exact q _ H (Same.refl H) (Rep.int_iff.mpr rfl)
    · exact False.elim c
  | str z =>
    unfold pLen at e
    dsimp only at e
    split at e
    · rename_i hz
      cases e
      have ex := r.str
      subst ex
      exact ⟨_, z.length, rfl, ⟨sz_mil hz, rfl⟩, q _ H (Same.refl H) (Rep.int_iff.mpr rfl)⟩
    · cases e
  | _ => cases e
/-! ### isinstance of a built-in type -/
def tyP : PV → Option String
  | .non => some "NoneType"
  | .bl _ => some "bool"
  | .int _ => some "int"
  | .str _ => some "str"
  | .tup _ => some "tuple"
  | .lst _ => some "list"
  | _ => none
def pIsT (T : String) (v : PV) : Option PV := (tyP v).bind fun s => (kitB s T).map PV.bl
theorem je_isT {T : Str} {U : String} {p1 : Pos} (hm : X.mg "isinstance" = none) (ht : X.mg T = none) (ha : JE ct X a fa) (hv : bootBuiltins T = some (.type U) := by decide +kernel) (hg : Gl X "isinstance" := by rfl) (hgT : Gl X T := by rfl) (hn : T ≠ "__name__" := by decide) (hd : (T == ("__debug__" : Str)) = false := by decide)
    (he : starEach [a, .Name T p1] X.env = (false, eval a X.env) :: starEach [.Name T p1] X.env := by rfl) (he2 : starEach [.Name T p1] X.env = (false, eval (.Name T p1) X.env) :: starEach [] X.env := by rfl) (hpl : (backTo pos (starEach [.Name T p1] X.env)).any (·.1) = false := by rfl) :
    JE ct X (.Call (.Name "isinstance" p) [a, .Name T p1] [] pos) (eUn (pIsT U) fa) := by
  refine ⟨(pe_callB call_isi hg hm (by decide +kernel) (pa_cons ha.pe (pa_cons (pe_bltn (v := .ty U) hgT ht hv rfl hn hd) pa_nil he2) he) (by decide) (by decide) he hpl).imp fun σ H Q h => ?_⟩
  obtain ⟨G, env, S, v, S', g, h1, q⟩ := h
  obtain ⟨⟨x, S1⟩, e1, h1⟩ := Res.bind_ok h1
  obtain ⟨z, e3, h1⟩ := Res.bind_ok h1
  cases h1
  refine ⟨G, env, S, x, _, g, e1, fun x' H1 A1 p1 s1 r1 => ?_⟩
  obtain ⟨ty, e4, e5⟩ := Option.bind_eq_some_iff.mp (ofO_ok e3)
  obtain ⟨bb, e6, rfl⟩ := Option.map_eq_some_iff.mp e5
  refine ⟨x', .ty U, .type ty, .type U, bb, rfl, .ty U, ?_, kit_ty e6, q _ H1 A1 p1 s1 (Rep.bl_iff.mpr rfl)⟩
  cases x with
  | non => cases e4; rw [Rep.non_iff.mp r1]; exact .base .non
  | bl i => cases e4; rw [Rep.bl_iff.mp r1]; exact .base (.bl i)
  | int i => cases e4; rw [Rep.int_iff.mp r1]; exact .base (.int i)
  | str i => cases e4; rw [Rep.str_iff.mp r1]; exact .base (.str i)
  | tup xs =>
    cases e4
    obtain ⟨ad, vs, rfl, k1, _⟩ := r1.tup_inv
    exact .base (.tup k1.1)
  | lst xs =>
    cases e4
    obtain ⟨ad, vs, rfl, k1, _⟩ := r1.lst_inv
    exact .base (.lst k1.1)
  | _ => cases e4
end
/-! ### lists of intsP and bools -/
def intsP : List PV → Option (List Int)
  | [] => some []
  | .int i :: r => (intsP r).map (i :: ·)
  | _ => none
def bls : List PV → Option (List Bool)
  | [] => some []
  | .bl i :: r => (bls r).map (i :: ·)
  | _ => none
theorem intsP_eq : ∀ {ps : List PV} {ns : List Int}, intsP ps = some ns → ps = ns.map PV.int
  | [], ns, h => by cases h; rfl
  | .int i :: r, ns, h => by
    simp only [intsP] at h
    obtain ⟨l, e, rfl⟩ := Option.map_eq_some_iff.mp h
    rw [intsP_eq e]; rfl
  | .non :: _, _, h => by cases h
  | .bl _ :: _, _, h => by cases h
  | .str _ :: _, _, h => by cases h
  | .tup _ :: _, _, h => by cases h
  | .lst _ :: _, _, h => by cases h
  | .dic _ _ _ :: _, _, h => by cases h
  | .ins _ _ :: _, _, h => by cases h
  | .obj _ :: _, _, h => by cases h
  | .scr _ :: _, _, h => by cases h
theorem bls_eq : ∀ {ps : List PV} {ns : List Bool}, bls ps = some ns → ps = ns.map PV.bl
  | [], ns, h => by cases h; rfl
  | .bl i :: r, ns, h => by
    simp only [bls] at h
    obtain ⟨l, e, rfl⟩ := Option.map_eq_some_iff.mp h
    rw [bls_eq e]; rfl
  | .non :: _, _, h => by cases h
  | .int _ :: _, _, h => by cases h
  | .str _ :: _, _, h => by cases h
  | .tup _ :: _, _, h => by cases h
  | .lst _ :: _, _, h => by cases h
  | .dic _ _ _ :: _, _, h => by cases h
  | .ins _ _ :: _, _, h => by cases h
  | .obj _ :: _, _, h => by cases h
  | .scr _ :: _, _, h => by cases h
def pSum : PV → Option PV
  | .lst xs => (intsP xs).map fun ns => .int ns.sum
  | .tup xs => (intsP xs).map fun ns => .int ns.sum
  | _ => none
def pAll : PV → Option PV
  | .lst xs => (bls xs).map fun bs => .bl (bs.all id)
  | _ => none
def pAny : PV → Option PV
  | .lst xs => (bls xs).map fun bs => .bl (bs.any id)
  | _ => none
def maxI : List Int → Int
  | [] => 0
  | [x] => x
  | x :: r => max x (maxI r)
def minI : List Int → Int
  | [] => 0
  | [x] => x
  | x :: r => min x (minI r)
def pMaxL : PV → Option PV
  | .lst xs => (intsP xs).bind fun ns => if ns = [] then none else some (.int (maxI ns))
  | _ => none
def pMinL : PV → Option PV
  | .lst xs => (intsP xs).bind fun ns => if ns = [] then none else some (.int (minI ns))
  | _ => none
theorem maxI_spec : ∀ {ns : List Int}, ns ≠ [] → maxI ns ∈ ns ∧ ∀ y ∈ ns, y ≤ maxI ns
  | [], h => absurd rfl h
  | [x], _ => by simp [maxI]
  | x :: y :: r, _ => by
    obtain ⟨h1, h2⟩ := maxI_spec (ns := y :: r) (by simp)
    simp only [maxI]
    constructor
    · by_cases h : x ≤ maxI (y :: r)
      · rw [Int.max_eq_right h]; exact List.mem_cons_of_mem _ h1
      · rw [Int.max_eq_left (by omega)]; exact List.mem_cons_self
    · intro z hzZ
      rcases List.mem_cons.mp hzZ with e | hzZ
      · subst e; omega
      · have := h2 z hzZ; omega
theorem minI_spec : ∀ {ns : List Int}, ns ≠ [] → minI ns ∈ ns ∧ ∀ y ∈ ns, minI ns ≤ y
  | [], h => absurd rfl h
  | [x], _ => by simp [minI]
  | x :: y :: r, _ => by
    obtain ⟨h1, h2⟩ := minI_spec (ns := y :: r) (by simp)
    simp only [minI]
    constructor
    · by_cases h : x ≤ minI (y :: r)
      · rw [Int.min_eq_left h]; exact List.mem_cons_self
      · rw [Int.min_eq_right (by omega)]; exact List.mem_cons_of_mem _ h1
    · intro z hzZ
      rcases List.mem_cons.mp hzZ with e | hzZ
      · subst e; omega
      · have := h2 z hzZ; omega
/-- sum(t) of a tuple of intsP -/
def rSumT (K : PySem.W.Frag) : List V → Hp → VK → Prop := fun vs H Q => ∃ (a : Addr) (ns : List Int), vs = [V.ref a] ∧ SqT K H a (ns.map V.int) ∧ Q (.int ns.sum) H
theorem cr_sumT {X : Cx} (hc : X.calm = true) : CallR X (.builtin "sum") (rSumT X.K) := by
  intro pinsZ s σ H vs us Q I r h
  obtain ⟨aZ, ns, rfl, hs, q⟩ := h
  obtain ⟨its, rv, hl, _⟩ := I.tuple hs
  rw [Vals.ref1 r]
  have hi := rv.ints
  obtain ⟨xsZ, e⟩ := hi.allInts.items
  have hnZ : numsOf (intItems xsZ).toList = ns := by rw [← e]; exact hi.numsOf
  rw [nums_intItems] at hnZ
  rw [e] at hl
  refine PySem.W.ktm_sumG (I.ok.hd hc) hl fun h' tk t' hk => ?_
  refine ⟨.int ns.sum, H, I.kept hk, ⟨t', ?_⟩, q⟩
  rw [preSum_eq, List.take_of_length_le (by simp), hnZ]
section
variable {ct : Ct} {X : Cx} {a b : Expr} {fa fb : FE} {pos p : Pos}
theorem je_sum (hm : X.mg "sum" = none) (ha : JB ct X a fa) (hc : X.calm = true := by rfl) (hg : Gl X "sum" := by rfl) (he : starEach [a] X.env = (false, eval a X.env) :: starEach [] X.env := by rfl) : JE ct X (.Call (.Name "sum" p) [a] [] pos) (eUn pSum fa) := by
  refine ⟨(pe_callB ((cr_sum hc).or (cr_sumT hc)) hg hm (by decide +kernel) (pa_cons ha.pe pa_nil he) (by decide) (by decide) he rfl).imp fun σ H Q h => rd_un (fun H A M x vx v Q hx r e q => ?_) h⟩
  cases vx with
  | lst xs =>
    obtain ⟨ns, e1, rfl⟩ := Option.map_eq_some_iff.mp e
    have ex := intsP_eq e1
    subst ex
    obtain ⟨ad, vs, rfl, k1, k2⟩ := r.lst
    have ev := k2.ints
    subst ev
    exact .inl ⟨ad, ns, rfl, .inl (.inl k1), q _ H (Same.refl H) (Rep.int_iff.mpr rfl)⟩
  | tup xs =>
    obtain ⟨ns, e1, rfl⟩ := Option.map_eq_some_iff.mp e
    have ex := intsP_eq e1
    subst ex
    obtain ⟨ad, vs, rfl, k1, k2⟩ := r.tup
    have ev := k2.ints
    subst ev
    exact .inr ⟨ad, ns, rfl, k1.sqT, q _ H (Same.refl H) (Rep.int_iff.mpr rfl)⟩
  | _ => cases e
theorem je_all (hm : X.mg "all" = none) (ha : JB ct X a fa) (hc : X.calm = true := by rfl) (hg : Gl X "all" := by rfl) (he : starEach [a] X.env = (false, eval a X.env) :: starEach [] X.env := by rfl) : JE ct X (.Call (.Name "all" p) [a] [] pos) (eUn pAll fa) := by
  refine ⟨(pe_callB (cr_all hc) hg hm (by decide +kernel) (pa_cons ha.pe pa_nil he) (by decide) (by decide) he rfl).imp fun σ H Q h => rd_un (fun H A M x vx v Q hx r e q => ?_) h⟩
  cases vx with
  | lst xs =>
    obtain ⟨ns, e1, rfl⟩ := Option.map_eq_some_iff.mp e
    have ex := bls_eq e1
    subst ex
    obtain ⟨ad, vs, rfl, k1, k2⟩ := r.lst
    have ev := k2.bls
    subst ev
    exact ⟨ad, ns, rfl, .inl (.inl k1), q _ H (Same.refl H) (Rep.bl_iff.mpr rfl)⟩
  | _ => cases e
theorem je_any (hm : X.mg "any" = none) (ha : JB ct X a fa) (hc : X.calm = true := by rfl) (hg : Gl X "any" := by rfl) (he : starEach [a] X.env = (false, eval a X.env) :: starEach [] X.env := by rfl) : JE ct X (.Call (.Name "any" p) [a] [] pos) (eUn pAny fa) := by
  refine ⟨(pe_callB (cr_any hc) hg hm (by decide +kernel) (pa_cons ha.pe pa_nil he) (by decide) (by decide) he rfl).imp fun σ H Q h => rd_un (fun H A M x vx v Q hx r e q => ?_) h⟩
  cases vx with
  | lst xs =>
    obtain ⟨ns, e1, rfl⟩ := Option.map_eq_some_iff.mp e
    have ex := bls_eq e1
    subst ex
    obtain ⟨ad, vs, rfl, k1, k2⟩ := r.lst
    have ev := k2.bls
    subst ev
    exact ⟨ad, ns, rfl, .inl (.inl k1), q _ H (Same.refl H) (Rep.bl_iff.mpr rfl)⟩
  | _ => cases e
theorem je_maxL (hm : X.mg "max" = none) (ha : JB ct X a fa) (hc : X.calm = true := by rfl) (hg : Gl X "max" := by rfl) (he : starEach [a] X.env = (false, eval a X.env) :: starEach [] X.env := by rfl) : JE ct X (.Call (.Name "max" p) [a] [] pos) (eUn pMaxL fa) := by
  refine ⟨(pe_callB (cr_max hc) hg hm (by decide +kernel) (pa_cons ha.pe pa_nil he) (by decide) (by decide) he rfl).imp fun σ H Q h => rd_un (fun H A M x vx v Q hx r e q => ?_) h⟩
  cases vx with
  | lst xs =>
    obtain ⟨ns, e1, e2⟩ := Option.bind_eq_some_iff.mp e
    have ex := intsP_eq e1
    subst ex
    obtain ⟨ad, vs, rfl, k1, k2⟩ := r.lst
    have ev := k2.ints
    subst ev
    split at e2
    · cases e2
    · rename_i hne
      cases e2
      obtain ⟨m1, m2⟩ := maxI_spec hne
      refine ⟨ad, ns, rfl, .inl (.inl k1), List.length_pos_iff.mpr hne, fun m h1 h2 => ?_⟩
      have : m = maxI ns := Int.le_antisymm (m2 m h1) (h2 _ m1)
      subst this
      exact q _ H (Same.refl H) (Rep.int_iff.mpr rfl)
  | _ => cases e
theorem je_minL (hm : X.mg "min" = none) (ha : JB ct X a fa) (hc : X.calm = true := by rfl) (hg : Gl X "min" := by rfl) (he : starEach [a] X.env = (false, eval a X.env) :: starEach [] X.env := by rfl) : JE ct X (.Call (.Name "min" p) [a] [] pos) (eUn pMinL fa) := by
  refine ⟨(pe_callB (cr_min hc) hg hm (by decide +kernel) (pa_cons ha.pe pa_nil he) (by decide) (by decide) he rfl).imp fun σ H Q h => rd_un (fun H A M x vx v Q hx r e q => ?_) h⟩
  cases vx with
  | lst xs =>
    obtain ⟨ns, e1, e2⟩ := Option.bind_eq_some_iff.mp e
    have ex := intsP_eq e1
    subst ex
    obtain ⟨ad, vs, rfl, k1, k2⟩ := r.lst
    have ev := k2.ints
    subst ev
    split at e2
    · cases e2
    · rename_i hne
      cases e2
      obtain ⟨m1, m2⟩ := minI_spec hne
      refine ⟨ad, ns, rfl, .inl (.inl k1), List.length_pos_iff.mpr hne, fun m h1 h2 => ?_⟩
      have : m = minI ns := Int.le_antisymm (h2 _ m1) (m2 m h1)
      subst this
      exact q _ H (Same.refl H) (Rep.int_iff.mpr rfl)
  | _ => cases e
/-! ### tuple(..), list(..), abs, int -/
def pTupC : PV → Option PV
  | .lst xs => some (.tup xs)
  | .tup xs => some (.tup xs)
  | _ => none
theorem je_tuple (hm : X.mg "tuple" = none) (ha : JB ct X a fa) (hg : Gl X "tuple" := by rfl) (he : starEach [a] X.env = (false, eval a X.env) :: starEach [] X.env := by rfl) : JE ct X (.Call (.Name "tuple" p) [a] [] pos) (eUn pTupC fa) := by
  refine ⟨(pe_callTy call_tuple_of hg hm (by decide +kernel) (pa_cons ha.pe pa_nil he) (by decide) (by decide) he rfl).imp fun σ H Q h => rd_un (fun H A M x vx v Q hx r e q => ?_) h⟩
  cases vx with
  | lst xs =>
    cases e
    obtain ⟨ad, vs, rfl, k1, k2⟩ := r.lst
    refine ⟨ad, vs, rfl, .inl ⟨.inl (.inl k1), fun l nl => ?_⟩⟩
    obtain ⟨k3, k4⟩ := hx.new_tup k2 nl
    exact q _ _ k3 k4
  | tup xs =>
    cases e
    obtain ⟨ad, vs, rfl, k1, k2⟩ := r.tup
    refine ⟨ad, vs, rfl, .inr ⟨k1.sqT, q _ H (Same.refl H) ?_⟩⟩
    simp only [Rep]
    exact ⟨ad, vs, rfl, k1, k2⟩
  | _ => cases e
def pLstC : PV → Option PV
  | .lst xs => some (.lst xs)
  | .tup xs => some (.lst xs)
  | .scr ns => some (.lst (ns.map PV.int))
  | _ => none
theorem jf_list (hm : X.mg "list" = none) (ha : JB ct X a fa) (hg : Gl X "list" := by rfl) (he : starEach [a] X.env = (false, eval a X.env) :: starEach [] X.env := by rfl) : JF ct X (.Call (.Name "list" p) [a] [] pos) (eUn pLstC fa) := by
  refine ⟨(pe_callTy call_list_of hg hm (by decide +kernel) (pa_cons ha.pe pa_nil he) (by decide) (by decide) he rfl).imp fun σ H Q h => ?_⟩
  obtain ⟨G, env, S, v, S', g, h1, q⟩ := h
  obtain ⟨⟨x, S1⟩, e1, h1⟩ := Res.bind_ok h1
  obtain ⟨z, e3, h1⟩ := Res.bind_ok h1
  cases h1
  refine ⟨G, env, S, x, _, g, e1, fun x' H1 A1 p1 s1 r1 => ?_⟩
  have e4 := ofO_ok e3
  have fin : ∀ {ys : List PV} {us : List V}, v = .lst ys → RepL X.K ct H1 A1 G.M ys us → ∀ l, H1 l = none → Q (.ref l) (upd H1 l (.lst us)) := fun {ys us} ev ry l nl => by
    subst ev
    obtain ⟨k1, k2, k3, k4, k5⟩ := fresh_lst g p1 s1 ry nl
    exact q l _ A1 k1 k2 k3 k4 k5
  cases x with
  | lst xs =>
    cases e4
    obtain ⟨ad, vs, rfl, k1, k2⟩ := r1.lst
    exact ⟨ad, vs, rfl, .inl (.inl (.inl k1)), fin rfl k2⟩
  | tup xs =>
    cases e4
    obtain ⟨ad, vs, rfl, k1, k2⟩ := r1.tup
    exact ⟨ad, vs, rfl, .inr k1.sqT, fin rfl k2⟩
  | scr ns =>
    cases e4
    rcases r1 with r1 | ⟨_, _, _, c⟩
    · obtain ⟨ad, rfl, k1, _⟩ := r1.scr_inv
      exact ⟨ad, _, rfl, .inl k1, fin rfl (RepL.of_ints ns)⟩
    · exact False.elim c
  | _ => cases e4
def pAbs : PV → Option PV
  | .int z => some (.int (if z < 0 then -z else z))
  | _ => none
theorem je_abs (hm : X.mg "abs" = none) (ha : JB ct X a fa) (hg : Gl X "abs" := by rfl) (he : starEach [a] X.env = (false, eval a X.env) :: starEach [] X.env := by rfl) : JE ct X (.Call (.Name "abs" p) [a] [] pos) (eUn pAbs fa) := by
  refine ⟨(pe_callB call_abs hg hm (by decide +kernel) (pa_cons ha.pe pa_nil he) (by decide) (by decide) he rfl).imp fun σ H Q h => rd_un (fun H A M x vx v Q hx r e q => ?_) h⟩
  cases vx with
  | int i => cases e; exact ⟨i, by rw [r.int], q _ H (Same.refl H) (Rep.int_iff.mpr rfl)⟩
  | _ => cases e
def pInt : PV → Option PV
  | .int i => some (.int i)
  | .bl k => some (.int (if k then 1 else 0))
  | _ => none
theorem je_intC (hm : X.mg "int" = none) (ha : JB ct X a fa) (hg : Gl X "int" := by rfl) (he : starEach [a] X.env = (false, eval a X.env) :: starEach [] X.env := by rfl) : JE ct X (.Call (.Name "int" p) [a] [] pos) (eUn pInt fa) := by
  refine ⟨(pe_callTy call_int1 hg hm (by decide +kernel) (pa_cons ha.pe pa_nil he) (by decide) (by decide) he rfl).imp fun σ H Q h => rd_un (fun H A M x vx v Q hx r e q => ?_) h⟩
  cases vx with
  | int i => cases e; exact .inl ⟨i, by rw [r.int], q _ H (Same.refl H) (Rep.int_iff.mpr rfl)⟩
  | bl i => cases e; exact .inr ⟨i, by rw [r.bl], q _ H (Same.refl H) (Rep.int_iff.mpr rfl)⟩
  | _ => cases e
/-! ### two arguments -/
variable {fr : FA}
def pMax2 : List PV → Option PV
  | [.int i, .int j] => some (.int (if j > i then j else i))
  | _ => none
def pMin2 : List PV → Option PV
  | [.int i, .int j] => some (.int (if j < i then j else i))
  | _ => none
def pDivmod : List PV → Option PV
  | [.int i, .int j] => if 0 < j ∧ j < 1073741824 then some (.tup [.int (i / j), .int (i % j)]) else none
  | _ => none
theorem two_ints {K : PySem.W.Frag} {H : Hp} {A M : List Addr} {i j : Int} {xs : List V} (r : RepL K ct H A M [.int i, .int j] xs) : xs = [.int i, .int j] := by
  obtain ⟨v, w, rfl, h1, h2⟩ := r.two
  rw [Rep.int_iff.mp h1, Rep.int_iff.mp h2]
theorem ok_max2 {K : PySem.W.Frag} : CallOk K ct (fun xs H Q => ∃ i j, xs = [.int i, .int j] ∧ Q (.int (if j > i then j else i)) H) pMax2 := fun H A M xs vs v Q hx r e q => by
  unfold pMax2 at e
  split at e
  · cases e; exact ⟨_, _, two_ints r, q _ H (Same.refl H) (Rep.int_iff.mpr rfl)⟩
  · cases e
theorem ok_min2 {K : PySem.W.Frag} : CallOk K ct (fun xs H Q => ∃ i j, xs = [.int i, .int j] ∧ Q (.int (if j < i then j else i)) H) pMin2 := fun H A M xs vs v Q hx r e q => by
  unfold pMin2 at e
  split at e
  · cases e; exact ⟨_, _, two_ints r, q _ H (Same.refl H) (Rep.int_iff.mpr rfl)⟩
  · cases e
theorem ok_divmod {K : PySem.W.Frag} : CallOk K ct (fun xs H Q => ∃ i j, xs = [.int i, .int j] ∧ CDiv i j ∧ ∀ p, H p = none → Q (.ref p) (upd H p (.tup [.int (i / j), .int (i % j)]))) pDivmod := fun H A M xs vs v Q hx r e q => by
  unfold pDivmod at e
  split at e
  · split at e
    · rename_i hz
      cases e
      refine ⟨_, _, two_ints r, hz, fun p np => ?_⟩
      obtain ⟨k1, k2⟩ := hx.new_tup (.cons (Rep.int_iff.mpr rfl) (.cons (Rep.int_iff.mpr rfl) .nil)) np
      exact q _ _ k1 k2
    · cases e
  · cases e
theorem je_max2 (hm : X.mg "max" = none) (ha : JA ct X [a, b] fr) (hc : X.calm = true := by rfl) (hg : Gl X "max" := by rfl) (he : starEach [a, b] X.env = (false, eval a X.env) :: starEach [b] X.env := by rfl) (hpl : (backTo pos (starEach [b] X.env)).any (·.1) = false := by rfl) : JE ct X (.Call (.Name "max" p) [a, b] [] pos) (eB pMax2 fr) :=
  je_callB (call_max2 hc) ok_max2 hm ha hg (by decide +kernel) (by decide) (by decide) he hpl
theorem je_min2 (hm : X.mg "min" = none) (ha : JA ct X [a, b] fr) (hc : X.calm = true := by rfl) (hg : Gl X "min" := by rfl) (he : starEach [a, b] X.env = (false, eval a X.env) :: starEach [b] X.env := by rfl) (hpl : (backTo pos (starEach [b] X.env)).any (·.1) = false := by rfl) : JE ct X (.Call (.Name "min" p) [a, b] [] pos) (eB pMin2 fr) :=
  je_callB (call_min2 hc) ok_min2 hm ha hg (by decide +kernel) (by decide) (by decide) he hpl
theorem je_divmod (hm : X.mg "divmod" = none) (ha : JA ct X [a, b] fr) (hg : Gl X "divmod" := by rfl) (he : starEach [a, b] X.env = (false, eval a X.env) :: starEach [b] X.env := by rfl) (hpl : (backTo pos (starEach [b] X.env)).any (·.1) = false := by rfl) : JE ct X (.Call (.Name "divmod" p) [a, b] [] pos) (eB pDivmod fr) :=
  je_callB call_divmod ok_divmod hm ha hg (by decide +kernel) (by decide) (by decide) he hpl
end
end J
set_option Elab.async false
set_option linter.all false
set_option maxRecDepth 100000
/-! J: membership, order of data. -/
namespace J
open PySem L2

mutual
theorem plain_toD : ∀ (a : PV), isD a = true → (toD a).plain = true
  | .tup xs, h => by simp only [toD, PyData.plain]; exact plain_toDL xs (by simpa only [isD] using h)
  | .lst xs, h => by simp only [toD, PyData.plain]; exact plain_toDL xs (by simpa only [isD] using h)
  | .non, _ => rfl
  | .bl _, _ => rfl
  | .int _, _ => rfl
  | .str _, h => rfl
  | .dic _ _ _, h => by cases h
  | .ins _ _, h => by cases h
  | .obj _, h => by cases h
  | .scr _, h => by cases h
theorem plain_toDL : ∀ (xs : List PV), isDL xs = true → PyData.plainAll (toDL xs) = true
  | [], _ => rfl
  | x :: r, h => by
    simp only [isDL, Bool.and_eq_true] at h
    simp only [toDL, PyData.plainAll, Bool.and_eq_true]
    exact ⟨plain_toD x h.1, plain_toDL r h.2⟩
end
def inP (x : PV) : List PV → Bool
  | [] => false
  | y :: r => eqP y x || inP x r
theorem any_inP (x : PV) (hx : isD x = true) : ∀ (ys : List PV), isDL ys = true → ((toDL ys).any fun y => PyData.eqv y (toD x)) = inP x ys
  | [], _ => rfl
  | y :: r, h => by
    simp only [isDL, Bool.and_eq_true] at h
    simp only [toDL, List.any_cons, inP]
    rw [eqv_toD y x h.1 hx, any_inP x hx r h.2]
/-- x in y -/
def inPV (x : PV) : PV → Option Bool
  | .lst ys => if dOK x && dOK (.lst ys) then some (inP x ys) else none
  | .tup ys => if dOK x && dOK (.tup ys) then some (inP x ys) else none
  | .scr ns => if dOK x then some (inP x (ns.map PV.int)) else none
  | .dic t ks vs => if keyFit t x then some (dGet ks vs x).isSome else none
  | _ => none
def pIn (x y : PV) : Option PV := (inPV x y).map PV.bl
def pNotIn (x y : PV) : Option PV := (inPV x y).map fun b => PV.bl (!b)
def rInD (K : PySem.W.Frag) (neg : Bool) : R2 := fun x y H Q => ∃ d ds, Dp K H x d ∧ (Dp K H y (.list ds) ∨ Dp K H y (.tuple ds)) ∧ d.plain = true ∧ PyData.plainAll ds = true ∧ d.depth ≤ 60 ∧ Q (.bl (if neg then !(ds.any fun z => PyData.eqv z d) else ds.any fun z => PyData.eqv z d)) H
theorem op_inD {X : Cx} (hu : X.A.units + 64 < cLine) : OpR X (compareOp .In) (rInD X.K false) := by
  intro pinsZ s σ H x y v u Q I rx ry h
  obtain ⟨d, ds, hd, he, p1, p2, dp, q⟩ := h
  obtain ⟨asZ, r1⟩ := Dp.reads I d x v hd rx
  rcases he with he | he
  · obtain ⟨bs, r2⟩ := Dp.reads I _ y u he ry
    exact SeqAt.in_list_data r2 r1 p2 p1 (by have := Nat.min_le_right (PyData.depthAll ds) d.depth; omega) ⟨.bl _, H, I, rfl, q⟩
  · obtain ⟨bs, r2⟩ := Dp.reads I _ y u he ry
    exact SeqAt.in_tuple_data r2 r1 p2 p1 (by have := Nat.min_le_right (PyData.depthAll ds) d.depth; omega) ⟨.bl _, H, I, rfl, q⟩
theorem op_notInD {X : Cx} (hu : X.A.units + 64 < cLine) : OpR X (compareOp .NotIn) (rInD X.K true) := by
  intro pinsZ s σ H x y v u Q I rx ry h
  obtain ⟨d, ds, hd, he, p1, p2, dp, q⟩ := h
  obtain ⟨asZ, r1⟩ := Dp.reads I d x v hd rx
  rcases he with he | he
  · obtain ⟨bs, r2⟩ := Dp.reads I _ y u he ry
    exact SeqAt.notIn_list_data r2 r1 p2 p1 (by have := Nat.min_le_right (PyData.depthAll ds) d.depth; omega) ⟨.bl _, H, I, rfl, q⟩
  · obtain ⟨bs, r2⟩ := Dp.reads I _ y u he ry
    exact SeqAt.notIn_tuple_data r2 r1 p2 p1 (by have := Nat.min_le_right (PyData.depthAll ds) d.depth; omega) ⟨.bl _, H, I, rfl, q⟩
theorem dOK.two {v : PV} (h : dOK v = true) : isD v = true ∧ dpP v ≤ 60 := by
  unfold dOK at h
  simp only [Bool.and_eq_true, decide_eq_true_eq (p := dpP v ≤ 60)] at h
  exact h
section
variable {ct : Ct} {X : Cx} {a b : Expr} {fa fb : FE} {pos : Pos}
def isDic : PV → Bool
  | .dic _ _ _ => true
  | _ => false
theorem scr_dp {K : PySem.W.Frag} {H : Hp} {A M : List Addr} {ns : List Int} {y : V} (r : RepB K ct H A M (.scr ns) y) : Dp K H y (.list (toDL (ns.map PV.int))) := by
  rcases r with r | ⟨_, _, _, c⟩
  · obtain ⟨ad, rfl, k1, _⟩ := r.scr_inv
    have hd : ∀ (l : List Int), DpAll K H (l.map V.int) (toDL (l.map PV.int)) := fun l => by
      induction l with
      | nil => exact .nil
      | cons n l ih => exact .cons (.int n) ih
    exact .lst k1 (hd ns)
  · exact False.elim c
theorem isDL_ints : ∀ (ns : List Int), isDL (ns.map PV.int) = true
  | [] => rfl
  | n :: ns => by
    simp only [List.map_cons, isDL, isDL_ints ns]; rfl
/-- the values' side of in, not in -/
theorem in_ok {K : PySem.W.Frag} {H : Hp} {A M : List Addr} {x y : V} {vx vy : PV} {k : Bool} (hd : isDic vy = false) (rx : RepB K ct H A M vx x) (ry : RepB K ct H A M vy y) (e : inPV vx vy = some k) :
    ∃ d ds, Dp K H x d ∧ (Dp K H y (.list ds) ∨ Dp K H y (.tuple ds)) ∧ d.plain = true ∧ PyData.plainAll ds = true ∧ d.depth ≤ 60 ∧ (ds.any fun z => PyData.eqv z d) = k := by
  cases vy with
  | lst ys =>
    simp only [inPV] at e
    split at e
    · rename_i hz
      cases e
      rw [Bool.and_eq_true] at hz
      obtain ⟨h1, h2⟩ := dOK.two hz.1
      obtain ⟨h3, h4⟩ := dOK.two hz.2
      have h5 : isDL ys = true := by simpa only [isD] using h3
      have dy := ry.dp h3
      simp only [toD] at dy
      exact ⟨_, toDL ys, rx.dp h1, .inl dy, plain_toD _ h1, plain_toDL _ h5, by rw [depth_toD]; exact h2, any_inP _ h1 _ h5⟩
    · cases e
  | tup ys =>
    simp only [inPV] at e
    split at e
    · rename_i hz
      cases e
      rw [Bool.and_eq_true] at hz
      obtain ⟨h1, h2⟩ := dOK.two hz.1
      obtain ⟨h3, h4⟩ := dOK.two hz.2
      have h5 : isDL ys = true := by simpa only [isD] using h3
      have dy := ry.dp h3
      simp only [toD] at dy
      exact ⟨_, toDL ys, rx.dp h1, .inr dy, plain_toD _ h1, plain_toDL _ h5, by rw [depth_toD]; exact h2, any_inP _ h1 _ h5⟩
    · cases e
  | scr ns =>
    simp only [inPV] at e
    split at e
    · rename_i hz
      cases e
      obtain ⟨h1, h2⟩ := dOK.two hz
      exact ⟨_, toDL (ns.map PV.int), rx.dp h1, .inl (scr_dp ry), plain_toD _ h1, plain_toDL _ (isDL_ints ns), by rw [depth_toD]; exact h2, any_inP _ h1 _ (isDL_ints ns)⟩
    · cases e
  | dic t ks vs => cases hd
  | _ => cases e
theorem rd_in {K : PySem.W.Frag} {neg : Bool} {σ : St} {H : Hp} {Q : VK} (h : rd K ct (eOp (fun x y => (inPV x y).map fun k => PV.bl (if neg then !k else k)) fa fb) σ H Q) :
    tOp (rInD K neg) (rd K ct fa) (rdB K ct fb) σ H Q ∨ rd K ct fa σ H fun y H1 => rdB K ct fb σ H1 fun x H2 => ∃ a o, x = .ref a ∧ DGet H2 a y o ∧ Q (.bl (if neg then !o.isSome else o.isSome)) H2 := by
  obtain ⟨G, env, S, v, S', g, h1, q⟩ := h
  obtain ⟨⟨x, S1⟩, e1, h1⟩ := Res.bind_ok h1
  obtain ⟨⟨y, S2⟩, e2, h1⟩ := Res.bind_ok h1
  obtain ⟨z, e3, h1⟩ := Res.bind_ok h1
  cases h1
  obtain ⟨k, e4, ek⟩ := Option.map_eq_some_iff.mp (ofO_ok e3)
  subst ek
  have two : ∀ (R : V → V → Hp → Prop), (∀ x' y' H2 A2, Post G.A H A2 H2 → StoOk K ct H2 A2 G.M S2 → Rep K ct H2 A2 G.M x x' → RepB K ct H2 A2 G.M y y' → R x' y' H2) →
      rd K ct fa σ H fun x' H1 => rdB K ct fb σ H1 fun y' H2 => R x' y' H2 := fun R hR =>
    ⟨G, env, S, x, S1, g, e1, fun x' H1 A1 p1 s1 r1 => ⟨{ G with A := A1 }, env, S1, y, S2, g.post p1 s1, e2, fun y' H2 A2 p2 s2 r2 => hR x' y' H2 A2 (p1.trans p2) s2 (r1.lat (p2.lat G.M) x x') r2⟩⟩
  cases hd : isDic y with
  | false =>
    refine .inl (two _ fun x' y' H2 A2 p s rx ry => ?_)
    obtain ⟨d, ds, k1, k2, k3, k4, k5, k6⟩ := in_ok hd (.inl rx) ry e4
    refine ⟨d, ds, k1, k2, k3, k4, k5, ?_⟩
    rw [k6]
    exact q _ H2 A2 p s (Rep.bl_iff.mpr rfl)
  | true =>
    cases y with
    | dic t ks vs =>
      refine .inr (two _ fun x' y' H2 A2 p s rx ry => ?_)
      simp only [inPV] at e4
      split at e4
      · rename_i hf
        cases e4
        obtain ⟨ad, o, ea, dg, hh⟩ := dict_get ry rx hf
        refine ⟨ad, o, ea, dg, ?_⟩
        have eo : o.isSome = (dGet ks vs x).isSome := by
          rcases hh with ⟨v, w, c1, c2, _⟩ | ⟨c1, c2⟩
          · rw [c1, c2]; rfl
          · rw [c1, c2]; rfl
        rw [eo]
        exact q _ H2 A2 p s (Rep.bl_iff.mpr rfl)
      · cases e4
    | _ => cases hd
theorem pIn_eq : pIn = fun x y => (inPV x y).map fun k => PV.bl (if false then !k else k) := by
  funext x y; rfl
theorem pNotIn_eq : pNotIn = fun x y => (inPV x y).map fun k => PV.bl (if true then !k else k) := by
  funext x y; rfl
theorem je_in {k : Nat} (hr : Room k X.A) (ha : JE ct X a fa) (hb : JB ct X b fb) (hm : behindInMarks .In b = false := by rfl) : JE ct X (.Compare a [.In] [b] pos) (eOp pIn fa fb) :=
  ⟨((pe_cmpR (op_inD hr.units) ha.pe hb.pe hm).or (pe_cmp (pc_din (hu_of hr) ha.pe hb.pe) hm)).imp fun _ _ _ h => by rw [pIn_eq] at h; exact rd_in h⟩
theorem je_notIn {k : Nat} (hr : Room k X.A) (ha : JE ct X a fa) (hb : JB ct X b fb) (hm : behindInMarks .NotIn b = false := by rfl) : JE ct X (.Compare a [.NotIn] [b] pos) (eOp pNotIn fa fb) :=
  ⟨((pe_cmpR (op_notInD hr.units) ha.pe hb.pe hm).or (pe_cmp (pc_dnotin (hu_of hr) ha.pe hb.pe) hm)).imp fun _ _ _ h => by rw [pNotIn_eq] at h; exact rd_in h⟩
theorem _root_.L2.PT.or {X : Cx} {e : Expr} {t t' : TT} (h : PT X e t) (h' : PT X e t') : PT X e (fun σ H Q => t σ H Q ∨ t' σ H Q) := ⟨fun pins s σ H Q I q => q.elim (h.run pins s σ H Q I) (h'.run pins s σ H Q I)⟩
theorem jt_in {k : Nat} (hr : Room k X.A) (ha : JE ct X a fa) (hb : JB ct X b fb) (hm : behindInMarks .In b = false := by rfl) : JT ct X (.Compare a [.In] [b] pos) (tV (eOp pIn fa fb)) :=
  ⟨((pt_cmpR (op_inD hr.units) ha.pe hb.pe hm).or (pt_cmp (pc_din (hu_of hr) ha.pe hb.pe) hm)).imp fun _ _ _ h => rdT_tTest (t := fun σ H Q => tOp (rInD X.K false) (rd X.K ct fa) (rdB X.K ct fb) σ H Q ∨ tDIn (rd X.K ct fa) (rdB X.K ct fb) σ H Q) (fun _ _ _ z => by rw [pIn_eq] at z; exact rd_in z) h⟩
theorem jt_notIn {k : Nat} (hr : Room k X.A) (ha : JE ct X a fa) (hb : JB ct X b fb) (hm : behindInMarks .NotIn b = false := by rfl) : JT ct X (.Compare a [.NotIn] [b] pos) (tV (eOp pNotIn fa fb)) :=
  ⟨((pt_cmpR (op_notInD hr.units) ha.pe hb.pe hm).or (pt_cmp (pc_dnotin (hu_of hr) ha.pe hb.pe) hm)).imp fun _ _ _ h => rdT_tTest (t := fun σ H Q => tOp (rInD X.K true) (rd X.K ct fa) (rdB X.K ct fb) σ H Q ∨ tDNotIn (rd X.K ct fa) (rdB X.K ct fb) σ H Q) (fun _ _ _ z => by rw [pNotIn_eq] at z; exact rd_in z) h⟩
end
end J
set_option Elab.async false
set_option linter.all false
set_option maxRecDepth 100000
/-! J: shared lists, what a name owns changed, targets of any form. -/
namespace J
open PySem L2

theorem nodup_at {α : Type} : ∀ {l : List α} {i j : Nat} {a : α}, l.Nodup → l[i]? = some a → l[j]? = some a → i = j
  | [], i, j, a, _, h, _ => by simp at h
  | x :: r, 0, 0, a, _, _, _ => rfl
  | x :: r, 0, j + 1, a, n, h1, h2 => by
    cases h1
    exact absurd (List.mem_of_getElem? (by simpa using h2)) (List.nodup_cons.mp n).1
  | x :: r, i + 1, 0, a, n, h1, h2 => by
    cases h2
    exact absurd (List.mem_of_getElem? (by simpa using h1)) (List.nodup_cons.mp n).1
  | x :: r, i + 1, j + 1, a, n, h1, h2 => congrArg Nat.succ (nodup_at (List.nodup_cons.mp n).2 (by simpa using h1) (by simpa using h2))
section
variable {K : PySem.W.Frag} {ct : Ct} {G : Gh} {σ : St} {H : Hp} {env : Env} {S : Sto}
/-- a shared list is written -/
theorem Good.mutSto {n : Nat} {a : Addr} {xs xs' : List PV} {vs' : List V} (g : Good K ct G σ H env S) (hA : G.A[n]? = some a) (hS : S[n]? = some xs) (r : RepL K ct H G.A G.M xs' vs') :
    Lat G.A G.M H G.A G.M (upd H a (.lst vs')) ∧ Good K ct G σ (upd H a (.lst vs')) env (S.set n xs') := by
  have ha : a ∈ G.A := List.mem_of_getElem? hA
  have l : Lat G.A G.M H G.A G.M (upd H a (.lst vs')) := lat_upd (.inl ha)
  have hM : ∀ p ∈ G.M, p ≠ a := fun p hp z => g.bs.disj p hp (z ▸ ha)
  refine ⟨l, ⟨⟨by rw [List.length_set]; exact g.bs.sto.len, fun m b ys h1 h2 => ?_⟩, g.bs.nodup, fun p hp => ?_, g.bs.disj, fun p hp vs ev => ?_⟩, fun j s hs => ?_, g.uniq, fun b o h0 hn => ?_, g.pre0, g.new0, g.sub0, g.in0, g.len⟩
  · rcases getSet h2 with ⟨rfl, rfl, _⟩ | ⟨hm, h2⟩
    · rw [hA] at h1; cases h1
      exact ⟨vs', upd_same, r.lat l _ _⟩
    · obtain ⟨us, h3, h4⟩ := g.bs.sto.at' m b ys h1 h2
      have hne : b ≠ a := fun z => by
        subst z
        exact hm (nodup_at g.bs.nodup hA h1)
      exact ⟨us, by rw [upd_ne hne]; exact h3, h4.lat l ys us⟩
  · rw [upd_ne (hM p hp)]; exact g.bs.inM p hp
  · rw [upd_ne (hM p hp)] at ev; exact g.bs.noT p hp vs ev
  · have q := g.slot j s hs
    cases s with
    | un => trivial
    | val v => obtain ⟨y, h1, h2⟩ := q; exact ⟨y, h1, h2.lat l v y⟩
    | own v => obtain ⟨p, h1, h2, h3, h4⟩ := q; exact ⟨p, h1, h2, h3, h4.lat l (upd_ne (hM p h2))⟩
  · have hne : b ≠ a := fun z => by
      subst z
      rcases g.new0 b ha with q | q
      · exact hn q
      · rw [q] at h0; cases h0
    rw [upd_ne hne]; exact g.ext0 b o h0 hn
end
/-! ### a new shared list -/
def eNew (a : FA) : FE := fun env S => (a env S).bind fun x => if x.1.length ≤ 1000000 then .ok (.obj x.2.length, x.2 ++ [x.1]) else .err
section
variable {ct : Ct} {X : Cx} {es : List Expr} {fr : FA} {pos : Pos}
theorem je_new (h : JA ct X es fr) : JE ct X (.List es pos) (eNew fr) := by
  refine ⟨(pe_lst h.pa).imp fun σ H Q h => ?_⟩
  obtain ⟨G, env, S, v, S', g, h1, q⟩ := h
  obtain ⟨⟨x, S1⟩, e1, h1⟩ := Res.bind_ok h1
  dsimp only at h1
  split at h1
  · rename_i hz
    cases h1
    refine ⟨G, env, S, x, _, g, e1, fun xs H1 A1 p1 s1 r1 => ⟨by rw [r1.length]; exact sz_mil hz, fun p np => ?_⟩⟩
    have g1 := g.post p1 s1
    have nA : p ∉ A1 := fun z => g1.inA p z np
    have sm : Same H1 (upd H1 p (.lst xs)) := same_new np
    have l : Lat A1 G.M H1 (A1 ++ [p]) G.M (upd H1 p (.lst xs)) := ⟨List.prefix_append _ _, fun b o e n m => ⟨sm b o e, (fun z => by
      rcases List.mem_append.mp z with z | z
      · exact n z
      · rw [List.mem_singleton] at z; subst z; rw [np] at e; cases e), m⟩⟩
    have po : Post A1 H1 (A1 ++ [p]) (upd H1 p (.lst xs)) := ⟨List.prefix_append _ _, fun b o e _ => sm b o e, fun b hb => by
      rcases List.mem_append.mp hb with z | z
      · exact .inl z
      · rw [List.mem_singleton] at z; subst z; exact .inr np, by
      rw [List.nodup_append]
      exact ⟨g1.bs.nodup, by simp, fun a ha b hb => by rw [List.mem_singleton] at hb; subst hb; exact fun z => nA (z ▸ ha)⟩⟩
    refine q _ _ (A1 ++ [p]) (p1.trans po) ⟨by rw [List.length_append, List.length_append, s1.len]; rfl, fun n a ys k1 k2 => ?_⟩ ?_
    · by_cases hn : n < A1.length
      · rw [List.getElem?_append_left hn] at k1
        rw [List.getElem?_append_left (by rw [s1.len]; exact hn)] at k2
        obtain ⟨vs, k3, k4⟩ := s1.at' n a ys k1 k2
        exact ⟨vs, sm _ _ k3, k4.lat l ys vs⟩
      · rw [List.getElem?_append_right (by omega)] at k1
        rw [List.getElem?_append_right (by rw [s1.len]; omega), s1.len] at k2
        cases hk : n - A1.length with
        | zero =>
          rw [hk] at k1 k2
          cases k1; cases k2
          exact ⟨xs, upd_same, r1.lat l _ _⟩
        | succ m => rw [hk] at k1; cases k1
    · simp only [Rep]
      exact ⟨p, rfl, by rw [s1.len, List.getElem?_append_right (Nat.le_refl _)]; simp⟩
  · cases h1
end
/-! ### targets of any form -/
abbrev GG := PV → Env → Sto → Res (Env × Sto)
abbrev GGs := List PV → Env → Sto → Res (Env × Sto)
section
variable (K : PySem.W.Frag) (ct : Ct)
def rdG (g : GG) : TG := fun x σ H Q => ∃ G env S v env' S', Good K ct G σ H env S ∧ Rep K ct H G.A G.M v x ∧ g v env S = .ok (env', S') ∧
  ∀ σ' H' A' M', Lat G.A G.M H A' M' H' → Good K ct { G with A := A', M := M' } σ' H' env' S' → Q σ' H'
def rdGs (g : GGs) : TGs := fun x σ H Q => ∃ G env S v env' S', Good K ct G σ H env S ∧ RepL K ct H G.A G.M v x ∧ g v env S = .ok (env', S') ∧
  ∀ σ' H' A' M', Lat G.A G.M H A' M' H' → Good K ct { G with A := A', M := M' } σ' H' env' S' → Q σ' H'
end
structure JG (ct : Ct) (X : Cx) (tg : Expr) (g : GG) : Prop where
  pg : PG X tg (rdG X.K ct g)
structure JGs (ct : Ct) (X : Cx) (tg : List Expr) (g : GGs) : Prop where
  pg : PGs X tg (rdGs X.K ct g)
def gOf (g : GN) : GG := fun v env S => (ofO (g v env)).bind fun e => .ok (e, S)
def ggNil : GGs := fun vs env S => match vs with
  | [] => .ok (env, S)
  | _ => .err
def ggCons (a : GG) (r : GGs) : GGs := fun vs env S => match vs with
  | v :: rs => (a v env S).bind fun x => r rs x.1 x.2
  | [] => .err
def ggT (n : Nat) (r : GGs) : GG := fun v env S => match v with
  | .tup xs => if xs.length = n then r xs env S else .err
  | _ => .err
def gDrop : GG := fun _ env S => .ok (env, S)
/-- o[i] = v of a shared list -/
def gSubO (fo fi : FE) : GG := fun v env S => (fo env S).bind fun o => (fi env o.2).bind fun i => match o.1, i.1 with
  | .obj n, .int k => match i.2[n]? with
    | some xs => (ofO (ixN xs.length k)).bind fun j => .ok (env, i.2.set n (xs.set j v))
    | none => .err
  | _, _ => .err
def dHas (ks : List PV) (k : PV) : Bool := ks.any fun x => decide (x = k)
def dSetV : List PV → List PV → PV → PV → List PV
  | k' :: ks, u :: vs, k, v => (if k' = k then v else u) :: dSetV ks vs k v
  | _, _, _, _ => []
def dPutK (ks : List PV) (k : PV) : List PV := if dHas ks k then ks else ks ++ [k]
def dPutV (ks vs : List PV) (k v : PV) : List PV := if dHas ks k then dSetV ks vs k v else vs ++ [v]
/-- x[i] = v, x owns a list or a dict -/
def gOwn (s : Nat) (fi : FE) : GG := fun v env S => (fi env S).bind fun i => match env[s]? with
  | some (.own (.lst xs)) => match i.1 with
    | .int k => (ofO (ixN xs.length k)).bind fun j => .ok (env.set s (.own (.lst (xs.set j v))), i.2)
    | _ => .err
  | some (.own (.dic t ks vs)) => if keyFit t i.1 && decide (ks.length < 1000000) then .ok (env.set s (.own (.dic t (dPutK ks i.1) (dPutV ks vs i.1 v))), i.2) else .err
  | _ => .err
section
variable {K : PySem.W.Frag} {ct : Ct} {H : Hp} {A M : List Addr}
theorem dHas_put {κ : Type} [DecidableEq κ] {e : κ → PV} (inj : ∀ a b, e a = e b → a = b) (k : κ) : ∀ (ws : List (κ × V)), dHas (ws.map fun w => e w.1) (e k) = ws.any fun kv => decide (kv.1 = k)
  | [] => rfl
  | w :: ws => by
    have ih := dHas_put inj k ws
    unfold dHas at ih ⊢
    rw [List.map_cons, List.any_cons, List.any_cons, ih]
    have : (decide (e w.1 = e k)) = decide (w.1 = k) := by
      by_cases h : w.1 = k
      · rw [decide_eq_true h, decide_eq_true (congrArg e h)]
      · rw [decide_eq_false h, decide_eq_false (fun z => h (inj _ _ z))]
    rw [this]
theorem dSet_rep {κ : Type} [DecidableEq κ] {e : κ → PV} (inj : ∀ a b, e a = e b → a = b) {k : κ} {v : PV} {x : V} (r : Rep K ct H A M v x) : ∀ (ws : List (κ × V)) (vs : List PV), RepL K ct H A M vs (ws.map (·.2)) →
    (ws.map fun kv => if kv.1 = k then (kv.1, x) else kv).map (fun w => e w.1) = ws.map (fun w => e w.1) ∧ RepL K ct H A M (dSetV (ws.map fun w => e w.1) vs (e k) v) ((ws.map fun kv => if kv.1 = k then (kv.1, x) else kv).map (·.2))
  | [], vs, h => by
    refine ⟨rfl, ?_⟩
    rw [List.map_nil, dSetV]
    exact .nil
    intros; simp_all
  | w :: ws, vs, h => by
    cases vs with
    | nil => have := h.length; simp at this
    | cons u vs =>
      obtain ⟨y, ys, e0, h1, h2⟩ := h.inv
      simp only [List.map_cons, List.cons.injEq] at e0
      obtain ⟨rfl, rfl⟩ := e0
      obtain ⟨i1, i2⟩ := dSet_rep inj r ws vs h2
      simp only [List.map_cons, dSetV]
      by_cases hk : w.1 = k
      · rw [if_pos hk, if_pos (congrArg e hk)]
        exact ⟨by rw [i1], .cons r i2⟩
      · rw [if_neg hk, if_neg (fun z => hk (inj _ _ z))]
        exact ⟨by rw [i1], .cons h1 i2⟩
theorem dPut_rep {κ : Type} [DecidableEq κ] {e : κ → PV} (inj : ∀ a b, e a = e b → a = b) {k : κ} {v : PV} {x : V} (r : Rep K ct H A M v x) (ws : List (κ × V)) (vs : List PV) (h : RepL K ct H A M vs (ws.map (·.2))) :
    dPutK (ws.map fun w => e w.1) (e k) = (putK ws k x).map (fun w => e w.1) ∧ RepL K ct H A M (dPutV (ws.map fun w => e w.1) vs (e k) v) ((putK ws k x).map (·.2)) := by
  unfold dPutK dPutV putK
  rw [dHas_put inj]
  by_cases hb : (ws.any fun kv => decide (kv.1 = k)) = true
  · rw [if_pos hb, if_pos hb, if_pos hb]
    obtain ⟨i1, i2⟩ := dSet_rep inj r ws vs h
    exact ⟨i1.symm, i2⟩
  · rw [if_neg hb, if_neg hb, if_neg hb]
    refine ⟨by simp, ?_⟩
    rw [List.map_append]
    exact h.append (.cons r .nil)
end
def rSetD : V → V → V → Hp → (Hp → Prop) → Prop := fun o i v H Q => ∃ a H', o = .ref a ∧ DPut H a i v H' ∧ Q H'
theorem set_dict {X : Cx} (hu : X.A.units + 1 < cLine) : PSet X rSetD := by
  intro pinsZ s σ H o i v ov iv u Q IZ ro ri rv h
  obtain ⟨a, H', rfl, g, q⟩ := h
  cases ro
  exact d_setItem hu IZ g ri rv fun s' I' => ⟨H', I', q⟩
def PSet.or {X : Cx} {t t' : TSet} (h : PSet X t) (h' : PSet X t') : PSet X (fun o i v H Q => t o i v H Q ∨ t' o i v H Q) := fun pins s σ H o i v ov iv u Q I ro ri rv q => q.elim (h pins s σ H o i v ov iv u Q I ro ri rv) (h' pins s σ H o i v ov iv u Q I ro ri rv)
section
variable {ct : Ct} {X : Cx} {e o i : Expr} {es : List Expr} {pos : Pos} {ws : List Nat} {g : GN} {gg : GG} {gs : GGs} {fo fi : FE}
theorem jg_n (h : JN ct X e ws g) : JG ct X e (gOf g) := by
  refine ⟨h.pg.imp fun v σ H Q h => ?_⟩
  obtain ⟨G, env, S, v, env', S', gd, r, e, q⟩ := h
  obtain ⟨en, e1, e2⟩ := Res.bind_ok e
  cases e2
  exact ⟨G, env, S, v, _, gd, r, ofO_ok e1, fun σ' _ _ g' => q σ' H G.A G.M (Lat.refl _ _ _) g'⟩
theorem jgs_nil : JGs ct X [] ggNil := by
  refine ⟨pgs_nil.imp fun v σ H Q h => ?_⟩
  obtain ⟨G, env, S, vs, env', S', gd, r, e, q⟩ := h
  cases vs with
  | nil => cases e; exact ⟨RepL.nil_iff.mp r, q σ H G.A G.M (Lat.refl _ _ _) gd⟩
  | cons _ _ => cases e
theorem jgs_cons (h1 : JG ct X e gg) (h2 : JGs ct X es gs) (hs : (assignEach (e :: es) X.env).map (·.2) = assign e X.env :: (assignEach es X.env).map (·.2) := by rfl) : JGs ct X (e :: es) (ggCons gg gs) := by
  refine ⟨(pgs_cons h1.pg h2.pg hs).imp fun v σ H Q h => ?_⟩
  obtain ⟨G, env, S, vs, env', S', gd, r, e, q⟩ := h
  cases vs with
  | nil => cases e
  | cons p ps =>
    obtain ⟨x, xs, rfl, r1, r2⟩ := r.inv
    obtain ⟨⟨en, S1⟩, e1, e2⟩ := Res.bind_ok e
    exact ⟨x, xs, rfl, G, env, S, p, en, S1, gd, r1, e1, fun σ1 H1 A1 M1 l1 g1 => ⟨_, en, S1, ps, env', S', g1, r2.lat l1 ps xs, e2, fun σ2 H2 A2 M2 l2 g2 => q σ2 H2 A2 M2 (l1.trans l2) g2⟩⟩
theorem jg_tup {k n : Nat} (hc : X.calm = true) (h : JGs ct X es gs) (hn : (assignEach es X.env).length = n := by rfl) (hst : (assignEach es X.env).findIdx? (·.1) = none := by rfl) : JG ct X (.Tuple es k pos) (ggT n gs) := by
  refine ⟨(pg_tup hc h.pg hn hst).imp fun v σ H Q h => ?_⟩
  obtain ⟨G, env, S, vs, env', S', gd, r, e, q⟩ := h
  cases vs with
  | tup xs =>
    obtain ⟨a, ys, rfl, hq, ry⟩ := r.tup_inv
    unfold ggT at e
    dsimp only at e
    split at e
    · rename_i hl
      exact ⟨a, ys, rfl, hq.sqT, by rw [ry.length]; exact hl, G, env, S, xs, env', S', gd, ry, e, q⟩
    · cases e
  | _ => cases e
theorem jg_sub (ho : JE ct X o fo) (hi : JE ct X i fi)
    (ha : ∀ u, assign (.Subscript o i pos) X.env u = (do let ou ← holding [u] (eval o X.env); let iu ← holding [u, ou] (eval i X.env); standAt pos; holding [u, ou, iu] (setItem ou iu u); release [u, ou, iu] []) := by intro _; rfl) : JG ct X (.Subscript o i pos) (gSubO fo fi) := by
  refine ⟨(pg_sub ho.pe hi.pe set_list ha).imp fun x σ H Q h => ?_⟩
  obtain ⟨G, env, S, v, env', S', gd, r, e, q⟩ := h
  obtain ⟨⟨ov, S1⟩, e1, e⟩ := Res.bind_ok e
  obtain ⟨⟨iv, S2⟩, e2, e⟩ := Res.bind_ok e
  refine ⟨G, env, S, ov, S1, gd, e1, fun x' H1 A1 p1 s1 r1 => ⟨{ G with A := A1 }, env, S1, iv, S2, gd.post p1 s1, e2, fun y' H2 A2 p2 s2 r2 => ?_⟩⟩
  have g2 := (gd.post p1 s1).post p2 s2
  have rv := (r.lat (p1.lat G.M) v x).lat (p2.lat G.M) v x
  have ro := r1.lat (p2.lat G.M) ov x'
  cases ov with
  | obj n =>
    cases iv with
    | int k =>
      dsimp only at e
      cases hxs : S2[n]? with
      | some xs =>
        rw [hxs] at e
        obtain ⟨j, e3, e⟩ := Res.bind_ok e
        cases e
        simp only [Rep] at ro
        obtain ⟨a, rfl, hA⟩ := ro
        obtain ⟨vs, hH, rx⟩ := g2.bs.sto.at' n a xs hA hxs
        rw [Rep.int_iff.mp r2]
        obtain ⟨l, g3⟩ := g2.mutSto hA hxs (rx.set j rv)
        exact ⟨a, vs, k, j, rfl, rfl, hH, by rw [rx.length]; exact ofO_ok e3, q σ _ A2 G.M (((p1.trans p2).lat G.M).trans l) g3⟩
      | none => rw [hxs] at e; cases e
    | _ => cases e
  | _ => cases e
theorem jg_own (s : Nat) {k : Nat} {z : Str} {pos' : Pos} (hr : Room k X.A) (hi : JE ct X i fi) (hN : X.N[s]? = some z := by rfl) (hv : Vis X.env.scope z := by first | exact Or.inl rfl | exact Or.inr (Or.inl rfl) | exact Or.inr (Or.inr rfl)) (hd : (z == ("__debug__" : Str)) = false := by decide) (hcd : (z == ("__classdict__" : Str)) = false := by decide)
    (ha : ∀ v, assign (.Subscript (.Name z pos') i pos) X.env v = (do
      let ov ← holding [v] (eval (.Name z pos') X.env)
      let ivZ ← holding [v, ov] (eval i X.env)
      standAt pos
      holding [v, ov, ivZ] (setItem ov ivZ v)
      release [v, ov, ivZ] []) := by intro _; rfl) : JG ct X (.Subscript (.Name z pos') i pos) (gOwn s fi) := by
  refine ⟨(pg_sub (pe_var hN hv hd hcd) hi.pe (PSet.or set_list (set_dict (hu_of hr))) ha).imp fun x σ H Q h => ?_⟩
  obtain ⟨G, env, S, v, env', S', gd, r, e, q⟩ := h
  obtain ⟨⟨ivZ, S1⟩, e1, e⟩ := Res.bind_ok e
  dsimp only at e
  cases hs : env[s]? with
  | none => rw [hs] at e; cases e
  | some sl =>
    rw [hs] at e
    cases sl with
    | un => cases e
    | val w => cases e
    | own w =>
      obtain ⟨p, hp, hM, h0, c⟩ := gd.slot s _ hs
      refine ⟨.ref p, hp, G, env, S, ivZ, S1, gd, e1, fun y' H1 A1 p1 s1 r1 => ?_⟩
      have g1 := gd.post p1 s1
      have rv := r.lat (p1.lat G.M) v x
      obtain ⟨p', hp', hM', h0', c1⟩ := g1.slot s _ hs
      rw [hp] at hp'; cases hp'
      cases w with
      | lst xs =>
        cases ivZ with
        | int k =>
          obtain ⟨j, e3, e⟩ := Res.bind_ok e
          cases e
          obtain ⟨vs, hH, rx⟩ := c1
          rw [Rep.int_iff.mp r1]
          refine .inl ⟨p, vs, k, j, rfl, rfl, hH, by rw [rx.length]; exact ofO_ok e3, ?_⟩
          exact q σ _ A1 G.M ((p1.lat G.M).trans (lat_upd (.inr hM))) (g1.mutOwn hs hp ⟨_, upd_same, (rx.set j rv).lat (lat_upd (.inr hM)) _ _⟩)
        | _ => cases e
      | dic t ks us =>
        dsimp only at e
        split at e
        · rename_i hz
          cases e
          rw [Bool.and_eq_true, decide_eq_true_eq] at hz
          have hlen : ∀ {n : Nat}, ks.length = n → n < sizeLine := fun {n} en => en ▸ Nat.lt_of_lt_of_le hz.2 (by decide)
          rcases c1 with ⟨rfl, ws, hH, rfl, rx⟩ | ⟨rfl, ws, hH, rfl, rx⟩
          · have hf : (keyOf ivZ).isSome = true := hz.1
            obtain ⟨k', hk'⟩ := Option.isSome_iff_exists.mp hf
            have ek := keyOf_eq hk'
            subst ek
            have ey := r1.key
            subst ey
            obtain ⟨i1, i2⟩ := dPut_rep (e := keyV) (fun _ _ z => keyV_inj z) (k := k') rv ws us rx
            refine .inr ⟨p, _, rfl, .inl ⟨ws, k', hH, rfl, hlen (by simp), rfl⟩, ?_⟩
            refine q σ _ A1 G.M ((p1.lat G.M).trans (lat_upd (.inr hM))) (g1.mutOwn hs hp (.inl ⟨rfl, _, upd_same, ?_, ?_⟩))
            · exact i1
            · exact i2.lat (lat_upd (.inr hM)) _ _
          · cases ivZ with
            | tup ps =>
              have hf : (keysOf ps).isSome = true := hz.1
              obtain ⟨k', hk'⟩ := Option.isSome_iff_exists.mp hf
              have ek := keysOf_eq hk'
              subst ek
              obtain ⟨b, bs, rfl, hb, hu⟩ := r1.tup_inv
              have eu := hu.keys
              subst eu
              obtain ⟨i1, i2⟩ := dPut_rep (e := fun l : List Key => PV.tup (l.map keyV)) (fun _ _ z => tupKey_inj z) (k := k') rv ws us rx
              refine .inr ⟨p, _, rfl, .inr ⟨ws, k', b, hH, rfl, hb.1, hlen (by simp), rfl⟩, ?_⟩
              refine q σ _ A1 G.M ((p1.lat G.M).trans (lat_upd (.inr hM))) (g1.mutOwn hs hp (.inr ⟨rfl, _, upd_same, ?_, ?_⟩))
              · exact i1
              · exact i2.lat (lat_upd (.inr hM)) _ _
            | _ => cases hz.1
        · cases e
      | _ => exact False.elim c
end
def sAsgG (a : FE) (g : GG) : FS := fun env S => (a env S).bind fun x => (g x.1 env x.2).bind fun r => .ok (.nx r.1 r.2)
section
variable {ct : Ct} {X : Cx} {e tg : Expr} {fe : FE} {es : List Expr} {pos : Pos} {gg : GG}
theorem js_asgG (he : JE ct X e fe) (hg : JG ct X tg gg) (hs : swapsWithSole [tg] e pos.line X.env = pure false := by rfl) (hw : swappedStores [tg] e X.env = pure none := by rfl)
    (h1 : (assignEach [tg] X.env).map (·.2) = [assign tg X.env] := by rfl) : JS ct X (.Assign [tg] e pos) (sAsgG fe gg) := by
  refine ⟨(ps_asg he.pe hg.pg hs hw h1).imp fun D σ H h => ?_⟩
  obtain ⟨G, env, S, fl, gd, e, h⟩ := h
  obtain ⟨⟨x, S1⟩, e1, e2⟩ := Res.bind_ok e
  obtain ⟨⟨en, S2⟩, e3, e2⟩ := Res.bind_ok e2
  cases e2
  exact ⟨G, env, S, x, S1, gd, e1, fun y H1 A1 p s r => ⟨_, env, S1, x, en, S2, gd.post p s, r, e3, fun σ' H' A' M' l g' => h σ' H' A' M' ((p.lat G.M).trans l) g'⟩⟩
end
end J
set_option Elab.async false
set_option linter.all false
set_option maxRecDepth 100000
/-! J: methods of what a name owns; dicts made, asked, gone through; repeats. -/
namespace J
open PySem L2

/-- x.append(e) -/
def sApp (i : Nat) (fe : FE) : FS := fun env S => (fe env S).bind fun x => match env[i]? with
  | some (.own (.lst xs)) => if xs.length < 1000000 then .ok (.nx (env.set i (.own (.lst (xs ++ [x.1])))) x.2) else .err
  | _ => .err
/-- target = x.pop() -/
def sPop (i : Nat) (g : GG) : FS := fun env S => match env[i]? with
  | some (.own (.lst xs)) => match xs[xs.length - 1]? with
    | some y => (g y (env.set i (.own (.lst xs.dropLast))) S).bind fun r => .ok (.nx r.1 r.2)
    | none => .err
  | _ => .err
theorem RepL.dropLast {K : PySem.W.Frag} {ct : Ct} {H : Hp} {A M : List Addr} {ps : List PV} {vs : List V} (h : RepL K ct H A M ps vs) : RepL K ct H A M ps.dropLast vs.dropLast := by
  rw [List.dropLast_eq_take, List.dropLast_eq_take, h.length]
  exact h.take _
section
variable {ct : Ct} {X : Cx} {e tg : Expr} {fe : FE} {apos cpos pos : Pos} {gg : GG}
theorem js_append (i : Nat) {z : Str} {pos' : Pos} (he : JE ct X e fe) (hN : X.N[i]? = some z := by rfl) (hv : Vis X.env.scope z := by first | exact Or.inl rfl | exact Or.inr (Or.inl rfl) | exact Or.inr (Or.inr rfl)) (hd : (z == ("__debug__" : Str)) = false := by decide) (hcd : (z == ("__classdict__" : Str)) = false := by decide)
    (hs : swapsWith (.Call (.Attribute (.Name z pos') "append" apos) [e] [] cpos) none pos.line X.env = pure false := by rfl)
    (hbase : attributeBase (.Name z pos') "append" X.env (eval (.Name z pos') X.env) = eval (.Name z pos') X.env := by rfl)
    (hfewZ : ((backTo cpos (starEach [e] X.env)).all (fun x => !x.1) && (backToKw cpos (keywordEach [] X.env)).all (fun x => x.1.isSome) && decide (([e] : List Expr).length + ([] : List Keyword).length + (if ([] : List Keyword).isEmpty then 0 else 1) < 30)) = true := by rfl)
    (hline : (apos.endLine == cpos.line) = true := by rfl) (hst : starEach [e] X.env = (false, eval e X.env) :: starEach [] X.env := by rfl) : JS ct X (.Expr (.Call (.Attribute (.Name z pos') "append" apos) [e] [] cpos) pos) (sApp i fe) := by
  refine ⟨(ps_expr (pe_bm F.plainAttrs_list F.slot_list_append F.type_list_append mt_append (pe_var hN hv hd hcd) (ja_cons he ja_nil hst).pa hbase hfewZ hline hst rfl) hs).imp fun D σ H h => ?_⟩
  obtain ⟨G, env, S, fl, g, e0, h⟩ := h
  obtain ⟨⟨y, S1⟩, e1, e2⟩ := Res.bind_ok e0
  dsimp only at e2
  cases hsl : env[i]? with
  | none => rw [hsl] at e2; cases e2
  | some sl =>
    rw [hsl] at e2
    cases sl with
    | un => cases e2
    | val w => cases e2
    | own w =>
      obtain ⟨p, hp, hM, h0, c⟩ := g.slot i _ hsl
      cases w with
      | lst xs =>
        dsimp only at e2
        split at e2
        · rename_i hz
          cases e2
          obtain ⟨vs, hH, rx⟩ := c
          refine ⟨.ref p, hp, .inl ⟨rfl, vs, .inl (.inl hH)⟩, G, env, S, [y], S1, g, ?_, fun ys H1 A1 p1 s1 r1 => ?_⟩
          · show (fe env S).bind _ = _
            rw [e1]; rfl
          have g1 := g.post p1 s1
          obtain ⟨p', hp', hM', h0', c1⟩ := g1.slot i _ hsl
          rw [hp] at hp'; cases hp'
          obtain ⟨vs1, hH1, rx1⟩ := c1
          obtain ⟨yv, rfl, ry⟩ := r1.one
          refine ⟨p, vs1, yv, rfl, rfl, hH1, ?_, ?_⟩
          · rw [rx1.length]; exact Nat.lt_of_lt_of_le hz (by decide)
          · exact h σ _ A1 G.M ((p1.lat G.M).trans (lat_upd (.inr hM))) (g1.mutOwn hsl hp ⟨_, upd_same, (rx1.append (.cons ry .nil)).lat (lat_upd (.inr hM)) _ _⟩)
        · cases e2
      | _ => cases e2
theorem js_pop (i : Nat) {z : Str} {pos' : Pos} (hg : JG ct X tg gg) (hN : X.N[i]? = some z := by rfl) (hv : Vis X.env.scope z := by first | exact Or.inl rfl | exact Or.inr (Or.inl rfl) | exact Or.inr (Or.inr rfl)) (hd : (z == ("__debug__" : Str)) = false := by decide) (hcd : (z == ("__classdict__" : Str)) = false := by decide)
    (hs : swapsWithSole [tg] (.Call (.Attribute (.Name z pos') "pop" apos) [] [] cpos) pos.line X.env = pure false := by rfl) (hw : swappedStores [tg] (.Call (.Attribute (.Name z pos') "pop" apos) [] [] cpos) X.env = pure none := by rfl)
    (h1 : (assignEach [tg] X.env).map (·.2) = [assign tg X.env] := by rfl)
    (hbase : attributeBase (.Name z pos') "pop" X.env (eval (.Name z pos') X.env) = eval (.Name z pos') X.env := by rfl)
    (hline : (apos.endLine == cpos.line) = true := by rfl) : JS ct X (.Assign [tg] (.Call (.Attribute (.Name z pos') "pop" apos) [] [] cpos) pos) (sPop i gg) := by
  refine ⟨(ps_asg (pe_bm0 F.plainAttrs_list F.slot_list_pop F.type_list_pop mt_pop (pe_var hN hv hd hcd) hbase hline) hg.pg hs hw h1).imp fun D σ H h => ?_⟩
  obtain ⟨G, env, S, fl, g, e0, h⟩ := h
  unfold sPop at e0
  cases hsl : env[i]? with
  | none => rw [hsl] at e0; cases e0
  | some sl =>
    rw [hsl] at e0
    cases sl with
    | un => cases e0
    | val w => cases e0
    | own w =>
      obtain ⟨p, hp, hM, h0, c⟩ := g.slot i _ hsl
      cases w with
      | lst xs =>
        dsimp only at e0
        cases hy : xs[xs.length - 1]? with
        | none => rw [hy] at e0; cases e0
        | some y =>
          rw [hy] at e0
          obtain ⟨⟨en, S2⟩, e3, e4⟩ := Res.bind_ok e0
          cases e4
          obtain ⟨vs, hH, rx⟩ := c
          obtain ⟨yv, hyv, ry⟩ := rx.get hy
          refine ⟨.ref p, hp, .inl ⟨rfl, vs, .inl (.inl hH)⟩, p, vs, yv, rfl, rfl, hH, by rw [rx.length]; exact hyv, ?_⟩
          have l : Lat G.A G.M H G.A G.M (upd H p (.lst vs.dropLast)) := lat_upd (.inr hM)
          exact ⟨G, env.set i (.own (.lst xs.dropLast)), S, y, en, S2, g.mutOwn (w := .lst xs.dropLast) hsl hp ⟨_, upd_same, rx.dropLast.lat l _ _⟩, ry.lat l y yv, e3, fun σ' H' A' M' l' g' => h σ' H' A' M' (l.trans l') g'⟩
      | _ => cases e0
end
/-! ### dicts made and asked -/
theorem fresh_dic {K : PySem.W.Frag} {ct : Ct} {G : Gh} {σ : St} {env : Env} {H : Hp} {S : Sto} {p : Addr} {o : HO} {v : PV} (g : Good K ct G σ H env S) (np : H p = none) (ho : ∀ vs, o ≠ .tup vs) (c : Cont K ct (upd H p o) G.A (p :: G.M) p v) :
    Post G.A H G.A (upd H p o) ∧ p ∉ G.A ∧ StoOk K ct (upd H p o) G.A (p :: G.M) S := by
  have sm : Same H (upd H p o) := same_new np
  exact ⟨Post.grow g.bs.nodup sm, fun z => g.inA p z np, (g.hide np sm (by rw [upd_same]; simp) (by rw [upd_same]; intro vs e; exact ho vs (Option.some.inj e))).bs.sto⟩
section
variable {ct : Ct} {X : Cx} {a b c : Expr} {fa fb fc : FE} {pos apos cpos : Pos}
theorem jf_dict (t : Bool) : JF ct X (.Dict [] [] pos) (eC (.dic t [] [])) := by
  cases t with
  | false =>
    refine ⟨pe_dnewK.imp fun σ H Q h => ?_⟩
    obtain ⟨G, env, S, v, S', g, h1, q⟩ := h
    cases h1
    intro p np
    have c : Cont X.K ct (upd H p (.dK [])) G.A (p :: G.M) p (.dic false [] []) := .inl ⟨rfl, [], upd_same, rfl, .nil⟩
    obtain ⟨k1, k2, k3⟩ := fresh_dic g np (fun _ => by simp) c
    exact q p _ G.A k1 np k2 k3 c
  | true =>
    refine ⟨pe_dnewT.imp fun σ H Q h => ?_⟩
    obtain ⟨G, env, S, v, S', g, h1, q⟩ := h
    cases h1
    intro p np
    have c : Cont X.K ct (upd H p (.dT [])) G.A (p :: G.M) p (.dic true [] []) := .inr ⟨rfl, [], upd_same, rfl, .nil⟩
    obtain ⟨k1, k2, k3⟩ := fresh_dic g np (fun _ => by simp) c
    exact q p _ G.A k1 np k2 k3 c
theorem RepB.isD {K : PySem.W.Frag} {H : Hp} {A M : List Addr} {t : Bool} {ks vs : List PV} {x : V} (r : RepB K ct H A M (.dic t ks vs) x) : ∃ a, x = .ref a ∧ IsD H a := by
  rcases r with r | ⟨p, rfl, _, c⟩
  · simp only [Rep] at r
    obtain ⟨a, rfl, r⟩ := r
    rcases r with ⟨ht, ws, h1, h2, h3⟩ | ⟨ht, ws, h1, h2, h3⟩
    · exact ⟨a, rfl, .inl ⟨ws, h1.rd⟩⟩
    · exact ⟨a, rfl, .inr ⟨ws, h1.rd⟩⟩
  · rcases c with ⟨ht, ws, h1, h2, h3⟩ | ⟨ht, ws, h1, h2, h3⟩
    · exact ⟨p, rfl, .inl ⟨ws, .inl h1⟩⟩
    · exact ⟨p, rfl, .inr ⟨ws, .inl h1⟩⟩
/-- d.get(k, x) -/
def eGet (fd fk fx : FE) : FE := fun env S => (fd env S).bind fun d => (fk env d.2).bind fun k => (fx env k.2).bind fun x => match d.1 with
  | .dic t ks vs => if keyFit t k.1 then .ok ((dGet ks vs k.1).getD x.1, x.2) else .err
  | _ => .err
theorem je_get {k : Nat} (hr : Room k X.A) (ha : JB ct X a fa) (hb : JE ct X b fb) (hc : JE ct X c fc) (m : M2 X a "get" apos b c cpos := by exact ⟨rfl, rfl, rfl, rfl⟩) : JE ct X (.Call (.Attribute a "get" apos) [b, c] [] cpos) (eGet fa fb fc) := by
  refine ⟨(pe_dget2 (hu_of hr) ha.pe hb.pe hc.pe m).imp fun σ H Q h => ?_⟩
  obtain ⟨G, env, S, v, S', g, h1, q⟩ := h
  obtain ⟨⟨d, S1⟩, e1, h1⟩ := Res.bind_ok h1
  obtain ⟨⟨y, S2⟩, e2, h1⟩ := Res.bind_ok h1
  obtain ⟨⟨x, S3⟩, e3, h1⟩ := Res.bind_ok h1
  cases d with
  | dic t ks vs =>
    dsimp only at h1
    split at h1
    · rename_i hf
      cases h1
      refine ⟨G, env, S, _, S1, g, e1, fun d' H1 A1 p1 s1 r1 => ?_⟩
      obtain ⟨ad, rfl, isd⟩ := r1.isD
      have g1 := g.post p1 s1
      refine ⟨ad, rfl, isd, ⟨{ G with A := A1 }, env, S1, y, S2, g1, e2, fun y' H2 A2 p2 s2 r2 => ⟨{ G with A := A2 }, env, S2, x, _, g1.post p2 s2, e3, fun x' H3 A3 p3 s3 r3 => ?_⟩⟩⟩
      have g2 := g1.post p2 s2
      have rd3 := (r1.lat p2 g1.bs.disj).lat p3 g2.bs.disj
      have ry3 := r2.lat (p3.lat G.M) y y'
      obtain ⟨ad', o, ea, dg, hh⟩ := dict_get rd3 ry3 hf
      cases ea
      refine ⟨o, dg, ?_⟩
      have po := (p1.trans p2).trans p3
      rcases hh with ⟨v, w, c1, c2, c3⟩ | ⟨c1, c2⟩
      · subst c2
        exact q _ H3 A3 po s3 (by rw [c1]; exact c3)
      · subst c2
        exact q _ H3 A3 po s3 (by rw [c1]; exact r3)
    · cases h1
  | _ => cases h1
end
/-! ### for k in d -/
def iKey (f : FE) : FA := fun env S => (f env S).bind fun x => match x.1 with
  | .dic _ ks _ => .ok (ks, x.2)
  | _ => .err
section
variable {ct : Ct} {X : Cx} {tg e : Expr} {f : FE}
theorem it_keysK {K : PySem.W.Frag} {A M : List Addr} {H : Hp} {d : Addr} {o : Obj} {ws : List (Key × V)} (h : H d = some (.frz o (.dK ws))) (nA : d ∉ A) (nM : d ∉ M) : ItOk K ct (Itk d o ws) A M H (ws.map fun w => keyV w.1) := fun A' M' H' l hx => by
  obtain ⟨h', _, _⟩ := l.vis d _ h nA nM
  rw [List.length_map]
  refine ⟨fun i hi => ⟨h', hi⟩, ⟨h', Nat.le_refl _⟩, fun i x H'' hi y => ?_⟩
  obtain ⟨e, k, v, e1, e2⟩ := y
  subst e e2
  refine ⟨Same.refl _, keyV k, by rw [List.getElem?_map, e1]; rfl, ?_⟩
  cases k with
  | inl i => exact Rep.int_iff.mpr rfl
  | inr i => exact Rep.str_iff.mpr rfl
theorem it_keysT {K : PySem.W.Frag} {A M : List Addr} {H : Hp} {d : Addr} {o : Obj} {ws : List (List Key × V)} (h : H d = some (.frz o (.dT ws))) (nA : d ∉ A) (nM : d ∉ M) : ItOk K ct (Itkt d o ws) A M H (ws.map fun w => .tup (w.1.map keyV)) := fun A' M' H' l hx => by
  obtain ⟨h', _, _⟩ := l.vis d _ h nA nM
  rw [List.length_map]
  refine ⟨fun i hi => ⟨h', hi⟩, ⟨h', Nat.le_refl _⟩, fun i x H'' hi y => ?_⟩
  obtain ⟨e, k, v, q, e1, e2, e3⟩ := y
  subst e e2
  refine ⟨Same.refl _, .tup (k.map keyV), by rw [List.getElem?_map, e1]; rfl, ?_⟩
  simp only [Rep]
  exact ⟨q, _, rfl, ⟨e3, fun z => hx.noA q z _ e3, fun z => hx.noM q z _ e3⟩, RepL.of_keys k⟩
theorem ji_keys (h : JE ct X e f) : JI ct X tg e (iKey f) := by
  refine ⟨(pi_keys h.pe).imp fun σ H R q => ?_⟩
  obtain ⟨G, env, S, v, S', g, h1, q⟩ := q
  obtain ⟨⟨x, S1⟩, e1, h1⟩ := Res.bind_ok h1
  cases x with
  | dic t ks vs =>
    cases h1
    refine ⟨G, env, S, _, _, g, e1, fun y H1 A1 p1 s1 r1 => ?_⟩
    simp only [Rep] at r1
    obtain ⟨a, rfl, r1⟩ := r1
    rcases r1 with ⟨ht, ws, ⟨⟨o, h8⟩, h2, h3⟩, rfl, h5⟩ | ⟨ht, ws, ⟨⟨o, h8⟩, h2, h3⟩, rfl, h5⟩
    · exact ⟨a, o, rfl, .inl ⟨ws, h8, q _ H1 A1 p1 s1 (it_keysK h8 h2 h3)⟩⟩
    · exact ⟨a, o, rfl, .inr ⟨ws, h8, q _ H1 A1 p1 s1 (it_keysT h8 h2 h3)⟩⟩
  | _ => cases h1
end
/-! ### repeats -/
def repP (n : Nat) (xs : List PV) : List PV := (List.replicate n xs).flatten
theorem RepL.rep {K : PySem.W.Frag} {ct : Ct} {H : Hp} {A M : List Addr} {ps : List PV} {vs : List V} (h : RepL K ct H A M ps vs) : ∀ n, RepL K ct H A M (repP n ps) (List.replicate n vs).flatten
  | 0 => by unfold repP; exact .nil
  | n + 1 => by
    unfold repP
    simp only [List.replicate_succ, List.flatten_cons]
    exact h.append (h.rep n)
def pRep : PV → PV → Option PV
  | .lst xs, .int k => if -1000000 ≤ k ∧ k ≤ 1000000 ∧ xs.length * k.toNat ≤ 1000000 then some (.lst (repP k.toNat xs)) else none
  | .tup xs, .int k => if xs.length = 1 ∧ 0 ≤ k ∧ k ≤ 1000 ∧ 2 ≤ k then some (.tup (repP k.toNat xs)) else none
  | _, _ => none
section
variable {ct : Ct} {X : Cx} {a b : Expr} {fa fb : FE} {pos : Pos}
theorem ok_rep {K : PySem.W.Frag} : OpOk K ct (fun x y H Q => rRep x y H Q ∨ rRepT K x y H Q) pRep := fun H A M x y vx vy v Q hx rx ry e q => by
  unfold pRep at e
  split at e
  · rename_i xs k
    split at e
    · rename_i hz
      cases e
      rw [ry.int]
      obtain ⟨ad, vs, rfl, k1, k2⟩ := rx.lst
      refine .inl ⟨ad, k, vs, rfl, rfl, k1, by omega, by omega, by rw [k2.length]; exact sz_mil hz.2.2, fun p np => ?_⟩
      obtain ⟨k3, k4⟩ := hx.new_lst (k2.rep k.toNat) np
      exact q _ _ k3 k4
    · cases e
  · rename_i xs k
    split at e
    · rename_i hz
      cases e
      rw [ry.int]
      obtain ⟨ad, vs, rfl, k1, k2⟩ := rx.tup
      refine .inr ⟨ad, k, vs, rfl, rfl, k1.sqT, ?_, by omega, by omega, by rw [k2.length]; omega, fun p np => ?_⟩
      · intro z; have := k2.length; rw [z] at this; simp at this; omega
      obtain ⟨k3, k4⟩ := hx.new_tup (k2.rep k.toNat) np
      exact q _ _ k3 k4
    · cases e
  · cases e
theorem OpR.or {X : Cx} {f : Value → Value → Sem Value} {r r' : R2} (h : OpR X f r) (h' : OpR X f r') : OpR X f (fun x y H Q => r x y H Q ∨ r' x y H Q) := fun pins s σ H x y v u Q I rx ry q => q.elim (h pins s σ H x y v u Q I rx ry) (h' pins s σ H x y v u Q I rx ry)
theorem je_rep (ha : JB ct X a fa) (hb : JB ct X b fb) : JE ct X (.BinOp a .Mult b pos) (eOp pRep fa fb) := je_op (OpR.or op_rep op_repT) ok_rep ha hb
end
end J
set_option Elab.async false
set_option linter.all false
set_option maxRecDepth 100000
/-! J: the order of data, sorted. -/
namespace J
open PySem L2

/-- what a value of the data may look like -/
inductive Ty where
  | int
  | str
  | seq (t : Ty)
  | lseq (t : Ty)
  | two (a b : Ty)
  | three (a b c : Ty)
def hasTy : Ty → PV → Bool
  | .int, .int _ => true
  | .str, .str x => isD (.str x)
  | .seq t, .tup xs => xs.all (hasTy t)
  | .lseq t, .lst xs => xs.all (hasTy t)
  | .two a b, .tup [x, y] => hasTy a x && hasTy b y
  | .three a b c, .tup [x, y, z] => hasTy a x && (hasTy b y && hasTy c z)
  | _, _ => false
def tyD : Ty → Nat
  | .int => 0
  | .str => 0
  | .seq t => tyD t + 1
  | .lseq t => tyD t + 1
  | .two a b => max (tyD a) (tyD b) + 1
  | .three a b c => max (tyD a) (max (tyD b) (tyD c)) + 1
mutual
def ltP : PV → PV → Bool
  | .int i, .int j => decide (i < j)
  | .str x, .str y => decide (x.cps.toList < y.cps.toList)
  | .tup xs, .tup ys => ltPL xs ys
  | .lst xs, .lst ys => ltPL xs ys
  | _, _ => false
def ltPL : List PV → List PV → Bool
  | [], [] => false
  | [], _ :: _ => true
  | _ :: _, [] => false
  | x :: xs, y :: ys => if eqP x y then ltPL xs ys else ltP x y
end
theorem all_isDL {f : PV → Bool} (h : ∀ x, f x = true → isD x = true) : ∀ (xs : List PV), xs.all f = true → isDL xs = true
  | [], _ => rfl
  | x :: r, e => by
    rw [List.all_cons, Bool.and_eq_true] at e
    simp only [isDL, Bool.and_eq_true]
    exact ⟨h x e.1, all_isDL h r e.2⟩
theorem hasTy_int {v : PV} (h : hasTy .int v = true) : ∃ i, v = .int i := by
  cases v with
  | int i => exact ⟨i, rfl⟩
  | _ => cases h
theorem hasTy_str {v : PV} (h : hasTy .str v = true) : ∃ x, v = .str x ∧ isD (.str x) = true := by
  cases v with
  | str x => exact ⟨x, rfl, h⟩
  | _ => cases h
theorem hasTy_seq {t : Ty} {v : PV} (h : hasTy (.seq t) v = true) : ∃ xs, v = .tup xs ∧ xs.all (hasTy t) = true := by
  cases v with
  | tup xs => exact ⟨xs, rfl, h⟩
  | _ => cases h
theorem hasTy_lseq {t : Ty} {v : PV} (h : hasTy (.lseq t) v = true) : ∃ xs, v = .lst xs ∧ xs.all (hasTy t) = true := by
  cases v with
  | lst xs => exact ⟨xs, rfl, h⟩
  | _ => cases h
theorem hasTy_two {a b : Ty} {v : PV} (h : hasTy (.two a b) v = true) : ∃ x y, v = .tup [x, y] ∧ hasTy a x = true ∧ hasTy b y = true := by
  cases v with
  | tup xs =>
    match xs, h with
    | [x, y], h =>
      have h' : (hasTy a x && hasTy b y) = true := h
      rw [Bool.and_eq_true] at h'
      exact ⟨x, y, rfl, h'.1, h'.2⟩
    | [], h => cases h
    | [_], h => cases h
    | _ :: _ :: _ :: _, hq => cases hq
  | _ => cases h
theorem hasTy_three {a b c : Ty} {v : PV} (h : hasTy (.three a b c) v = true) : ∃ x y z, v = .tup [x, y, z] ∧ hasTy a x = true ∧ hasTy b y = true ∧ hasTy c z = true := by
  cases v with
  | tup xs =>
    match xs, h with
    | [x, y, z], h =>
      have hZ' : (hasTy a x && (hasTy b y && hasTy c z)) = true := h
      rw [Bool.and_eq_true, Bool.and_eq_true] at hZ'
      exact ⟨x, y, z, rfl, hZ'.1, hZ'.2.1, hZ'.2.2⟩
    | [], h => cases h
    | [_], h => cases h
    | [_, _], h => cases h
    | _ :: _ :: _ :: _ :: _, hq => cases hq
  | _ => cases h
theorem hasTy_isD : ∀ (t : Ty) (v : PV), hasTy t v = true → isD v = true
  | .int, v, h => by obtain ⟨i, rfl⟩ := hasTy_int h; rfl
  | .str, v, h => by obtain ⟨i, rfl, h⟩ := hasTy_str h; exact h
  | .seq t, v, h => by
    obtain ⟨xs, rfl, h⟩ := hasTy_seq h
    simp only [isD]; exact all_isDL (hasTy_isD t) xs h
  | .lseq t, v, h => by
    obtain ⟨xs, rfl, h⟩ := hasTy_lseq h
    simp only [isD]; exact all_isDL (hasTy_isD t) xs h
  | .two a b, v, h => by
    obtain ⟨x, y, rfl, h1, h2⟩ := hasTy_two h
    simp only [isD, isDL, Bool.and_true, Bool.and_eq_true]
    exact ⟨hasTy_isD a x h1, hasTy_isD b y h2⟩
  | .three a b c, v, h => by
    obtain ⟨x, y, z, rfl, h1, h2, h3⟩ := hasTy_three h
    simp only [isD, isDL, Bool.and_true, Bool.and_eq_true]
    exact ⟨hasTy_isD a x h1, hasTy_isD b y h2, hasTy_isD c z h3⟩
theorem all_dp {f : PV → Bool} {n : Nat} (h : ∀ x, f x = true → dpP x ≤ n) : ∀ (xs : List PV), xs.all f = true → dpPL xs ≤ n
  | [], _ => by simp [dpPL]
  | x :: r, e => by
    rw [List.all_cons, Bool.and_eq_true] at e
    simp only [dpPL]
    have := h x e.1
    have := all_dp h r e.2
    omega
theorem hasTy_dp : ∀ (t : Ty) (v : PV), hasTy t v = true → dpP v ≤ tyD t
  | .int, v, h => by obtain ⟨i, rfl⟩ := hasTy_int h; simp [dpP]
  | .str, v, h => by obtain ⟨i, rfl, h⟩ := hasTy_str h; simp [dpP]
  | .seq t, v, h => by
    obtain ⟨xs, rfl, h⟩ := hasTy_seq h
    simp only [dpP, tyD]
    have := all_dp (hasTy_dp t) xs h
    omega
  | .lseq t, v, h => by
    obtain ⟨xs, rfl, h⟩ := hasTy_lseq h
    simp only [dpP, tyD]
    have := all_dp (hasTy_dp t) xs h
    omega
  | .two a b, v, h => by
    obtain ⟨x, y, rfl, h1, h2⟩ := hasTy_two h
    simp only [dpP, dpPL, tyD]
    have := hasTy_dp a x h1
    have := hasTy_dp b y h2
    omega
  | .three a b c, v, h => by
    obtain ⟨x, y, z, rfl, h1, h2, h3⟩ := hasTy_three h
    simp only [dpP, dpPL, tyD]
    have := hasTy_dp a x h1
    have := hasTy_dp b y h2
    have := hasTy_dp c z h3
    omega
theorem all_alike {f : PV → Bool} (h : ∀ x y, f x = true → f y = true → W.alike (toD x) (toD y) = true) : ∀ (xs ys : List PV), xs.all f = true → ys.all f = true → W.alikeAll (toDL xs) (toDL ys) = true
  | [], _, _, _ => by simp only [toDL, W.alikeAll]
  | x :: r, [], _, _ => by simp only [toDL, W.alikeAll]
  | x :: r, y :: s, e1, e2 => by
    rw [List.all_cons, Bool.and_eq_true] at e1 e2
    simp only [toDL, W.alikeAll, Bool.and_eq_true]
    exact ⟨h x y e1.1 e2.1, all_alike h r s e1.2 e2.2⟩
theorem hasTy_alike : ∀ (t : Ty) (u v : PV), hasTy t u = true → hasTy t v = true → W.alike (toD u) (toD v) = true
  | .int, u, v, h, k => by obtain ⟨i, rfl⟩ := hasTy_int h; obtain ⟨j, rfl⟩ := hasTy_int k; simp only [toD, W.alike]
  | .str, u, v, h, k => by obtain ⟨i, rfl, _⟩ := hasTy_str h; obtain ⟨j, rfl, _⟩ := hasTy_str k; simp only [toD, W.alike]
  | .seq t, u, v, h, k => by
    obtain ⟨xs, rfl, h⟩ := hasTy_seq h
    obtain ⟨ys, rfl, k⟩ := hasTy_seq k
    simp only [toD, W.alike]; exact all_alike (hasTy_alike t) xs ys h k
  | .lseq t, u, v, h, k => by
    obtain ⟨xs, rfl, h⟩ := hasTy_lseq h
    obtain ⟨ys, rfl, k⟩ := hasTy_lseq k
    simp only [toD, W.alike]; exact all_alike (hasTy_alike t) xs ys h k
  | .two a b, u, v, h, k => by
    obtain ⟨x, y, rfl, h1, h2⟩ := hasTy_two h
    obtain ⟨x', y', rfl, k1, k2⟩ := hasTy_two k
    simp only [toD, toDL, W.alike, W.alikeAll, Bool.and_true, Bool.and_eq_true]
    exact ⟨hasTy_alike a x x' h1 k1, hasTy_alike b y y' h2 k2⟩
  | .three a b c, u, v, h, k => by
    obtain ⟨x, y, z, rfl, h1, h2, h3⟩ := hasTy_three h
    obtain ⟨x', y', z', rfl, k1, k2, k3⟩ := hasTy_three k
    simp only [toD, toDL, W.alike, W.alikeAll, Bool.and_true, Bool.and_eq_true]
    exact ⟨hasTy_alike a x x' h1 k1, hasTy_alike b y y' h2 k2, hasTy_alike c z z' h3 k3⟩
theorem eqv_ty {t : Ty} {x y : PV} (hx : hasTy t x = true) (hy : hasTy t y = true) : PyData.eqv (toD x) (toD y) = eqP x y := eqv_toD x y (hasTy_isD t x hx) (hasTy_isD t y hy)
abbrev lexD (xs ys : List PyData) : Bool := PyProof.Rows.lexLt PyProof.Rows.itemOrd (W.keyToksAll xs) (W.keyToksAll ys)
theorem lexD_nil : lexD [] [] = false := PyProof.Rows.lex_irrefl _
theorem lexD_nc (y : PyData) (ys : List PyData) : lexD [] (y :: ys) = true := by
  unfold lexD
  rw [W.toks_all_cons]
  simp only [W.keyToksAll]
  rw [PyProof.Rows.lex_diff (O := PyProof.Rows.itemOrd) (by simp)]
  rfl
theorem lexD_cn (y : PyData) (ys : List PyData) : lexD (y :: ys) [] = false := by
  unfold lexD
  rw [W.toks_all_cons]
  simp only [W.keyToksAll]
  rw [PyProof.Rows.lex_diff (O := PyProof.Rows.itemOrd) (by simp)]
  rfl
theorem lexD_cc {t : Ty} {x y : PV} (hx : hasTy t x = true) (hy : hasTy t y = true) (e : W.dataLt (toD x) (toD y) = ltP x y) (xs ys : List PyData) : lexD (toD x :: xs) (toD y :: ys) = if eqP x y then lexD xs ys else ltP x y := by
  unfold lexD
  rw [W.dataLt_cons (hasTy_alike t x y hx hy), eqv_ty hx hy, e]
theorem lexD_all {t : Ty} (ih : ∀ x y, hasTy t x = true → hasTy t y = true → W.dataLt (toD x) (toD y) = ltP x y) : ∀ (xs ys : List PV), xs.all (hasTy t) = true → ys.all (hasTy t) = true → lexD (toDL xs) (toDL ys) = ltPL xs ys
  | [], [], _, _ => by simp only [toDL, ltPL]; exact lexD_nil
  | [], y :: ys, _, _ => by simp only [toDL, ltPL]; exact lexD_nc _ _
  | x :: xs, [], _, _ => by simp only [toDL, ltPL]; exact lexD_cn _ _
  | x :: xs, y :: ys, h, k => by
    rw [List.all_cons, Bool.and_eq_true] at h k
    simp only [toDL, ltPL]
    rw [lexD_cc h.1 k.1 (ih x y h.1 k.1), lexD_all ih xs ys h.2 k.2]
theorem lt_ty : ∀ (t : Ty) (u v : PV), hasTy t u = true → hasTy t v = true → W.dataLt (toD u) (toD v) = ltP u v
  | .int, u, v, h, k => by obtain ⟨i, rfl⟩ := hasTy_int h; obtain ⟨j, rfl⟩ := hasTy_int k; simp only [toD, ltP]; exact W.dataLt_int i j
  | .str, u, v, h, k => by obtain ⟨i, rfl, _⟩ := hasTy_str h; obtain ⟨j, rfl, _⟩ := hasTy_str k; simp only [toD, ltP]; exact W.dataLt_str i j
  | .seq t, u, v, h, k => by
    obtain ⟨xs, rfl, h⟩ := hasTy_seq h
    obtain ⟨ys, rfl, k⟩ := hasTy_seq k
    simp only [toD, ltP]
    rw [W.dataLt_tuple]; exact lexD_all (lt_ty t) xs ys h k
  | .lseq t, u, v, h, k => by
    obtain ⟨xs, rfl, h⟩ := hasTy_lseq h
    obtain ⟨ys, rfl, k⟩ := hasTy_lseq k
    simp only [toD, ltP]
    rw [W.dataLt_list]; exact lexD_all (lt_ty t) xs ys h k
  | .two a b, u, v, h, k => by
    obtain ⟨x, y, rfl, h1, h2⟩ := hasTy_two h
    obtain ⟨x', y', rfl, k1, k2⟩ := hasTy_two k
    simp only [toD, toDL, ltP, ltPL]
    rw [W.dataLt_tuple]
    show lexD _ _ = _
    rw [lexD_cc h1 k1 (lt_ty a x x' h1 k1), lexD_cc h2 k2 (lt_ty b y y' h2 k2), lexD_nil]
  | .three a b c, u, v, h, k => by
    obtain ⟨x, y, z, rfl, h1, h2, h3⟩ := hasTy_three h
    obtain ⟨x', y', z', rfl, k1, k2, k3⟩ := hasTy_three k
    simp only [toD, toDL, ltP, ltPL]
    rw [W.dataLt_tuple]
    show lexD _ _ = _
    rw [lexD_cc h1 k1 (lt_ty a x x' h1 k1), lexD_cc h2 k2 (lt_ty b y y' h2 k2), lexD_cc h3 k3 (lt_ty c z z' h3 k3), lexD_nil]
/-! ### the order is total -/
theorem eq_all {t : Ty} (ih : ∀ x y, hasTy t x = true → hasTy t y = true → eqP x y = true → x = y) : ∀ (xs ys : List PV), xs.all (hasTy t) = true → ys.all (hasTy t) = true → eqPL xs ys = true → xs = ys
  | [], [], _, _, _ => rfl
  | [], y :: ys, _, _, e => by simp [eqPL] at e
  | x :: xs, [], _, _, e => by simp [eqPL] at e
  | x :: xs, y :: ys, h, k, e => by
    rw [List.all_cons, Bool.and_eq_true] at h k
    simp only [eqPL, Bool.and_eq_true] at e
    rw [ih x y h.1 k.1 e.1, eq_all ih xs ys h.2 k.2 e.2]
theorem eq_ty : ∀ (t : Ty) (u v : PV), hasTy t u = true → hasTy t v = true → eqP u v = true → u = v
  | .int, u, v, h, k, e => by obtain ⟨i, rfl⟩ := hasTy_int h; obtain ⟨j, rfl⟩ := hasTy_int k; simpa [eqP] using e
  | .str, u, v, h, k, e => by obtain ⟨i, rfl, _⟩ := hasTy_str h; obtain ⟨j, rfl, _⟩ := hasTy_str k; simpa [eqP] using e
  | .seq t, u, v, h, k, e => by
    obtain ⟨xs, rfl, h⟩ := hasTy_seq h
    obtain ⟨ys, rfl, k⟩ := hasTy_seq k
    simp only [eqP] at e
    rw [eq_all (eq_ty t) xs ys h k e]
  | .lseq t, u, v, h, k, e => by
    obtain ⟨xs, rfl, h⟩ := hasTy_lseq h
    obtain ⟨ys, rfl, k⟩ := hasTy_lseq k
    simp only [eqP] at e
    rw [eq_all (eq_ty t) xs ys h k e]
  | .two a b, u, v, h, k, e => by
    obtain ⟨x, y, rfl, h1, h2⟩ := hasTy_two h
    obtain ⟨x', y', rfl, k1, k2⟩ := hasTy_two k
    simp only [eqP, eqPL, Bool.and_true, Bool.and_eq_true] at e
    rw [eq_ty a x x' h1 k1 e.1, eq_ty b y y' h2 k2 e.2]
  | .three a b c, u, v, h, k, e => by
    obtain ⟨x, y, z, rfl, h1, h2, h3⟩ := hasTy_three h
    obtain ⟨x', y', z', rfl, k1, k2, k3⟩ := hasTy_three k
    simp only [eqP, eqPL, Bool.and_true, Bool.and_eq_true] at e
    rw [eq_ty a x x' h1 k1 e.1, eq_ty b y y' h2 k2 e.2.1, eq_ty c z z' h3 k3 e.2.2]
theorem eqP_comm (x y : PV) (hx : isD x = true) (hy : isD y = true) : eqP x y = eqP y x := by
  rw [← eqv_toD x y hx hy, ← eqv_toD y x hy hx]; exact W.eqv_comm _ _
theorem tri_all {t : Ty} (ih : ∀ x y, hasTy t x = true → hasTy t y = true → ltP x y = false → ltP y x = false → eqP x y = true) : ∀ (xs ys : List PV), xs.all (hasTy t) = true → ys.all (hasTy t) = true → ltPL xs ys = false → ltPL ys xs = false → eqPL xs ys = true
  | [], [], _, _, _, _ => rfl
  | [], y :: ys, _, _, e, _ => by simp [ltPL] at e
  | x :: xs, [], _, _, _, e => by simp [ltPL] at e
  | x :: xs, y :: ys, h, k, e, f => by
    rw [List.all_cons, Bool.and_eq_true] at h k
    simp only [ltPL] at e f
    rw [eqP_comm y x (hasTy_isD t y k.1) (hasTy_isD t x h.1)] at f
    simp only [eqPL, Bool.and_eq_true]
    cases hq : eqP x y with
    | true =>
      rw [hq] at e f
      exact ⟨rfl, tri_all ih xs ys h.2 k.2 e f⟩
    | false =>
      rw [hq] at e f
      rw [ih x y h.1 k.1 e f] at hq; cases hq
theorem tri_cc {t : Ty} {x y : PV} {p q : Bool} (h : hasTy t x = true) (k : hasTy t y = true) (ih : ltP x y = false → ltP y x = false → eqP x y = true) (e : (if eqP x y then p else ltP x y) = false) (f : (if eqP y x then q else ltP y x) = false) : eqP x y = true ∧ p = false ∧ q = false := by
  rw [eqP_comm y x (hasTy_isD t y k) (hasTy_isD t x h)] at f
  cases hq : eqP x y with
  | true => rw [hq] at e f; exact ⟨rfl, e, f⟩
  | false => rw [hq] at e f; rw [ih e f] at hq; cases hq
theorem tri_ty : ∀ (t : Ty) (u v : PV), hasTy t u = true → hasTy t v = true → ltP u v = false → ltP v u = false → eqP u v = true
  | .int, u, v, h, k, e, f => by
    obtain ⟨i, rfl⟩ := hasTy_int h; obtain ⟨j, rfl⟩ := hasTy_int k
    simp only [ltP, decide_eq_false_iff_not] at e f
    simp only [eqP, beq_iff_eq]; omega
  | .str, u, v, h, k, e, f => by
    obtain ⟨i, rfl, _⟩ := hasTy_str h; obtain ⟨j, rfl, _⟩ := hasTy_str k
    simp only [ltP, decide_eq_false_iff_not, List.not_lt] at e f
    have := W.str_of_cps (List.le_antisymm f e)
    simp only [eqP, beq_iff_eq]; exact this
  | .seq t, u, v, h, k, e, f => by
    obtain ⟨xs, rfl, h⟩ := hasTy_seq h
    obtain ⟨ys, rfl, k⟩ := hasTy_seq k
    simp only [ltP] at e f
    simp only [eqP]
    exact tri_all (tri_ty t) xs ys h k e f
  | .lseq t, u, v, h, k, e, f => by
    obtain ⟨xs, rfl, h⟩ := hasTy_lseq h
    obtain ⟨ys, rfl, k⟩ := hasTy_lseq k
    simp only [ltP] at e f
    simp only [eqP]
    exact tri_all (tri_ty t) xs ys h k e f
  | .two a b, u, v, h, k, e, f => by
    obtain ⟨x, y, rfl, h1, h2⟩ := hasTy_two h
    obtain ⟨x', y', rfl, k1, k2⟩ := hasTy_two k
    simp only [ltP, ltPL] at e f
    obtain ⟨c1, e, f⟩ := tri_cc h1 k1 (tri_ty a x x' h1 k1) e f
    obtain ⟨c2, e, f⟩ := tri_cc h2 k2 (tri_ty b y y' h2 k2) e f
    simp only [eqP, eqPL, c1, c2, Bool.and_true]
  | .three a b c, u, v, h, k, e, f => by
    obtain ⟨x, y, z, rfl, h1, h2, h3⟩ := hasTy_three h
    obtain ⟨x', y', z', rfl, k1, k2, k3⟩ := hasTy_three k
    simp only [ltP, ltPL] at e f
    obtain ⟨c1, e, f⟩ := tri_cc h1 k1 (tri_ty a x x' h1 k1) e f
    obtain ⟨c2, e, f⟩ := tri_cc h2 k2 (tri_ty b y y' h2 k2) e f
    obtain ⟨c3, e, f⟩ := tri_cc h3 k3 (tri_ty c z z' h3 k3) e f
    simp only [eqP, eqPL, c1, c2, c3, Bool.and_true]
/-! ### sorting by insertion -/
def insP (lt : PV → PV → Bool) (x : PV) : List PV → List PV
  | [] => [x]
  | y :: r => if lt y x then y :: insP lt x r else x :: y :: r
def isort (lt : PV → PV → Bool) : List PV → List PV
  | [] => []
  | x :: r => insP lt x (isort lt r)
theorem insP_perm (lt : PV → PV → Bool) (x : PV) : ∀ xs, (insP lt x xs).Perm (x :: xs)
  | [] => .refl _
  | y :: r => by
    unfold insP
    split
    · exact ((insP_perm lt x r).cons y).trans (.swap x y r)
    · exact .refl _
theorem isort_perm (lt : PV → PV → Bool) : ∀ xs, (isort lt xs).Perm xs
  | [] => .refl _
  | x :: r => (insP_perm lt x _).trans ((isort_perm lt r).cons x)
theorem insP_congr {lt lt' : PV → PV → Bool} {x : PV} : ∀ {xs : List PV}, (∀ y ∈ xs, lt y x = lt' y x) → insP lt x xs = insP lt' x xs
  | [], _ => rfl
  | y :: r, h => by
    unfold insP
    rw [h y List.mem_cons_self, insP_congr fun z hz => h z (List.mem_cons_of_mem _ hz)]
theorem isort_congr {lt lt' : PV → PV → Bool} : ∀ {xs : List PV}, (∀ x ∈ xs, ∀ y ∈ xs, lt y x = lt' y x) → isort lt xs = isort lt' xs
  | [], _ => rfl
  | x :: r, h => by
    unfold isort
    rw [isort_congr fun a ha b hb => h a (List.mem_cons_of_mem _ ha) b (List.mem_cons_of_mem _ hb)]
    exact insP_congr fun y hy => h x List.mem_cons_self y (List.mem_cons_of_mem _ ((isort_perm lt' r).mem_iff.mp hy))
def leD (a b : PV) : Bool := !W.dataLt (toD b) (toD a)
theorem leD_eq : W.dataLe false toD = leD := rfl
theorem leD_total : W.TotalLe leD := W.sortLe_total (PyProof.Rows.listOrd PyProof.Rows.itemOrd) false fun b => W.keyToks (toD b)
theorem insP_sorted (x : PV) : ∀ (xs : List PV), xs.Pairwise (fun a b => leD a b = true) → (insP (fun a b => W.dataLt (toD a) (toD b)) x xs).Pairwise (fun a b => leD a b = true)
  | [], _ => by simp [insP]
  | y :: r, h => by
    rw [List.pairwise_cons] at h
    unfold insP
    cases hl : W.dataLt (toD y) (toD x) with
    | true =>
      rw [if_pos rfl, List.pairwise_cons]
      refine ⟨fun z hz => ?_, insP_sorted x r h.2⟩
      rcases List.mem_cons.mp ((insP_perm _ x r).mem_iff.mp hz) with rfl | hz
      · have t := leD_total.total y z
        have : leD z y = false := by unfold leD; rw [hl]; rfl
        rcases t with t | t
        · exact t
        · rw [this] at t; cases t
      · exact h.1 z hz
    | false =>
      rw [if_neg (by simp), List.pairwise_cons, List.pairwise_cons]
      have hxy : leD x y = true := by unfold leD; rw [hl]; rfl
      refine ⟨fun z hz => ?_, h.1, h.2⟩
      rcases List.mem_cons.mp (show _ ∈ _ :: _ from hz) with rfl | hz
      · exact hxy
      · exact leD_total.trans x y z hxy (h.1 z hz)
theorem isort_sorted : ∀ (xs : List PV), (isort (fun a b => W.dataLt (toD a) (toD b)) xs).Pairwise (fun a b => leD a b = true)
  | [] => by simp [isort]
  | x :: r => insP_sorted x _ (isort_sorted r)
theorem sort_ty {t : Ty} {xs : List PV} (h : xs.all (hasTy t) = true) : xs.mergeSort (W.dataLe false toD) = isort ltP xs := by
  rw [List.all_eq_true] at h
  rw [leD_eq, ← isort_congr (lt := fun a b => W.dataLt (toD a) (toD b)) fun x hx y hy => lt_ty t y x (h y hy) (h x hx)]
  refine List.Perm.eq_of_pairwise (le := fun a b => leD a b = true) (fun a b ha hb h1 h2 => ?_) (List.pairwise_mergeSort leD_total.trans (fun a b => by rw [Bool.or_eq_true]; exact leD_total.total a b) xs) (isort_sorted xs) ((List.mergeSort_perm xs _).trans (isort_perm _ xs).symm)
  have ma := h a ((List.mergeSort_perm xs _).mem_iff.mp ha)
  have mb := h b ((isort_perm _ xs).mem_iff.mp hb)
  unfold leD at h1 h2
  rw [Bool.not_eq_true', lt_ty t _ _ mb ma] at h1
  rw [Bool.not_eq_true', lt_ty t _ _ ma mb] at h2
  exact eq_ty t a b ma mb (tri_ty t a b ma mb h2 h1)

/-! ### sorted(..) -/
mutual
theorem reads_lt {h : Heap} : ∀ (b : PV) (v : Value) (as : List Addr), Reads h v (toD b) as → ∀ a ∈ as, a < h.objs.size
  | .tup xs, v, as, r, a, haZ => by
    simp only [toD] at r
    cases r with
    | tuple h1 h2 h3 h4 => exact readsL_lt xs _ _ h4 a haZ
  | .lst xs, v, as, r, a, haZ => by
    simp only [toD] at r
    cases r with
    | list h1 h2 h3 h4 =>
      rcases List.mem_cons.mp haZ with rfl | haZ
      · exact Heap.lt_size h1
      · exact readsL_lt xs _ _ h4 a haZ
  | .non, v, as, r, a, haZ => by simp only [toD] at r; cases r; cases haZ
  | .bl _, v, as, r, a, haZ => by simp only [toD] at r; cases r; cases haZ
  | .int _, v, as, r, a, haZ => by simp only [toD] at r; cases r; cases haZ
  | .str _, v, as, r, a, haZ => by simp only [toD] at r; cases r; cases haZ
  | .dic _ _ _, v, as, r, a, haZ => by simp only [toD] at r; cases r; cases haZ
  | .ins _ _, v, as, r, a, haZ => by simp only [toD] at r; cases r; cases haZ
  | .obj _, v, as, r, a, haZ => by simp only [toD] at r; cases r; cases haZ
  | .scr _, v, as, r, a, haZ => by simp only [toD] at r; cases r; cases haZ
theorem readsL_lt {h : Heap} : ∀ (bs : List PV) (vs : List Value) (as : List Addr), ReadsAll h vs (toDL bs) as → ∀ a ∈ as, a < h.objs.size
  | [], vs, as, r, a, haZ => by simp only [toDL] at r; cases r; cases haZ
  | b :: bs, vs, as, r, a, haZ => by
    simp only [toDL] at r
    cases r with
    | cons h1 h2 =>
      rcases List.mem_append.mp haZ with haZ | haZ
      · exact reads_lt b _ _ h1 a haZ
      · exact readsL_lt bs _ _ h2 a haZ
end
section
open PySem.W PyProof.Rows
variable {prog : Program} {w : World} {A : Around} {E : Value → Shared → Prop} {s : Shared} {bs : List PV} {R : Value → PV → Prop}
/-- sorted of what is gathered -/
theorem sorted_src {l : Addr} {Q : Value → Shared → Prop} {C : List Value → Prop} (hcol : ∀ (R' : List Value → Shared → Prop) (E' : Value → Shared → Prop), (∀ h' tk vs, C vs → (∀ b o, s.heap.get? b = some o → h'.get? b = some o) → R' vs { s with heap := h', toks := tk }) → wpAny (model prog w) A.in1 (collect (.ref l)) R' E' s)
    (hC : ∀ vs, C vs → EachIs R vs bs ∧ EachIs (fun v b => ∃ as, Reads s.heap v (toD b) as) vs bs)
    (hL : bs.length ≤ sizeLine) (hal : AllAlike (bs.map toD)) (hk : 2 ≤ bs.length → Sortable (bs.map toD)) (hu : ∀ b, b ∈ bs → A.units + 64 + (toD b).depth < cLine + 60)
    (h : ∀ (h' h'' : Heap) (tk : Nat) (out : List Value), EachIs R out (bs.mergeSort (dataLe false toD)) → (∀ b o, s.heap.get? b = some o → h'.get? b = some o) → (∀ b o, h'.get? b = some o → h''.get? b = some o) → (∃ n, h''.get? h'.objs.size = some (seqObj "list" out.toArray n)) → Q (.ref h'.objs.size) { s with heap := h'', toks := tk }) : wpAny (model prog w) A (call (.builtin "sorted") [.ref l]) Q E s := by
  apply Calls.call_function_entry kind_sorted plain_sorted entry_sorted (args_sorted1 _)
  unfold Builtin.«sorted»
  refine wpAny_bind (m := checkCount "sorted" 1 1 _) (wpAny_pure ?_); refine wpAny_bind (hcol _ _ fun h' tk vs c hk' => ?_)
  obtain ⟨e, er⟩ := hC vs c
  have hlen : vs.length = bs.length := e.length
  refine wpAny_bind (wpAny_newList ?_ (by rw [hlen]; exact hL))
  have hoL : (h'.push (seqObj "list" vs.toArray 0)).get? h'.objs.size = some (seqObj "list" vs.toArray 0) := Heap.get?_push_size _ rfl
  have old : ∀ (out : List Value) b o, h'.get? b = some o → (sortedHeap (h'.push (seqObj "list" vs.toArray 0)) h'.objs.size vs out.toArray).get? b = some o := fun out b o q => by
    have hb : b < h'.objs.size := Heap.lt_size q
    rw [sortedHeap_old (Nat.ne_of_lt hb) (by rw [size_push']; exact Nat.lt_succ_of_lt hb)]
    exact (Heap.get?_push_of_some _ q)
  have fin : ∀ out, EachIs R out (bs.mergeSort (dataLe false toD)) → Q (.ref h'.objs.size) { s with heap := sortedHeap (h'.push (seqObj "list" vs.toArray 0)) h'.objs.size vs (List.toArray out), toks := tk } := fun out eo =>
    h h' _ tk out eo hk' (old out) (sortedHeap_at hoL)
  by_cases h2 : 2 ≤ bs.length
  · refine wpAny_bind (wpAny_holding (list_sort_data (s := { s with heap := h'.push (seqObj "list" vs.toArray 0), toks := tk }) hoL e ?_ hal (hk h2) hL (fun b hb => ?_) fun out ho eo => wpAny_pure ⟨_, rfl, fin out eo⟩))
    · refine (each_mem er).mono fun v b ⟨⟨as, r⟩, _⟩ => ?_
      have r1 : Reads h' v (toD b) as := PyProof.Rows.Reads.keeps hk' r
      exact ⟨as, PyProof.Rows.Reads.keeps (fun b o q => Heap.get?_push_of_some _ q) r1, fun z => Nat.lt_irrefl _ (reads_lt b v as r1 _ z)⟩
    · have := hu b hb
      show A.units + 1 + 1 + _ < cLine
      omega
  · refine wpAny_bind (wpAny_holding (wpAny_call_entry slot_list_sort ⟨_, hoL, rfl⟩ entry_list_sort (SrtO.list_sort_ord (ltv := fun _ _ => false) (s := { s with heap := h'.push (seqObj "list" vs.toArray 0), toks := tk }) ⟨fun _ _ h => absurd h (by simp), fun _ _ _ _ _ => rfl⟩ hoL (by rw [hlen]; exact hL) (fun z => absurd z (by omega)) fun out _ hb => ⟨_, rfl, ?_⟩) (args_list_sort _)))
    refine wpAny_pure ⟨_, rfl, fin out ?_⟩
    have hp := hb.perm
    have e1 : out = vs := by
      match vs, hlen, hp with
      | [], _, hp => exact hp.eq_nil
      | [v], _, hp => exact List.perm_singleton.mp hp
      | _ :: _ :: _, hl, _ => simp at hl; omega
    have e2 : bs.mergeSort (dataLe false toD) = bs := by
      match bs, h2 with
      | [], _ => simp
      | [v], _ => simp
      | _ :: _ :: _, h2 => simp at h2
    rw [e1, e2]
    exact e
end

def srtOk (t : Ty) (xs : List PV) : Bool := decide (xs.length ≤ 1000000) && (xs.all (hasTy t) && (decide (tyD t ≤ 50) && (decide (xs.length < 2) || (xs.all fun x => match x with
  | .tup [] => false
  | .tup (_ :: _) => true
  | _ => false) || xs.all fun x => match x with
  | .tup _ => false
  | _ => true)))
section
variable {K : PySem.W.Frag} {ct : Ct} {H : Hp} {A M : List Addr}
theorem srtOk.parts {t : Ty} {xs : List PV} (h : srtOk t xs = true) : xs.length ≤ 1000000 ∧ xs.all (hasTy t) = true ∧ tyD t ≤ 50 ∧ W.AllAlike (xs.map toD) ∧ (2 ≤ xs.length → W.Sortable (xs.map toD)) := by
  unfold srtOk at h
  simp only [decide_eq_true_eq, Bool.and_eq_true] at h
  obtain ⟨h1, h2, h3, h4⟩ := h
  have h2' := List.all_eq_true.mp h2
  refine ⟨h1, h2, h3, fun d hd d' hd' => ?_, fun hl => ?_⟩
  · obtain ⟨bZ, hb, rfl⟩ := List.mem_map.mp hd
    obtain ⟨b', hb', rfl⟩ := List.mem_map.mp hd'
    exact hasTy_alike t bZ b' (h2' bZ hb) (h2' b' hb')
  · simp only [Bool.or_eq_true, decide_eq_true_eq] at h4
    rcases h4 with (h4 | h4) | h4
    · omega
    · rw [List.all_eq_true] at h4
      refine .inl fun d hd => ?_
      obtain ⟨bZ, hb, rfl⟩ := List.mem_map.mp hd
      have := h4 bZ hb
      match bZ, this with
      | .tup (x :: r), _ => exact ⟨toD x, toDL r, by simp only [toD, toDL]⟩
    · rw [List.all_eq_true] at h4
      refine .inr fun d hd => ?_
      obtain ⟨bZ, hb, rfl⟩ := List.mem_map.mp hd
      have hn := h4 bZ hb
      have ht := h2' bZ hb
      constructor
      · intro z
        cases t with
        | int => obtain ⟨i, rfl⟩ := hasTy_int ht; simp [toD] at z
        | str => obtain ⟨i, rfl, _⟩ := hasTy_str ht; simp [toD] at z
        | seq t => obtain ⟨i, rfl, _⟩ := hasTy_seq ht; simp [toD] at z
        | lseq t => obtain ⟨i, rfl, _⟩ := hasTy_lseq ht; simp [toD] at z
        | two _ _ => obtain ⟨i, j, rfl, _⟩ := hasTy_two ht; simp [toD] at z
        | three _ _ _ => obtain ⟨i, j, k, rfl, _⟩ := hasTy_three ht; simp [toD] at z
      · intro ys z
        cases bZ with
        | tup xs => simp at hn
        | _ => simp [toD] at z
theorem each_rep {X : Cx} {pins : List (Addr × Obj)} {σ : St} {s : Shared} (I : Inv X pins σ H s) : ∀ {ps : List PV} {xs : List V} {vs : List Value}, isDL ps = true → RepL X.K ct H A M ps xs → Vals xs vs →
    W.EachIs (fun v b => ∃ x, RelV x v ∧ Rep X.K ct H A M b x) vs ps ∧ W.EachIs (fun v b => ∃ as, Reads s.heap v (toD b) as) vs ps
  | [], xs, vs, _, r, rv => by
    rw [RepL.nil_iff.mp r] at rv
    cases rv
    exact ⟨.nil, .nil⟩
  | p :: ps, xs, vs, hd, r, rv => by
    obtain ⟨x, ys, rfl, r1, r2⟩ := r.inv
    simp only [isDL, Bool.and_eq_true] at hd
    cases rv with
    | cons v1 v2 =>
      obtain ⟨k1, k2⟩ := each_rep I hd.2 r2 v2
      exact ⟨.cons ⟨x, v1, r1⟩ k1, .cons (Dp.reads I _ x _ (r1.dp p x hd.1) v1) k2⟩
theorem rep_each {K : PySem.W.Frag} : ∀ {ps : List PV} {vs : List Value}, W.EachIs (fun v b => ∃ x, RelV x v ∧ Rep K ct H A M b x) vs ps → ∃ xs, Vals xs vs ∧ RepL K ct H A M ps xs
  | _, _, .nil => ⟨[], .nil, .nil⟩
  | _, _, .cons h t => by
    obtain ⟨x, r1, r2⟩ := h
    obtain ⟨xs, k1, k2⟩ := rep_each t
    exact ⟨x :: xs, .cons r1 k1, .cons r2 k2⟩
end
/-- where the items of a stand: a list, a tuple, a dict's keys -/
def Items (K : PySem.W.Frag) (ct : Ct) (H : Hp) (A M : List Addr) (a : Addr) (bs : List PV) : Prop := (∃ xs, (SqL K H a xs ∨ SqT K H a xs) ∧ RepL K ct H A M bs xs) ∨ (∃ kvs : List (Key × V), Rd H a (.dK kvs) ∧ bs = kvs.map fun w => keyV w.1) ∨
  ∃ kvs : List (List Key × V), Rd H a (.dT kvs) ∧ bs = kvs.map fun w => .tup (w.1.map keyV)
def rSrt (K : PySem.W.Frag) (ct : Ct) : List V → Hp → VK → Prop := fun vs H Q => ∃ (a : Addr) (A M : List Addr) (bs : List PV) (t : Ty), vs = [.ref a] ∧ Hx A M H ∧ Items K ct H A M a bs ∧ srtOk t bs = true ∧
  ∀ p zs, H p = none → RepL K ct H A M (isort ltP bs) zs → Q (.ref p) (upd H p (.lst zs))
theorem RepL.keysT {K : PySem.W.Frag} {ct : Ct} {H : Hp} {A M : List Addr} (hx : Hx A M H) : ∀ {kvs : List (List Key × V)} {bs : List Addr}, IsKeys H kvs bs → RepL K ct H A M (kvs.map fun w => .tup (w.1.map keyV)) (bs.map V.ref) := fun {kvs bs} h => by
  unfold IsKeys at h
  induction h with
  | nil => exact .nil
  | @cons p b ps bs h t ih =>
    refine .cons ?_ ih
    simp only [Rep]
    exact ⟨b, _, rfl, ⟨h, fun z => hx.noA b z _ h, fun z => hx.noM b z _ h⟩, RepL.of_keys p.1⟩
theorem RepL.keysK {K : PySem.W.Frag} {ct : Ct} {H : Hp} {A M : List Addr} : ∀ (kvs : List (Key × V)), RepL K ct H A M (kvs.map fun w => keyV w.1) (kvs.map fun w => kV w.1)
  | [] => .nil
  | ⟨.inl i, v⟩ :: r => .cons (Rep.int_iff.mpr rfl) (RepL.keysK r)
  | ⟨.inr i, v⟩ :: r => .cons (Rep.str_iff.mpr rfl) (RepL.keysK r)
section
open PyProof.Rows
variable {X : Cx} {pins : List (Addr × Obj)} {s : Shared} {H : Hp} {σ : L2.St}
/-- how a's items are gathered -/
theorem collect_items {ct : Ct} {A M : List Addr} {a : Addr} {bs : List PV} (hcalm : X.calm = true) (I : Inv X pins σ H s) (hx : Hx A M H) (hi : Items X.K ct H A M a bs) :
    ∃ (xs : List V), RepL X.K ct H A M bs xs ∧ ∀ (R' : List Value → Shared → Prop) (E' : Value → Shared → Prop), (∀ h' tk vs, Vals xs vs → (∀ b o, s.heap.get? b = some o → h'.get? b = some o) → R' vs { s with heap := h', toks := tk }) → wpAny (model X.prog X.w) X.A.in1 (collect (.ref a)) R' E' s := by
  rcases hi with ⟨xs, hq | hq, r⟩ | ⟨kvs, hd, rfl⟩ | ⟨kvs, hd, rfl⟩
  · obtain ⟨its, rv, pl, hz⟩ := I.list hq
    refine ⟨xs, r, fun R' E' h => collect_list pl.isList (h _ s.toks its rv fun b o e => ?_) (by rw [← rv.length]; exact hz)⟩
    rw [Heap.get?_update_ne _ _ _ _ (Nat.ne_of_lt (Heap.lt_size e))]
    exact (Heap.get?_push_of_some _ e)
  · obtain ⟨its, rv, ⟨o, ho, hc, n, hdt⟩, hz⟩ := I.tuple hq
    refine ⟨xs, r, fun R' E' h => wpAny_collect_seq a (.inr rfl) ho hc hdt (fun h' kZ => ?_) (by rw [List.size_toArray, ← rv.length]; exact hz)⟩
    exact h h' s.toks _ (by simpa using rv) kZ
  · obtain ⟨z, lo, vs, rel, dd⟩ := dk_rd I.hok hd
    obtain ⟨ep, hat⟩ := dd.dictAt
    refine ⟨kvs.map fun w => kV w.1, RepL.keysK kvs, fun R' E' h => PySem.W.kdu_collect (A := X.A.in1) (PySem.W.kdl_dict (knd := mixKind X.prog X.w) (kvs := vs) (ep := ep) lo) (I.ok.hd hcalm) hat (by rw [← rel.length]; exact z) fun h' tk acc hk hacc => h h' tk _ ?_ hk⟩
    have hal : acc.toList.length = vs.length := by rw [Array.length_toList, hacc.1]
    have hv : Vals (vs.map fun p => kV p.1) acc.toList := keys_at hal fun j v e => by
      obtain ⟨kZ, x, e1, e2⟩ := hacc.2 j v (by rw [← Array.getElem?_toList]; exact e)
      exact ⟨kZ, x, e1, e2⟩
    have ek : (kvs.map fun w => kV w.1) = vs.map fun p => kV p.1 := by
      have := congrArg (List.map kV) rel.keys
      rw [List.map_map, List.map_map] at this
      exact this
    rw [ek]
    exact hv
  · obtain ⟨z, hs, ks, pr, o, es, ep, ho, hx', hdt, he, hn⟩ := (show ObjOk X.prog X.w H s.heap a (.dT kvs) from hd.ok I.hok)
    have l1Z : es.size = ks.length := size_of_entries he
    have l2Z : kvs.length = ks.length := Paired.length pr
    refine ⟨(ks.map fun x => x.2.1).map V.ref, RepL.keysT hx (isKeys_of pr), fun R' E' h => PySem.W.kdu_collect (A := X.A.in1) (kdl_raw hs hx' hdt) (I.ok.hd hcalm) ho (by omega) fun h' tk acc' kp it => h h' tk _ ?_ kp⟩
    have eaZ : acc'.toList = ks.map fun x => Value.ref x.2.1 := by
      have hl : acc'.toList.length = ks.length := by rw [Array.length_toList, it.1]; exact l1Z
      apply List.ext_getElem?
      intro j
      rw [List.getElem?_map]
      cases hjZ : acc'.toList[j]? with
      | none =>
        have h1 := List.getElem?_eq_none_iff.mp hjZ
        rw [List.getElem?_eq_none (show _ ≤ _ by omega)]
        all_goals rfl
      | some v =>
        obtain ⟨enZ, hen, hv⟩ := it.2 j v (by rw [← Array.getElem?_toList]; exact hjZ)
        have qe := entry_at he j
        rw [hen] at qe
        cases hb : ks[j]? with
        | none =>
          rw [hb] at qe
          exact nomatch (show some enZ = none from qe)
        | some b =>
          rw [hb] at qe
          have e2 : enZ = entryOfKey (tupleKind (mixKind X.prog X.w)) b := Option.some.inj qe
          rw [hv, e2]
          all_goals rfl
    have eb : acc'.toList = (ks.map fun x => x.2.1).map Value.ref := by rw [eaZ, List.map_map]; all_goals rfl
    rw [eb]; exact vals_refs _
theorem cr_srt {ct : Ct} (hcalm : X.calm = true) (hu : X.A.units + 64 < cLine) : CallR X (.builtin "sorted") (rSrt X.K ct) := by
  intro pinsZ s σ H vs us Q I r h
  obtain ⟨a, A, M, bs, t, rfl, hx, hi, hok, q⟩ := h
  rw [Vals.ref1 r]
  obtain ⟨xs, rx, hcol⟩ := collect_items hcalm I hx hi
  obtain ⟨o1, o2, o3, o4, o5⟩ := srtOk.parts hok
  have hD := all_isDL (hasTy_isD t) bs o2
  refine sorted_src (C := fun vs => Vals xs vs) hcol (fun vs c => each_rep I hD rx c) (sz_mil o1) o4 o5 (fun b hb => ?_) fun h' h'' tk out eo k1 k2 ⟨n, k3⟩ => ?_
  · rw [depth_toD]
    have := hasTy_dp t b (List.all_eq_true.mp o2 b hb)
    omega
  · obtain ⟨zs, v1, v2⟩ := rep_each eo
    rw [sort_ty o2] at v2
    have I1 : L2.Inv X pinsZ σ H { s with heap := h', toks := tk } := I.kept k1
    have hl : zs.length ≤ sizeLine := by rw [v2.length, (isort_perm ltP bs).length_eq]; exact sz_mil o1
    exact ⟨.ref h'.objs.size, upd H h'.objs.size (.lst zs), I1.laid (t' := tk) k2 (Nat.le_refl _) ⟨hl, out, n, v1, k3⟩, rfl, q _ zs (I1.hok.fresh (Nat.le_refl _)) v2⟩
end
/-! ### the expression -/
def keyP : PV → Option (List PV)
  | .lst xs => some xs
  | .tup xs => some xs
  | .scr ns => some (ns.map PV.int)
  | .dic _ ks _ => some ks
  | _ => none
def pSrt (t : Ty) (v : PV) : Option PV := (keyP v).bind fun xs => if srtOk t xs then some (.lst (isort ltP xs)) else none
theorem items_of {K : PySem.W.Frag} {ct : Ct} {H : Hp} {A M : List Addr} {v : PV} {x : V} {bs : List PV} (r : RepB K ct H A M v x) (e : keyP v = some bs) : ∃ a, x = .ref a ∧ Items K ct H A M a bs := by
  cases v with
  | lst xs =>
    cases e
    obtain ⟨ad, vs, rfl, k1, k2⟩ := r.lst
    exact ⟨ad, rfl, .inl ⟨vs, .inl (.inl (.inl k1)), k2⟩⟩
  | tup xs =>
    cases e
    obtain ⟨ad, vs, rfl, k1, k2⟩ := r.tup
    exact ⟨ad, rfl, .inl ⟨vs, .inr k1.sqT, k2⟩⟩
  | scr ns =>
    cases e
    rcases r with r | ⟨_, _, _, c⟩
    · obtain ⟨ad, rfl, k1, _⟩ := r.scr_inv
      exact ⟨ad, rfl, .inl ⟨_, .inl k1, RepL.of_ints ns⟩⟩
    · exact False.elim c
  | dic t ks vs =>
    cases e
    rcases r with r | ⟨p, rfl, _, c⟩
    · simp only [Rep] at r
      obtain ⟨a, rfl, r⟩ := r
      rcases r with ⟨ht, ws, h1, rfl, h3⟩ | ⟨ht, ws, h1, rfl, h3⟩
      · exact ⟨a, rfl, .inr (.inl ⟨ws, h1.rd, rfl⟩)⟩
      · exact ⟨a, rfl, .inr (.inr ⟨ws, h1.rd, rfl⟩)⟩
    · rcases c with ⟨ht, ws, h1, rfl, h3⟩ | ⟨ht, ws, h1, rfl, h3⟩
      · exact ⟨p, rfl, .inr (.inl ⟨ws, .inl h1, rfl⟩)⟩
      · exact ⟨p, rfl, .inr (.inr ⟨ws, .inl h1, rfl⟩)⟩
  | _ => cases e
section
variable {ct : Ct} {X : Cx} {a : Expr} {fa : FE} {pos p : Pos}
theorem jf_sorted (t : Ty) {k : Nat} (hr : Room k X.A) (hm : X.mg "sorted" = none) (ha : JB ct X a fa) (hc : X.calm = true := by rfl) (hg : Gl X "sorted" := by rfl) (he : starEach [a] X.env = (false, eval a X.env) :: starEach [] X.env := by rfl) : JF ct X (.Call (.Name "sorted" p) [a] [] pos) (eUn (pSrt t) fa) := by
  refine ⟨(pe_callB (cr_srt (ct := ct) hc hr.units) hg hm (by decide +kernel) (pa_cons ha.pe pa_nil he) (by decide) (by decide) he rfl).imp fun σ H Q h => ?_⟩
  obtain ⟨G, env, S, v, S', g, h1, q⟩ := h
  obtain ⟨⟨x, S1⟩, e1, h1⟩ := Res.bind_ok h1
  obtain ⟨z, e3, h1⟩ := Res.bind_ok h1
  cases h1
  refine ⟨G, env, S, x, _, g, e1, fun x' H1 A1 p1 s1 r1 => ?_⟩
  obtain ⟨bs, e4, e5⟩ := Option.bind_eq_some_iff.mp (ofO_ok e3)
  split at e5
  · rename_i hok
    cases e5
    obtain ⟨ad, rfl, hi⟩ := items_of r1 e4
    refine ⟨ad, A1, G.M, bs, t, rfl, (g.post p1 s1).hx, hi, hok, fun p zs np rz => ?_⟩
    obtain ⟨k1, k2, k3, k4, k5⟩ := fresh_lst g p1 s1 rz np
    exact q p _ A1 k1 k2 k3 k4 k5
  · cases e5
end
end J
set_option Elab.async false
set_option linter.all false
set_option maxRecDepth 100000
/-! J: repr(a) == repr(b), repr(a) != repr(b) where a and b are the same data. -/
namespace J
open PySem L2

mutual
def shOk : PV → Bool
  | .int i => decide (i.natAbs < 10 ^ 11)
  | .non => true
  | .bl _ => true
  | .str x => isD (.str x)
  | .tup xs => shOkL xs
  | .lst xs => shOkL xs
  | _ => false
def shOkL : List PV → Bool
  | [] => true
  | x :: r => shOk x && shOkL r
end
mutual
def wtP : PV → Nat
  | .int _ => 38
  | .str x => x.length
  | .tup xs => wtPL xs
  | .lst xs => wtPL xs
  | _ => 0
def wtPL : List PV → Nat
  | [] => 0
  | x :: r => wtP x + 1 + wtPL r
end
theorem log_lt {n k : Nat} (hk : 0 < k) (h : n < 2 ^ k) : n.log2 < k := by
  by_cases h0Z : n = 0
  · subst h0Z
    have : Nat.log2 0 = 0 := by decide
    omega
  · exact (Nat.log2_lt h0Z).mpr h
mutual
theorem shOk.isD : ∀ (v : PV), shOk v = true → isD v = true
  | .int i, _ => rfl
  | .non, _ => rfl
  | .bl _, _ => rfl
  | .str x, h => h
  | .tup xs, h => by simp only [J.isD]; exact shOkL.isDL xs (by simpa only [shOk] using h)
  | .lst xs, h => by simp only [J.isD]; exact shOkL.isDL xs (by simpa only [shOk] using h)
  | .dic _ _ _, h => by cases h
  | .ins _ _, h => by cases h
  | .obj _, h => by cases h
  | .scr _, h => by cases h
theorem shOkL.isDL : ∀ (xs : List PV), shOkL xs = true → isDL xs = true
  | [], _ => rfl
  | x :: r, h => by
    simp only [shOkL, Bool.and_eq_true] at h
    simp only [J.isDL, Bool.and_eq_true]
    exact ⟨shOk.isD x h.1, shOkL.isDL r h.2⟩
end
mutual
theorem shOk.parts : ∀ (v : PV), shOk v = true → (toD v).weight ≤ wtP v ∧ (toD v).intsShort 13 = true ∧ (toD v).showable = true ∧ (toD v).hasDict = false
  | .int i, h => by
    simp only [shOk, decide_eq_true_eq] at h
    have h2 : i.natAbs < 2 ^ 37 := Nat.lt_of_lt_of_le h (by decide)
    have h3 := log_lt (by decide) h2
    simp only [toD, wtP, PyData.weight, PyData.intsShort, PyData.showable, PyData.hasDict, decide_eq_true_eq]
    refine ⟨?_, ?_, by omega, trivial⟩
    · split <;> omega
    · show (Str.ofString (toString i)).length ≤ 13
      rw [ofString_length]
      have := int_text_length_le10 (by decide) h
      omega
  | .non, _ => ⟨Nat.le_refl _, rfl, rfl, rfl⟩
  | .bl _, _ => ⟨Nat.le_refl _, rfl, rfl, rfl⟩
  | .str x, _ => ⟨Nat.le_refl _, rfl, rfl, rfl⟩
  | .tup xs, h => by
    simp only [toD, wtP, PyData.weight, PyData.intsShort, PyData.showable, PyData.hasDict]
    exact shOkL.parts xs (by simpa only [shOk] using h)
  | .lst xs, h => by
    simp only [toD, wtP, PyData.weight, PyData.intsShort, PyData.showable, PyData.hasDict]
    exact shOkL.parts xs (by simpa only [shOk] using h)
  | .dic _ _ _, h => by cases h
  | .ins _ _, h => by cases h
  | .obj _, h => by cases h
  | .scr _, h => by cases h
theorem shOkL.parts : ∀ (xs : List PV), shOkL xs = true → PyData.weightAll (toDL xs) ≤ wtPL xs ∧ PyData.intsShortAll 13 (toDL xs) = true ∧ PyData.showableAll (toDL xs) = true ∧ PyData.hasDictAll (toDL xs) = false
  | [], _ => ⟨Nat.le_refl _, rfl, rfl, rfl⟩
  | x :: r, h => by
    simp only [shOkL, Bool.and_eq_true] at h
    obtain ⟨a1, a2, a3, a4⟩ := shOk.parts x h.1
    obtain ⟨b1, b2, b3, b4⟩ := shOkL.parts r h.2
    simp only [toDL, wtPL, PyData.weightAll, PyData.intsShortAll, PyData.showableAll, PyData.hasDictAll, a2, a3, a4, b2, b3, b4]
    exact ⟨by omega, rfl, rfl, rfl⟩
end
def rpOk (v : PV) : Bool := shOk v && (decide (wtP v ≤ 1000000) && decide (dpP v ≤ 60))
def rRpr (K : PySem.W.Frag) : List V → Hp → VK → Prop := fun xs H Q => ∃ (a : Addr) (v : PV), xs = [.ref a] ∧ Dp K H (.ref a) (toD v) ∧ rpOk v = true ∧ Q (.str (toD v).shown) H
theorem rpOk.parts {v : PV} (h : rpOk v = true) : isD v = true ∧ (toD v).shown.length ≤ sizeLine ∧ (toD v).showable = true ∧ (toD v).hasDict = false ∧ dpP v ≤ 60 := by
  unfold rpOk at h
  simp only [decide_eq_true_eq, Bool.and_eq_true] at h
  obtain ⟨a1, a2, a3, a4⟩ := shOk.parts v h.1
  have hd := shOk.isD v h.1
  refine ⟨hd, ?_, a3, a4, h.2.2⟩
  have hl : PyData.layable0 (toD v) = true := by
    show (PyData.canLay0 (toD v) && decide (PyData.depth (toD v) ≤ 64) && decide (PyData.weight (toD v) ≤ 2 ^ 20)) = true
    simp only [decide_eq_true_eq, Bool.and_eq_true]
    exact ⟨⟨lay_toD v hd, by rw [depth_toD]; omega⟩, by omega⟩
  exact Nat.le_trans (PyProof.Rows.shown_le13 hl a2) (by decide)
theorem cr_rpr {X : Cx} (hG : X.A.guards = some []) (hu : X.A.units + 64 < cLine) : CallR X (.builtin "repr") (rRpr X.K) := by
  intro pinsZ s σ H xs us Q I r h
  obtain ⟨a, v, rfl, hd, hok, q⟩ := h
  rw [Vals.ref1 r]
  obtain ⟨k1, k2, k3, k4, k5⟩ := rpOk.parts hok
  obtain ⟨as, rd⟩ := Dp.reads I _ _ (.ref a) hd rfl
  refine repr_of_reads' rd k3 (by rw [k4]; intro z; cases z) hG (by rw [depth_toD]; omega) (fun _ _ e => e) (fun h' u tk hk => ?_) k2
  exact ⟨.str _, H, I.kept hk, ⟨u, rfl⟩, q⟩
def isRef : PV → Bool
  | .tup _ => true
  | .lst _ => true
  | _ => false
/-- repr(a) == repr(b), told only where a and b are the same -/
def pRpr (k : Bool) (a b : PV) : Option PV := if isRef a && (rpOk a && decide (a = b)) then some (.bl k) else none
section
variable {ct : Ct} {X : Cx} {a b : Expr} {fa fb : FE} {pos p1 p2 q1 q2 : Pos}
theorem RepB.ref {K : PySem.W.Frag} {H : Hp} {A M : List Addr} {v : PV} {x : V} (hv : isRef v = true) (r : RepB K ct H A M v x) : ∃ a, x = .ref a := by
  cases v with
  | tup xs => obtain ⟨ad, vs, rfl, _⟩ := r.tup; exact ⟨ad, rfl⟩
  | lst xs => obtain ⟨ad, vs, rfl, _⟩ := r.lst; exact ⟨ad, rfl⟩
  | _ => cases hv
theorem rd_rpr {K : PySem.W.Frag} {k : Bool} {R : R2} (hR : ∀ z H Q, Q (.bl k) H → R (.str z) (.str z) H Q) {σ : St} {H : Hp} {Q : VK} (h : rd K ct (eOp (pRpr k) fa fb) σ H Q) :
    tOp R (tCB (rRpr K) (tCons (rdB K ct fa) tNil)) (tCB (rRpr K) (tCons (rdB K ct fb) tNil)) σ H Q := by
  obtain ⟨G, env, S, v, S', g, h1, q⟩ := h
  obtain ⟨⟨x, S1⟩, e1, h1⟩ := Res.bind_ok h1
  obtain ⟨⟨y, S2⟩, e2, h1⟩ := Res.bind_ok h1
  obtain ⟨z, e3, h1⟩ := Res.bind_ok h1
  cases h1
  have e4 := ofO_ok e3
  unfold pRpr at e4
  split at e4
  · rename_i hz
    cases e4
    simp only [decide_eq_true_eq, Bool.and_eq_true] at hz
    obtain ⟨hz1, hz2, hz3⟩ := hz
    subst hz3
    obtain ⟨k1, k2, k3, k4, k5⟩ := rpOk.parts hz2
    refine ⟨G, env, S, x, S1, g, e1, fun x' H1 A1 p1 s1 r1 => ?_⟩
    obtain ⟨ad, rfl⟩ := r1.ref hz1
    refine ⟨ad, x, rfl, r1.dp k1, hz2, ⟨{ G with A := A1 }, env, S1, x, _, g.post p1 s1, e2, fun y' H2 A2 p2 s2 r2 => ?_⟩⟩
    obtain ⟨ad2, rfl⟩ := r2.ref hz1
    exact ⟨ad2, x, rfl, r2.dp k1, hz2, hR _ _ _ (q _ H2 A2 (p1.trans p2) s2 (Rep.bl_iff.mpr rfl))⟩
  · cases e4
theorem pe_rpr (hG : X.A.guards = some []) {k : Nat} (hr : Room k X.A) (hm : X.mg "repr" = none) (ha : JB ct X a fa) (hg : Gl X "repr" := by rfl) (he : starEach [a] X.env = (false, eval a X.env) :: starEach [] X.env := by rfl) : PE X (.Call (.Name "repr" p1) [a] [] p2) (tCB (rRpr X.K) (tCons (rdB X.K ct fa) tNil)) :=
  pe_callB (cr_rpr hG hr.units) hg hm (by decide +kernel) (pa_cons ha.pe pa_nil he) (by decide) (by decide) he rfl
theorem jt_rprNe (hG : X.A.guards = some []) {k : Nat} (hr : Room k X.A) (hm : X.mg "repr" = none) (ha : JB ct X a fa) (hb : JB ct X b fb) (hg : Gl X "repr" := by rfl) (he : starEach [a] X.env = (false, eval a X.env) :: starEach [] X.env := by rfl) (he2 : starEach [b] X.env = (false, eval b X.env) :: starEach [] X.env := by rfl) :
    JT ct X (.Compare (.Call (.Name "repr" p1) [a] [] p2) [.NotEq] [.Call (.Name "repr" q1) [b] [] q2] pos) (tV (eOp (pRpr false) fa fb)) :=
  ⟨(pt_cmpR op_ne (pe_rpr hG hr hm ha hg he) (pe_rpr hG hr hm hb hg he2) (by first | exact nomark _ | rfl)).imp fun _ _ _ h => rdT_tTest (fun _ _ _ z => rd_rpr (fun z H Q q => ⟨rfl, by simpa using q⟩) z) h⟩
theorem je_rprNe (hG : X.A.guards = some []) {k : Nat} (hr : Room k X.A) (hm : X.mg "repr" = none) (ha : JB ct X a fa) (hb : JB ct X b fb) (hg : Gl X "repr" := by rfl) (he : starEach [a] X.env = (false, eval a X.env) :: starEach [] X.env := by rfl) (he2 : starEach [b] X.env = (false, eval b X.env) :: starEach [] X.env := by rfl) :
    JE ct X (.Compare (.Call (.Name "repr" p1) [a] [] p2) [.NotEq] [.Call (.Name "repr" q1) [b] [] q2] pos) (eOp (pRpr false) fa fb) :=
  ⟨(pe_cmpR op_ne (pe_rpr hG hr hm ha hg he) (pe_rpr hG hr hm hb hg he2) (by first | exact nomark _ | rfl)).imp fun _ _ _ z => rd_rpr (fun z H Q q => ⟨rfl, by simpa using q⟩) z⟩
theorem jt_rprEq (hG : X.A.guards = some []) {k : Nat} (hr : Room k X.A) (hm : X.mg "repr" = none) (ha : JB ct X a fa) (hb : JB ct X b fb) (hg : Gl X "repr" := by rfl) (he : starEach [a] X.env = (false, eval a X.env) :: starEach [] X.env := by rfl) (he2 : starEach [b] X.env = (false, eval b X.env) :: starEach [] X.env := by rfl) :
    JT ct X (.Compare (.Call (.Name "repr" p1) [a] [] p2) [.Eq] [.Call (.Name "repr" q1) [b] [] q2] pos) (tV (eOp (pRpr true) fa fb)) :=
  ⟨(pt_cmpR op_eq (pe_rpr hG hr hm ha hg he) (pe_rpr hG hr hm hb hg he2) (by first | exact nomark _ | rfl)).imp fun _ _ _ h => rdT_tTest (fun _ _ _ z => rd_rpr (fun z H Q q => ⟨rfl, by simpa using q⟩) z) h⟩
theorem je_rprEq (hG : X.A.guards = some []) {k : Nat} (hr : Room k X.A) (hm : X.mg "repr" = none) (ha : JB ct X a fa) (hb : JB ct X b fb) (hg : Gl X "repr" := by rfl) (he : starEach [a] X.env = (false, eval a X.env) :: starEach [] X.env := by rfl) (he2 : starEach [b] X.env = (false, eval b X.env) :: starEach [] X.env := by rfl) :
    JE ct X (.Compare (.Call (.Name "repr" p1) [a] [] p2) [.Eq] [.Call (.Name "repr" q1) [b] [] q2] pos) (eOp (pRpr true) fa fb) :=
  ⟨(pe_cmpR op_eq (pe_rpr hG hr hm ha hg he) (pe_rpr hG hr hm hb hg he2) (by first | exact nomark _ | rfl)).imp fun _ _ _ z => rd_rpr (fun z H Q q => ⟨rfl, by simpa using q⟩) z⟩
end
end J
set_option Elab.async false
set_option linter.all false
set_option maxRecDepth 100000
/-! J: dict(pairs) and {k: v, ..}, keys ints, texts or tuples of them. -/
namespace J
open PySem L2

def mergeT {κ : Type} [DecidableEq κ] (acc more : List (κ × V)) : List (κ × V) := more.foldl (fun a kv => putK a kv.1 kv.2) acc
/-- the pairs stored one by one -/
def dAll (t : Bool) : List PV → List PV → List (PV × PV) → Option (List PV × List PV)
  | ks, vs, [] => some (ks, vs)
  | ks, vs, (k, v) :: r => if keyFit t k then dAll t (dPutK ks k) (dPutV ks vs k v) r else none
def prsOf : List PV → Option (List (PV × PV))
  | [] => some []
  | .tup [k, v] :: r => (prsOf r).map fun q => (k, v) :: q
  | _ => none
theorem length_mergeT {κ : Type} [DecidableEq κ] : ∀ (more acc : List (κ × V)), (mergeT acc more).length ≤ acc.length + more.length
  | [], acc => by simp [mergeT]
  | p :: r, acc => by
    have h1 := length_mergeT r (putK acc p.1 p.2)
    have h2 := length_putK acc p.1 p.2
    have e : mergeT acc (p :: r) = mergeT (putK acc p.1 p.2) r := rfl
    rw [e, List.length_cons]; omega
section
variable {K : PySem.W.Frag} {ct : Ct} {H : Hp} {A M : List Addr}
/-- the pairs' keys and values, as the heap has them -/
theorem dAll_rep {κ : Type} [DecidableEq κ] {e : κ → PV} (inj : ∀ a b, e a = e b → a = b) {t : Bool} : ∀ (more : List (κ × V)) (prs : List (PV × PV)) (acc : List (κ × V)) (vs : List PV) (ks' vs' : List PV), prs.map (·.1) = more.map (fun w => e w.1) → RepL K ct H A M (prs.map (·.2)) (more.map (·.2)) → RepL K ct H A M vs (acc.map (·.2)) →
    dAll t (acc.map fun w => e w.1) vs prs = some (ks', vs') → ks' = (mergeT acc more).map (fun w => e w.1) ∧ RepL K ct H A M vs' ((mergeT acc more).map (·.2))
  | [], prs, acc, vs, ks', vs', h1, h2, h3, h4 => by
    cases prs with
    | nil => cases h4; exact ⟨rfl, h3⟩
    | cons p r => simp at h1
  | w :: more, prs, acc, vs, ks', vs', h1, h2, h3, h4 => by
    cases prs with
    | nil => simp at h1
    | cons p r =>
      simp only [List.map_cons, List.cons.injEq] at h1
      obtain ⟨x, xs, e0, r1, r2⟩ := h2.inv
      simp only [List.map_cons, List.cons.injEq] at e0
      obtain ⟨rfl, rfl⟩ := e0
      unfold dAll at h4
      split at h4
      · obtain ⟨i1, i2⟩ := dPut_rep inj (k := w.1) r1 acc vs h3
        rw [h1.1] at h4
        rw [i1] at h4
        exact dAll_rep inj more _ (putK acc w.1 w.2) _ ks' vs' h1.2 r2 i2 h4
      · cases h4
end
theorem KT.merge {H : Hp} : ∀ (ps : List (List Key × Addr × V)) (prs acc : List (List Key × Addr × Value)) (kvs : List (List Key × V)), Paired (fun (p : List Key × Addr × V) (q : List Key × Addr × Value) => q.1 = p.1 ∧ q.2.1 = p.2.1 ∧ H p.2.1 = some (.tup (p.1.map kV)) ∧ RelV p.2.2 q.2.2) ps prs → KT H kvs acc →
    KT H (mergeT kvs (ps.map fun p => (p.1, p.2.2))) (storedAllH acc prs) := fun ps prs acc kvs h => by
  induction h generalizing acc kvs with
  | nil => intro r; exact r
  | @cons p q ps qs h t ih =>
    intro r
    obtain ⟨e1, e2, e3, e4⟩ := h
    have := ih (storedH acc q.1 q.2.1 q.2.2) (putK kvs p.1 p.2.2) (by rw [e1, e2]; exact r.put p.1 e3 e4)
    exact this
/-- dict(xs) of pairs whose keys are tuples -/
def rDT (K : PySem.W.Frag) : List V → Hp → VK → Prop := fun vs H Q => ∃ (a : Addr) (ts : List Addr) (ps : List (List Key × Addr × V)), vs = [.ref a] ∧ SqL K H a (ts.map V.ref) ∧ Paired (fun t (p : List Key × Addr × V) => SqT K H t [.ref p.2.1, p.2.2] ∧ H p.2.1 = some (.tup (p.1.map kV))) ts ps ∧
  ∀ q, H q = none → Q (.ref q) (upd H q (.dT (mergeT [] (ps.map fun p => (p.1, p.2.2)))))
theorem pairs_ofT {X : Cx} {pins : List (Addr × Obj)} {σ : St} {H : Hp} {s : Shared} (I : Inv X pins σ H s) : ∀ {ts : List Addr} {ps : List (List Key × Addr × V)}, Paired (fun t (p : List Key × Addr × V) => SqT X.K H t [.ref p.2.1, p.2.2] ∧ H p.2.1 = some (.tup (p.1.map kV))) ts ps →
    ∃ prs : List (List Key × Addr × Value), Paired (fun (p : List Key × Addr × V) (q : List Key × Addr × Value) => q.1 = p.1 ∧ q.2.1 = p.2.1 ∧ H p.2.1 = some (.tup (p.1.map kV)) ∧ RelV p.2.2 q.2.2) ps prs ∧ prs.length = ts.length ∧
      ∀ (j : Nat) (q : List Key × Addr × Value), prs[j]? = some q → ∃ t : Addr, ts[j]? = some t ∧ PySem.PairAt s.heap t (.ref q.2.1) q.2.2 := fun {ts ps} h => by
  induction h with
  | nil => exact ⟨[], .nil, rfl, fun j q e => by simp at e⟩
  | @cons t p ts ps h r ih =>
    obtain ⟨prs, r1, r2, r3⟩ := ih
    obtain ⟨h1, h2⟩ := h
    obtain ⟨its, rv, tup, _⟩ := I.tuple h1
    obtain ⟨u, y, rfl, ru, ry⟩ := rv.two
    cases (show u = Value.ref p.2.1 from ru)
    refine ⟨(p.1, p.2.1, y) :: prs, .cons ⟨rfl, rfl, h2, ry⟩ r1, by rw [List.length_cons, List.length_cons, r2], fun j q e => ?_⟩
    cases j with
    | zero =>
      cases (Option.some.inj e)
      exact ⟨t, rfl, .inl tup⟩
    | succ j => exact r3 j q e
theorem keysAt {H : Hp} {ps : List (List Key × Addr × V)} {prs : List (List Key × Addr × Value)} (rel : Paired (fun (p : List Key × Addr × V) (q : List Key × Addr × Value) => q.1 = p.1 ∧ q.2.1 = p.2.1 ∧ H p.2.1 = some (.tup (p.1.map kV)) ∧ RelV p.2.2 q.2.2) ps prs) : ∀ x ∈ prs, H x.2.1 = some (.tup (x.1.map kV)) := by
  induction rel with
  | nil => intro x hxZ; cases hxZ
  | cons h t ih =>
    intro x hxZ
    rcases List.mem_cons.mp hxZ with rfl | hxZ
    · rw [h.1, h.2.1]; exact h.2.2.1
    · exact ih x hxZ
theorem cr_dictT {X : Cx} (hcalm : X.calm = true) (hu : X.A.units + 64 < cLine) : CallR X (.type "dict") (rDT X.K) := by
  intro pinsZ s σ H vs us Q I r h
  obtain ⟨a, ts, ps, rfl, hq, hp, q⟩ := h
  rw [Vals.ref1 r]
  obtain ⟨itsZ, rv, pl, hz⟩ := I.list hq
  have ei := refs_at rv
  subst ei
  rw [List.length_map] at hz
  obtain ⟨prs, rel, hl, hpr⟩ := pairs_ofT I hp
  obtain ⟨oZ, n, ho, hc, hd, hdat⟩ := pl
  have hlt : prs.length ≤ sizeLine := by rw [hl]; exact hz
  have hkeys := keysAt rel
  refine call_dict_pairsH (knd := tupleKind (mixKind X.prog X.w)) (ps := prs) (PairArg.list a _ (fun j => (ts[j]?).getD 0) (prs.map fun p => (.ref p.2.1, p.2.2))) (I.ok.hd hcalm) ?_ ⟨⟨oZ, n, ho, hc, hd, hdat⟩, ?_, fun j k v e => ?_⟩ ⟨by rw [List.length_map], fun i key v e => ?_⟩ (fun h' hk x hx => ?_) (by rw [List.length_map]; exact hlt) fun h' tk hd' k => ?_
  · exact tupleKind_room_in1 (A := X.A.in1) (by show X.A.units + 1 + 1 < cLine; omega)
  · simp [hl]
  · rw [List.getElem?_map] at e
    cases hj : prs[j]? with
    | none => rw [hj] at e; cases e
    | some q =>
      rw [hj] at e
      cases e
      obtain ⟨t, e1, e2⟩ := hpr j q hj
      simp only [e1]
      exact ⟨by simp [e1], e2⟩
  · rw [PairRel, List.getElem?_map] at e
    cases hj : prs[i]? with
    | none => rw [hj] at e; cases e
    | some q =>
      rw [hj] at e
      cases e
      exact ⟨q.1, q.2.1, rfl, rfl⟩
  · obtain ⟨o', its', n', k1, k2, k3, k4⟩ := key_of I.hok (hkeys x hx)
    exact ⟨o', its', n', hk _ _ (Nat.ne_of_lt (Heap.lt_size k1)) (by simp) k1, k2, k3, k4⟩
  · have hmZ : (s.heap.objs.size == sysModules) = false := beq_eq_false_iff_ne.mpr (Nat.ne_of_gt I.big)
    have hnZ := I.hok.fresh (Nat.le_refl s.heap.objs.size)
    obtain ⟨q', es, ep, hq', h2, h3, h4, _, h5⟩ := hd'
    have hlen : (mergeT [] (ps.map fun p => (p.1, p.2.2))).length ≤ sizeLine := by
      refine Nat.le_trans (length_mergeT _ []) ?_
      rw [List.length_nil, Nat.zero_add, List.length_map, rel.length]
      exact hlt
    have kt := (KT.merge ps prs [] [] rel .nil).keeps (H' := upd H s.heap.objs.size (.dT (mergeT [] (ps.map fun p => (p.1, p.2.2))))) fun c ys ec => by
      rw [upd_ne (fun z => by subst z; rw [hnZ] at ec; cases ec)]; exact ec
    exact ⟨.ref s.heap.objs.size, upd H s.heap.objs.size (.dT (mergeT [] (ps.map fun p => (p.1, p.2.2)))), I.laid (t' := tk) (fun b u e => k b u (by simp) e) (Nat.le_refl _) (show ObjOk X.prog X.w _ _ _ (.dT (mergeT [] (ps.map fun p => (p.1, p.2.2)))) from ⟨hlen, hmZ, _, kt, q', es, ep, hq', h2, h3, h4, h5⟩), rfl, q _ hnZ⟩
/-! ### the expression -/
theorem dAll_fit {t : Bool} : ∀ {prs : List (PV × PV)} {ks vs : List PV} {r : List PV × List PV}, dAll t ks vs prs = some r → ∀ p ∈ prs, keyFit t p.1 = true
  | [], _, _, _, _, p, hpZ => by cases hpZ
  | q :: prs, ks, vs, r, h, p, hpZ => by
    unfold dAll at h
    split at h
    · rename_i hk
      rcases List.mem_cons.mp hpZ with rfl | hpZ
      · exact hk
      · exact dAll_fit h p hpZ
    · cases h
theorem prsOf_cons {x : PV} {r : List PV} {prs : List (PV × PV)} (h : prsOf (x :: r) = some prs) : ∃ k v q, x = .tup [k, v] ∧ prsOf r = some q ∧ prs = (k, v) :: q := by
  unfold prsOf at h
  split at h
  · rename_i he; cases he
  · rename_i k v r' he
    simp only [List.cons.injEq] at he
    obtain ⟨rfl, rfl⟩ := he
    obtain ⟨q, e1, rfl⟩ := Option.map_eq_some_iff.mp h
    exact ⟨k, v, q, rfl, e1, rfl⟩
  · cases h
section
variable {K : PySem.W.Frag} {ct : Ct} {H : Hp} {A M : List Addr}
theorem prs_repK : ∀ {xs : List PV} {vs : List V} {prs : List (PV × PV)}, RepL K ct H A M xs vs → prsOf xs = some prs → (∀ p ∈ prs, keyFit false p.1 = true) →
    ∃ (ts : List Addr) (kvs : List (Key × V)), vs = ts.map V.ref ∧ Paired (fun t kv => SqT K H t [kV kv.1, kv.2]) ts kvs ∧ prs.map (·.1) = kvs.map (fun w => keyV w.1) ∧ RepL K ct H A M (prs.map (·.2)) (kvs.map (·.2))
  | [], vs, prs, r, e, _ => by
    cases e
    exact ⟨[], [], RepL.nil_iff.mp r, .nil, rfl, .nil⟩
  | x :: xs, vs, prs, r, e, hf => by
    obtain ⟨k, v, q, rfl, e1, rfl⟩ := prsOf_cons e
    obtain ⟨y, ys, rfl, r1, r2⟩ := r.inv
    obtain ⟨ts, kvs, rfl, h2, h3, h4⟩ := prs_repK r2 e1 fun p hp => hf p (List.mem_cons_of_mem _ hp)
    obtain ⟨a, us, rfl, ha, hu⟩ := r1.tup_inv
    obtain ⟨u1, u2, rfl, hu1, hu2⟩ := hu.two
    have hk : (keyOf k).isSome = true := hf _ List.mem_cons_self
    obtain ⟨k', hk'⟩ := Option.isSome_iff_exists.mp hk
    have ek := keyOf_eq hk'
    subst ek
    have eu := hu1.key
    subst eu
    exact ⟨a :: ts, (k', u2) :: kvs, rfl, .cons ha.sqT h2, by rw [List.map_cons, List.map_cons, h3], .cons hu2 h4⟩
theorem prs_repT : ∀ {xs : List PV} {vs : List V} {prs : List (PV × PV)}, RepL K ct H A M xs vs → prsOf xs = some prs → (∀ p ∈ prs, keyFit true p.1 = true) →
    ∃ (ts : List Addr) (ps : List (List Key × Addr × V)), vs = ts.map V.ref ∧ Paired (fun t (p : List Key × Addr × V) => SqT K H t [.ref p.2.1, p.2.2] ∧ H p.2.1 = some (.tup (p.1.map kV))) ts ps ∧ prs.map (·.1) = (ps.map fun p => (p.1, p.2.2)).map (fun w => PV.tup (w.1.map keyV)) ∧ RepL K ct H A M (prs.map (·.2)) ((ps.map fun p => (p.1, p.2.2)).map (·.2))
  | [], vs, prs, r, e, _ => by
    cases e
    exact ⟨[], [], RepL.nil_iff.mp r, .nil, rfl, .nil⟩
  | x :: xs, vs, prs, r, e, hf => by
    obtain ⟨k, v, q, rfl, e1, rfl⟩ := prsOf_cons e
    obtain ⟨y, ys, rfl, r1, r2⟩ := r.inv
    obtain ⟨ts, ps, rfl, h2, h3, h4⟩ := prs_repT r2 e1 fun p hp => hf p (List.mem_cons_of_mem _ hp)
    obtain ⟨a, us, rfl, ha, hu⟩ := r1.tup_inv
    obtain ⟨u1, u2, rfl, hu1, hu2⟩ := hu.two
    have hk := hf _ List.mem_cons_self
    cases k with
    | tup ks =>
      have hk : (keysOf ks).isSome = true := hk
      obtain ⟨k', hk'⟩ := Option.isSome_iff_exists.mp hk
      have ek := keysOf_eq hk'
      subst ek
      obtain ⟨b, bs, rfl, hb, hbs⟩ := hu1.tup_inv
      have eb := hbs.keys
      subst eb
      exact ⟨a :: ts, (k', b, u2) :: ps, rfl, .cons ⟨ha.sqT, hb.1⟩ h2, by rw [List.map_cons, List.map_cons, List.map_cons, h3], .cons hu2 h4⟩
    | _ => cases hk
end
/-- dict(pairs) -/
def pDic (t : Bool) : PV → Option PV
  | .lst xs => if xs.length ≤ 1000000 then (prsOf xs).bind fun prs => (dAll t [] [] prs).map fun r => .dic t r.1 r.2 else none
  | _ => none
theorem fresh_dic1 {K : PySem.W.Frag} {ct : Ct} {G : Gh} {σ : St} {env : Env} {H H1 : Hp} {S S1 : Sto} {A1 : List Addr} {p : Addr} {o : HO} {v : PV} (g : Good K ct G σ H env S) (p1 : Post G.A H A1 H1) (s1 : StoOk K ct H1 A1 G.M S1) (np : H1 p = none) (ho : ∀ vs, o ≠ .tup vs) (c : Cont K ct (upd H1 p o) A1 (p :: G.M) p v) :
    Post G.A H A1 (upd H1 p o) ∧ H p = none ∧ p ∉ A1 ∧ StoOk K ct (upd H1 p o) A1 (p :: G.M) S1 := by
  have g1 := g.post p1 s1
  obtain ⟨k1, k2, k3⟩ := fresh_dic g1 np ho c
  refine ⟨p1.trans k1, ?_, k2, k3⟩
  cases e : H p with
  | none => rfl
  | some o =>
    by_cases ha : p ∈ G.A
    · exact absurd np (g1.inA p (p1.pre.subset ha))
    · rw [p1.ext p o e ha] at np; cases np
section
variable {ct : Ct} {X : Cx} {a : Expr} {fa : FE} {pos p : Pos}
theorem jf_dictC (t : Bool) {k : Nat} (hr : Room k X.A) (hm : X.mg "dict" = none) (ha : JB ct X a fa) (hc : X.calm = true := by rfl) (hg : Gl X "dict" := by rfl) (he : starEach [a] X.env = (false, eval a X.env) :: starEach [] X.env := by rfl) : JF ct X (.Call (.Name "dict" p) [a] [] pos) (eUn (pDic t) fa) := by
  refine ⟨(pe_callTy ((call_dictP hc).or (cr_dictT hc hr.units)) hg hm (by decide +kernel) (pa_cons ha.pe pa_nil he) (by decide) (by decide) he rfl).imp fun σ H Q h => ?_⟩
  obtain ⟨G, env, S, v, S', g, h1, q⟩ := h
  obtain ⟨⟨x, S1⟩, e1, h1⟩ := Res.bind_ok h1
  obtain ⟨z, e3, h1⟩ := Res.bind_ok h1
  cases h1
  have e4 := ofO_ok e3
  refine ⟨G, env, S, x, _, g, e1, fun x' H1 A1 p1 s1 r1 => ?_⟩
  cases x with
  | lst xs =>
    unfold pDic at e4
    dsimp only at e4
    split at e4
    · obtain ⟨prs, e5, e6⟩ := Option.bind_eq_some_iff.mp e4
      obtain ⟨⟨ks, vs⟩, e7, rfl⟩ := Option.map_eq_some_iff.mp e6
      obtain ⟨ad, us, rfl, k1, k2⟩ := r1.lst
      have hf := dAll_fit e7
      have lt : ∀ (pp : Addr) (o : HO), H1 pp = none → Lat A1 G.M H1 A1 (pp :: G.M) (upd H1 pp o) := fun pp o np => lat_hide np (same_new np)
      cases t with
      | false =>
        obtain ⟨ts, kvs, rfl, m1, m2, m3⟩ := prs_repK k2 e5 hf
        obtain ⟨n1, n2⟩ := dAll_rep (e := keyV) (fun _ _ z => keyV_inj z) kvs prs [] [] ks vs m2 m3 .nil e7
        refine .inl ⟨ad, ts, kvs, rfl, .inl (.inl k1), m1, fun pp np => ?_⟩
        have c : Cont X.K ct (upd H1 pp (.dK (mergeK [] kvs))) A1 (pp :: G.M) pp (.dic false ks vs) := .inl ⟨rfl, _, upd_same, n1, n2.lat (lt pp _ np) _ _⟩
        obtain ⟨c1, c2, c3, c4⟩ := fresh_dic1 g p1 s1 np (fun _ => by simp) c
        exact q pp _ A1 c1 c2 c3 c4 c
      | true =>
        obtain ⟨ts, ps, rfl, m1, m2, m3⟩ := prs_repT k2 e5 hf
        obtain ⟨n1, n2⟩ := dAll_rep (e := fun l : List Key => PV.tup (l.map keyV)) (fun _ _ z => tupKey_inj z) _ prs [] [] ks vs m2 m3 .nil e7
        refine .inr ⟨ad, ts, ps, rfl, .inl (.inl k1), m1, fun pp np => ?_⟩
        have c : Cont X.K ct (upd H1 pp (.dT (mergeT [] (ps.map fun p => (p.1, p.2.2))))) A1 (pp :: G.M) pp (.dic true ks vs) := .inr ⟨rfl, _, upd_same, n1, n2.lat (lt pp _ np) _ _⟩
        obtain ⟨c1, c2, c3, c4⟩ := fresh_dic1 g p1 s1 np (fun _ => by simp) c
        exact q pp _ A1 c1 c2 c3 c4 c
    · cases e4
  | _ => cases e4
end
end J
set_option Elab.async false
set_option linter.all false
set_option maxRecDepth 100000
/-! J: {k: v, ..}. -/
namespace J
open PySem L2

abbrev FP := Env → Sto → Res (List (PV × PV) × Sto)
section
variable (K : PySem.W.Frag) (ct : Ct)
def rdP (f : FP) (σ : St) (H : Hp) (Q : List (V × V) → Hp → Prop) : Prop := ∃ G env S v S', Good K ct G σ H env S ∧ f env S = .ok (v, S') ∧
  ∀ x H' A', Post G.A H A' H' → StoOk K ct H' A' G.M S' → RepL K ct H' A' G.M (v.map (·.1)) (x.map (·.1)) → RepL K ct H' A' G.M (v.map (·.2)) (x.map (·.2)) → Q x H'
end
structure JP (ct : Ct) (X : Cx) (pos : Pos) (keys : List (Option Expr)) (values : List Expr) (f : FP) : Prop where
  run : ∀ (pins : List (Addr × Obj)) (s : Shared) (σ : St) (H : Hp) (Q : List (V × V) → Hp → Prop), Inv X pins σ H s → rdP X.K ct f σ H Q → wpAny (model X.prog X.w) X.A (evalPairs (pairTrees keys values X.env pos)) (fun vs s' => ∃ ps H', Inv X pins σ H' s' ∧ VV ps vs ∧ Q ps H') X.xe s
def fpNil : FP := fun _ S => .ok ([], S)
def fpCons (a b : FE) (r : FP) : FP := fun env S => (a env S).bind fun x => (b env x.2).bind fun y => (r env y.2).bind fun z => .ok ((x.1, y.1) :: z.1, z.2)
section
variable {ct : Ct} {X : Cx} {pos : Pos} {k v : Expr} {ks : List (Option Expr)} {vs : List Expr} {fk fv : FE} {fr : FP}
theorem jp_nil : JP ct X pos [] [] fpNil := ⟨fun pins s σ H Q I h => by
  obtain ⟨G, env, S, v, S', g, h1, q⟩ := h
  cases h1
  exact pairTrees_nil_walk ⟨[], H, I, .nil, q [] H G.A (Post.refl H g.bs.nodup) g.bs.sto .nil .nil⟩⟩
theorem jp_cons (hk : JE ct X k fk) (hv : JE ct X v fv) (hr : JP ct X pos ks vs fr) : JP ct X pos (some k :: ks) (v :: vs) (fpCons fk fv fr) := ⟨fun pins s σ H Q I h => by
  obtain ⟨G, env, S, v, S', g, h1, q⟩ := h
  obtain ⟨⟨x, S1⟩, e1, h1⟩ := Res.bind_ok h1
  obtain ⟨⟨y, S2⟩, e2, h1⟩ := Res.bind_ok h1
  obtain ⟨⟨z, S3⟩, e3, h1⟩ := Res.bind_ok h1
  cases h1
  have A0 : rd X.K ct fk σ H fun x' H1 => rd X.K ct fv σ H1 fun y' H2 => rdP X.K ct fr σ H2 fun zs H3 => Q ((x', y') :: zs) H3 :=
    ⟨G, env, S, x, S1, g, e1, fun x' H1 A1 p1 s1 r1 => ⟨{ G with A := A1 }, env, S1, y, S2, g.post p1 s1, e2, fun y' H2 A2 p2 s2Z r2 =>
      ⟨{ G with A := A2 }, env, S2, z, _, (g.post p1 s1).post p2 s2Z, e3, fun zs H3 A3 p3 s3 r3 r4 =>
        q _ H3 A3 ((p1.trans p2).trans p3) s3 (.cons ((r1.lat (p2.lat G.M) x x').lat (p3.lat G.M) x x') r3) (.cons (r2.lat (p3.lat G.M) y y') r4)⟩⟩⟩
  exact pairTrees_cons_walk (thn (hk.pe.run pins s σ H _ I A0) fun u s1 ⟨x, H1, I1, rx, q1⟩ => thn (hv.pe.run pins s1 σ H1 _ I1 q1) fun w2 s2Z ⟨y, H2, I2, ry, q2⟩ =>
    thn (hr.run pins s2Z σ H2 _ I2 q2) fun ws s3 ⟨ps, H3, I3, rel, q3⟩ => ⟨(x, y) :: ps, H3, I3, .cons ⟨rx, ry⟩ rel, q3⟩)⟩
/-- {k: v, ..} -/
def eDis (t : Bool) (f : FP) : FE := fun env S => (f env S).bind fun x => match (if x.1.length ≤ 1000 then dAll t [] [] x.1 else none) with
  | some r => .ok (.dic t r.1 r.2, x.2)
  | none => .err
end
section
variable {K : PySem.W.Frag} {ct : Ct} {H : Hp} {A M : List Addr}
theorem prs_keyK : ∀ {prs : List (PV × PV)} {ps : List (V × V)}, RepL K ct H A M (prs.map (·.1)) (ps.map (·.1)) → RepL K ct H A M (prs.map (·.2)) (ps.map (·.2)) → (∀ p ∈ prs, keyFit false p.1 = true) →
    ∃ kvs : List (Key × V), ps = kvs.map (fun kv => (kV kv.1, kv.2)) ∧ prs.map (·.1) = kvs.map (fun w => keyV w.1) ∧ RepL K ct H A M (prs.map (·.2)) (kvs.map (·.2))
  | [], ps, r1, r2, _ => by
    have := r1.length
    simp at this
    subst this
    exact ⟨[], rfl, rfl, .nil⟩
  | p :: prs, [], r1, r2, _ => by have := r1.length; simp at this
  | p :: prs, q :: ps, r1, r2, hf => by
    obtain ⟨x, xs, e0, h1, h2⟩ := r1.inv
    simp only [List.map_cons, List.cons.injEq] at e0
    obtain ⟨rfl, rfl⟩ := e0
    obtain ⟨y, ys, e0, h3, h4⟩ := r2.inv
    simp only [List.map_cons, List.cons.injEq] at e0
    obtain ⟨rfl, rfl⟩ := e0
    obtain ⟨kvs, rfl, m2, m3⟩ := prs_keyK h2 h4 fun p hp => hf p (List.mem_cons_of_mem _ hp)
    have hk : (keyOf p.1).isSome = true := hf _ List.mem_cons_self
    obtain ⟨k', hk'⟩ := Option.isSome_iff_exists.mp hk
    have ek := keyOf_eq hk'
    dsimp only at h1
    rw [ek] at h1
    have eu := h1.key
    refine ⟨(k', q.2) :: kvs, ?_, by rw [List.map_cons, List.map_cons, m2, ek], .cons h3 m3⟩
    rw [List.map_cons, ← eu]
theorem prs_keyT : ∀ {prs : List (PV × PV)} {ps : List (V × V)}, RepL K ct H A M (prs.map (·.1)) (ps.map (·.1)) → RepL K ct H A M (prs.map (·.2)) (ps.map (·.2)) → (∀ p ∈ prs, keyFit true p.1 = true) →
    ∃ kvs : List (List Key × Addr × V), ps = kvs.map (fun kv => (.ref kv.2.1, kv.2.2)) ∧ (∀ p ∈ kvs, H p.2.1 = some (.tup (p.1.map kV))) ∧ prs.map (·.1) = (kvs.map fun p => (p.1, p.2.2)).map (fun w => PV.tup (w.1.map keyV)) ∧ RepL K ct H A M (prs.map (·.2)) ((kvs.map fun p => (p.1, p.2.2)).map (·.2))
  | [], ps, r1, r2, _ => by
    have := r1.length
    simp at this
    subst this
    exact ⟨[], rfl, (fun p hpZ => by cases hpZ), rfl, .nil⟩
  | p :: prs, [], r1, r2, _ => by have := r1.length; simp at this
  | p :: prs, q :: ps, r1, r2, hf => by
    obtain ⟨x, xs, e0, h1, h2⟩ := r1.inv
    simp only [List.map_cons, List.cons.injEq] at e0
    obtain ⟨rfl, rfl⟩ := e0
    obtain ⟨y, ys, e0, h3, h4⟩ := r2.inv
    simp only [List.map_cons, List.cons.injEq] at e0
    obtain ⟨rfl, rfl⟩ := e0
    obtain ⟨kvs, rfl, m1, m2, m3⟩ := prs_keyT h2 h4 fun p hpZ => hf p (List.mem_cons_of_mem _ hpZ)
    have hk := hf _ List.mem_cons_self
    obtain ⟨p1, p2⟩ := p
    obtain ⟨q1, q2⟩ := q
    cases p1 with
    | tup ls =>
      have hk : (keysOf ls).isSome = true := hk
      obtain ⟨k', hk'⟩ := Option.isSome_iff_exists.mp hk
      have ek := keysOf_eq hk'
      subst ek
      obtain ⟨b, bs, eb0, hb, hbs⟩ := h1.tup_inv
      have eb := hbs.keys
      subst eb
      dsimp only at eb0
      subst eb0
      exact ⟨(k', b, q2) :: kvs, rfl, (fun p hpZ => by
        rcases List.mem_cons.mp hpZ with rfl | hpZ
        · exact hb.1
        · exact m1 p hpZ), by rw [List.map_cons, List.map_cons, List.map_cons, m2], .cons h3 m3⟩
    | _ => cases hk
end
theorem carriesT {P : Program} {w : World} {H : Hp} {h : Heap} (ok : HOk P w H h) : ∀ {kvs : List (List Key × Addr × V)} {ws : List (Value × Value)}, (∀ p ∈ kvs, H p.2.1 = some (.tup (p.1.map kV))) → VV (kvs.map fun kv => (V.ref kv.2.1, kv.2.2)) ws →
    ∃ rs : List (List Key × Addr × Value), CarriesH (tupleKind (mixKind P w)) h ws rs ∧ Paired (fun (p : List Key × Addr × V) (q : List Key × Addr × Value) => q.1 = p.1 ∧ q.2.1 = p.2.1 ∧ H p.2.1 = some (.tup (p.1.map kV)) ∧ RelV p.2.2 q.2.2) kvs rs
  | [], _, _, r => by rw [List.map_nil] at r; cases r; exact ⟨[], True.intro, .nil⟩
  | p :: kvs, _, hk, r => by
    rw [List.map_cons] at r
    cases r with
    | @cons a b as bs h t =>
      obtain ⟨rs, c, q⟩ := carriesT ok (fun p hp => hk p (List.mem_cons_of_mem _ hp)) t
      obtain ⟨b1, b2⟩ := b
      cases (show b1 = Value.ref p.2.1 from h.1)
      exact ⟨(p.1, p.2.1, b2) :: rs, ⟨rfl, rfl, key_of ok (hk p List.mem_cons_self), c⟩, .cons ⟨rfl, rfl, hk p List.mem_cons_self, h.2⟩ q⟩
theorem disp_H {prog : Program} {w : World} {κ : Type} [DecidableEq κ] {knd : HeapKind prog w κ} {A : Around} {E : Value → Shared → Prop} {s : Shared} {env : PySem.Env} {keys : List (Option Expr)} {values : List Expr} {pos : Pos} {pairs : List (Sem Value × Sem Value)} {Q : Value → Shared → Prop} (hu : knd.room A) (hshape : (evalEachOpt keys env).zip ((evalEach values env).map fun v => do let x ← v; standAt pos; pure x) = pairs.map fun p => (some p.1, p.2)) (h0 : pairs ≠ []) (hlen : pairs.length ≤ 15) (h : wpAny (model prog w) A (evalPairs pairs) (fun vs s₁ => ∃ ps, CarriesH knd s₁.heap vs ps ∧ s₁.heap.DictOfH knd s.heap.objs.size [] ∧
      ∀ h' tk, h'.DictOfH knd s.heap.objs.size (storedAllH [] ps) → Heap.SameBut s.heap.objs.size s₁.heap h' → Q (.ref s.heap.objs.size) { s₁ with heap := h', toks := tk }) E { s with heap := s.heap.push { cls := .type "dict", data := .dict #[] } }) : wpAny (model prog w) A (eval (.Dict keys values pos) env) Q E s := by
  rw [arm_eval_Dict, hshape]; rw [dictDisplay_pairs pairs h0 (by omega)]
  refine wpAny_bind (wpAny_standAt (wpAny_bind (wpAny_subDictH (knd := knd) (Q := fun d s' => wpAny (model prog w) A (pure (Value.ref d)) Q E s') hu hlen (thn h fun vs s1 h1 => ?_))))
  obtain ⟨ps, hc, hm, hq⟩ := h1
  exact ⟨ps, hc, hm, fun h' tk a b => wpAny_pure (hq h' tk a b)⟩
section
variable {ct : Ct} {X : Cx} {pos : Pos} {keys : List (Option Expr)} {values : List Expr} {f : FP}
theorem jf_dispT {k : Nat} (hr : Room k X.A) (h : JP ct X pos keys values f) (hall : keys.all (·.isSome) = true := by rfl) (hl : keys.length = values.length := by rfl) (h0 : keys ≠ [] := by exact List.cons_ne_nil _ _) (h15 : keys.length ≤ 15 := by decide) : JF ct X (.Dict keys values pos) (eDis true f) := by
  refine ⟨⟨fun pins s σ H Q I hq => ?_⟩⟩
  obtain ⟨G, env, S, v, S', g, h1, q⟩ := hq
  obtain ⟨⟨prs, S1⟩, e1, h1⟩ := Res.bind_ok h1
  dsimp only at h1
  split at h1
  · rename_i r er
    cases h1
    obtain ⟨hk, er⟩ : prs.length ≤ 1000 ∧ dAll true [] [] prs = some r := by
      split at er
      · exact ⟨‹_›, er⟩
      · cases er
    have hnZ := I.hok.fresh (Nat.le_refl s.heap.objs.size)
    have I1 := I.laid (a := s.heap.objs.size) (o := .dT []) (h' := s.heap.push { cls := .type "dict", data := .dict #[] }) (t' := s.toks) (fun _ _ q => Heap.get?_push_of_some _ q) (Nat.le_refl _) (dt_empty s.heap I.big)
    have sm : Same H (upd H s.heap.objs.size (.dT [])) := same_new hnZ
    have g0 : Good X.K ct { G with M := s.heap.objs.size :: G.M } σ (upd H s.heap.objs.size (.dT [])) env S := g.hide hnZ sm (by rw [upd_same]; simp) (by rw [upd_same]; simp)
    have hln := pairTrees_length keys values X.env pos hall hl
    have A0 : rdP X.K ct f σ (upd H s.heap.objs.size (.dT [])) fun ps H2 => ∃ A2, Post G.A (upd H s.heap.objs.size (.dT [])) A2 H2 ∧ StoOk X.K ct H2 A2 (s.heap.objs.size :: G.M) S' ∧ RepL X.K ct H2 A2 (s.heap.objs.size :: G.M) (prs.map (·.1)) (ps.map (·.1)) ∧ RepL X.K ct H2 A2 (s.heap.objs.size :: G.M) (prs.map (·.2)) (ps.map (·.2)) :=
      ⟨_, env, S, prs, _, g0, e1, fun ps H2 A2 p2 s2 r3 r4 => ⟨A2, p2, s2, r3, r4⟩⟩
    refine disp_H (knd := tupleKind (mixKind X.prog X.w)) (pairs := pairTrees keys values X.env pos) (by show X.A.units < cLine; have := hr.units; omega) (zip_pairTrees keys values X.env pos hall hl) (fun he => by rw [he] at hln; exact h0 (List.length_eq_zero_iff.mp hln.symm)) (by rw [hln]; exact h15)
      (thn (h.run pins _ σ _ _ I1 A0) fun ws s2 ⟨ps, H2, I2, rel, A2, p2, st2, r3, r4⟩ => ?_)
    have g2 := g0.post p2 st2
    have hD : H2 s.heap.objs.size = some (.dT []) := p2.ext _ _ upd_same (g0.bs.disj _ List.mem_cons_self)
    obtain ⟨kvs, rfl, m1, m2, m3⟩ := prs_keyT r3 r4 (dAll_fit er)
    obtain ⟨n1, n2⟩ := dAll_rep (e := fun l : List Key => PV.tup (l.map keyV)) (fun _ _ z => tupKey_inj z) _ prs [] [] r.1 r.2 m2 m3 .nil er
    obtain ⟨rs, cr, rk⟩ := carriesT I2.hok m1 rel
    obtain ⟨z, hd, xs0, r0, dd⟩ := dt_of I2.hok hD
    cases r0
    refine ⟨rs, cr, dd, fun h' tk dk hs => ?_⟩
    obtain ⟨q', es, ep, hq', h2, h3, h4, _, h5⟩ := dk
    have kt : KT (upd H2 s.heap.objs.size (.dT (mergeT [] (kvs.map fun p => (p.1, p.2.2))))) (mergeT [] (kvs.map fun p => (p.1, p.2.2))) (storedAllH [] rs) := (KT.merge kvs rs [] [] rk .nil).keeps fun c ys ec => by
      rw [upd_ne (fun z => by subst z; rw [hD] at ec; cases ec)]; exact ec
    have hlen : (mergeT [] (kvs.map fun p => (p.1, p.2.2))).length ≤ sizeLine := by
      refine Nat.le_trans (length_mergeT _ []) ?_
      have l4 : kvs.length = prs.length := by
        have := congrArg List.length m2
        simpa using this.symm
      rw [List.length_nil, Nat.zero_add, List.length_map, l4]
      exact Nat.le_trans hk (by decide)
    have lu : Lat A2 (s.heap.objs.size :: G.M) H2 A2 (s.heap.objs.size :: G.M) (upd H2 s.heap.objs.size (.dT (mergeT [] (kvs.map fun p => (p.1, p.2.2))))) := lat_upd (.inr List.mem_cons_self)
    have hpA : s.heap.objs.size ∉ A2 := g2.bs.disj _ List.mem_cons_self
    refine ⟨.ref s.heap.objs.size, _, d_write (t' := tk) I2 (by rw [hD]; exact True.intro) hs ⟨q', hq'⟩ (show ObjOk X.prog X.w _ _ _ (.dT (mergeT [] (kvs.map fun p => (p.1, p.2.2)))) from ⟨hlen, hd, _, kt, q', es, ep, hq', h2, h3, h4, h5⟩), rfl, ?_⟩
    refine q _ _ A2 ⟨p2.pre, fun a o k1 k2 => ?_, fun a ha => ?_, p2.nodup⟩ hnZ hpA ⟨st2.len, fun n a xs k1 k2 => ?_⟩ (.inr ⟨rfl, _, upd_same, n1, n2.lat lu _ _⟩)
    · have hne : a ≠ s.heap.objs.size := fun z => by subst z; rw [hnZ] at k1; cases k1
      rw [upd_ne hne]
      exact p2.ext a o (by rw [upd_ne hne]; exact k1) k2
    · rcases p2.new a ha with z | z
      · exact .inl z
      · refine .inr ?_
        by_cases hne : a = s.heap.objs.size
        · subst hne; exact hnZ
        · rw [upd_ne hne] at z; exact z
    · obtain ⟨us, k3, k4⟩ := st2.at' n a xs k1 k2
      exact ⟨us, by rw [upd_ne (fun z => hpA (by rw [← z]; exact List.mem_of_getElem? k1))]; exact k3, k4.lat lu xs us⟩
  · cases h1
end
end J
set_option Elab.async false
set_option linter.all false
set_option maxRecDepth 100000
/-! J: the law's end. -/
namespace J
open L2 PySem PySem.Spec PyProof.Rows

/-- the abstract heap in which the law starts: the script alone, if it is none of the module's own objects -/
theorem start_heap {P : Program} {w : World} {K : PySem.W.Frag} {a : Addr} {t : Shared} {us : List Value} {ns : List Int} (kin : K.In t.heap)
    (at_a : t.heap.get? a = some { cls := .type "list", data := .seq us.toArray }) (hints : IntsAre us ns) (few : ns.length ≤ sizeLine) :
    ∃ H : Hp, SqL K H a (ns.map V.int) ∧ HOk P w H t.heap ∧ (∀ b u, H b = some u → b = a ∧ K.lookup a = none ∧ ∃ o xs, u = .frz o (.lst xs)) := by
  have vals := vals_ints hints
  by_cases own : K.lookup a = none
  · have key : ∀ (b : Addr) (u : HO), (if b = a then some (HO.frz { cls := .type "list", data := .seq us.toArray } (.lst (ns.map V.int))) else none) = some u → b = a ∧ u = .frz { cls := .type "list", data := .seq us.toArray } (.lst (ns.map V.int)) := fun b u e => by
      split at e
      · cases e; exact ⟨‹_›, rfl⟩
      · cases e
    refine ⟨fun b => if b = a then some (.frz { cls := .type "list", data := .seq us.toArray } (.lst (ns.map V.int))) else none, .inl (.inr ⟨_, if_pos rfl⟩), fun b u e => ?_, fun b u e => ?_⟩
    · obtain ⟨rfl, rfl⟩ := key b u e
      exact ⟨at_a, by rw [List.length_map]; exact few, us, _, vals, at_a⟩
    · obtain ⟨e1, e2⟩ := key b u e
      exact ⟨e1, own, _, _, e2⟩
  · obtain ⟨o, look⟩ := Option.ne_none_iff_exists'.mp own
    have same := (kin a o look).symm.trans at_a
    cases same
    refine ⟨fun _ => none, .inr ⟨_, us.toArray, _, look, rfl, rfl, rfl, by rw [List.size_toArray, hints.length]; exact few, by simpa using vals⟩, (fun b u e => nomatch (show (none : Option HO) = some u from e)), (fun b u e => nomatch (show (none : Option HO) = some u from e))⟩
/-- the law's call, for defs that ask for clear guards -/
theorem law_callG {P : Program} {w : World} {K : PySem.W.Frag} {mg mb : Str → Option Value} {k : Nat} {fa a : Addr} {fd : FuncData} {x : Str} {sp : Sp} {t : Shared} {us : List Value} {ns : List Int} (kin : K.In t.heap)
    (gl : t.heap.Ns mainGlobals mg) (bl : t.heap.Ns builtinsNs mb) (boot : ∀ y : Str, y ≠ "__name__" → mb y = bootBuiltins y) (lim : t.heap.NoLimit) (noG : t.gens = #[])
    (at_a : t.heap.get? a = some { cls := .type "list", data := .seq us.toArray }) (hints : IntsAre us ns) (few : ns.length ≤ sizeLine) (room : Room k callerA)
    (F : ∀ b0 : Heap, K.In b0 → b0.Ns mainGlobals mg → FnG P w K mg b0 k fa fd [x] sp) (binds : ∀ (z : Shared) (u : Value), BindsTo z fd ⟨[u], []⟩ [(x, u)])
    (pr : ∀ H : Hp, SqL K H a (ns.map V.int) → sp [.ref a] H (fun v _ => v = .bl true) fun _ _ _ => False) :
    codeAny (model P w) callerA (.call (.ref fa) ⟨[.ref a], []⟩) (fun r z => r = .ok (.ret (.bool true)) ∧ OldK t.heap z.heap ∧ z.os = t.os ∧ AllBare z.gens) t := by
  obtain ⟨H, sq, hok, only⟩ := start_heap (P := P) (w := w) kin at_a hints few
  have free : ∀ bZ o, t.heap.get? bZ = some o → H bZ = none → (hidT t.heap H).get? bZ = some o := fun bZ o e n => hidT_get e n
  have lift : ∀ {bZ : Addr} {m : Str → Option Value}, t.heap.Ns bZ m → (hidT t.heap H).Ns bZ m := by
    rintro bZ m ⟨o, es, ep, e, d, rest⟩
    refine ⟨o, es, ep, free bZ o e ?_, d, rest⟩
    match q : H bZ with
    | none => rfl
    | some u =>
      obtain ⟨rfl, _⟩ := only bZ u q
      rw [at_a] at e
      cases e
      exact nomatch (show Data.seq us.toArray _ = Data.dict es ep from d)
  have kin' : K.In (hidT t.heap H) := fun bZ o e => free bZ o (kin bZ o e) (by
    match q : H bZ with
    | none => rfl
    | some u =>
      obtain ⟨rfl, z, _⟩ := only bZ u q
      rw [z] at e; cases e)
  obtain ⟨mc, l1, l2⟩ := lim
  have start : Env0 P w K mg (hidT t.heap H) callerA [] t H := ⟨rfl, ⟨kin', lift gl, ⟨mb, lift bl, boot⟩, ⟨mc, lift l1, l2⟩⟩, fun _ _ e => of_hidT e, Nat.le_of_eq (hidT_size _ _), trivial, (fun bZ hb => nomatch (show bZ ∈ ([] : List Addr) from hb)), hok, .of_eq noG⟩
  refine codeAny_mono ((F _ kin' (lift gl)).run callerA [] t H ⟨[.ref a], []⟩ [.ref a] [.ref a] (fun v _ => v = .bl true) (fun _ _ _ => False) room rfl start (binds t (.ref a)) (.cons rfl .nil) (pr H sq)) fun r z hz => ?_
  match r, hz with
  | .ok (.ret u), ⟨v, H2, os, bare, un, hok2, ru, ev⟩ =>
    cases (show v = .bl true from ev)
    cases (show u = Value.bool true from ru)
    refine ⟨rfl, OldK.of_keep fun bZ o e => ?_, os, bare⟩
    match q : H bZ with
    | none => exact un.keep bZ o e q (fun c => nomatch (show bZ ∈ ([] : List Addr) from c)) (by simp)
    | some h =>
      obtain ⟨_, _, ob, xs, rfl⟩ := only bZ h q
      have c1 := (hok bZ _ q).1
      have c2 := (hok2 bZ _ (un.frzs bZ ob _ q)).1
      rw [e] at c1
      cases c1
      exact c2

theorem scr_start {K : PySem.W.Frag} {ct : Ct} {H : Hp} {a : Addr} {ns : List Int} (h : SqL K H a (ns.map V.int)) : Bs K ct [] [] H [] ∧ RepL K ct H [] [] [.scr ns] [.ref a] := by
  refine ⟨⟨⟨rfl, (fun n b xs h1 _ => by simp at h1)⟩, List.nodup_nil, (fun b hb => by cases hb), (fun b hb => by cases hb), (fun b hb => by cases hb)⟩, .cons ?_ .nil⟩
  simp only [Rep]
  refine ⟨a, rfl, ?_⟩
  rcases h with h | h
  · exact .inl ⟨h, by simp, by simp⟩
  · exact .inr (.inr h)
theorem sp_law {K : PySem.W.Frag} {ct : Ct} {f : List PV → Sto → Res (PV × Sto)} {ns : List Int} {H : Hp} {a : Addr} (hf : ∃ S', f [.scr ns] [] = .ok (.bl true, S')) (h : SqL K H a (ns.map V.int)) : spM K ct 1 f [.ref a] H (fun v _ => v = .bl true) fun _ _ _ => False := by
  obtain ⟨S', e⟩ := hf
  obtain ⟨b, r⟩ := scr_start (ct := ct) h
  exact ⟨rfl, [], [], _, [], _, S', b, r, e, fun x H' A' _ _ rx => Rep.bl_iff.mp rx⟩
/-- a law: F gives the written part, the pure function, the promise over every base -/
theorem walk_ofG {l : PySem.W.OpenLaw} {n k : Nat} {q : Program} {loose : List Str} {XP : (Str → Option Value) → Heap → Prop} {YP : World → Heap → Prop} {d : DefRec} {x : Str} {ct : PySem.W.Frag → Ct} {f : List PV → Sto → Res (PV × Sto)}
    (most : l.most = some n) (mostL : n ≤ sizeLine) (plain : d.params.defaults = []) (room : Room k callerA) (hf : ∀ ns : List Int, ns.length ≤ n → ∃ S', f [.scr ns] [] = .ok (.bl true, S'))
    (F : ∀ (w : World) (mg : Str → Option Value) (fa : Addr) (h : Heap), YP w h → h.Ns mainGlobals mg → mg d.name = some (.ref fa) → ∃ (K : PySem.W.Frag) (fd : FuncData), K.In h ∧ (∀ (s : Shared) (u : Value), BindsTo s fd ⟨[u], []⟩ [(x, u)]) ∧
        ∀ base : Heap, K.In base → base.Ns mainGlobals mg → FnG l.prog w K mg base k fa fd [x] (spM K (ct K) 1 f)) :
    PySem.W.WalkO q loose XP YP l.row.toRowW d [] (fun g zs => PySem.call g zs) := by
  refine Att.attach_call most plain fun w z t mg mb fa o pm cd doc a us ns G Y _ _ _ named there hints few noG => ?_
  obtain ⟨K, fd, kin, binds, ok⟩ := F w mg fa _ Y G.T.g named
  exact law_callG kin G.T.g G.T.b G.T.builtins G.T.nolimit noG there hints (Nat.le_trans few mostL) room ok binds fun H sq => sp_law (hf ns few) sq
end J
set_option Elab.async false
set_option linter.all false
set_option maxRecDepth 100000
/-! J: small joins for the printed texts. -/
namespace J
open PySem L2
section
variable {ct : Ct} {X : Cx} {a b : Expr} {fa fb : FE} {pos : Pos}
theorem je_globIx {x : Str} {i : Int} (hm : ∃ t, X.mg x = some (.int i t)) (hg : Gl X x := by rfl) (hd : (x == ("__debug__" : Str)) = false := by decide) : JE ct X (.Name x pos) (eC (.int i)) := by
  obtain ⟨t, hm⟩ := hm
  exact je_globI hg hm hd
def pMulA : PV → PV → Option PV
  | .int i, b => pMul (.int i) b
  | a, b => pRep a b
theorem je_mulA (ha : JB ct X a fa) (hb : JB ct X b fb) : JE ct X (.BinOp a .Mult b pos) (eOp pMulA fa fb) :=
  je_op (OpR.or op_mul (OpR.or op_rep op_repT)) (fun H A M x y vx vy v Q hx rx ry e q => by
    unfold pMulA at e
    split at e
    · exact .inl (ok_mul H A M x y _ vy v Q hx rx ry e q)
    · exact .inr (ok_rep H A M x y _ vy v Q hx rx ry e q)) ha hb
end
theorem funD_same {K : PySem.W.Frag} {x q x2 q2 : Str} {ps ps2 : Arguments} {b b2 : List Stmt} {sc sc2 : Scope} {f : Addr} {fd fd2 : FuncData} (F : FunD K x q ps b sc [] [] f fd) (F2 : FunD K x2 q2 ps2 b2 sc2 [] [] f fd2) : fd = fd2 := by
  obtain ⟨_, _, _, _, _, _, _, _, _, _, _, h, _⟩ := F.ex
  obtain ⟨_, _, _, _, _, _, _, _, _, _, _, h2, _⟩ := F2.ex
  rw [h] at h2
  simp only [Option.some.injEq, Obj.mk.injEq, Data.func.injEq] at h2
  exact h2.2.2.1
end J
set_option Elab.async false
set_option linter.all false
set_option maxRecDepth 100000
/-! J: keywords in any order, pairs of targets that own. -/
namespace J
open L2 PySem PySem.Spec PyProof.Rows

/-- the keywords ks, in their own order, stand for the parameters ps: g sorts the values -/
def KwP (x : Str) (st : Stmt) (ps ks : List Str) (g : {α : Type} → List α → List α) : Prop := ∀ (kV doc pm : Value) (an : Option Addr) (cdv ct : Value) (ws : List Value), ws.length = ks.length →
  bindArgs (PySem.W.fnOf x x (defArgs st) (defBody st) (defScope st) .none kV doc pm an cdv ct) ⟨[], ks.zip ws⟩ = pure (ps.zip (g ws))
def eCallP (f : List PV → Sto → Res (PV × Sto)) (g : {α : Type} → List α → List α) (b : FA) : FE := fun env S => (b env S).bind fun y => f (g y.1) y.2
def swap2 {α : Type} : List α → List α
  | [a, b] => [b, a]
  | l => l
section
variable {ct : Ct} {X : Cx} {k : Nat} {ps ks : List Str} {f : List PV → Sto → Res (PV × Sto)} {x : Str} {st : Stmt} {fk : FA} {pos p : Pos}
theorem je_callP {kws : List Keyword} (g : {α : Type} → List α → List α) (D : DefOk ct X.prog X.w X.K X.mg X.base x st k ps f) (hr : Room k X.A) (hG : X.A.guards = some []) (hK : KwP x st ps ks g) (hk : JK ct X kws fk) (hgl : ∀ {α : Type} (l : List α), (g l).length = l.length)
    (hgv : ∀ (l : List V) (m : List Value), Vals l m → Vals (g l) (g m)) (hgr : ∀ (H : Hp) (A M : List Addr) (l : List PV) (m : List V), RepL X.K ct H A M l m → RepL X.K ct H A M (g l) (g m))
    (hl2 : ∀ env S xs S', fk env S = .ok (xs, S') → xs.length = ps.length) (hpk : ks.length = ps.length := by rfl)
    (hall : (backToKw pos (keywordEach kws X.env)).all (·.1.isSome) = true := by rfl) (hks : (backToKw pos (keywordEach kws X.env)).filterMap (·.1) = ks := by rfl) (hg : Gl X x := by rfl) (hdb : (x == ("__debug__" : Str)) = false := by decide)
    (hpl : ((backTo pos (starEach [] X.env)).any (·.1) || (backToKw pos (keywordEach kws X.env)).any (·.1.isNone)) = false := by rfl) : JE ct X (.Call (.Name x p) [] kws pos) (eCallP f g fk) := by
  obtain ⟨fad, fd, FD, hm, F⟩ := D
  refine ⟨⟨fun pins s σ H Q I h => ?_⟩⟩
  obtain ⟨G, env, S, v, S', gd, h1, q⟩ := h
  obtain ⟨⟨zs, S2⟩, e2, h1⟩ := Res.bind_ok h1
  refine wpAny_Call_Name_kw (E := _) (ld_glob I hg hm ?_ hdb)
  have A0 : rdA X.K ct fk σ H fun ws H2 => spM X.K ct ps.length f (g ws) H2 Q E0 := ⟨G, env, S, zs, S2, gd, e2, fun ws H2 A2 p2 s2 r2 => call_of gd p2 s2 (hgr H2 A2 G.M zs ws r2) (by rw [hgl, r2.length, hl2 _ _ _ _ e2]) h1 q⟩
  refine PySem.W.callWith_KW0 (h₀ := X.base) I.ok.mod.kin FD.kp hall (thn (hk.pk.run pos pins s σ H _ I A0) fun ws s2 ⟨wv, H2, I2, rz, q2⟩ => ⟨I2.kIn, ?_⟩) hpl
  rw [hks]
  have l2 : ws.length = ks.length := by
    have l3 := q2.1
    rw [hgl] at l3
    rw [← rz.length, l3, hpk]
  have hb : BindsTo s2 fd ⟨[] ++ [], ks.zip ws⟩ (ps.zip (g ws)) := by
    obtain ⟨oc, od, dV, kV, doc, pm, an, cdv, ctv, osl, rfl, lk, hcd, hD, hKK⟩ := FD.ex
    rcases hD with ⟨_, e0⟩ | ⟨e0, _⟩
    · cases e0
      exact .of_eq (hK kV doc pm an cdv ctv ws l2)
    · exact absurd rfl e0
  exact run_fnG F hr hG hb I2 (hgv wv ws rz) q2
end
theorem swap2_len {α : Type} (l : List α) : (swap2 l).length = l.length := by
  unfold swap2
  split <;> rfl
theorem swap2_vals (l : List V) (m : List Value) (h : Vals l m) : Vals (swap2 l) (swap2 m) := by
  match l, m, h with
  | [], _, .nil => exact .nil
  | [_], _, .cons a .nil => exact .cons a .nil
  | [_, _], _, .cons a (.cons b .nil) => exact .cons b (.cons a .nil)
  | _ :: _ :: _ :: _, _, .cons a (.cons b (.cons c d)) => exact .cons a (.cons b (.cons c d))
theorem swap2_rep {K : PySem.W.Frag} {ct : Ct} (H : Hp) (A M : List Addr) (l : List PV) (m : List V) (h : RepL K ct H A M l m) : RepL K ct H A M (swap2 l) (swap2 m) := by
  match l, h with
  | [], h => rw [RepL.nil_iff.mp h]; exact .nil
  | [a], h => obtain ⟨v, rfl, r⟩ := h.one; exact .cons r .nil
  | [a, b], h => obtain ⟨v, w, rfl, r1, r2⟩ := h.two; exact .cons r2 (.cons r1 .nil)
  | a :: b :: c :: d, h =>
    obtain ⟨v, vs, rfl, r1, r2⟩ := h.inv
    obtain ⟨w, ws, rfl, r3, r4⟩ := r2.inv
    obtain ⟨u, us, rfl, r5, r6⟩ := r4.inv
    exact .cons r1 (.cons r3 (.cons r5 r6))
end J
set_option Elab.async false
set_option linter.all false
set_option maxRecDepth 100000
/-! J: a, b = x, y where one of the two owns. -/
namespace J
open PySem L2

theorem Good.hideF {K : PySem.W.Frag} {ct : Ct} {G : Gh} {σ : St} {env : Env} {H H1 : Hp} {S S1 : Sto} {A1 : List Addr} {p : Addr} {v : PV} (gd : Good K ct G σ H env S) (pp : Post G.A H A1 H1) (np : H p = none) (nA : p ∉ A1) (s : StoOk K ct H1 A1 (p :: G.M) S1) (c : Cont K ct H1 A1 (p :: G.M) p v) :
    Lat G.A G.M H A1 (p :: G.M) H1 ∧ Good K ct { G with A := A1, M := p :: G.M } σ H1 env S1 ∧ (∀ (j : Nat) (w : PV), env[j]? = some (.own w) → σ[j]? ≠ some (some (.ref p))) := by
  have s0 : StoOk K ct H1 A1 G.M S1 := s.less fun a ha => List.mem_cons_of_mem _ ha
  have g1 := gd.post pp s0
  obtain ⟨o, ho⟩ := c.there
  have lat : Lat G.A G.M H A1 (p :: G.M) H1 := ⟨pp.pre, fun b u eb n m => ⟨pp.ext b u eb n, pp.out eb n, fun hm => by
    rcases List.mem_cons.mp hm with hm | hm
    · subst hm; rw [np] at eb; cases eb
    · exact m hm⟩⟩
  refine ⟨lat, ⟨⟨s, g1.bs.nodup, fun a ha => ?_, fun a ha => ?_, fun a ha vs ev => ?_⟩, fun j sl hs => ?_, gd.uniq, g1.ext0, g1.pre0, g1.new0, fun a ha => List.mem_cons_of_mem _ (gd.sub0 a ha), gd.in0, gd.len⟩, fun j w ho' hz => ?_⟩
  · rcases List.mem_cons.mp ha with hm | hm
    · subst hm; rw [ho]; simp
    · exact g1.bs.inM a hm
  · rcases List.mem_cons.mp ha with hm | hm
    · subst hm; exact nA
    · exact g1.bs.disj a hm
  · rcases List.mem_cons.mp ha with hm | hm
    · subst hm; exact c.noT vs ev
    · exact g1.bs.noT a hm vs ev
  · have q := gd.slot j sl hs
    cases sl with
    | un => trivial
    | val w => obtain ⟨y, k1, k2⟩ := q; exact ⟨y, k1, k2.lat lat w y⟩
    | own w =>
      obtain ⟨p', k1, k2, k3, k4⟩ := q
      obtain ⟨o', ho'⟩ := k4.there
      exact ⟨p', k1, List.mem_cons_of_mem _ k2, k3, k4.lat lat ((pp.ext p' o' ho' (gd.bs.disj p' k2)).trans ho'.symm)⟩
  · obtain ⟨p', k1, k2, k3, k4⟩ := gd.slot j _ ho'
    rw [hz] at k1; cases k1
    exact gd.bs.inM p k2 np
def sParFE (i j : Nat) (a b : FE) : FS := fun env S => (a env S).bind fun x => (b env x.2).bind fun y => .ok (.nx ((env.set i (.own x.1)).set j (.val y.1)) y.2)
def sParEF (i j : Nat) (a b : FE) : FS := fun env S => (a env S).bind fun x => (b env x.2).bind fun y => .ok (.nx ((env.set i (.val x.1)).set j (.own y.1)) y.2)
section
variable {ct : Ct} {X : Cx} {a b : Expr} {fa fb : FE} {pos : Pos}
theorem js_parFE (i j : Nat) {x y : Str} {px py pt : Pos} {kt k2 pt2} (hN : X.N.Nodup) (ha : JF ct X a fa) (hb : JE ct X b fb) (hc : X.calm = true := by rfl) (hi : X.N[i]? = some x := by rfl) (hj : X.N[j]? = some y := by rfl) (hij : i ≠ j := by decide)
    (hx : X.env.scope.names.lookup x = some .local := by rfl) (hy : X.env.scope.names.lookup y = some .local := by rfl) (he : starEach [a, b] X.env = (false, eval a X.env) :: starEach [b] X.env := by rfl) (he2 : starEach [b] X.env = (false, eval b X.env) :: starEach [] X.env := by rfl)
    (hw : swappedStores [.Tuple [.Name x px, .Name y py] kt pt] (.Tuple [a, b] k2 pt2) X.env = pure (some [x, y]) := by rfl) (hs : swapsWithSole [.Tuple [.Name x px, .Name y py] kt pt] (.Tuple [a, b] k2 pt2) pos.line X.env = pure false := by rfl) :
    JS ct X (.Assign [.Tuple [.Name x px, .Name y py] kt pt] (.Tuple [a, b] k2 pt2) pos) (sParFE i j fa fb) := by
  refine ⟨(ps_par hc hN hi hj hij hx hy (pa_cons ha.pe (pa_cons hb.pe pa_nil he2) he) hw hs).imp fun D σ H h => ?_⟩
  obtain ⟨G, env, S, fl, gd, e, h⟩ := h
  obtain ⟨⟨u, S1⟩, e1, e2⟩ := Res.bind_ok e
  obtain ⟨⟨v, S2⟩, e3, e2⟩ := Res.bind_ok e2
  cases e2
  refine ⟨G, env, S, u, S1, gd, e1, fun p H1 A1 pp np nA s c => ?_⟩
  obtain ⟨lat, g1, fr⟩ := gd.hideF pp np nA s c
  refine ⟨_, env, S1, v, _, g1, e3, fun w H2 A2 p2 s2 r2 => ⟨_, _, rfl, ?_⟩⟩
  have g2 := g1.post p2 s2
  obtain ⟨o, ho⟩ := c.there
  have c2 : Cont X.K ct H2 A2 (p :: G.M) p u := c.lat (p2.lat _) ((p2.ext p o ho nA).trans ho.symm)
  have g3 := g2.setOwn (i := i) List.mem_cons_self (gd.fresh0 np) c2 fun l z _ hl => fr l z hl
  exact h _ H2 A2 (p :: G.M) (lat.trans (p2.lat _)) (g3.set r2)
theorem js_parEF (i j : Nat) {x y : Str} {px py pt : Pos} {kt k2 pt2} (hN : X.N.Nodup) (ha : JE ct X a fa) (hb : JF ct X b fb) (hc : X.calm = true := by rfl) (hi : X.N[i]? = some x := by rfl) (hj : X.N[j]? = some y := by rfl) (hij : i ≠ j := by decide)
    (hx : X.env.scope.names.lookup x = some .local := by rfl) (hy : X.env.scope.names.lookup y = some .local := by rfl) (he : starEach [a, b] X.env = (false, eval a X.env) :: starEach [b] X.env := by rfl) (he2 : starEach [b] X.env = (false, eval b X.env) :: starEach [] X.env := by rfl)
    (hw : swappedStores [.Tuple [.Name x px, .Name y py] kt pt] (.Tuple [a, b] k2 pt2) X.env = pure (some [x, y]) := by rfl) (hs : swapsWithSole [.Tuple [.Name x px, .Name y py] kt pt] (.Tuple [a, b] k2 pt2) pos.line X.env = pure false := by rfl) :
    JS ct X (.Assign [.Tuple [.Name x px, .Name y py] kt pt] (.Tuple [a, b] k2 pt2) pos) (sParEF i j fa fb) := by
  refine ⟨(ps_par hc hN hi hj hij hx hy (pa_cons ha.pe (pa_cons hb.pe pa_nil he2) he) hw hs).imp fun D σ H h => ?_⟩
  obtain ⟨G, env, S, fl, gd, e, h⟩ := h
  obtain ⟨⟨u, S1⟩, e1, e2⟩ := Res.bind_ok e
  obtain ⟨⟨v, S2⟩, e3, e2⟩ := Res.bind_ok e2
  cases e2
  refine ⟨G, env, S, u, S1, gd, e1, fun w H1 A1 p1 s1 r1 => ?_⟩
  have g1 := gd.post p1 s1
  refine ⟨_, env, S1, v, _, g1, e3, fun p H2 A2 pp np nA s c => ⟨_, _, rfl, ?_⟩⟩
  obtain ⟨lat, g2, fr⟩ := g1.hideF pp np nA s c
  have g3 := g2.set (i := i) (r1.lat lat u w)
  refine h _ H2 A2 (p :: G.M) ((p1.lat _).trans lat) (g3.setOwn List.mem_cons_self (g1.fresh0 np) c fun l z hne hl hz => ?_)
  rcases getSet hl with ⟨_, h0, _⟩ | ⟨hn, hl⟩
  · cases h0
  · rw [List.getElem?_set_ne hn] at hz
    exact fr l z hl hz
end
end J
set_option Elab.async false
set_option linter.all false
set_option maxRecDepth 100000
/-! J: min and max of three, tuples repeated. -/
namespace J
open PySem L2
def pMin3 : List PV → Option PV
  | [.int i, .int j, .int l] => some (.int (if l < (if j < i then j else i) then l else (if j < i then j else i)))
  | _ => none
theorem three_ints {ct : Ct} {K : PySem.W.Frag} {H : Hp} {A M : List Addr} {i j l : Int} {xs : List V} (r : RepL K ct H A M [.int i, .int j, .int l] xs) : xs = [.int i, .int j, .int l] := by
  obtain ⟨v, w, u, rfl, h1, h2, h3⟩ := r.three
  rw [Rep.int_iff.mp h1, Rep.int_iff.mp h2, Rep.int_iff.mp h3]
theorem ok_min3 {ct : Ct} {K : PySem.W.Frag} : CallOk K ct (rNuC3 nuMin3) pMin3 := fun H A M xs vs v Q hx r e q => by
  unfold pMin3 at e
  split at e
  · rename_i i j l
    cases e
    refine ⟨.int i, .int j, .int l, _, three_ints r, ?_, q _ H (Same.refl H) (Rep.int_iff.mpr rfl)⟩
    by_cases h1 : j < i
    · by_cases h2 : l < j <;> simp [nuMin3, nuMin2, nuLt, nuCB, h1, h2]
    · by_cases h2 : l < i <;> simp [nuMin3, nuMin2, nuLt, nuCB, h1, h2]
  · cases e
section
variable {ct : Ct} {X : Cx} {a b c : Expr} {fr : FA} {pos p : Pos}
theorem je_min3 (hm : X.mg "min" = none) (ha : JA ct X [a, b, c] fr) (hc : X.calm = true := by rfl) (hg : Gl X "min" := by rfl) (he : starEach [a, b, c] X.env = (false, eval a X.env) :: starEach [b, c] X.env := by rfl) (hpl : (backTo pos (starEach [b, c] X.env)).any (·.1) = false := by rfl) : JE ct X (.Call (.Name "min" p) [a, b, c] [] pos) (eB pMin3 fr) :=
  je_callB (call_min3Nu hc) ok_min3 hm ha hg (by decide +kernel) (by decide) (by decide) he hpl
end
end J
set_option Elab.async false
set_option linter.all false
set_option maxRecDepth 100000
/-! J: len(set(xs)) of a list of whole numbers. -/
namespace J
open PySem L2
def metN (ns : List Int) : List Int := PyProof.Rows.firstMet (fun i => ns.getD i 0) ns.length
def rSetI (K : PySem.W.Frag) : List V → Hp → VK → Prop := fun xs H Q => ∃ (a : Addr) (ns : List Int), xs = [.ref a] ∧ SqL K H a (ns.map V.int) ∧ ns.length + 1 < 4096 ∧ ∀ p, H p = none → Q (.ref p) (upd H p (.set (fun k => (metN ns).any (· == k)) (metN ns).length))
theorem cr_setI {X : Cx} (hcalm : X.calm = true) : CallR X (.type "set") (rSetI X.K) := by
  intro pins s σ H xs us Q I r hh
  obtain ⟨a, ns, rfl, sq, few, q⟩ := hh
  rw [Vals.ref1 r]
  obtain ⟨its, rv, pl, hz⟩ := I.list sq
  have hi := rv.ints
  have hl : its.toArray.size = ns.length := by rw [List.size_toArray, ← rv.length, List.length_map]
  refine call_set_list (ns := ns) (I.ok.hd hcalm) pl.isList (by simpa using hi) (by rw [hl]; exact few) fun h' tk hS hk => ?_
  rw [hl] at hS
  exact ⟨.ref s.heap.objs.size, _, I.laid (t' := tk) (o := .set (fun k => (metN ns).any (· == k)) (metN ns).length) (fun b u e => hk b u (Heap.lt_size e) e) (Nat.le_refl _) (show ObjOk X.prog X.w _ h' _ (.set (fun k => (metN ns).any (· == k)) (metN ns).length) from hS), rfl, q _ (I.hok.fresh (Nat.le_refl _))⟩
def rLenSet : List V → Hp → VK → Prop := fun xs H Q => ∃ (a : Addr) (S : Int → Bool) (n : Nat), xs = [.ref a] ∧ H a = some (.set S n) ∧ Q (.int n) H
theorem cr_lenSet {X : Cx} : CallR X (.builtin "len") rLenSet := by
  intro pins s σ H xs us Q I r hh
  obtain ⟨a, S, n, rfl, ha, q⟩ := hh
  rw [Vals.ref1 r]
  obtain ⟨o, es, ep, t, ho, hx, hd, _, _, h4, h5, h6⟩ := (show s.heap.SetOf (intKind X.prog X.w) a S n from I.hok a _ ha)
  refine call_len_set ho hx hd h5 (by have : scanBound = 4096 := rfl; omega) ?_
  exact ⟨.int n, H, I.tok _, ⟨_, by rw [h6]⟩, q⟩
def pSetLen : PV → Option PV
  | .lst xs => (intsP xs).bind fun ns => if ns.length + 1 < 4096 then some (.int (metN ns).length) else none
  | _ => none
section
variable {ct : Ct} {X : Cx} {a : Expr} {fa : FE} {pos p q1 q2 : Pos}
theorem je_lenset (hm : X.mg "len" = none) (hm2 : X.mg "set" = none) (ha : JB ct X a fa) (hc : X.calm = true := by rfl) (hg : Gl X "len" := by rfl) (hg2 : Gl X "set" := by rfl) (he : starEach [a] X.env = (false, eval a X.env) :: starEach [] X.env := by rfl)
    (he2 : starEach [.Call (.Name "set" q1) [a] [] q2] X.env = (false, eval (.Call (.Name "set" q1) [a] [] q2) X.env) :: starEach [] X.env := by rfl) : JE ct X (.Call (.Name "len" p) [.Call (.Name "set" q1) [a] [] q2] [] pos) (eUn pSetLen fa) := by
  refine ⟨(pe_callB cr_lenSet hg hm PySem.boot_len (pa_cons (pe_callTy (cr_setI hc) hg2 hm2 (by decide +kernel) (pa_cons ha.pe pa_nil he) (by decide) (by decide) he rfl) pa_nil he2) (by decide) (by decide) he2 rfl).imp fun σ H Q h => ?_⟩
  obtain ⟨G, env, S, v, S', g, h1, q⟩ := h
  obtain ⟨⟨x, S1⟩, e1, h1⟩ := Res.bind_ok h1
  obtain ⟨z, e3, h1⟩ := Res.bind_ok h1
  cases h1
  refine ⟨G, env, S, x, _, g, e1, fun x' H1 A1 p1 s1 r1 => ?_⟩
  have g1 := g.post p1 s1
  have e4 := ofO_ok e3
  cases x with
  | lst xs =>
    obtain ⟨ns, e5, e6⟩ := Option.bind_eq_some_iff.mp e4
    split at e6
    · rename_i few
      cases e6
      have ex := intsP_eq e5
      subst ex
      obtain ⟨ad, vs, rfl, k1, k2⟩ := r1.lst
      have ev := k2.ints
      subst ev
      refine ⟨ad, ns, rfl, .inl (.inl k1), few, fun pp np => ⟨pp, _, _, rfl, upd_same, ?_⟩⟩
      exact q _ _ A1 (p1.trans (Post.grow g1.bs.nodup (same_new np))) (s1.grow g1.bs.nodup (same_new np)) (Rep.int_iff.mpr rfl)
    · cases e6
  | _ => cases e4
end
end J
set_option Elab.async false
set_option linter.all false
set_option maxRecDepth 100000
set_option maxHeartbeats 3900000
/-! J: a tuple of one element taken 0 times or once. -/
namespace J
open PySem L2 PySem.Spec PyProof.Rows
theorem tmul_one (l : Addr) (items : Array Value) (n : Nat) (dd : Option Addr) (sl : Array (Option Value)) (u : Tok) :
    Meets (Builtin.«tuple.__mul__» ⟨[.ref l, .int 1 u], []⟩) (fun _ R s => s.heap.get? l = some { cls := .type "tuple", dict := dd, data := .seq items n, slots := sl } ∧ R (.ok (.ret (Value.ref l))) s) :=
  .of_wp fun prg wld A R sh h => by
    obtain ⟨hpq, gq, dq, tkq, osq⟩ := sh
    obtain ⟨hlq, h⟩ := h
    have f1 := AutoSeq1.idx_int
    have q0 : (decide ((1 : Int) < -(2 ^ 63)) || decide ((1 : Int) ≥ 2 ^ 63)) = false := by decide
    have q1 : (items.isEmpty || (1 : Int) == 1) = true := by simp
    wp_walk using wpAny_loadPart' hlq
    repeat (first
      | (refine wpAny_ite_false (decide_eq_false (by rw [q0]; exact Bool.false_ne_true)) ?_; wp_walk using wpAny_loadPart' hlq)
      | (refine wpAny_ite_true (decide_eq_true (by rw [q1])) ?_; wp_walk using wpAny_loadPart' hlq))
    exact ⟨_, rfl, h⟩
theorem tmul_zero (l : Addr) (items : Array Value) (n : Nat) (dd : Option Addr) (sl : Array (Option Value)) (u : Tok) (q1 : (items.isEmpty || (0 : Int) == 1) = false) :
    Meets (Builtin.«tuple.__mul__» ⟨[.ref l, .int 0 u], []⟩) (fun _ R s => s.heap.get? l = some { cls := .type "tuple", dict := dd, data := .seq items n, slots := sl } ∧
      R (.ok (.ret (Value.ref s.heap.objs.size))) { s with heap := s.heap.push { cls := Value.type "tuple", data := Data.seq #[] }, toks := s.toks }) :=
  .of_wp fun prg wld A R sh h => by
    obtain ⟨hpq, gq, dq, tkq, osq⟩ := sh
    obtain ⟨hlq, h⟩ := h
    have f1 := AutoSeq1.idx_int
    have q0 : (decide ((0 : Int) < -(2 ^ 63)) || decide ((0 : Int) ≥ 2 ^ 63)) = false := by decide
    have q2 : (decide ((0 : Int) ≤ 0) || items.isEmpty) = true := by simp
    wp_walk using wpAny_loadPart' hlq
    repeat (first
      | (refine wpAny_ite_false (decide_eq_false (by rw [q0]; exact Bool.false_ne_true)) ?_; wp_walk using wpAny_loadPart' hlq)
      | (refine wpAny_ite_false (decide_eq_false (by rw [q1]; exact Bool.false_ne_true)) ?_; wp_walk using wpAny_loadPart' hlq)
      | (refine wpAny_ite_true (decide_eq_true (by rw [q2])) ?_; wp_walk using wpAny_loadPart' hlq))
    exact ⟨_, rfl, h⟩
def rRep01 (K : PySem.W.Frag) : R2 := fun x y H Q => ∃ l xs, x = .ref l ∧ SqT K H l xs ∧ xs ≠ [] ∧ ((y = .int 1 ∧ Q (.ref l) H) ∨ (y = .int 0 ∧ ∀ p, H p = none → Q (.ref p) (upd H p (.tup []))))
section
variable {X : Cx}
theorem op_rep01 : OpR X (binaryOp .Mult) (rRep01 X.K) := by
  intro pinsQ s σ H x y v u Q I rx ry hq
  obtain ⟨l, xs, rfl, hT, hne, h⟩ := hq
  cases rx
  obtain ⟨its, r, ⟨⟨cls, dd, data, sl⟩, ho, hc, n, hd⟩, _⟩ := I.tuple hT
  simp only at hc hd
  subst hc hd
  have hn : its ≠ [] := fun e => by
    rw [e] at r
    cases r
    exact hne rfl
  have hiq : its.toArray.isEmpty = false := by
    cases its with
    | nil => exact absurd rfl hn
    | cons a b => rfl
  rcases h with ⟨rfl, q⟩ | ⟨rfl, q⟩
  · obtain ⟨t, rfl⟩ := ry
    refine wpAny_binaryOp_repeat_ref (T := "tuple") (U := "int") (by decide) ⟨_, ho, rfl⟩ (fun s' => typeIs_int s' 1 t) noFill_tuple_mul F.fills_int_mul F.slot_int_rmul repeat_tuple F.slot_int_index.lookup
      (call_meets F.slot_int_rmul (typeIs_int s 1 t) F.entry_int_rmul (F.args_int_rmul_2 _ _) (int_rmul_tuple 1 t l its.toArray n dd sl)
        ⟨ho, rfl, ⟨_, ho, rfl⟩, call_meets F.slot_tuple_mul ⟨_, ho, rfl⟩ F.entry_tuple_mul (F.args_tuple_mul_2 _ _) (tmul_one l its.toArray n dd sl t) ⟨ho, ?_⟩⟩)
    exact ⟨.ref l, H, I, rfl, q⟩
  · obtain ⟨t, rfl⟩ := ry
    refine wpAny_binaryOp_repeat_ref (T := "tuple") (U := "int") (by decide) ⟨_, ho, rfl⟩ (fun s' => typeIs_int s' 0 t) noFill_tuple_mul F.fills_int_mul F.slot_int_rmul repeat_tuple F.slot_int_index.lookup
      (call_meets F.slot_int_rmul (typeIs_int s 0 t) F.entry_int_rmul (F.args_int_rmul_2 _ _) (int_rmul_tuple 0 t l its.toArray n dd sl)
        ⟨ho, rfl, ⟨_, ho, rfl⟩, call_meets F.slot_tuple_mul ⟨_, ho, rfl⟩ F.entry_tuple_mul (F.args_tuple_mul_2 _ _) (tmul_zero l its.toArray n dd sl t (by rw [hiq]; rfl)) ⟨ho, ?_⟩⟩)
    refine ⟨.ref s.heap.objs.size, _, I.laid (t' := s.toks) (o := .tup []) (fun b ob q => Heap.get?_push_of_some _ q) (Nat.le_refl _) ?_, rfl, q _ (I.hok.fresh (Nat.le_refl _))⟩
    exact ⟨by rw [sizeLine_eq]; decide, _, .nil, IsTup.new _ _⟩
end
/-- a product, a repeated list, a repeated tuple of one element -/
def pMulB : PV → PV → Option PV
  | .tup [x], .int k => if k = 1 then some (.tup [x]) else if k = 0 then some (.tup []) else pRep (.tup [x]) (.int k)
  | a, b => pMulA a b
section
variable {ct : Ct} {X : Cx} {a b : Expr} {fa fb : FE} {pos : Pos}
theorem je_mulB (ha : JB ct X a fa) (hb : JB ct X b fb) : JE ct X (.BinOp a .Mult b pos) (eOp pMulB fa fb) :=
  je_op (OpR.or op_rep01 (OpR.or op_mul (OpR.or op_rep op_repT))) (fun H A M x y vx vy v Q hx rx ry e q => by
    unfold pMulB at e
    split at e
    · rename_i x0 k
      split at e
      · rename_i hk
        cases e
        subst hk
        refine .inl ?_
        obtain ⟨ad, vs, rfl, k1, k2⟩ := rx.tup
        refine ⟨ad, vs, rfl, k1.sqT, ?_, .inl ⟨by rw [ry.int], q _ _ ?_ ?_⟩⟩
        · intro z; have := k2.length; rw [z] at this; simp at this
        · exact Same.refl H
        · simp only [Rep]
          exact ⟨ad, vs, rfl, k1, k2⟩
      · split at e
        · rename_i hk0 hk
          cases e
          subst hk
          refine .inl ?_
          obtain ⟨ad, vs, rfl, k1, k2⟩ := rx.tup
          refine ⟨ad, vs, rfl, k1.sqT, ?_, .inr ⟨by rw [ry.int], fun p np => ?_⟩⟩
          · intro z; have := k2.length; rw [z] at this; simp at this
          obtain ⟨k3, k4⟩ := hx.new_tup (K := X.K) (ct := ct) RepL.nil np
          exact q _ _ k3 k4
        · exact .inr (.inr (ok_rep H A M x y _ _ v Q hx rx ry e q))
    · refine .inr ?_
      unfold pMulA at e
      split at e
      · exact .inl (ok_mul H A M x y _ vy v Q hx rx ry e q)
      · exact .inr (ok_rep H A M x y _ vy v Q hx rx ry e q)) ha hb
end
end J
set_option Elab.async false
set_option linter.all false
set_option maxRecDepth 100000
set_option maxHeartbeats 3900000
/-! J: tuple(range(..)), list(range(..)). -/
namespace J
open PySem L2 PySem.Spec PyProof.Rows
def rgW (i c : Int) (n : Nat) : List V := (List.range n).map fun (k : Nat) => V.int (i + (k : Int) * c)
theorem rgW_len (i c : Int) (n : Nat) : (rgW i c n).length = n := by unfold rgW; rw [List.length_map, List.length_range]
theorem rgW_vals {i c : Int} {n : Nat} {acc : Array Value} (h : ItemsOf (fun k v => ∃ t, v = .int (i + k * c) t) acc n) : Vals (rgW i c n) acc.toList := by
  have e : acc.toList.length = n := by rw [Array.length_toList]; exact h.1
  unfold rgW
  rw [← e]
  exact vals_of_get acc.toList _ fun at' v got => h.2 at' v ((Array.getElem?_toList).symm.trans got)
/-- an expression that makes a range: where it begins, its step, how many -/
def PRn (X : Cx) (e : Expr) (t : L2.St → Hp → (Int → Int → Nat → Hp → Prop) → Prop) : Prop :=
  ∀ (pins : List (Addr × Obj)) (s : Shared) (σ : L2.St) (H : Hp) (Q : Int → Int → Nat → Hp → Prop), Inv X pins σ H s → t σ H Q →
    wpAny (model X.prog X.w) X.A (eval e X.env) (fun x s' => ∃ r a b c t u v n H', x = .ref r ∧ IsRange s'.heap r a b c t u v ∧ Builtin.Range.small a b c = true ∧ Builtin.Range.rangeSize a b c = (n : Nat) ∧ Inv X pins σ H' s' ∧ Q a c n H') X.xe s
section
variable {X : Cx} {a b c : Expr} {ta : TA} {p pos : Pos}
theorem prn_1 (hg : Gl X "range") (hm : X.mg "range" = none) (ha : PA X [a] ta) (hs : starEach [a] X.env = [(false, eval a X.env)] := by rfl) :
    PRn X (.Call (.Name "range" p) [a] [] pos) (fun σ H Q => ta σ H fun vs H1 => ∃ j, vs = [.int j] ∧ bdI j = true ∧ Q 0 1 j.toNat H1) := fun pins s σ H Q I h => by
  refine Call_ (ld_blt I hg hm boot_range (PyProof.Rows.callWith_type1 (thn (ha.run pos pins s σ H _ I h) fun usQ s1 ⟨vs, H1, I1, r1, q1⟩ => ?_) hs rfl))
  obtain ⟨j, e, hb, q⟩ := q1
  obtain ⟨b1, b2⟩ := bdI_ok hb
  subst e
  obtain ⟨u, rfl, t, rfl⟩ := vals1 r1
  refine call_range_1 ⟨_, 0, j, 1, _, _, _, j.toNat, H1, rfl, IsRange.new _ _ _ _ _ _ _, small_one (by omega) (by omega) b1 b2, ?_, I1.kept fun b u e => Heap.get?_push_of_some _ e, q⟩
  rw [rangeSize_nat]; simp
theorem prn_2 (hg : Gl X "range") (hm : X.mg "range" = none) (ha : PA X [a, b] ta) (hs : starEach [a, b] X.env = [(false, eval a X.env), (false, eval b X.env)] := by rfl) (hs2 : starEach [b] X.env = [(false, eval b X.env)] := by rfl) :
    PRn X (.Call (.Name "range" p) [a, b] [] pos) (fun σ H Q => ta σ H fun vs H1 => ∃ i j, vs = [.int i, .int j] ∧ bdI i = true ∧ bdI j = true ∧ Q i 1 (j - i).toNat H1) := fun pins s σ H Q I h => by
  refine Call_ (ld_blt I hg hm boot_range (PyProof.Rows.callWith_type1 (thn (ha.run pos pins s σ H _ I h) fun usQ s1 ⟨vs, H1, I1, r1, q1⟩ => ?_) (by rw [hs, hs2]) (by rw [hs2]; rfl)))
  obtain ⟨i, j, e, hb, hb', q⟩ := q1
  obtain ⟨b1, b2⟩ := bdI_ok hb
  obtain ⟨b3, b4⟩ := bdI_ok hb'
  subst e
  cases r1 with
  | cons r rr =>
    obtain ⟨u, rfl, t', rfl⟩ := vals1 rr
    obtain ⟨t, rfl⟩ := r
    exact call_range_2 ⟨_, i, j, 1, _, _, _, (j - i).toNat, H1, rfl, IsRange.new _ _ _ _ _ _ _, small_one b1 b2 b3 b4, rangeSize_nat _ _, I1.kept fun b u e => Heap.get?_push_of_some _ e, q⟩
theorem prn_3 (hg : Gl X "range") (hm : X.mg "range" = none) (ha : PA X [a, b, c] ta) (hs : starEach [a, b, c] X.env = (false, eval a X.env) :: starEach [b, c] X.env := by rfl) (hpl : (backTo pos (starEach [b, c] X.env)).any (·.1) = false := by rfl) :
    PRn X (.Call (.Name "range" p) [a, b, c] [] pos) (fun σ H Q => ta σ H fun vs H1 => ∃ i j, vs = [.int i, .int j, .int (-1)] ∧ bdI i = true ∧ bdI j = true ∧ Q i (-1) (i - j).toNat H1) := fun pins s σ H Q I h => by
  refine Call_ (ld_blt I hg hm boot_range (PyProof.Rows.callWith_type1 (thn (ha.run pos pins s σ H _ I h) fun usQ s1 ⟨vs, H1, I1, r1, q1⟩ => ?_) hs hpl))
  obtain ⟨i, j, e, hb, hb', q⟩ := q1
  obtain ⟨b1, b2⟩ := bdI_ok hb
  obtain ⟨b3, b4⟩ := bdI_ok hb'
  obtain ⟨c0, c1, c2, c3⟩ := RgC.neg b1 b2 b3 b4
  subst e
  cases r1 with
  | cons r rr =>
    cases rr with
    | cons r' rr =>
      obtain ⟨u, rfl, t'', rfl⟩ := vals1 rr
      obtain ⟨t, rfl⟩ := r
      obtain ⟨t', rfl⟩ := r'
      exact call_range_3 c0 ⟨_, i, j, -1, _, _, _, (i - j).toNat, H1, rfl, IsRange.new _ _ _ _ _ _ _, c2, c3, I1.kept fun b u e => Heap.get?_push_of_some _ e, q⟩ (.inl (PyProof.noPylong_small c1))
variable {e : Expr} {te : L2.St → Hp → (Int → Int → Nat → Hp → Prop) → Prop}
theorem pe_tupRn (hc : X.calm = true) (hg : Gl X "tuple") (hm : X.mg "tuple" = none) (he : PRn X e te) (na : starEach [e] X.env = (false, eval e X.env) :: starEach [] X.env := by rfl) :
    PE X (.Call (.Name "tuple" p) [e] [] pos) (fun σ H Q => te σ H fun i c n H1 => n ≤ 1000000 ∧ ∀ q, H1 q = none → Q (.ref q) (upd H1 q (.tup (rgW i c n)))) := by
  refine ⟨fun pinsQ s σ H Q I h => ?_⟩
  refine Call_ (ld_blt I hg hm boot_tuple (PyProof.Rows.callWith_type1 (args_cons (thn (he pinsQ s σ H _ I h) fun x s1 ⟨r, a, b, c, t, u, v, n, H1, ex, hr, hsm, hsz, I1, ok, q⟩ => args_nil ?_) na) na))
  subst ex
  refine call_tuple_range (n := n) (I1.ok.hd hc) hr hsm hsz (by omega) fun h' tk acc hk hi => ?_
  have I2 : Inv X pinsQ σ H1 { s1 with heap := h', toks := tk } := I1.kept hk
  refine ⟨.ref h'.objs.size, upd H1 h'.objs.size (.tup (rgW a c n)), I2.laid (t' := tk) (fun c o e => Heap.get?_push_of_some _ e) (Nat.le_refl _) (show ObjOk X.prog X.w _ _ _ (.tup (rgW a c n)) from ⟨?_, acc.toList, rgW_vals hi, ?_⟩), rfl, q _ (I2.hok.fresh (Nat.le_refl _))⟩
  · rw [rgW_len, sizeLine_eq]; omega
  · have back : acc.toList.toArray = acc := Array.toArray_toList
    rw [back]
    exact IsTup.new h' acc
theorem pe_lstRn (hc : X.calm = true) (hg : Gl X "list") (hm : X.mg "list" = none) (he : PRn X e te) (na : starEach [e] X.env = (false, eval e X.env) :: starEach [] X.env := by rfl) :
    PE X (.Call (.Name "list" p) [e] [] pos) (fun σ H Q => te σ H fun i c n H1 => n ≤ 1000000 ∧ ∀ q, H1 q = none → Q (.ref q) (upd H1 q (.lst (rgW i c n)))) := by
  refine ⟨fun pinsQ s σ H Q I h => ?_⟩
  refine Call_ (ld_blt I hg hm boot_list (PyProof.Rows.callWith_type1 (args_cons (thn (he pinsQ s σ H _ I h) fun x s1 ⟨r, a, b, c, t, u, v, n, H1, ex, hr, hsm, hsz, I1, ok, q⟩ => args_nil ?_) na) na))
  subst ex
  refine call_list_range (n := n) (I1.ok.hd hc) hr hsm hsz (by omega) fun h' tk acc c' hk e' hi => ?_
  refine ⟨.ref s1.heap.objs.size, upd H1 s1.heap.objs.size (.lst (rgW a c n)), I1.laid hk (Nat.le_refl _) (show ObjOk X.prog X.w _ _ _ (.lst (rgW a c n)) from ⟨?_, acc.toList, c', rgW_vals hi, ?_⟩), rfl, q _ (I1.hok.fresh (Nat.le_refl _))⟩
  · rw [rgW_len, sizeLine_eq]; omega
  · have back : acc.toList.toArray = acc := Array.toArray_toList
    rw [back, e']
end
def rgI (i c : Int) (n : Nat) : List PV := (List.range n).map fun (k : Nat) => PV.int (i + (k : Int) * c)
theorem rgI_up (i : Int) (n : Nat) : rangeP i n = rgI i 1 n := by unfold rangeP rgI; simp
theorem rgI_down (i : Int) (n : Nat) : rangeD i n = rgI i (-1) n := by
  unfold rangeD rgI
  have each : ∀ k : Nat, i - (k : Int) = i + (k : Int) * -1 := fun k => by omega
  simp only [each]
theorem rgI_len (i c : Int) (n : Nat) : (rgI i c n).length = n := by unfold rgI; rw [List.length_map, List.length_range]
theorem rgI_rep {K : PySem.W.Frag} {ct : Ct} {H : Hp} {A M : List Addr} (i c : Int) : ∀ l : List Nat, RepL K ct H A M (l.map fun (k : Nat) => PV.int (i + (k : Int) * c)) (l.map fun (k : Nat) => V.int (i + (k : Int) * c))
  | [] => .nil
  | k :: r => .cons (Rep.int_iff.mpr rfl) (rgI_rep i c r)
structure JR (ct : Ct) (X : Cx) (e : Expr) (f : FA) : Prop where
  pr : PRn X e (fun σ H Q => ∃ G env S v S', Good X.K ct G σ H env S ∧ f env S = .ok (v, S') ∧ ∀ i c n H' A', Post G.A H A' H' → StoOk X.K ct H' A' G.M S' → v = rgI i c n → Q i c n H')
theorem PRn.imp {X : Cx} {e : Expr} {t t' : L2.St → Hp → (Int → Int → Nat → Hp → Prop) → Prop} (h : PRn X e t) (i : ∀ σ H Q, t' σ H Q → t σ H Q) : PRn X e t' := fun pins s σ H Q I q => h pins s σ H Q I (i σ H Q q)
section
variable {ct : Ct} {X : Cx} {a b c : Expr} {fa : FA} {p pos : Pos}
theorem jr_range1 (hm : X.mg "range" = none) (h : JA ct X [a] fa) (hg : Gl X "range" := by rfl) (hs : starEach [a] X.env = [(false, eval a X.env)] := by rfl) : JR ct X (.Call (.Name "range" p) [a] [] pos) (iR1 fa) := by
  refine ⟨(prn_1 hg hm h.pa hs).imp fun σ H R q => ?_⟩
  obtain ⟨G, env, S, v, S', g, h1, q⟩ := q
  obtain ⟨⟨x, S1⟩, e1, h1⟩ := Res.bind_ok h1
  refine ⟨G, env, S, x, S1, g, e1, fun vs H1 A1 p1 s1 r1 => ?_⟩
  dsimp only at h1
  split at h1
  · rename_i j
    split at h1
    · rename_i hb
      cases h1
      obtain ⟨v, rfl, rv⟩ := r1.one
      exact ⟨j, by rw [Rep.int_iff.mp rv], hb, q _ _ _ H1 A1 p1 s1 (rgI_up _ _)⟩
    · cases h1
  · cases h1
theorem jr_range2 (hm : X.mg "range" = none) (h : JA ct X [a, b] fa) (hg : Gl X "range" := by rfl) (hs : starEach [a, b] X.env = [(false, eval a X.env), (false, eval b X.env)] := by rfl) (hs2 : starEach [b] X.env = [(false, eval b X.env)] := by rfl) : JR ct X (.Call (.Name "range" p) [a, b] [] pos) (iR2 fa) := by
  refine ⟨(prn_2 hg hm h.pa hs hs2).imp fun σ H R q => ?_⟩
  obtain ⟨G, env, S, v, S', g, h1, q⟩ := q
  obtain ⟨⟨x, S1⟩, e1, h1⟩ := Res.bind_ok h1
  refine ⟨G, env, S, x, S1, g, e1, fun vs H1 A1 p1 s1 r1 => ?_⟩
  dsimp only at h1
  split at h1
  · rename_i i j
    split at h1
    · rename_i hb
      cases h1
      rw [Bool.and_eq_true] at hb
      obtain ⟨v, w, rfl, rv, rw'⟩ := r1.two
      exact ⟨i, j, by rw [Rep.int_iff.mp rv, Rep.int_iff.mp rw'], hb.1, hb.2, q _ _ _ H1 A1 p1 s1 (rgI_up _ _)⟩
    · cases h1
  · cases h1
theorem jr_range3 (hm : X.mg "range" = none) (h : JA ct X [a, b, c] fa) (hg : Gl X "range" := by rfl) (hs : starEach [a, b, c] X.env = (false, eval a X.env) :: starEach [b, c] X.env := by rfl) (hpl : (backTo pos (starEach [b, c] X.env)).any (·.1) = false := by rfl) : JR ct X (.Call (.Name "range" p) [a, b, c] [] pos) (iR3 fa) := by
  refine ⟨(prn_3 hg hm h.pa hs hpl).imp fun σ H R q => ?_⟩
  obtain ⟨G, env, S, v, S', g, h1, q⟩ := q
  obtain ⟨⟨x, S1⟩, e1, h1⟩ := Res.bind_ok h1
  refine ⟨G, env, S, x, S1, g, e1, fun vs H1 A1 p1 s1 r1 => ?_⟩
  dsimp only at h1
  split at h1
  · rename_i i j c
    split at h1
    · rename_i hb
      cases h1
      obtain ⟨hc, hb1, hb2⟩ := hb
      subst hc
      obtain ⟨v, w, z, rfl, rv, rw', rz⟩ := r1.three
      exact ⟨i, j, by rw [Rep.int_iff.mp rv, Rep.int_iff.mp rw', Rep.int_iff.mp rz], hb1, hb2, q _ _ _ H1 A1 p1 s1 (rgI_down _ _)⟩
    · cases h1
  · cases h1
end
def eTR (it : FA) : FE := fun env S => (it env S).bind fun x => if x.1.length ≤ 1000000 then .ok (.tup x.1, x.2) else .err
def eLR (it : FA) : FE := fun env S => (it env S).bind fun x => if x.1.length ≤ 1000000 then .ok (.lst x.1, x.2) else .err
section
variable {ct : Ct} {X : Cx} {e : Expr} {it : FA} {p pos : Pos}
theorem je_tupR (hm : X.mg "tuple" = none) (h : JR ct X e it) (hc : X.calm = true := by rfl) (hg : Gl X "tuple" := by rfl) (na : starEach [e] X.env = (false, eval e X.env) :: starEach [] X.env := by rfl) : JE ct X (.Call (.Name "tuple" p) [e] [] pos) (eTR it) := by
  refine ⟨(pe_tupRn hc hg hm h.pr na).imp fun σ H Q q => ?_⟩
  obtain ⟨G, env, S, v, S', g, h1, q⟩ := q
  obtain ⟨⟨x, S1⟩, e1, h1⟩ := Res.bind_ok h1
  dsimp only at h1
  split at h1
  · rename_i hz
    cases h1
    refine ⟨G, env, S, x, _, g, e1, fun i c n H1 A1 p1 s1 ex => ⟨by rw [ex, rgI_len] at hz; exact hz, fun p np => ?_⟩⟩
    have g1 := g.post p1 s1
    have r1 : RepL X.K ct H1 A1 G.M x (rgW i c n) := by rw [ex]; exact rgI_rep i c _
    exact q _ _ A1 (p1.trans (Post.grow g1.bs.nodup (same_new np))) (s1.grow g1.bs.nodup (same_new np)) (Rep.new_tup r1 np g1.inA g1.bs.inM g1.bs.nodup)
  · cases h1
theorem jf_lstR (hm : X.mg "list" = none) (h : JR ct X e it) (hc : X.calm = true := by rfl) (hg : Gl X "list" := by rfl) (na : starEach [e] X.env = (false, eval e X.env) :: starEach [] X.env := by rfl) : JF ct X (.Call (.Name "list" p) [e] [] pos) (eLR it) := by
  refine ⟨(pe_lstRn hc hg hm h.pr na).imp fun σ H Q q => ?_⟩
  obtain ⟨G, env, S, v, S', g, h1, q⟩ := q
  obtain ⟨⟨x, S1⟩, e1, h1⟩ := Res.bind_ok h1
  dsimp only at h1
  split at h1
  · rename_i hz
    cases h1
    refine ⟨G, env, S, x, _, g, e1, fun i c n H1 A1 p1 s1 ex => ⟨by rw [ex, rgI_len] at hz; exact hz, fun p np => ?_⟩⟩
    have r1 : RepL X.K ct H1 A1 G.M x (rgW i c n) := by rw [ex]; exact rgI_rep i c _
    obtain ⟨k1, k2, k3, k4, k5⟩ := fresh_lst g p1 s1 r1 np
    exact q p _ A1 k1 k2 k3 k4 k5
  · cases h1
end
end J
set_option Elab.async false
set_option linter.all false
set_option maxRecDepth 100000
set_option maxHeartbeats 3900000
/-! J: starred items of displays; d.items(), d.values() of dicts. -/
namespace J
open PySem L2 PySem.Spec PyProof.Rows
def aStar (a : FE) (r : FA) : FA := fun env S => (a env S).bind fun x => match x.1 with
  | .tup xs => (r env x.2).bind fun y => .ok (xs ++ y.1, y.2)
  | .lst xs => (r env x.2).bind fun y => .ok (xs ++ y.1, y.2)
  | _ => .err
section
variable {ct : Ct} {X : Cx} {a : Expr} {es : List Expr} {fa : FE} {fr : FA} {p : Pos}
theorem ja_star (ha : JE ct X a fa) (hr : JA ct X es fr) (hs : starEach (.Starred a p :: es) X.env = (true, eval a X.env) :: starEach es X.env := by rfl) : JA ct X (.Starred a p :: es) (aStar fa fr) := by
  refine ⟨(StX.pa_star ha.pe hr.pa hs).imp fun σ H Q h => ?_⟩
  obtain ⟨G, env, S, v, S', g, h1, q⟩ := h
  obtain ⟨⟨x, S1⟩, e1, h1⟩ := Res.bind_ok h1
  dsimp only at h1
  split at h1
  · rename_i xs
    obtain ⟨⟨y, S2⟩, e2, h1⟩ := Res.bind_ok h1
    cases h1
    refine ⟨G, env, S, _, S1, g, e1, fun z H1 A1 p1 s1 r1 => ?_⟩
    obtain ⟨ad, vs, rfl, k1, k2⟩ := r1.tup_inv
    have g1 := g.post p1 s1
    exact ⟨ad, vs, rfl, .inl k1.sqT, { G with A := A1 }, env, S1, y, _, g1, e2, fun ys H2 A2 p2 s2 r2 => q _ H2 A2 (p1.trans p2) s2 ((k2.lat (p2.lat G.M) _ _).append r2)⟩
  · rename_i xs
    obtain ⟨⟨y, S2⟩, e2, h1⟩ := Res.bind_ok h1
    cases h1
    refine ⟨G, env, S, _, S1, g, e1, fun z H1 A1 p1 s1 r1 => ?_⟩
    obtain ⟨ad, vs, rfl, k1, k2⟩ := r1.lst_inv
    have g1 := g.post p1 s1
    exact ⟨ad, vs, rfl, .inr k1.sqL, { G with A := A1 }, env, S1, y, _, g1, e2, fun ys H2 A2 p2 s2 r2 => q _ H2 A2 (p1.trans p2) s2 ((k2.lat (p2.lat G.M) _ _).append r2)⟩
  · cases h1
end
/-! ### views of a locked dict with tuple keys -/
section
variable {X : Cx} {pins : List (Addr × Obj)} {σ : L2.St} {H : Hp} {s : Shared} {d : Addr} {o : Obj}
/-- the cells of a locked dict -/
theorem frzT2 {kvs : List (List L2.Key × V)} (I : Inv X pins σ H s) (h : H d = some (.frz o (.dT kvs))) :
    (d == sysModules) = false ∧ s.heap.get? d = some o ∧ o.ExactDict ∧ ∃ (cells : Array DictEntry) (ep : Nat), o.data = .dict cells ep ∧ cells.size = kvs.length ∧
      ∀ (i : Nat) (k : List L2.Key) (v : V), kvs[i]? = some (k, v) → ∃ (cell : DictEntry) (q : Addr), cells[i]? = some cell ∧ cell.key = .ref q ∧ H q = some (.tup (k.map kV)) ∧ RelV v cell.val := by
  have ok := I.hok d _ h
  obtain ⟨here, _, own, xs, pr, ob, cells, ep, there, ex, dat, ents, _⟩ := ok
  have same : ob = o := Option.some.inj (there.symm.trans here)
  subst same
  have n1 : cells.size = xs.length := size_of_entries ents
  have n2 : kvs.length = xs.length := Paired.length pr
  refine ⟨own, here, ex, cells, ep, dat, n1.trans n2.symm, fun i k v told => ?_⟩
  obtain ⟨x, atx, _, keyAt, valAt⟩ := L2.paired_get pr told
  have en := entry_at ents i
  rw [atx] at en
  exact ⟨_, x.2.1, en, rfl, keyAt, valAt⟩
theorem frzT3 {kvs : List (List L2.Key × V)} {cells : Array DictEntry} {ep : Nat} (I : Inv X pins σ H s) (h : H d = some (.frz o (.dT kvs))) (dat : o.data = .dict cells ep) :
    s.heap.get? d = some o ∧ cells.size = kvs.length ∧ ∀ (i : Nat) (p : List L2.Key × V), kvs[i]? = some p → ∃ (cell : DictEntry) (q : Addr), cells[i]? = some cell ∧ cell.key = .ref q ∧ H q = some (.tup (p.1.map kV)) ∧ RelV p.2 cell.val := by
  obtain ⟨_, here, _, cs, e, dat2, size, told⟩ := frzT2 I h
  cases dat.symm.trans dat2
  exact ⟨here, size, fun i p => told i p.1 p.2⟩
end
def Itit (d : Addr) (o : Obj) (kvs : List (List L2.Key × V)) : It :=
  ⟨fun i H => H d = some (.frz o (.dT kvs)) ∧ i < kvs.length, fun i H x H' => ∃ (T : Addr) (k : List L2.Key) (v : V) (q : Addr), kvs[i]? = some (k, v) ∧ x = .ref T ∧ H T = none ∧ H q = some (.tup (k.map kV)) ∧ H' = upd H T (.tup [.ref q, v]), fun i H => H d = some (.frz o (.dT kvs)) ∧ kvs.length ≤ i⟩
def Itdt (d : Addr) (o : Obj) (kvs : List (List L2.Key × V)) : It :=
  ⟨fun i H => H d = some (.frz o (.dT kvs)) ∧ i < kvs.length, fun i H x H' => H' = H ∧ ∃ k, kvs[i]? = some (k, x), fun i H => H d = some (.frz o (.dT kvs)) ∧ kvs.length ≤ i⟩
theorem one1 {c it : Addr} (m : c ∈ [it]) : c = it := List.mem_singleton.mp m
section
variable {P : Program} {w : World} {K : PySem.W.Frag} {tg : Expr} {d : Addr} {o : Obj} {ep : Nat} {cells : Array DictEntry} {kvs : List (List L2.Key × V)}
theorem turn_valsT (it : Addr) (dat : o.data = .dict cells ep) : Turn P w K tg (Itdt d o kvs) [it] it (fun i h => h.get? it = some (DVw.valOb d i kvs.length ep)) where
  mem := List.mem_singleton.mpr rfl
  obj := fun i h got c m => by rw [one1 m]; exact ⟨_, got, fun v no => nomatch no⟩
  keep := fun i h h' got same => same it (List.mem_singleton.mpr rfl) _ got
  item := by
    rintro X rfl rfl rfl hc i pins s σ H E I free got ⟨inD, lt⟩
    obtain ⟨here, size, told⟩ := frzT3 I inD dat
    have atp : kvs[i]? = some kvs[i] := List.getElem?_eq_getElem lt
    obtain ⟨cell, _, atc, _, _, rel⟩ := told i _ atp
    obtain ⟨none1, loc, _, low, cel, pin⟩ := free it (List.mem_singleton.mpr rfl)
    refine DVw.val_item got here dat size atc fun h' got' but => ⟨cell.val, rfl, go_of (s := { s with heap := h' }) got' rfl rfl (by decide) ?_⟩
    exact ⟨kvs[i].2, H, I.turned (t' := s.toks) (fun c ob ne at' => (but.2 c ne).trans at') none1 loc low cel pin, rel, ⟨rfl, kvs[i].1, atp⟩, got', fun c m => (free c m).1⟩
  done := by
    rintro X rfl rfl rfl hc i pins s σ H E I free got ⟨inD, ge⟩
    obtain ⟨here, size, _⟩ := frzT3 I inD dat
    obtain ⟨none1, loc, _, low, cel, pin⟩ := free it (List.mem_singleton.mpr rfl)
    exact DVw.val_end (I.ok.hd hc) got here dat size (Array.getElem?_eq_none (by omega)) fun h' ext => ⟨rfl, I.turned (t' := s.toks) (fun c ob ne at' => ext c ob ne at') none1 loc low cel pin⟩
  self := fun A i s Q E got told => wpAny_pyIter_valiter (i := i) (n := kvs.length) (ep := ep) (d := d) ⟨_, got, rfl, rfl⟩ told
theorem turn_itemsT {elts : List Expr} {kk : Nat} {tpos : Pos} (it : Addr) (dat : o.data = .dict cells ep) :
    Turn P w K (.Tuple elts kk tpos) (Itit d o kvs) [it] it (fun i h => ∃ k v, h.get? it = some (DVw.itmOb d .none i kvs.length ep k v)) where
  mem := List.mem_singleton.mpr rfl
  obj := fun i h ⟨k, v, got⟩ c m => by rw [one1 m]; exact ⟨_, got, fun v no => nomatch no⟩
  keep := fun i h h' ⟨k, v, got⟩ same => ⟨k, v, same it (List.mem_singleton.mpr rfl) _ got⟩
  item := by
    rintro X rfl rfl rfl hc i pins s σ H E I free ⟨k0, v0, got⟩ ⟨inD, lt⟩
    obtain ⟨here, size, told⟩ := frzT3 I inD dat
    have atp : kvs[i]? = some kvs[i] := List.getElem?_eq_getElem lt
    obtain ⟨cell, q, atc, isq, keyAt, rel⟩ := told i _ atp
    have itlt : it < s.heap.objs.size := Heap.lt_size got
    refine DVw.itm_item got here dat size atc fun h' got' pair _ rest => ⟨_, rfl, ?_⟩
    refine wpAny_letOwnedTupleGo_items (s := { s with heap := h' }) (d := d) (i := i + 1) (n := kvs.length) (ep := ep) (ok := cell.key) (ov := cell.val) got' fun h2 got2 but => ?_
    have pair2 := (but.2 _ (Nat.ne_of_gt itlt)).trans pair
    have isTup : ObjOk X.prog X.w (upd H s.heap.objs.size (.tup [.ref q, kvs[i].2])) h2 s.heap.objs.size (.tup [.ref q, kvs[i].2]) :=
      ⟨show 2 ≤ sizeLine by decide, [cell.key, cell.val], .cons isq (.cons rel .nil), ⟨_, pair2, rfl, _, rfl⟩⟩
    refine ⟨.ref s.heap.objs.size, _, I.turnedNew (t' := s.toks) (ch := [it]) (fun c ob m at' => ?_) free (Nat.le_refl _) isTup, rfl, ⟨_, kvs[i].1, kvs[i].2, q, atp, rfl, I.hok.fresh (Nat.le_refl _), keyAt, rfl⟩, ⟨_, _, got2⟩, fun c m => ?_⟩
    · have ne : c ≠ it := fun e => m (List.mem_singleton.mpr e)
      exact (but.2 c ne).trans (rest c ob ne at')
    · rw [one1 m, upd_ne (Nat.ne_of_lt itlt)]
      exact (free it (List.mem_singleton.mpr rfl)).1
  done := by
    rintro X rfl rfl rfl hc i pins s σ H E I free ⟨k0, v0, got⟩ ⟨inD, ge⟩
    obtain ⟨here, size, _⟩ := frzT3 I inD dat
    obtain ⟨none1, loc, _, low, cel, pin⟩ := free it (List.mem_singleton.mpr rfl)
    exact DVw.itm_end (I.ok.hd hc) got here dat size (Array.getElem?_eq_none (by omega)) fun h' ext => ⟨rfl, I.turned (t' := s.toks) (fun c ob ne at' => ext c ob ne at') none1 loc low cel pin⟩
  self := fun A i s Q E ⟨_, _, got⟩ told => PySem.W.kcp_self got told
end
section
variable {X : Cx} {e tg : Expr} {td : TE} {apos cpos : Pos}
/-- d.values(): a new view -/
theorem meetsVals {prog : Program} {w : World} {d : Addr} {es : Array DictEntry} {ep : Nat} (own : (d == sysModules) = false) :
    MeetsIn prog w (Builtin.«dict.values» ⟨[.ref d], []⟩) (fun _ R s => DT.Raw s.heap d es ep ∧
      R (.ok (.ret (.ref s.heap.objs.size))) { s with heap := s.heap.push { cls := .type "dict_values", data := .fields #[.ref d] } }) := by
  refine .of_wp fun A R s ⟨raw, told⟩ => ?_
  have shows : Builtin.Dict.showsAll d = pure () := by
    unfold Builtin.Dict.showsAll
    rw [own]
    rfl
  show wpAny _ _ (Builtin.Dict.noArgs "values" ⟨[.ref d], []⟩ >>= _) _ _ s
  refine wpAny_bind ?_
  unfold Builtin.Dict.noArgs
  refine wpAny_bind (wpAny_notOrdered_dict raw.typeIs (wpAny_pure ?_))
  show wpAny _ _ (Builtin.Dict.showsAll d >>= fun _ => _) _ _ s
  rw [shows]
  exact wpAny_bind (wpAny_pure (wpAny_bind (wpAny_newObj_type (wpAny_pure ⟨_, rfl, told⟩))))
/-- the new view, and what is gone through -/
theorem view_pi {pins : List (Addr × Obj)} {s : Shared} {σ : L2.St} {H : Hp} {d : Addr} {o : Obj} {kvs : List (List L2.Key × V)} (I : Inv X pins σ H s) (inD : H d = some (.frz o (.dT kvs))) :
    ∃ cells ep, o.data = .dict cells ep ∧ cells.size = kvs.length ∧ DT.Raw s.heap d cells ep ∧ s.heap.get? d = some o ∧ (d == sysModules) = false ∧ ∀ a, Value.ref d = .ref a → ∃ ob, s.heap.get? a = some ob ∧ ob.dict = none := by
  obtain ⟨own, here, ex, cells, ep, dat, size, _⟩ := frzT2 I inD
  exact ⟨cells, ep, dat, size, ⟨o, here, ex, dat⟩, here, own, fun a e => ⟨o, by cases e; exact here, ex.2.1⟩⟩
theorem pi_itemsT {elts : List Expr} {kk : Nat} {tpos : Pos} (he : PE X e td) (hbase : attributeBase e "items" X.env (eval e X.env) = eval e X.env := by rfl) (hline : (apos.endLine == cpos.line) = true := by rfl) :
    PI X (.Tuple elts kk tpos) (.Call (.Attribute e "items" apos) [] [] cpos) (fun σ H R => td σ H fun x H1 => ∃ d o kvs, x = .ref d ∧ H1 d = some (.frz o (.dT kvs)) ∧ R (Itit d o kvs) H1) := by
  refine ⟨fun pins s σ H R I told => wpAny_Call_method (T := "dict") (id := "dict.items") hbase rfl hline F.plainAttrs_dict F.slot_dict_items F.type_dict_items (thn (he.run pins s σ H _ I told) ?_)⟩
  rintro u s1 ⟨_, H1, I1, rel, d, o, kvs, rfl, inD, q⟩
  cases (show u = Value.ref d from rel)
  obtain ⟨cells, ep, dat, size, raw, here, own, plain⟩ := view_pi I1 inD
  refine ⟨raw.typeIs, plain, method_meetsIn F.slot_dict_items F.entry_dict_items rfl (PySem.evalArgs_none ⟨rfl, raw.typeIs, F.args_dict_items_1 _, _, DT.meetsItems (es := cells) (ep := ep) own, raw, ?_⟩)⟩
  refine DSub.iter_itms (a := d) (ob := o) (es := cells) (ep := ep) (Heap.get?_push_size _ rfl) (Heap.get?_push_of_some _ here) dat (pi_one (tk := s1.toks) (I1.kept (t' := s1.toks) fun b ob got => Heap.get?_push_of_some _ got) _ (turn_itemsT _ dat) ⟨.none, .none, by rw [← size]; exact Heap.get?_push_size _ rfl⟩ q)
theorem pi_valsT (he : PE X e td) (hbase : attributeBase e "values" X.env (eval e X.env) = eval e X.env := by rfl) (hline : (apos.endLine == cpos.line) = true := by rfl) :
    PI X tg (.Call (.Attribute e "values" apos) [] [] cpos) (fun σ H R => td σ H fun x H1 => ∃ d o kvs, x = .ref d ∧ H1 d = some (.frz o (.dT kvs)) ∧ R (Itdt d o kvs) H1) := by
  refine ⟨fun pins s σ H R I told => wpAny_Call_method (T := "dict") (id := "dict.values") hbase rfl hline F.plainAttrs_dict F.slot_dict_values F.type_dict_values (thn (he.run pins s σ H _ I told) ?_)⟩
  rintro u s1 ⟨_, H1, I1, rel, d, o, kvs, rfl, inD, q⟩
  cases (show u = Value.ref d from rel)
  obtain ⟨cells, ep, dat, size, raw, here, own, plain⟩ := view_pi I1 inD
  refine ⟨raw.typeIs, plain, method_meetsIn F.slot_dict_values F.entry_dict_values rfl (PySem.evalArgs_none ⟨rfl, raw.typeIs, F.args_dict_values_1 _, _, meetsVals (es := cells) (ep := ep) own, raw, ?_⟩)⟩
  refine DSub.iter_vals (a := d) (ob := o) (es := cells) (ep := ep) (Heap.get?_push_size _ rfl) (Heap.get?_push_of_some _ here) dat (pi_one (tk := s1.toks) (I1.kept (t' := s1.toks) fun b ob got => Heap.get?_push_of_some _ got) _ (turn_valsT _ dat) (by rw [← size]; exact Heap.get?_push_size _ rfl) q)
end
/-! ### the rules -/
def iItm (f : FE) : FA := fun env S => (f env S).bind fun x => match x.1 with
  | .dic true ks vs => .ok (zipP ks vs, x.2)
  | _ => .err
def iVal (f : FE) : FA := fun env S => (f env S).bind fun x => match x.1 with
  | .dic true _ vs => .ok (vs, x.2)
  | _ => .err
theorem zipP_ln : ∀ (xs ys : List PV), xs.length = ys.length → (zipP xs ys).length = xs.length
  | [], [], _ => by simp [zipP]
  | x :: r, y :: s, h => by rw [zipP, List.length_cons, zipP_ln r s (by simpa using h), List.length_cons]
theorem zipP_at : ∀ (xs ys : List PV) (i : Nat) (x y : PV), xs[i]? = some x → ys[i]? = some y → (zipP xs ys)[i]? = some (.tup [x, y])
  | a :: r, b :: s, 0, x, y, h, h' => by
    rw [zipP]
    simp only [List.getElem?_cons_zero, Option.some.injEq] at h h' ⊢
    rw [h, h']
  | a :: r, b :: s, i + 1, x, y, h, h' => by
    rw [zipP]
    simp only [List.getElem?_cons_succ] at h h' ⊢
    exact zipP_at r s i x y h h'
section
variable {ct : Ct} {X : Cx} {tg e : Expr} {f : FE} {apos cpos : Pos}
theorem it_itemsT {K : PySem.W.Frag} {A M : List Addr} {H : Hp} {d : Addr} {o : Obj} {ws : List (List L2.Key × V)} {vs : List PV} (h : H d = some (.frz o (.dT ws))) (nA : d ∉ A) (nM : d ∉ M) (r : RepL K ct H A M vs (ws.map (·.2))) : ItOk K ct (Itit d o ws) A M H (zipP (ws.map fun w => .tup (w.1.map keyV)) vs) := fun A' M' H' l hx => by
  obtain ⟨h', _, _⟩ := l.vis d _ h nA nM
  have r' := r.lat l vs _
  have hl : vs.length = ws.length := by have := r.length; rw [List.length_map] at this; exact this.symm
  rw [zipP_ln _ _ (by rw [List.length_map]; exact hl.symm), List.length_map]
  refine ⟨fun i hi => ⟨h', hi⟩, ⟨h', Nat.le_refl _⟩, fun i x H'' hi y => ?_⟩
  obtain ⟨T, k, v, q, e1, e2, e3, e4, e5⟩ := y
  subst e2
  obtain ⟨p, h1, h2⟩ := r'.getV (i := i) (v := v) (by rw [List.getElem?_map, e1]; rfl)
  have rk : Rep K ct H' A' M' (.tup (k.map keyV)) (.ref q) := by
    simp only [Rep]
    exact ⟨q, _, rfl, ⟨e4, fun z => hx.noA q z _ e4, fun z => hx.noM q z _ e4⟩, RepL.of_keys k⟩
  obtain ⟨k1, k2⟩ := pair_rep (ct := ct) hx e3 rk h2 e5
  exact ⟨k1, _, zipP_at _ _ i _ _ (by rw [List.getElem?_map, e1]; rfl) h1, k2⟩
theorem it_valsT {K : PySem.W.Frag} {A M : List Addr} {H : Hp} {d : Addr} {o : Obj} {ws : List (List L2.Key × V)} {vs : List PV} (h : H d = some (.frz o (.dT ws))) (nA : d ∉ A) (nM : d ∉ M) (r : RepL K ct H A M vs (ws.map (·.2))) : ItOk K ct (Itdt d o ws) A M H vs := fun A' M' H' l hx => by
  obtain ⟨h', _, _⟩ := l.vis d _ h nA nM
  have r' := r.lat l vs _
  have hl : vs.length = ws.length := by have := r.length; rw [List.length_map] at this; exact this.symm
  rw [hl]
  refine ⟨fun i hi => ⟨h', hi⟩, ⟨h', Nat.le_refl _⟩, fun i x H'' hi y => ?_⟩
  obtain ⟨e0, k, e1⟩ := y
  subst e0
  obtain ⟨p, h1, h2⟩ := r'.getV (i := i) (v := x) (by rw [List.getElem?_map, e1]; rfl)
  exact ⟨Same.refl _, p, h1, h2⟩
theorem ji_items {elts : List Expr} {kk : Nat} {tpos : Pos} (h : JE ct X e f) (hbase : attributeBase e "items" X.env (eval e X.env) = eval e X.env := by rfl) (hline : (apos.endLine == cpos.line) = true := by rfl) : JI ct X (.Tuple elts kk tpos) (.Call (.Attribute e "items" apos) [] [] cpos) (iItm f) := by
  refine ⟨(pi_itemsT h.pe hbase hline).imp fun σ H R q => ?_⟩
  obtain ⟨G, env, S, v, S', g, h1, q⟩ := q
  obtain ⟨⟨x, S1⟩, e1, h1⟩ := Res.bind_ok h1
  dsimp only at h1
  split at h1
  · cases h1
    refine ⟨G, env, S, _, _, g, e1, fun y H1 A1 p1 s1 r1 => ?_⟩
    simp only [Rep] at r1
    obtain ⟨a, rfl, r1⟩ := r1
    rcases r1 with ⟨ht, _⟩ | ⟨ht, ws, ⟨⟨o, h8⟩, h2, h3⟩, rfl, h5⟩
    · cases ht
    · exact ⟨a, o, ws, rfl, h8, q _ H1 A1 p1 s1 (it_itemsT h8 h2 h3 h5)⟩
  · cases h1
theorem ji_vals (h : JE ct X e f) (hbase : attributeBase e "values" X.env (eval e X.env) = eval e X.env := by rfl) (hline : (apos.endLine == cpos.line) = true := by rfl) : JI ct X tg (.Call (.Attribute e "values" apos) [] [] cpos) (iVal f) := by
  refine ⟨(pi_valsT h.pe hbase hline).imp fun σ H R q => ?_⟩
  obtain ⟨G, env, S, v, S', g, h1, q⟩ := q
  obtain ⟨⟨x, S1⟩, e1, h1⟩ := Res.bind_ok h1
  dsimp only at h1
  split at h1
  · cases h1
    refine ⟨G, env, S, _, _, g, e1, fun y H1 A1 p1 s1 r1 => ?_⟩
    simp only [Rep] at r1
    obtain ⟨a, rfl, r1⟩ := r1
    rcases r1 with ⟨ht, _⟩ | ⟨ht, ws, ⟨⟨o, h8⟩, h2, h3⟩, rfl, h5⟩
    · cases ht
    · exact ⟨a, o, ws, rfl, h8, q _ H1 A1 p1 s1 (it_valsT h8 h2 h3 h5)⟩
  · cases h1
end
end J
set_option Elab.async false
set_option linter.all false
set_option maxRecDepth 100000
set_option maxHeartbeats 3900000
/-! J: list comprehensions with two generators. -/
namespace J
open PySem L2
structure GW (g : GN) (ws : List Nat) : Prop where
  off : ∀ v env en, g v env = some en → ∀ j, j ∉ ws → en[j]? = env[j]?
  on : ∀ v env en, g v env = some en → ∀ j, j ∈ ws → ∀ w, en[j]? ≠ some (Slot.own w)
structure GWs (g : GNs) (ws : List Nat) : Prop where
  off : ∀ v env en, g v env = some en → ∀ j, j ∉ ws → en[j]? = env[j]?
  on : ∀ v env en, g v env = some en → ∀ j, j ∈ ws → ∀ w, en[j]? ≠ some (Slot.own w)
theorem gw_n (i : Nat) : GW (gN i) [i] := by
  refine ⟨fun v env en e j hj => ?_, fun v env en e j hj w => ?_⟩
  · cases e
    exact List.getElem?_set_ne fun z => hj (by simp [z])
  · cases e
    have : j = i := by simpa using hj
    subst this
    rw [List.getElem?_set]
    simp only [if_true]
    split
    · simp
    · simp
theorem gws_nil : GWs gNn [] := by
  refine ⟨fun v env en e j hj => ?_, fun v env en e j hj => ?_⟩
  · unfold gNn at e
    split at e
    · cases e; rfl
    · cases e
  · cases hj
theorem gws_cons {g : GN} {gs : GNs} {ws us : List Nat} (h : GW g ws) (h' : GWs gs us) : GWs (gNc g gs) (ws ++ us) := by
  refine ⟨fun v env en e j hj => ?_, fun v env en e j hj w => ?_⟩
  · unfold gNc at e
    split at e
    · obtain ⟨e1, k1, k2⟩ := Option.bind_eq_some_iff.mp e
      rw [h'.off _ _ _ k2 j (fun z => hj (List.mem_append_right _ z)), h.off _ _ _ k1 j (fun z => hj (List.mem_append_left _ z))]
    · cases e
  · unfold gNc at e
    split at e
    · obtain ⟨e1, k1, k2⟩ := Option.bind_eq_some_iff.mp e
      by_cases hu : j ∈ us
      · exact h'.on _ _ _ k2 j hu w
      · rw [h'.off _ _ _ k2 j hu]
        exact h.on _ _ _ k1 j ((List.mem_append.mp hj).resolve_right hu) w
    · cases e
theorem gw_t {n : Nat} {gs : GNs} {us : List Nat} (h : GWs gs us) : GW (gT n gs) us := by
  refine ⟨fun v env en e j hj => ?_, fun v env en e j hj w => ?_⟩
  · unfold gT at e
    split at e
    · split at e
      · exact h.off _ _ _ e j hj
      · cases e
    · split at e
      · exact h.off _ _ _ e j hj
      · cases e
    · cases e
  · unfold gT at e
    split at e
    · split at e
      · exact h.on _ _ _ e j hj w
      · cases e
    · split at e
      · exact h.on _ _ _ e j hj w
      · cases e
    · cases e
/-- the list that a comprehension fills grows -/
theorem Good.updD {K : PySem.W.Frag} {ct : Ct} {G : Gh} {σ : L2.St} {H : Hp} {env : Env} {S : Sto} {D : Addr} {l : List V} (g : Good K ct G σ H env S) (hm : D ∈ G.M) (h0 : G.H0 D = none) (hown : ∀ (j : Nat) (w : PV), env[j]? = some (Slot.own w) → σ[j]? ≠ some (some (V.ref D))) :
    Good K ct G σ (upd H D (.lst l)) env S := by
  have lu : Lat G.A G.M H G.A G.M (upd H D (.lst l)) := lat_upd (.inr hm)
  have nDA : D ∉ G.A := g.bs.disj D hm
  refine ⟨⟨⟨g.bs.sto.len, fun n a us k1 k2 => ?_⟩, g.bs.nodup, fun a ha => ?_, g.bs.disj, fun a ha vs ev => ?_⟩, fun j sl hs => ?_, g.uniq, fun a o k1 k2 => ?_, g.pre0, g.new0, g.sub0, g.in0, g.len⟩
  · obtain ⟨ws', k3, k4⟩ := g.bs.sto.at' n a us k1 k2
    exact ⟨ws', by rw [upd_ne (fun zz => nDA (by rw [← zz]; exact List.mem_of_getElem? k1))]; exact k3, k4.lat lu us ws'⟩
  · by_cases hap : a = D
    · subst hap; rw [upd_same]; simp
    · rw [upd_ne hap]; exact g.bs.inM a ha
  · by_cases hap : a = D
    · subst hap; rw [upd_same] at ev; cases ev
    · rw [upd_ne hap] at ev; exact g.bs.noT a ha vs ev
  · have qs := g.slot j sl hs
    cases sl with
    | un => trivial
    | val w => obtain ⟨u, k1, k2⟩ := qs; exact ⟨u, k1, k2.lat lu w u⟩
    | own w =>
      obtain ⟨p', k1, k2, k3, k4⟩ := qs
      have hne : p' ≠ D := fun zz => by
        subst zz
        exact hown j w hs k1
      exact ⟨p', k1, k2, k3, k4.lat lu (by rw [upd_ne hne])⟩
  · have hne : a ≠ D := fun zz => by
      subst zz
      rw [h0] at k1; cases k1
    rw [upd_ne hne]; exact g.ext0 a o k1 k2
theorem wipeE_own : ∀ (vs : List Nat) (env : Env) (j : Nat) (w : PV), (wipeE env vs)[j]? = some (.own w) → j ∉ vs ∧ env[j]? = some (.own w)
  | [], env, j, w, h => ⟨by simp, h⟩
  | v :: vs, env, j, w, h => by
    unfold wipeE at h
    rw [List.getElem?_set] at h
    by_cases e : v = j
    · rw [if_pos e] at h
      split at h
      · simp at h
      · cases h
    · rw [if_neg e] at h
      obtain ⟨h1, h2⟩ := wipeE_own vs env j w h
      exact ⟨by simp only [List.mem_cons, not_or]; exact ⟨fun z => e z.symm, h1⟩, h2⟩
theorem wipe_off : ∀ (vs : List Nat) (σ : L2.St) (j : Nat), j ∉ vs → (wipe σ vs)[j]? = σ[j]?
  | [], σ, j, _ => rfl
  | v :: vs, σ, j, h => by
    unfold wipe
    rw [List.getElem?_set_ne (fun z => h (by simp [z])), wipe_off vs σ j (fun z => h (by simp [z]))]
def lc2L (g : GN) (t : FT) (it1 : FA) (vs1 : List Nat) (g1 : GN) (t1 : FT) (e : FE) : List PV → Env → Sto → Res (List PV × Sto)
  | [], _, S => .ok ([], S)
  | x :: r, env, S => (ofO (g x env)).bind fun en => (t en S).bind fun b => if b.1 then (it1 en b.2).bind fun xs => (lcL g1 t1 e xs.1 (wipeE en vs1) xs.2).bind fun ys => (lc2L g t it1 vs1 g1 t1 e r env ys.2).bind fun z => .ok (ys.1 ++ z.1, z.2) else lc2L g t it1 vs1 g1 t1 e r env b.2
def eLc2 (vs vs1 : List Nat) (it : FA) (g : GN) (t : FT) (it1 : FA) (g1 : GN) (t1 : FT) (e : FE) : FE := fun env S => (it env S).bind fun xs => (lc2L g t it1 vs1 g1 t1 e xs.1 (wipeE env vs) xs.2).bind fun ys => if ys.1.length ≤ 1000000 then .ok (.lst ys.1, ys.2) else .err
theorem rdF_lc2 {K : PySem.W.Frag} {ct : Ct} {vs ws vs1 ws1 : List Nat} {it it1 : FA} {g g1 : GN} {t t1 : FT} {e : FE} (gw : GW g ws) (hw : ∀ j ∈ ws, j ∈ vs) (hw1 : ∀ j ∈ ws1, j ∈ vs1) {σ : L2.St} {H : Hp} {Q : VK} (h : rdF K ct (eLc2 vs vs1 it g t it1 g1 t1 e) σ H Q) :
    tLc2 (rdI K ct it) (rdN K ct ws g) (rdT K ct t) (rdI K ct it1) (rdN K ct ws1 g1) (rdT K ct t1) (rd K ct e) vs vs1 σ H Q := by
  obtain ⟨G, env, S, v, Sz, gd, h1, q⟩ := h
  obtain ⟨⟨xs, S1⟩, e1, h1⟩ := Res.bind_ok h1
  obtain ⟨⟨ys, S2⟩, e2, h1⟩ := Res.bind_ok h1
  dsimp only at h1 e2
  split at h1
  · rename_i hsz
    cases h1
    refine ⟨G, env, S, xs, S1, gd, e1, fun J H1 A1 p1 s1 io D nD => ?_⟩
    have g1' := gd.post p1 s1
    have smD : Same H1 (upd H1 D (.lst [])) := same_new nD
    have nDH : H D = none := by
      cases eD : H D with
      | none => rfl
      | some o =>
        by_cases ha : D ∈ G.A
        · exact absurd nD (g1'.inA D (p1.pre.subset ha))
        · rw [p1.ext D o eD ha] at nD; cases nD
    have h0D : G.H0 D = none := gd.fresh0 nDH
    have ownO : ∀ (j : Nat) (w : PV), (wipeE env vs)[j]? = some (Slot.own w) → (wipe σ vs)[j]? ≠ some (some (V.ref D)) := fun j w k1 k2 => by
      obtain ⟨p'', k5, k6, k7, k8⟩ := ((gd.wipe vs).slot j _ k1)
      rw [k5] at k2
      cases k2
      exact gd.bs.inM D k6 nDH
    refine ⟨fun i m Hc => m = xs.length - i ∧ i ≤ xs.length ∧ ∃ A' S' acc accV zs, Good K ct { G with A := A', M := D :: G.M } (wipe σ vs) Hc (wipeE env vs) S' ∧ Lat A1 G.M H1 A' (D :: G.M) Hc ∧ Post G.A H A' Hc ∧ Hc D = some (.lst accV) ∧
      RepL K ct Hc A' (D :: G.M) acc accV ∧ lc2L g t it1 vs1 g1 t1 e (xs.drop i) (wipeE env vs) S' = .ok (zs, Sz) ∧ ys = acc ++ zs, ⟨xs.length, by simp, Nat.zero_le _, A1, S1, [], [], ys, (g1'.hide nD smD (by rw [upd_same]; simp) (by rw [upd_same]; simp)).wipe vs, lat_hide nD smD, p1.trans (Post.grow g1'.bs.nodup smD), upd_same, .nil, by simpa using e2, rfl⟩, ?_⟩
    rintro i m Hc ⟨rfl, hi, Ac, Sc, acc, accV, zs, gc, lc, pc, hD, rD, ec, ey⟩
    obtain ⟨go, stop, yl⟩ := io Ac (D :: G.M) Hc lc gc.hx
    by_cases hlt : i < xs.length
    · refine .inr ⟨go i hlt, fun Hn => i + 1 ≤ xs.length ∧ ∃ A' S' acc accV zs, Good K ct { G with A := A', M := D :: G.M } (wipe σ vs) Hn (wipeE env vs) S' ∧ Lat A1 G.M H1 A' (D :: G.M) Hn ∧ Post G.A H A' Hn ∧ Hn D = some (.lst accV) ∧
        RepL K ct Hn A' (D :: G.M) acc accV ∧ lc2L g t it1 vs1 g1 t1 e (xs.drop (i + 1)) (wipeE env vs) S' = .ok (zs, Sz) ∧ ys = acc ++ zs, fun Hn qn => ⟨xs.length - (i + 1), by omega, rfl, qn⟩, fun x H3 hy => ?_⟩
      obtain ⟨sm, v, hv, rv⟩ := yl i x H3 hlt hy
      rw [drop_cons hv] at ec
      obtain ⟨en, e3, ec⟩ := Res.bind_ok ec
      obtain ⟨⟨b, S4⟩, e4, ec⟩ := Res.bind_ok ec
      have g3 := gc.grow sm
      have pp3 : Post Ac Hc Ac H3 := Post.grow gc.bs.nodup sm
      refine ⟨_, _, Sc, v, en, g3, rv, ofO_ok e3, fun σ4 k1 k2 g4 => ⟨wipe_same k1 k2 hw, _, en, Sc, b, S4, g4, e4, fun H5 A5 p5 s5 => ?_⟩⟩
      have l5 : Lat A1 G.M H1 A5 (D :: G.M) H5 := lc.trans ((pp3.trans p5).lat _)
      have q5 : Post G.A H A5 H5 := pc.trans (pp3.trans p5)
      have nDA : D ∉ Ac := gc.bs.disj D List.mem_cons_self
      have hD5 : H5 D = some (.lst accV) := p5.ext D _ (sm D _ hD) nDA
      have r5 := rD.lat ((pp3.trans p5).lat (D :: G.M)) acc accV
      have g5w : Good K ct { G with A := A5, M := D :: G.M } (wipe σ vs) H5 (wipeE env vs) S4 := g3.post p5 s5
      cases b with
      | true =>
        dsimp only at ec ⊢
        rw [if_pos rfl] at ec ⊢
        obtain ⟨⟨xs1, S6⟩, e6, ec⟩ := Res.bind_ok ec
        obtain ⟨⟨ys1, S9⟩, e9, ec⟩ := Res.bind_ok ec
        obtain ⟨⟨z, S10⟩, e10, ec⟩ := Res.bind_ok ec
        cases ec
        refine ⟨_, en, S4, xs1, S6, g4.post p5 s5, e6, fun J1 H7 A7 p7 s7 io1 => ?_⟩
        have g7w := g5w.post p7 s7
        have g7i := ((g4.post p5 s5).post p7 s7).wipe vs1
        have nDA5 : D ∉ A5 := g5w.bs.disj D List.mem_cons_self
        have hD7 : H7 D = some (.lst accV) := p7.ext D _ hD5 nDA5
        have r7 := r5.lat (p7.lat (D :: G.M)) acc accV
        have ownI : ∀ (j : Nat) (w : PV), (wipeE en vs1)[j]? = some (Slot.own w) → (wipe σ4 vs1)[j]? ≠ some (some (V.ref D)) := fun j w m1 m2 => by
          obtain ⟨n1, n2⟩ := wipeE_own vs1 en j w m1
          rw [wipe_off vs1 σ4 j n1] at m2
          have n3 : j ∉ ws := fun z => gw.on _ _ _ (ofO_ok e3) j z w n2
          rw [gw.off _ _ _ (ofO_ok e3) j n3] at n2
          rw [k1 j n3] at m2
          exact ownO j w n2 m2
        refine ⟨fun j k Hi => k = xs1.length - j ∧ j ≤ xs1.length ∧ ∃ A' S' acc' accV' zs', Good K ct { G with A := A', M := D :: G.M } (wipe σ vs) Hi (wipeE env vs) S' ∧ Good K ct { G with A := A', M := D :: G.M } (wipe σ4 vs1) Hi (wipeE en vs1) S' ∧ Lat A1 G.M H1 A' (D :: G.M) Hi ∧ Lat A7 (D :: G.M) H7 A' (D :: G.M) Hi ∧ Post G.A H A' Hi ∧ Hi D = some (.lst accV') ∧
          RepL K ct Hi A' (D :: G.M) acc' accV' ∧ lcL g1 t1 e (xs1.drop j) (wipeE en vs1) S' = .ok (zs', S9) ∧ ys = acc' ++ (zs' ++ z), ⟨xs1.length, by simp, Nat.zero_le _, A7, S6, acc, accV, ys1, g7w, g7i, l5.trans (p7.lat _), Lat.refl _ _ _, q5.trans p7, hD7, r7, by simpa using e9, ey⟩, ?_⟩
        rintro j k Hi ⟨rfl, hj, Ai, Si, acc', accV', zs', go1, gi1, lo1, li1, po1, hDi, rDi, eci, eyi⟩
        obtain ⟨go1', stop1, yl1⟩ := io1 Ai (D :: G.M) Hi li1 gi1.hx
        by_cases hlj : j < xs1.length
        · refine .inr ⟨go1' j hlj, fun Hn => j + 1 ≤ xs1.length ∧ ∃ A' S' acc' accV' zs', Good K ct { G with A := A', M := D :: G.M } (wipe σ vs) Hn (wipeE env vs) S' ∧ Good K ct { G with A := A', M := D :: G.M } (wipe σ4 vs1) Hn (wipeE en vs1) S' ∧ Lat A1 G.M H1 A' (D :: G.M) Hn ∧ Lat A7 (D :: G.M) H7 A' (D :: G.M) Hn ∧ Post G.A H A' Hn ∧ Hn D = some (.lst accV') ∧
            RepL K ct Hn A' (D :: G.M) acc' accV' ∧ lcL g1 t1 e (xs1.drop (j + 1)) (wipeE en vs1) S' = .ok (zs', S9) ∧ ys = acc' ++ (zs' ++ z), fun Hn qn => ⟨xs1.length - (j + 1), by omega, rfl, qn⟩, fun x1 H8 hy1 => ?_⟩
          obtain ⟨sm1, v1, hv1, rv1⟩ := yl1 j x1 H8 hlj hy1
          rw [drop_cons hv1] at eci
          obtain ⟨en1, f3, eci⟩ := Res.bind_ok eci
          obtain ⟨⟨b1, T4⟩, f4, eci⟩ := Res.bind_ok eci
          have go8 := go1.grow sm1
          have gi8 := gi1.grow sm1
          have pp8 : Post Ai Hi Ai H8 := Post.grow gi1.bs.nodup sm1
          refine ⟨_, _, Si, v1, en1, gi8, rv1, ofO_ok f3, fun σ5 m1 m2 g9 => ⟨wipe_same m1 m2 hw1, _, en1, Si, b1, T4, g9, f4, fun H10 A10 p10 s10 => ?_⟩⟩
          have pq : Post Ai Hi A10 H10 := pp8.trans p10
          have nDAi : D ∉ Ai := gi1.bs.disj D List.mem_cons_self
          have hD10 : H10 D = some (.lst accV') := p10.ext D _ (sm1 D _ hDi) nDAi
          have r10 := rDi.lat (pq.lat (D :: G.M)) acc' accV'
          have go10 := go8.post p10 s10
          have gi10 := gi8.post p10 s10
          cases b1 with
          | true =>
            dsimp only at eci ⊢
            rw [if_pos rfl] at eci ⊢
            obtain ⟨⟨y, T6⟩, f6, eci⟩ := Res.bind_ok eci
            obtain ⟨⟨zz, T7⟩, f7, eci⟩ := Res.bind_ok eci
            cases eci
            refine ⟨_, en1, T4, y, T6, g9.post p10 s10, f6, fun yv H11 A11 p11 s11 r11 => ?_⟩
            have go11 := go10.post p11 s11
            have gi11 := gi10.post p11 s11
            have nDA10 : D ∉ A10 := go10.bs.disj D List.mem_cons_self
            have hD11 : H11 D = some (.lst accV') := p11.ext D _ hD10 nDA10
            have r12 := r10.lat (p11.lat (D :: G.M)) acc' accV'
            have hm : D ∈ D :: G.M := List.mem_cons_self
            have lu : Lat A11 (D :: G.M) H11 A11 (D :: G.M) (upd H11 D (.lst (accV' ++ [yv]))) := lat_upd (.inr hm)
            refine ⟨accV', hD11, ?_, hlj, A11, T6, acc' ++ [y], accV' ++ [yv], zz, go11.updD hm h0D ownO, gi11.updD hm h0D ownI, ((lo1.trans (pq.lat _)).trans (p11.lat _)).trans lu, ((li1.trans (pq.lat _)).trans (p11.lat _)).trans lu, ?_, upd_same, (r12.append (.cons r11 .nil)).lat lu _ _, f7, by rw [eyi]; simp⟩
            · have l3 := congrArg List.length eyi
              rw [rDi.length]
              simp only [List.length_append, List.length_cons] at l3
              exact Nat.lt_of_lt_of_le (show acc'.length < 1000001 by omega) (by decide)
            · have q8 : Post G.A H A11 H11 := (po1.trans pq).trans p11
              exact ⟨q8.pre, fun a o z1 z2 => by
                rw [upd_ne (fun w => by subst w; rw [nDH] at z1; cases z1)]; exact q8.ext a o z1 z2, q8.new, q8.nodup⟩
          | false =>
            dsimp only at eci ⊢
            rw [if_neg Bool.false_ne_true] at eci ⊢
            exact ⟨hlj, A10, T4, acc', accV', zs', go10, gi10, lo1.trans (pq.lat _), li1.trans (pq.lat _), po1.trans pq, hD10, r10, eci, eyi⟩
        · have hn : j = xs1.length := by omega
          subst hn
          rw [List.drop_length] at eci
          cases eci
          refine .inl ⟨stop1, hlt, Ai, _, acc', accV', z, go1, lo1, po1, hDi, rDi, e10, by simpa using eyi⟩
      | false =>
        dsimp only at ec ⊢
        rw [if_neg Bool.false_ne_true] at ec ⊢
        exact ⟨hlt, A5, S4, acc, accV, zs, g5w, l5, q5, hD5, r5, ec, ey⟩
    · have hn : i = xs.length := by omega
      subst hn
      rw [List.drop_length] at ec
      cases ec
      rw [List.append_nil] at ey
      subst ey
      refine .inl ⟨stop, q D Hc Ac pc nDH (gc.bs.disj D List.mem_cons_self) gc.bs.sto ⟨accV, hD, rD⟩⟩
  · cases h1
section
variable {ct : Ct} {X : Cx} {tg iter tg1 iter1 elt : Expr} {ifs ifs1 : List Expr} {it it1 : FA} {g g1 : GN} {ws ws1 : List Nat} {t t1 : FT} {fe : FE} {pos : Pos} {scope : Scope}
theorem jf_lc2 (own : List (Str × Nat)) (vs1 : List Nat) (hN : X.N.Nodup) (hi : JI ct X tg iter it) (ok : BlkOk X.N X.env.scope scope own)
    (hg : ∀ (s : Shared) (H : Hp) (C : Addr) (cl : List (Str × Addr)) (fp : List Addr), JN ct (X.blk s H scope (compEnvC scope cl C X.env) fp) tg ws g) (gw : GW g ws)
    (ht : ∀ (s : Shared) (H : Hp) (C : Addr) (cl : List (Str × Addr)) (fp : List Addr), JTs ct (X.blk s H scope (compEnvC scope cl C X.env) fp) ifs t)
    (hi1 : ∀ (s : Shared) (H : Hp) (C : Addr) (cl : List (Str × Addr)) (fp : List Addr), JI ct (X.blk s H scope (compEnvC scope cl C X.env) fp) tg1 iter1 it1)
    (hg1 : ∀ (s : Shared) (H : Hp) (C : Addr) (cl : List (Str × Addr)) (fp : List Addr), JN ct (X.blk s H scope (compEnvC scope cl C X.env) fp) tg1 ws1 g1)
    (ht1 : ∀ (s : Shared) (H : Hp) (C : Addr) (cl : List (Str × Addr)) (fp : List Addr), JTs ct (X.blk s H scope (compEnvC scope cl C X.env) fp) ifs1 t1)
    (he : ∀ (s : Shared) (H : Hp) (C : Addr) (cl : List (Str × Addr)) (fp : List Addr), JE ct (X.blk s H scope (compEnvC scope cl C X.env) fp) elt fe) (hc : X.calm = true := by rfl) (hw : ∀ j ∈ ws, j ∈ own.map (·.2) := by decide) (hw1 : ∀ j ∈ ws1, j ∈ vs1 := by decide) (hv : ∀ i ∈ vs1, i ∈ own.map (·.2) := by decide)
    (hs : ∀ x, foldedSetIterable iter X.env x = pure x := by intro _; rfl) (hs1 : ∀ env x, foldedSetIterable iter1 env x = pure x := by intro _ _; rfl) :
    JF ct X (.ListComp elt [⟨tg, iter, ifs, 0⟩, ⟨tg1, iter1, ifs1, 0⟩] scope pos) (eLc2 (own.map (·.2)) vs1 it g t it1 g1 t1 fe) :=
  ⟨(pe_lc2 hc hN hi.pi ok hv (fun s H C cl fp => (hg s H C cl fp).pg) (fun s H C cl fp => (ht s H C cl fp).pts) (fun s H C cl fp => (hi1 s H C cl fp).pi) (fun s H C cl fp => (hg1 s H C cl fp).pg) (fun s H C cl fp => (ht1 s H C cl fp).pts) (fun s H C cl fp => (he s H C cl fp).pe) hs hs1).imp fun _ _ _ h => rdF_lc2 gw hw hw1 h⟩
theorem js_ownLc2 (i : Nat) (own : List (Str × Nat)) (vs1 : List Nat) {y : Str} {py spos : Pos} (hN : X.N.Nodup) (hi : JI ct X tg iter it) (ok : BlkOk X.N X.env.scope scope own)
    (hg : ∀ (s : Shared) (H : Hp) (C : Addr) (cl : List (Str × Addr)) (fp : List Addr), JN ct (X.blk s H scope (compEnvC scope cl C X.env) fp) tg ws g) (gw : GW g ws)
    (ht : ∀ (s : Shared) (H : Hp) (C : Addr) (cl : List (Str × Addr)) (fp : List Addr), JTs ct (X.blk s H scope (compEnvC scope cl C X.env) fp) ifs t)
    (hi1 : ∀ (s : Shared) (H : Hp) (C : Addr) (cl : List (Str × Addr)) (fp : List Addr), JI ct (X.blk s H scope (compEnvC scope cl C X.env) fp) tg1 iter1 it1)
    (hg1 : ∀ (s : Shared) (H : Hp) (C : Addr) (cl : List (Str × Addr)) (fp : List Addr), JN ct (X.blk s H scope (compEnvC scope cl C X.env) fp) tg1 ws1 g1)
    (ht1 : ∀ (s : Shared) (H : Hp) (C : Addr) (cl : List (Str × Addr)) (fp : List Addr), JTs ct (X.blk s H scope (compEnvC scope cl C X.env) fp) ifs1 t1)
    (he : ∀ (s : Shared) (H : Hp) (C : Addr) (cl : List (Str × Addr)) (fp : List Addr), JE ct (X.blk s H scope (compEnvC scope cl C X.env) fp) elt fe) (hc : X.calm = true := by rfl) (hy : X.N[i]? = some y := by rfl) (hyl : X.env.scope.names.lookup y = some .local := by rfl)
    (hsw : swapsWith (.ListComp elt [⟨tg, iter, ifs, 0⟩, ⟨tg1, iter1, ifs1, 0⟩] scope pos) (some (.Name y py)) spos.line X.env = pure true := by exact sw_true rfl rfl rfl (by decide +kernel)) (hw : ∀ j ∈ ws, j ∈ own.map (·.2) := by decide) (hw1 : ∀ j ∈ ws1, j ∈ vs1 := by decide) (hv : ∀ i ∈ vs1, i ∈ own.map (·.2) := by decide)
    (hs : ∀ x, foldedSetIterable iter X.env x = pure x := by intro _; rfl) (hs1 : ∀ env x, foldedSetIterable iter1 env x = pure x := by intro _ _; rfl) :
    JS ct X (.Assign [.Name y py] (.ListComp elt [⟨tg, iter, ifs, 0⟩, ⟨tg1, iter1, ifs1, 0⟩] scope pos) spos) (sOwn i (eLc2 (own.map (·.2)) vs1 it g t it1 g1 t1 fe)) :=
  ⟨(ps_setLc2 hc hN hy hyl hsw hi.pi ok hv (fun s H C cl fp => (hg s H C cl fp).pg) (fun s H C cl fp => (ht s H C cl fp).pts) (fun s H C cl fp => (hi1 s H C cl fp).pi) (fun s H C cl fp => (hg1 s H C cl fp).pg) (fun s H C cl fp => (ht1 s H C cl fp).pts) (fun s H C cl fp => (he s H C cl fp).pe) hs hs1).imp fun D σ H h => rdF_lc2 gw hw hw1 (asg_own h)⟩
end
end J
set_option Elab.async false
set_option linter.all false
set_option maxRecDepth 100000
set_option maxHeartbeats 3900000
/-! J: x is not True; sum(d.values()); a, b = two new ones. -/
namespace J
open PySem L2 PySem.Spec PyProof.Rows
section
variable {X : Cx}
theorem op_notB : OpR X (compareOp .IsNot) (fun x y H Q => ∃ a b, x = .bl a ∧ y = .bl b ∧ Q (.bl (!decide (a = b))) H) := by
  rintro pins s σ H _ _ v u Q inv rx ry ⟨a, b, rfl, rfl, told⟩
  have ev : v = Value.bool a := rx
  have eu : u = Value.bool b := ry
  rw [ev, eu]
  cases a <;> cases b
  · exact wpAny_isNot_self rfl ⟨.bl false, H, inv, rfl, told⟩
  · exact wpAny_isNot_other rfl (fun e => nomatch e) ⟨.bl true, H, inv, rfl, told⟩
  · exact wpAny_isNot_other rfl (fun e => nomatch e) ⟨.bl true, H, inv, rfl, told⟩
  · exact wpAny_isNot_self rfl ⟨.bl false, H, inv, rfl, told⟩
end
def pNotB : PV → PV → Option PV
  | .bl a, .bl b => some (.bl (!decide (a = b)))
  | _, _ => none
theorem ok_notB {K : PySem.W.Frag} {ct : Ct} : OpOk K ct (fun x y H Q => ∃ a b, x = .bl a ∧ y = .bl b ∧ Q (.bl (!decide (a = b))) H) pNotB := fun H A M x y vx vy v Q hx rx ry e q => by
  unfold pNotB at e
  split at e
  · cases e
    exact ⟨_, _, rx.bl, ry.bl, q _ H (Same.refl H) (Rep.bl_iff.mpr rfl)⟩
  · cases e
section
variable {ct : Ct} {X : Cx} {a b : Expr} {fa fb : FE} {pos : Pos}
theorem je_notB (ha : JB ct X a fa) (hb : JB ct X b fb) : JE ct X (.Compare a [.IsNot] [b] pos) (eOp pNotB fa fb) := je_cmp op_notB ok_notB ha hb
theorem jt_notB (ha : JB ct X a fa) (hb : JB ct X b fb) : JT ct X (.Compare a [.IsNot] [b] pos) (tV (eOp pNotB fa fb)) := jt_cmp op_notB ok_notB ha hb
end
def sParFF (i j : Nat) (a b : FE) : FS := fun env S => (a env S).bind fun x => (b env x.2).bind fun y => .ok (.nx ((env.set i (.own x.1)).set j (.own y.1)) y.2)
section
variable {ct : Ct} {X : Cx} {a b : Expr} {fa fb : FE} {pos : Pos}
theorem js_parFF (i j : Nat) {x y : Str} {px py pt : Pos} {kt k2 pt2} (hN : X.N.Nodup) (ha : JF ct X a fa) (hb : JF ct X b fb) (hc : X.calm = true := by rfl) (hi : X.N[i]? = some x := by rfl) (hj : X.N[j]? = some y := by rfl) (hij : i ≠ j := by decide)
    (hx : X.env.scope.names.lookup x = some .local := by rfl) (hy : X.env.scope.names.lookup y = some .local := by rfl) (he : starEach [a, b] X.env = (false, eval a X.env) :: starEach [b] X.env := by rfl) (he2 : starEach [b] X.env = (false, eval b X.env) :: starEach [] X.env := by rfl)
    (hw : swappedStores [.Tuple [.Name x px, .Name y py] kt pt] (.Tuple [a, b] k2 pt2) X.env = pure (some [x, y]) := by rfl) (hs : swapsWithSole [.Tuple [.Name x px, .Name y py] kt pt] (.Tuple [a, b] k2 pt2) pos.line X.env = pure false := by rfl) :
    JS ct X (.Assign [.Tuple [.Name x px, .Name y py] kt pt] (.Tuple [a, b] k2 pt2) pos) (sParFF i j fa fb) := by
  refine ⟨(ps_par hc hN hi hj hij hx hy (pa_cons ha.pe (pa_cons hb.pe pa_nil he2) he) hw hs).imp fun D σ H h => ?_⟩
  obtain ⟨G, env, S, fl, gd, e, h⟩ := h
  obtain ⟨⟨u, S1⟩, e1, e2⟩ := Res.bind_ok e
  obtain ⟨⟨v, S2⟩, e3, e2⟩ := Res.bind_ok e2
  cases e2
  refine ⟨G, env, S, u, S1, gd, e1, fun p H1 A1 pp np nA s c => ?_⟩
  obtain ⟨lat, g1, fr⟩ := gd.hideF pp np nA s c
  refine ⟨_, env, S1, v, _, g1, e3, fun r H2 A2 pp2 np2 nA2 s2 c2 => ⟨_, _, rfl, ?_⟩⟩
  obtain ⟨lat2, g2, fr2⟩ := g1.hideF pp2 np2 nA2 s2 c2
  obtain ⟨o, ho⟩ := c.there
  have cp : Cont X.K ct H2 A2 (r :: p :: G.M) p u := c.lat lat2 ((pp2.ext p o ho nA).trans ho.symm)
  have g3 := g2.setOwn (i := i) (List.mem_cons_of_mem _ List.mem_cons_self) (gd.fresh0 np) cp fun l z _ hl => fr l z hl
  refine h _ H2 A2 (r :: p :: G.M) (lat.trans lat2) (g3.setOwn List.mem_cons_self (g1.fresh0 np2) c2 fun l z hne hl hz => ?_)
  rcases getSet hl with ⟨h1, h0, _⟩ | ⟨hn, hl⟩
  · subst h1
    rw [List.getElem?_set] at hz
    simp only [if_true] at hz
    split at hz
    · simp only [Option.some.injEq, V.ref.injEq] at hz
      subst hz
      rw [np2] at ho
      cases ho
    · cases hz
  · rw [List.getElem?_set_ne hn] at hz
    exact fr2 l z hl hz
end
/-! ### sum(d.values()) -/
theorem preSum_getD (ns : List Int) : ∀ n, n ≤ ns.length → preSum (fun i => ns.getD i 0) n = (ns.take n).sum
  | 0, _ => rfl
  | n + 1, h => by
    show preSum _ n + ns.getD n 0 = _
    rw [preSum_getD ns n (by omega), List.take_succ, List.sum_append, List.getD_eq_getElem?_getD, List.getElem?_eq_getElem (by omega)]
    simp
section
variable {X : Cx} {e : Expr} {td : TE} {apos cpos p pos : Pos}
theorem pe_sumV (hc : X.calm = true) (hg : Gl X "sum") (hm : X.mg "sum" = none) (he : PE X e td) (hbase : attributeBase e "values" X.env (eval e X.env) = eval e X.env := by rfl) (hline : (apos.endLine == cpos.line) = true := by rfl)
    (na : starEach [.Call (.Attribute e "values" apos) [] [] cpos] X.env = (false, eval (.Call (.Attribute e "values" apos) [] [] cpos) X.env) :: starEach [] X.env := by rfl) :
    PE X (.Call (.Name "sum" p) [.Call (.Attribute e "values" apos) [] [] cpos] [] pos) (fun σ H Q => td σ H fun x H1 => ∃ d o kvs, ∃ ns : List Int, x = .ref d ∧ H1 d = some (.frz o (.dT kvs)) ∧ kvs.map (·.2) = ns.map V.int ∧ Q (.int ns.sum) H1) := by
  refine ⟨fun pins s σ H Q I told => wpAny_Call_Name_kw (ld_blt (u := .builtin "sum") I hg hm (by decide +kernel) (PyProof.Rows.callWith_builtin1 (args_cons ?_ na) na rfl) (by decide) (by decide))⟩
  refine wpAny_Call_method (T := "dict") (id := "dict.values") hbase rfl hline F.plainAttrs_dict F.slot_dict_values F.type_dict_values (thn (he.run pins s σ H _ I told) ?_)
  rintro u s1 ⟨_, H1, I1, rel, d, o, kvs, ns, rfl, inD, told2, q⟩
  cases (show u = Value.ref d from rel)
  obtain ⟨cells, ep, dat, size, raw, here, own, plain⟩ := view_pi I1 inD
  obtain ⟨_, _, entry⟩ := frzT3 I1 inD dat
  have many : ns.length = kvs.length := by
    have := congrArg List.length told2
    rw [List.length_map, List.length_map] at this
    exact this.symm
  have dlt : d < s1.heap.objs.size := Heap.lt_size here
  refine ⟨raw.typeIs, plain, method_meetsIn F.slot_dict_values F.entry_dict_values rfl (PySem.evalArgs_none ⟨rfl, raw.typeIs, F.args_dict_values_1 _, _, meetsVals (es := cells) (ep := ep) own, raw, args_nil (call_sum_walkG ?_)⟩)⟩
  refine DSub.iter_vals (a := d) (ob := o) (es := cells) (ep := ep) (Heap.get?_push_size _ rfl) (Heap.get?_push_of_some _ here) dat ?_
  have later : ∀ {c : Addr} {ob : Obj}, s1.heap.get? c = some ob → c ≠ (s1.heap.push { cls := .type "dict_values", data := .fields #[.ref d] }).objs.size := fun {c ob} got => by
    rw [Heap.size_push]
    exact Nat.ne_of_lt (Nat.lt_succ_of_lt (Heap.lt_size got))
  refine ⟨_, _, _, _, _, _, fun i => ns.getD i 0, rfl, DSub.walksVal (A := X.A.in1) (P := fun i v => ∃ t, v = .int (ns.getD i 0) t) (I1.ok.hd hc) (later here) dat (fun i cell at' => ?_), ⟨Heap.get?_push_size _ rfl, Heap.get?_push_of_some _ (Heap.get?_push_of_some _ here)⟩, fun c m => ?_, fun i v told => told, fun h' tk t' keep => ?_⟩
  · have lt : i < kvs.length := size ▸ (Array.getElem?_eq_some_iff.mp at').1
    obtain ⟨cell2, _, at2, _, _, rel⟩ := entry i kvs[i] (List.getElem?_eq_getElem lt)
    cases (at'.symm.trans at2)
    have val : kvs[i].2 = V.int ns[i] := by
      have := congrArg (fun l : List V => l[i]?) told2
      simp only [List.getElem?_map, List.getElem?_eq_getElem lt, List.getElem?_eq_getElem (show i < ns.length by omega), Option.map_some] at this
      exact Option.some.inj this
    rw [val] at rel
    obtain ⟨t, et⟩ := rel
    exact ⟨t, et.trans (by rw [List.getD_eq_getElem?_getD, List.getElem?_eq_getElem (show i < ns.length by omega)]; rfl)⟩
  · rcases List.mem_cons.mp m with e | m
    · rw [e]; exact Heap.lt_size (Heap.get?_push_size _ rfl)
    · rw [one1 m]; exact Heap.lt_size (Heap.get?_push_of_some _ (Heap.get?_push_of_some _ here))
  · have all : preSum (fun i => ns.getD i 0) cells.size = ns.sum := by
      rw [size, ← many, preSum_getD ns _ (Nat.le_refl _), List.take_of_length_le (Nat.le_refl _)]
    exact ⟨.int ns.sum, H1, I1.kept fun c ob got => keep c ob (fun m => later got (List.mem_singleton.mp m)) (Heap.get?_push_of_some _ (Heap.get?_push_of_some _ got)), ⟨t', by rw [all]⟩, q⟩
end
def pSumV : PV → Option PV
  | .dic true _ vs => (intsP vs).map fun ns => .int ns.sum
  | _ => none
section
variable {ct : Ct} {X : Cx} {e : Expr} {f : FE} {apos cpos p pos : Pos}
theorem je_sumV (hm : X.mg "sum" = none) (h : JE ct X e f) (hc : X.calm = true := by rfl) (hg : Gl X "sum" := by rfl) (hbase : attributeBase e "values" X.env (eval e X.env) = eval e X.env := by rfl) (hline : (apos.endLine == cpos.line) = true := by rfl)
    (na : starEach [.Call (.Attribute e "values" apos) [] [] cpos] X.env = (false, eval (.Call (.Attribute e "values" apos) [] [] cpos) X.env) :: starEach [] X.env := by rfl) :
    JE ct X (.Call (.Name "sum" p) [.Call (.Attribute e "values" apos) [] [] cpos] [] pos) (eUn pSumV f) := by
  refine ⟨(pe_sumV hc hg hm h.pe hbase hline na).imp fun σ H Q q => ?_⟩
  obtain ⟨G, env, S, v, S', g, h1, q⟩ := q
  obtain ⟨⟨x, S1⟩, e1, h1⟩ := Res.bind_ok h1
  obtain ⟨z, e2, h1⟩ := Res.bind_ok h1
  cases h1
  have e3 := ofO_ok e2
  dsimp only at e3
  unfold pSumV at e3
  split at e3
  · rename_i ks vs
    obtain ⟨ns, e4, rfl⟩ := Option.map_eq_some_iff.mp e3
    refine ⟨G, env, S, _, _, g, e1, fun y H1 A1 p1 s1 r1 => ?_⟩
    simp only [Rep] at r1
    obtain ⟨a, rfl, r1⟩ := r1
    rcases r1 with ⟨ht, _⟩ | ⟨ht, ws, ⟨⟨o, h8⟩, h2, h3⟩, rfl, h5⟩
    · cases ht
    · have ex := intsP_eq e4
      subst ex
      exact ⟨a, o, ws, ns, rfl, h8, h5.ints, q _ H1 A1 p1 s1 (Rep.int_iff.mpr rfl)⟩
  · cases e3
end
end J
set_option Elab.async false
set_option linter.all false
set_option maxRecDepth 100000
/-! J: the pure end of a law that asks `all([right(vat(script, k)) for k in range(max(lo, min(len(script), hi)))])`. -/
namespace J
open PySem L2
theorem sSeq_nx {a b : FS} {env e : J.Env} {S S1 : Sto} (h : a env S = .ok (.nx e S1)) : sSeq a b env S = b e S1 := by unfold sSeq; rw [h]; rfl
theorem sSeq_rt {a b : FS} {env : J.Env} {S S1 : Sto} {v : PV} (h : a env S = .ok (.rt v S1)) : sSeq a b env S = .ok (.rt v S1) := by unfold sSeq; rw [h]; rfl
theorem sSet_ok {i : Nat} {a : FE} {env : J.Env} {S S1 : Sto} {v : PV} (h : a env S = .ok (v, S1)) : sSet i a env S = .ok (.nx (env.set i (.val v)) S1) := by unfold sSet; rw [h]; rfl
theorem sOwn_ok {i : Nat} {a : FE} {env : J.Env} {S S1 : Sto} {v : PV} (h : a env S = .ok (v, S1)) : sOwn i a env S = .ok (.nx (env.set i (.own v)) S1) := by unfold sOwn; rw [h]; rfl
theorem sRet_ok {a : FE} {env : J.Env} {S S1 : Sto} {v : PV} (h : a env S = .ok (v, S1)) : sRet a env S = .ok (.rt v S1) := by unfold sRet; rw [h]; rfl
theorem eCall_ok {f : List PV → Sto → Res (PV × Sto)} {a : FA} {env : J.Env} {S S1 S2 : Sto} {xs : List PV} {v : PV} (h : a env S = .ok (xs, S1)) (k : f xs S1 = .ok (v, S2)) : eCall f a env S = .ok (v, S2) := by unfold eCall; rw [h]; exact k
theorem eOp_ok {op : PV → PV → Option PV} {a b : FE} {env : J.Env} {S S1 S2 : Sto} {x y z : PV} (h : a env S = .ok (x, S1)) (k : b env S1 = .ok (y, S2)) (e : op x y = some z) : eOp op a b env S = .ok (z, S2) := by
  unfold eOp; rw [h]; show (b env S1).bind _ = _; rw [k]; show (ofO (op x y)).bind _ = _; rw [e]; rfl
theorem aCons_ok {a : FE} {r : FA} {env : J.Env} {S S1 S2 : Sto} {x : PV} {y : List PV} (h : a env S = .ok (x, S1)) (k : r env S1 = .ok (y, S2)) : aCons a r env S = .ok (x :: y, S2) := by
  unfold aCons
  rw [h]
  show (r env S1).bind _ = _
  rw [k]
  rfl
theorem runF_rt {n : Nat} {F : FS} {args : List PV} {S S1 : Sto} {v : PV} (h : F (env0 n args) S = .ok (.rt v S1)) : runF n F args S = .ok (v, S1) := by unfold runF; rw [h]
theorem sFor_ok {it : FA} {g : GN} {b : FS} {env : J.Env} {S S1 : Sto} {xs : List PV} {r : Res Fl} (h : it env S = .ok (xs, S1)) (k : forL g b xs env S1 = r) : sFor it g b env S = r := by unfold sFor; rw [h]; exact k
theorem forL_nx {g : GN} {b : FS} {x : PV} {xs : List PV} {env e e' : J.Env} {S S' : Sto} (h : g x env = some e) (k : b e S = .ok (.nx e' S')) : forL g b (x :: xs) env S = forL g b xs e' S' := by
  rw [forL, h]
  show (b e S).bind _ = _
  rw [k]
  rfl
theorem bls_true : ∀ m : Nat, bls (List.replicate m (PV.bl true)) = some (List.replicate m true)
  | 0 => rfl
  | m + 1 => by rw [List.replicate_succ, bls, bls_true m]; rfl
theorem iR1_eq {f : FA} {env : J.Env} {S S1 : Sto} {j : Int} (h : f env S = .ok ([.int j], S1)) (b : bdI j = true) : iR1 f env S = .ok (rangeP 0 j.toNat, S1) := by
  unfold iR1
  rw [h]
  simp only [Res.bind]
  rw [if_pos b]
theorem range_ok {f : FA} {env : J.Env} {S : Sto} {m : Nat} (hm : m ≤ 5) (h : f env S = .ok ([.int m], S)) : iR1 f env S = .ok ((List.range' 0 m).map fun (i : Nat) => PV.int (i : Int), S) := by
  have hr : rangeP 0 ((m : Int)).toNat = (List.range' 0 m).map fun (i : Nat) => PV.int (i : Int) := by
    unfold rangeP
    rw [List.range_eq_range']
    simp
  have hb : bdI (m : Int) = true := by
    have hc : m = 0 ∨ m = 1 ∨ m = 2 ∨ m = 3 ∨ m = 4 ∨ m = 5 := by omega
    rcases hc with z | z | z | z | z | z <;> (subst z; decide +kernel)
  rw [iR1_eq h hb, hr]
theorem lc_eq {vs : List Nat} {it : FA} {g : GN} {t : FT} {e : FE} {env : J.Env} {S S1 S2 : Sto} {xs ys : List PV} (h : it env S = .ok (xs, S1)) (hl : xs.length ≤ 1000000) (k : lcL g t e xs (wipeE env vs) S1 = .ok (ys, S2)) : eLc vs it g t e env S = .ok (.lst ys, S2) := by
  unfold eLc
  rw [h]
  show (if xs.length ≤ 1000000 then _ else _) = _
  rw [if_pos hl, k]
  rfl
theorem un_eq {op : PV → Option PV} {a : FE} {env : J.Env} {S S1 : Sto} {x z : PV} (h : a env S = .ok (x, S1)) (k : op x = some z) : eUn op a env S = .ok (z, S1) := by
  unfold eUn
  rw [h]
  show (ofO (op x)).bind _ = _
  rw [k]
  rfl
theorem all_true (m : Nat) : pAll (.lst (List.replicate m (PV.bl true))) = some (.bl true) := by
  unfold pAll
  dsimp only
  rw [bls_true]
  simp
theorem lap_ok {ns : List Int} {Each : FE} (each : ∀ (k : Nat), k < 10 → ∀ S : Sto, ∃ S', Each [.val (.scr ns), .val (.int k)] S = .ok (.bl true, S')) : ∀ (m k : Nat) (S : Sto), m + k ≤ 10 → ∃ S', lcL (gN 1) tT Each ((List.range' k m).map fun (i : Nat) => PV.int (i : Int)) [.val (.scr ns), .un] S = .ok ((List.replicate m (PV.bl true)), S')
  | 0, k, S, _ => ⟨S, rfl⟩
  | m + 1, k, S, h => by
    obtain ⟨S1, h1⟩ := each k (by omega) S
    obtain ⟨S2, h2⟩ := lap_ok each m (k + 1) S1 (by omega)
    refine ⟨S2, ?_⟩
    rw [List.range'_succ, List.map_cons, lcL, List.replicate_succ]
    have g : gN 1 (PV.int (k : Int)) [.val (.scr ns), .un] = some [.val (.scr ns), .val (.int k)] := rfl
    simp only [g, ofO, Res.bind, tT, if_true, h1, h2]
theorem many_ok (ns : List Int) (lo hi : Nat) (hl : lo ≤ hi) : ∃ m : Nat, m ≤ hi ∧ eB pMax2 (aCons (eC (PV.int lo)) (aCons (eB pMin2 (aCons (eUn pLen (eV 0)) (aCons (eC (PV.int hi)) aNil))) aNil)) [.val (.scr ns), .un] [] = .ok (.int m, []) := by
  by_cases h4 : (hi : Int) < ns.length
  · have h5 : hi < ns.length := by omega
    by_cases h2 : lo < hi
    · exact ⟨hi, by omega, by simp [eB, aCons, aNil, eUn, eV, eC, pLen, pMin2, pMax2, ofO, Res.bind, h5, h2]⟩
    · exact ⟨lo, by omega, by simp [eB, aCons, aNil, eUn, eV, eC, pLen, pMin2, pMax2, ofO, Res.bind, h5, h2]⟩
  · have h5 : ¬ hi < ns.length := by omega
    by_cases h2 : lo < ns.length
    · exact ⟨ns.length, by omega, by simp [eB, aCons, aNil, eUn, eV, eC, pLen, pMin2, pMax2, ofO, Res.bind, h5, h2]⟩
    · exact ⟨lo, by omega, by simp [eB, aCons, aNil, eUn, eV, eC, pLen, pMin2, pMax2, ofO, Res.bind, h5, h2]⟩
theorem law_all (ns : List Int) (lo hi : Nat) (hl : lo ≤ hi) (h5 : hi ≤ 5) {Each : FE} (each : ∀ (k : Nat), k < 10 → ∀ S : Sto, ∃ S', Each [.val (.scr ns), .val (.int k)] S = .ok (.bl true, S')) :
    ∃ S', runF 2 (sRet (eUn pAll (eLc [1] (iR1 (aCons (eB pMax2 (aCons (eC (PV.int lo)) (aCons (eB pMin2 (aCons (eUn pLen (eV 0)) (aCons (eC (PV.int hi)) aNil))) aNil))) aNil)) (gN 1) tT Each))) [.scr ns] [] = .ok (.bl true, S') := by
  obtain ⟨m, hm4, hm⟩ := many_ok ns lo hi hl
  obtain ⟨S', h⟩ := lap_ok each m 0 [] (by omega)
  refine ⟨S', runF_rt (sRet_ok (un_eq (lc_eq (range_ok (by omega) (aCons_ok hm rfl)) ?_ h) (all_true m)))⟩
  rw [List.length_map, List.length_range']
  omega
theorem each_of {ns : List Int} {right vat : List PV → Sto → Res (PV × Sto)} {Is : Sto → Nat → Prop} (hv : ∀ (k : Nat), k < 10 → ∀ S : Sto, ∃ S', vat [.scr ns, .int k] S = .ok (.obj S.length, S') ∧ Is S' S.length) (hr : ∀ (n : Nat) (S : Sto), Is S n → ∃ S', right [.obj n] S = .ok (.bl true, S')) (k : Nat) (hk : k < 10) (S : Sto) :
    ∃ S', eCall right (aCons (eCall vat (aCons (eV 0) (aCons (eV 1) aNil))) aNil) [.val (.scr ns), .val (.int k)] S = .ok (.bl true, S') := by
  obtain ⟨S1, h1, h2⟩ := hv k hk S
  obtain ⟨S2, h3⟩ := hr _ _ h2
  exact ⟨S2, eCall_ok (aCons_ok (eCall_ok (xs := [.scr ns, .int k]) rfl h1) rfl) h3⟩
/-! what is looked at behind a run -/
def chkL (r : Res Fl) : Option (PV × Sto) := match r with
  | .ok (.rt v S) => some (v, S)
  | _ => none
def chk (r : Res Fl) : Option (Option Slot × Nat × Sto) := match r with
  | .ok (.nx e S) => some (e[0]?, e.length, S)
  | _ => none
theorem chk_ok {r : Res Fl} {x : Option Slot} {m : Nat} {S : Sto} (h : chk r = some (x, m, S)) : ∃ e, r = .ok (.nx e S) ∧ e[0]? = x ∧ e.length = m := by
  unfold chk at h
  split at h
  · rename_i e S'
    simp only [Option.some.injEq, Prod.mk.injEq] at h
    obtain ⟨h1, h2, rfl⟩ := h
    exact ⟨e, rfl, h1, h2⟩
  · cases h
theorem chkL_ok {r : Res Fl} {v : PV} {S : Sto} (h : chkL r = some (v, S)) : r = .ok (.rt v S) := by
  unfold chkL at h
  split at h
  · rename_i v' S'
    simp only [Option.some.injEq, Prod.mk.injEq] at h
    obtain ⟨rfl, rfl⟩ := h
    rfl
  · cases h
end J
set_option Elab.async false
set_option linter.all false
set_option maxRecDepth 100000
set_option maxHeartbeats 1000001
/-! J: lists of natural numbers in the pure functions. -/
namespace J
open PySem L2
def natsP (l : List Nat) : List PV := l.map fun (n : Nat) => PV.int (n : Int)
def tI (l : List Nat) : PV := .tup (natsP l)
theorem natsP_cons (a : Nat) (l : List Nat) : natsP (a :: l) = .int (a : Int) :: natsP l := rfl
theorem natsP_len (l : List Nat) : (natsP l).length = l.length := List.length_map _
theorem enum_len : ∀ (xs : List PV) (i : Nat), (enumP i xs).length = xs.length
  | [], _ => rfl
  | x :: r, i => by rw [enumP, List.length_cons, enum_len r, List.length_cons]
theorem lcL_yes {g : GN} {t : FT} {e : FE} {x y : PV} {r ys : List PV} {env en : J.Env} {S S1 S2 S3 : Sto} (h1 : g x env = some en) (h2 : t en S = .ok (true, S1)) (h3 : e en S1 = .ok (y, S2)) (h4 : lcL g t e r env S2 = .ok (ys, S3)) : lcL g t e (x :: r) env S = .ok (y :: ys, S3) := by
  rw [lcL]
  simp only [h1, ofO, Res.bind, h2, if_true, h3, h4]
theorem lcL_no {g : GN} {t : FT} {e : FE} {x : PV} {r ys : List PV} {env en : J.Env} {S S1 S3 : Sto} (h1 : g x env = some en) (h2 : t en S = .ok (false, S1)) (h4 : lcL g t e r env S1 = .ok (ys, S3)) : lcL g t e (x :: r) env S = .ok (ys, S3) := by
  rw [lcL]
  simp only [h1, ofO, Res.bind, h2, h4]
  rfl
def nins (x : Nat) : List Nat → List Nat
  | [] => [x]
  | y :: r => if y < x then y :: nins x r else x :: y :: r
def nsort : List Nat → List Nat
  | [] => []
  | x :: r => nins x (nsort r)
theorem nins_perm (x : Nat) : ∀ l, (nins x l).Perm (x :: l)
  | [] => .refl _
  | y :: r => by
    unfold nins
    split
    · exact ((nins_perm x r).cons y).trans (.swap x y r)
    · exact .refl _
theorem nsort_perm : ∀ l, (nsort l).Perm l
  | [] => .refl _
  | x :: r => (nins_perm x _).trans ((nsort_perm r).cons x)
theorem nins_asc (x : Nat) : ∀ l : List Nat, l.Pairwise (· < ·) → x ∉ l → (nins x l).Pairwise (· < ·)
  | [], _, _ => by simp [nins]
  | y :: r, h, hx => by
    (obtain ⟨h1, h2⟩ := List.pairwise_cons.mp h)
    have hxy : x ≠ y := fun e => hx (by simp [e])
    unfold nins
    split
    · rename_i hlt
      refine List.pairwise_cons.mpr ⟨fun z hz => ?_, nins_asc x r h2 (fun z => hx (by simp [z]))⟩
      rcases List.mem_cons.mp ((nins_perm x r).mem_iff.mp hz) with e | hz
      · omega
      · exact h1 z hz
    · rename_i hge
      refine List.pairwise_cons.mpr ⟨fun z hz => ?_, h⟩
      (rcases List.mem_cons.mp hz with e | hz)
      · omega
      · have := h1 z hz; omega
theorem nsort_asc : ∀ l : List Nat, l.Nodup → (nsort l).Pairwise (· < ·)
  | [], _ => .nil
  | x :: r, h => by
    (obtain ⟨h1, h2⟩ := List.nodup_cons.mp h)
    exact nins_asc x _ (nsort_asc r h2) (fun z => h1 ((nsort_perm r).mem_iff.mp z))
theorem insP_ints (x : Nat) : ∀ l : List Nat, insP ltP (.int x) (natsP l) = natsP (nins x l)
  | [] => rfl
  | y :: r => by
    rw [natsP_cons, insP, nins]
    have e : ltP (.int (y : Int)) (.int (x : Int)) = decide ((y : Int) < (x : Int)) := by simp [ltP]
    rw [e]
    by_cases h : y < x
    · have h' : (y : Int) < (x : Int) := by omega
      rw [if_pos h, if_pos (decide_eq_true h'), insP_ints x r]; rfl
    · have h' : ¬ (y : Int) < (x : Int) := by omega
      rw [if_neg h, if_neg (by rw [decide_eq_true_eq]; exact h')]; rfl
theorem isort_ints : ∀ l : List Nat, isort ltP (natsP l) = natsP (nsort l)
  | [] => rfl
  | x :: r => by rw [natsP_cons, isort, isort_ints r, insP_ints]; rfl
theorem hasTy_ints (l : List Nat) : (natsP l).all (hasTy .int) = true := by
  rw [List.all_eq_true]
  intro x hx
  obtain ⟨n, _, rfl⟩ := List.mem_map.mp hx
  simp [hasTy]
theorem srt_ints (l : List Nat) (hl : l.length ≤ 40) : pSrt .int (.lst (natsP l)) = some (.lst (natsP (nsort l))) := by
  have h : srtOk .int (natsP l) = true := by
    unfold srtOk
    simp only [Bool.and_eq_true, Bool.or_eq_true, decide_eq_true_eq, List.all_eq_true]
    refine ⟨by rw [natsP_len]; omega, fun x hx => ?_, by decide, .inr fun x hx => ?_⟩
    · obtain ⟨n, _, rfl⟩ := List.mem_map.mp hx
      simp [hasTy]
    · obtain ⟨n, _, rfl⟩ := List.mem_map.mp hx
      rfl
  show (if srtOk .int (natsP l) then _ else _) = _
  rw [if_pos h, isort_ints]
theorem isDL_natsP : ∀ l : List Nat, isDL (natsP l) = true
  | [] => by simp [natsP, isDL]
  | a :: r => by rw [natsP_cons, isDL, isDL_natsP r]; simp [isD]
theorem dpPL_natsP : ∀ l : List Nat, dpPL (natsP l) = 0
  | [] => by simp [natsP, dpPL]
  | a :: r => by rw [natsP_cons, dpPL, dpPL_natsP r]; simp [dpP]
theorem dOK_lst (l : List Nat) : dOK (.lst (natsP l)) = true := by simp [dOK, isD, dpP, isDL_natsP, dpPL_natsP]
theorem dOK_tI (l : List Nat) : dOK (tI l) = true := by simp [tI, dOK, isD, dpP, isDL_natsP, dpPL_natsP]
theorem dOK_int (i : Int) : dOK (.int i) = true := by simp [dOK, isD, dpP]
theorem inP_ints (g : Nat) : ∀ l : List Nat, inP (.int (g : Int)) (natsP l) = decide (g ∈ l)
  | [] => by simp [natsP, inP]
  | a :: r => by
    rw [natsP_cons, inP, inP_ints g r]
    by_cases h : g = a
    · subst h; simp [eqP]
    · have h' : ¬ (a : Int) = (g : Int) := by omega
      simp [eqP, h, h']
theorem notIn_ok (g : Nat) (l : List Nat) : pNotIn (.int (g : Int)) (.lst (natsP l)) = some (.bl (!decide (g ∈ l))) := by
  unfold pNotIn inPV
  dsimp only
  rw [dOK_int, dOK_lst]
  simp [inP_ints]
theorem intsP_nats : ∀ l : List Nat, intsP (natsP l) = some (l.map fun (n : Nat) => (n : Int))
  | [] => rfl
  | a :: r => by rw [natsP_cons, intsP, intsP_nats r]; rfl
theorem sum_cast : ∀ l : List Nat, (l.map fun (n : Nat) => (n : Int)).sum = (l.sum : Int)
  | [] => rfl
  | a :: r => by rw [List.map_cons, List.sum_cons, sum_cast r, List.sum_cons]; omega
theorem pSum_tI (l : List Nat) : pSum (tI l) = some (.int (l.sum : Int)) := by
  show (intsP (natsP l)).map _ = _
  rw [intsP_nats]
  show some (PV.int _) = _
  rw [sum_cast]
theorem pLen_tI (l : List Nat) : pLen (tI l) = some (.int (l.length : Int)) := by show some (PV.int ((natsP l).length : Int)) = _; rw [natsP_len]
theorem pIx_tI (l : List Nat) (k : Nat) (h : k < l.length) : pIx (tI l) (.int (k : Int)) = some (.int (l[k] : Int)) := by
  show atI (natsP l) (k : Int) = _
  refine atI_nat ?_
  unfold natsP
  rw [List.getElem?_map, List.getElem?_eq_getElem h]
  rfl
theorem eIx_ok {a b : FE} {env : J.Env} {S S1 S2 : Sto} {l : List Nat} {k : Nat} (ha : a env S = .ok (tI l, S1)) (hb : b env S1 = .ok (.int (k : Int), S2)) (h : k < l.length) : eIx a b env S = .ok (.int (l[k] : Int), S2) := by
  unfold eIx
  rw [ha]
  simp only [Res.bind]
  rw [hb]
  have e := pIx_tI l k h
  unfold tI at e ⊢
  simp only [e, ofO]
theorem bdI_of {j : Int} (h1 : -1000 ≤ j) (h2 : j ≤ 1000) : bdI j = true := by
  unfold bdI
  (rw [Bool.and_eq_true, decide_eq_true_eq, decide_eq_true_eq])
  omega
theorem rangeP_nat (n : Nat) : rangeP 0 n = (List.range' 0 n).map fun (i : Nat) => PV.int (i : Int) := by
  unfold rangeP
  rw [List.range_eq_range']
  simp
theorem le_sum : ∀ (l : List Nat) (q : Nat), q ∈ l → q ≤ l.sum
  | [], _, h => by cases h
  | a :: r, q, h => by
    rw [List.sum_cons]
    (rcases List.mem_cons.mp h with rfl | h)
    · omega
    · have := le_sum r q h; omega
theorem eqPL_nats : ∀ l k : List Nat, eqPL (natsP l) (natsP k) = decide (l = k)
  | [], [] => by simp [natsP, eqPL]
  | [], b :: k => by simp [natsP, eqPL]
  | a :: l, [] => by simp [natsP, eqPL]
  | a :: l, b :: k => by
    rw [natsP_cons, natsP_cons, eqPL, eqPL_nats l k]
    by_cases h : a = b
    · subst h; simp [eqP]
    · have h' : ¬ (a : Int) = (b : Int) := by omega
      simp [eqP, h, h']
theorem ne_tI (l k : List Nat) : pNe (tI l) (tI k) = some (.bl (!decide (l = k))) := by
  unfold pNe
  rw [dOK_tI, dOK_tI]
  simp only [Bool.and_self, if_true, tI, eqP, eqPL_nats]
theorem ne_nil (l : List Nat) : pNe (tI l) (.tup []) = some (.bl (!decide (l = []))) := ne_tI l []
theorem iR2_eq {f : FA} {env : J.Env} {S S1 : Sto} {i j : Int} (h : f env S = .ok ([.int i, .int j], S1)) (b : bdI i = true) (b' : bdI j = true) : iR2 f env S = .ok (rangeP i (j - i).toNat, S1) := by
  unfold iR2
  rw [h]
  simp only [Res.bind]
  rw [b, b']
  rfl
theorem pAdd_lst {a b : List PV} (h : a.length + b.length ≤ 1000000) : pAdd (.lst a) (.lst b) = some (.lst (a ++ b)) := by
  unfold pAdd
  exact if_pos h
theorem pAdd_tup {a b : List PV} (h : a.length + b.length ≤ 1000000) : pAdd (.tup a) (.tup b) = some (.tup (a ++ b)) := by
  unfold pAdd
  exact if_pos h
theorem eB_ok {op : List PV → Option PV} {a : FA} {env : J.Env} {S S1 : Sto} {xs : List PV} {z : PV} (h : a env S = .ok (xs, S1)) (k : op xs = some z) : eB op a env S = .ok (z, S1) := by
  unfold eB
  rw [h]
  show (ofO (op xs)).bind _ = _
  rw [k]
  rfl
theorem natsP_append (a b : List Nat) : natsP (a ++ b) = natsP a ++ natsP b := List.map_append
theorem natsP_inj : ∀ {a b : List Nat}, natsP a = natsP b → a = b
  | [], [], _ => rfl
  | [], y :: b, h => by simp [natsP] at h
  | x :: a, [], h => by simp [natsP] at h
  | x :: a, y :: b, h => by
    rw [natsP_cons, natsP_cons] at h
    simp only [List.cons.injEq, PV.int.injEq] at h
    rw [natsP_inj h.2]
    congr 1
    omega
theorem tI_inj {a b : List Nat} (h : tI a = tI b) : a = b := natsP_inj (by simpa [tI] using h)
theorem tV_ok {a : FE} {env : J.Env} {S S1 : Sto} {b : Bool} (h : a env S = .ok (.bl b, S1)) : tV a env S = .ok (b, S1) := by
  unfold tV
  rw [h]
  rfl
theorem tOrr_no {a b : FT} {env : J.Env} {S S1 S2 : Sto} {k : Bool} (h : a env S = .ok (false, S1)) (h' : b env S1 = .ok (k, S2)) : tOrr a b env S = .ok (k, S2) := by
  unfold tOrr
  rw [h]
  exact h'
theorem sIf_no {c : FT} {a b : FS} {env : J.Env} {S S1 : Sto} {r : Res Fl} (h : c env S = .ok (false, S1)) (h' : b env S1 = r) : sIf c a b env S = r := by
  unfold sIf
  rw [h]
  exact h'
theorem ne_self (s : List Nat) : pNe (tI s) (tI s) = some (.bl false) := by
  rw [ne_tI]
  simp
end J
set_option Elab.async false
set_option linter.all false
set_option maxRecDepth 100000
set_option maxHeartbeats 0
namespace K72
open PySem PySem.Spec PyProof.Rows L2 J
def top (i : Nat) : Stmt := PySem.Challenge.pw_wordshapes_k72_whole_reduced_rows.main.body.getD i (.Pass ⟨0, 0, 0, 0⟩)
abbrev s_l_tap : Stmt := top 40
abbrev s_is_integer : Stmt := top 14
abbrev s_is_within : Stmt := top 15
abbrev s_is_letter : Stmt := top 16
abbrev s_is_word : Stmt := top 17
abbrev s_check_word : Stmt := top 18
abbrev s_is_order : Stmt := top 19
abbrev s_check_order : Stmt := top 22
abbrev s_inversions_of : Stmt := top 24
abbrev s_inversion_count : Stmt := top 31
abbrev s_swapped : Stmt := top 23
abbrev s_exchanged_at : Stmt := top 32
abbrev s_order_of_row : Stmt := top 25
abbrev s_order_by : Stmt := top 33
abbrev s_is_reduced_row : Stmt := top 26
abbrev s_is_reduced : Stmt := top 34
abbrev s_descents_of : Stmt := top 20
abbrev s_count_of : Stmt := top 27
abbrev s_rows_of_order : Stmt := top 28
abbrev s_check_inversions : Stmt := top 30
abbrev s_reduced_rows : Stmt := top 35
abbrev s_reduced_count : Stmt := top 36
abbrev s_l_dip : Stmt := top 41
abbrev s_l_of : Stmt := top 42
abbrev s_l_swapped : Stmt := top 43
abbrev s_l_line : Stmt := top 44
abbrev s_l_turned_pairs : Stmt := top 45
abbrev s_l_all_steps : Stmt := top 48
abbrev s_word_braided : Stmt := top 29
abbrev s_braids : Stmt := top 37
abbrev s_braided : Stmt := top 38
abbrev s_l_braid : Stmt := top 49
abbrev s_l_braids_right : Stmt := top 50
abbrev s_l_walked : Stmt := top 46
abbrev s_l_is_short : Stmt := top 47
abbrev s_l_near_right : Stmt := top 51
abbrev s_l_right : Stmt := top 52
abbrev s_law : Stmt := top 53
/-! ### the pure functions -/
def F_l_tap : FS := (sSeq (sSet 2 (eOp pAdd (eC (.int 161803)) (eOp pMulB (eC (.int 28001)) (eV 1)))) (sSeq (sFor (iSeq (eSl (eV 0) oNo (oSo (eC (.int 7))))) (gN 3) (sSet 2 (eOp pMod (eUn pInt (eOp pAdd (eOp pAdd (eOp pMulB (eV 2) (eC (.int 44021))) (eOp pMulB (eUn pInt (eV 3)) (eC (.int 43)))) (eV 1))) (eC (.int 2147483587))))) (sSeq (sSet 4 (eIf (tV (eOp pLt (eV 1) (eUn pLen (eV 0)))) (eUn pInt (eIx (eV 0) (eV 1))) (eV 2))) (sRet (eNew (aCons (eIf (tOrr (tV (eOp pLt (eV 4) (eC (.int 0)))) (tV (eOp pGe (eV 4) (eOp pPow (eC (.int 10)) (eC (.int 17)))))) (eUn pAbs (eV 4)) (eC (.int 0))) (aCons (eOp pMod (eUn pInt (eOp pAdd (eV 2) (eOp pMulB (eV 4) (eC (.int 47))))) (eC (.int 2147483587))) (aCons (eC (.int 0)) aNil))))))))
def f_l_tap : List PV → Sto → Res (PV × Sto) := runF 5 F_l_tap
def F_is_integer : FS := (sRet (eAnd (eUn (pIsT "int") (eV 0)) (eUn pNot (eUn (pIsT "bool") (eV 0)))))
def f_is_integer : List PV → Sto → Res (PV × Sto) := runF 1 F_is_integer
def F_is_within : FS := (sRet (eAnd (eCall f_is_integer (aCons (eV 0) aNil)) (eChain pLe pLe (eV 1) (eV 0) (eV 2))))
def f_is_within : List PV → Sto → Res (PV × Sto) := runF 3 F_is_within
def F_is_letter : FS := (sRet (eCall f_is_within (aCons (eV 0) (aCons (eC (.int 1)) (aCons (eC (.int 12)) aNil)))))
def f_is_letter : List PV → Sto → Res (PV × Sto) := runF 1 F_is_letter
def F_is_word : FS := (sRet (eAnd (eUn (pIsT "tuple") (eV 0)) (eAnd (eOp pLe (eUn pLen (eV 0)) (eC (.int 12))) (eUn pAll (eLc [1] (iSeq (eV 0)) (gN 1) tT (eCall f_is_letter (aCons (eV 1) aNil)))))))
def f_is_word : List PV → Sto → Res (PV × Sto) := runF 2 F_is_word
def F_check_word : FS := (sIf (tNo (tV (eCall f_is_word (aCons (eV 0) aNil)))) sX sNext)
def f_check_word : List PV → Sto → Res (PV × Sto) := runF 1 F_check_word
def F_is_order : FS := (sRet (eOp pEq (eUn (pSrt .int) (eV 0)) (eLR (iR2 (aCons (eC (.int 1)) (aCons (eOp pAdd (eUn pLen (eV 0)) (eC (.int 1))) aNil))))))
def f_is_order : List PV → Sto → Res (PV × Sto) := runF 1 F_is_order
def F_check_order : FS := (sIf (tNo (tV (eCall f_is_order (aCons (eV 0) aNil)))) sX sNext)
def f_check_order : List PV → Sto → Res (PV × Sto) := runF 1 F_check_order
def F_inversions_of : FS := (sRet (eUn pSum (eLc [1, 2] (iEn (aCons (eV 0) aNil)) (gT 2 (gNc (gN 1) (gNc (gN 2) gNn))) tT (eUn pLen (eLc [3] (iSeq (eSl (eV 0) (oSo (eOp pAdd (eV 1) (eC (.int 1)))) oNo)) (gN 3) (tV (eOp pLt (eV 3) (eV 2))) (eV 3))))))
def f_inversions_of : List PV → Sto → Res (PV × Sto) := runF 4 F_inversions_of
def F_inversion_count : FS := (sSeq (sDrop (eCall f_check_word (aCons (eV 0) aNil))) (sSeq (sDrop (eCall f_check_order (aCons (eV 0) aNil))) (sRet (eCall f_inversions_of (aCons (eV 0) aNil)))))
def f_inversion_count : List PV → Sto → Res (PV × Sto) := runF 1 F_inversion_count
def F_swapped : FS := (sRet (eB pTup (aStar (eSl (eV 0) oNo (oSo (eV 1))) (aCons (eIx (eV 0) (eOp pAdd (eV 1) (eC (.int 1)))) (aCons (eIx (eV 0) (eV 1)) (aStar (eSl (eV 0) (oSo (eOp pAdd (eV 1) (eC (.int 2)))) oNo) aNil))))))
def f_swapped : List PV → Sto → Res (PV × Sto) := runF 2 F_swapped
def F_exchanged_at : FS := (sSeq (sDrop (eCall f_check_word (aCons (eV 0) aNil))) (sSeq (sIf (tNo (tV (eCall f_is_within (aCons (eV 1) (aCons (eC (.int 1)) (aCons (eOp pSub (eUn pLen (eV 0)) (eC (.int 1))) aNil)))))) sX sNext) (sSeq (sDrop (eCall f_check_order (aCons (eV 0) aNil))) (sRet (eCall f_swapped (aCons (eV 0) (aCons (eOp pSub (eV 1) (eC (.int 1))) aNil)))))))
def f_exchanged_at : List PV → Sto → Res (PV × Sto) := runF 2 F_exchanged_at
def F_order_of_row : FS := (sSeq (sSet 2 (eTR (iR2 (aCons (eC (.int 1)) (aCons (eOp pAdd (eV 1) (eC (.int 1))) aNil))))) (sSeq (sFor (iSeq (eV 0)) (gN 3) (sSet 2 (eCall f_swapped (aCons (eV 2) (aCons (eOp pSub (eV 3) (eC (.int 1))) aNil))))) (sRet (eV 2))))
def f_order_of_row : List PV → Sto → Res (PV × Sto) := runF 4 F_order_of_row
def F_order_by : FS := (sSeq (sDrop (eCall f_check_word (aCons (eV 0) aNil))) (sSeq (sIf (tOrr (tNo (tV (eCall f_is_within (aCons (eV 1) (aCons (eC (.int 1)) (aCons (eC (.int 12)) aNil)))))) (tV (eUn pAny (eLc [2] (iSeq (eV 0)) (gN 2) tT (eOp pGe (eV 2) (eV 1)))))) sX sNext) (sRet (eCall f_order_of_row (aCons (eV 0) (aCons (eV 1) aNil))))))
def f_order_by : List PV → Sto → Res (PV × Sto) := runF 3 F_order_by
def F_is_reduced_row : FS := (sSeq (sSet 1 (eOp pAdd (eUn pMaxL (eB pLst (aCons (eC (.int 0)) (aStar (eV 0) aNil)))) (eC (.int 1)))) (sRet (eAnd (eOp pLe (eV 1) (eC (.int 12))) (eOp pEq (eCall f_inversions_of (aCons (eCall f_order_of_row (aCons (eV 0) (aCons (eV 1) aNil))) aNil)) (eUn pLen (eV 0))))))
def f_is_reduced_row : List PV → Sto → Res (PV × Sto) := runF 2 F_is_reduced_row
def F_is_reduced : FS := (sSeq (sDrop (eCall f_check_word (aCons (eV 0) aNil))) (sRet (eCall f_is_reduced_row (aCons (eV 0) aNil))))
def f_is_reduced : List PV → Sto → Res (PV × Sto) := runF 1 F_is_reduced
def F_descents_of : FS := (sRet (eUn pTupC (eLc [1] (iR1 (aCons (eOp pSub (eUn pLen (eV 0)) (eC (.int 1))) aNil)) (gN 1) (tV (eOp pGt (eIx (eV 0) (eV 1)) (eIx (eV 0) (eOp pAdd (eV 1) (eC (.int 1)))))) (eV 1))))
def f_descents_of : List PV → Sto → Res (PV × Sto) := runF 2 F_descents_of
def F_count_of : FS := (sSeq (sSet 1 (eDis true (fpCons (eV 0) (eC (.int 1)) fpNil))) (sSeq (sFor (iR1 (aCons (eCall f_inversions_of (aCons (eV 0) aNil)) aNil)) (gN 2) (sSeq (sOwn 3 (eC (.dic true [] []))) (sSeq (sFor (iItm (eV 1)) (gT 2 (gNc (gN 4) (gNc (gN 5) gNn))) (sFor (iSeq (eCall f_descents_of (aCons (eV 4) aNil))) (gN 6) (sSeq (sSet 7 (eCall f_swapped (aCons (eV 4) (aCons (eV 6) aNil)))) (sAsgG (eOp pAdd (eGet (eO 3) (eV 7) (eC (.int 0))) (eV 5)) (gOwn 3 (eV 7)))))) (sFrz 3 (sSet 1 (eV 3)))))) (sRet (eUn pSumV (eV 1)))))
def f_count_of : List PV → Sto → Res (PV × Sto) := runF 8 F_count_of
def F_rows_of_order : FS := (sSeq (sSet 1 (eDis true (fpCons (eV 0) (eB pLst (aCons (eB pTup aNil) aNil)) fpNil))) (sSeq (sFor (iR1 (aCons (eCall f_inversions_of (aCons (eV 0) aNil)) aNil)) (gN 2) (sSeq (sOwn 3 (eC (.dic true [] []))) (sSeq (sFor (iItm (eV 1)) (gT 2 (gNc (gN 4) (gNc (gN 5) gNn))) (sFor (iSeq (eCall f_descents_of (aCons (eV 4) aNil))) (gN 6) (sSeq (sSet 8 (eCall f_swapped (aCons (eV 4) (aCons (eV 6) aNil)))) (sAsgG (eOp pAdd (eGet (eO 3) (eV 8) (eB pLst aNil)) (eLc [7] (iSeq (eV 5)) (gN 7) tT (eB pTup (aCons (eOp pAdd (eV 6) (eC (.int 1))) (aStar (eV 7) aNil))))) (gOwn 3 (eV 8)))))) (sFrz 3 (sSet 1 (eV 3)))))) (sRet (eLc2 [5, 7] [7] (iVal (eV 1)) (gN 5) tT (iSeq (eV 5)) (gN 7) tT (eV 7)))))
def f_rows_of_order : List PV → Sto → Res (PV × Sto) := runF 9 F_rows_of_order
def F_check_inversions : FS := (sIf (tV (eOp pGt (eCall f_inversions_of (aCons (eV 0) aNil)) (eV 1))) sX sNext)
def f_check_inversions : List PV → Sto → Res (PV × Sto) := runF 2 F_check_inversions
def F_reduced_rows : FS := (sSeq (sDrop (eCall f_check_word (aCons (eV 0) aNil))) (sSeq (sDrop (eCall f_check_order (aCons (eV 0) aNil))) (sSeq (sDrop (eCall f_check_inversions (aCons (eV 0) (aCons (eC (.int 12)) aNil)))) (sSeq (sIf (tV (eOp pGt (eCall f_count_of (aCons (eV 0) aNil)) (eC (.int 2000)))) sX sNext) (sRet (eUn pTupC (eUn (pSrt (.seq .int)) (eCall f_rows_of_order (aCons (eV 0) aNil)))))))))
def f_reduced_rows : List PV → Sto → Res (PV × Sto) := runF 1 F_reduced_rows
def F_reduced_count : FS := (sSeq (sDrop (eCall f_check_word (aCons (eV 0) aNil))) (sSeq (sDrop (eCall f_check_order (aCons (eV 0) aNil))) (sSeq (sDrop (eCall f_check_inversions (aCons (eV 0) (aCons (eC (.int 12)) aNil)))) (sRet (eCall f_count_of (aCons (eV 0) aNil))))))
def f_reduced_count : List PV → Sto → Res (PV × Sto) := runF 1 F_reduced_count
def F_l_dip : FS := (sSeq (sAsgG (eOp pAdd (eIx (eV 0) (eC (.int 2))) (eC (.int 1))) (gSubO (eV 0) (eC (.int 2)))) (sSeq (sIf (tV (eOp pGt (eIx (eV 0) (eC (.int 0))) (eC (.int 0)))) (sSeq (sAsgG (eB pDivmod (aCons (eIx (eV 0) (eC (.int 0))) (aCons (eV 1) aNil))) (ggT 2 (ggCons (gSubO (eV 0) (eC (.int 0))) (ggCons (gOf (gN 2)) ggNil)))) (sRet (eV 2))) sNext) (sSeq (sAsgG (eOp pMod (eUn pInt (eOp pAdd (eOp pAdd (eOp pMulB (eIx (eV 0) (eC (.int 1))) (eC (.int 40014))) (eOp pMulB (eC (.int 7013)) (eIx (eV 0) (eC (.int 2))))) (eC (.int 9)))) (eC (.int 2147483587))) (gSubO (eV 0) (eC (.int 1)))) (sRet (eOp pMod (eUn pInt (eOp pDiv (eIx (eV 0) (eC (.int 1))) (eC (.int 928)))) (eV 1))))))
def f_l_dip : List PV → Sto → Res (PV × Sto) := runF 3 F_l_dip
def F_l_of : FS := (sRet (eIx (eV 1) (eCall f_l_dip (aCons (eV 0) (aCons (eUn pLen (eV 1)) aNil)))))
def f_l_of : List PV → Sto → Res (PV × Sto) := runF 2 F_l_of
def F_l_swapped : FS := (sRet (eOp pAdd (eOp pAdd (eSl (eV 0) oNo (oSo (eOp pSub (eV 1) (eC (.int 1))))) (eB pTup (aCons (eIx (eV 0) (eV 1)) (aCons (eIx (eV 0) (eOp pSub (eV 1) (eC (.int 1)))) aNil)))) (eSl (eV 0) (oSo (eOp pAdd (eV 1) (eC (.int 1)))) oNo)))
def f_l_swapped : List PV → Sto → Res (PV × Sto) := runF 2 F_l_swapped
def F_l_line : FS := (sSeq (sSet 3 (eTR (iR2 (aCons (eC (.int 1)) (aCons (eOp pAdd (eC (.int 2)) (eCall f_l_dip (aCons (eV 0) (aCons (eV 1) aNil)))) aNil))))) (sSeq (sFor (iR1 (aCons (eCall f_l_dip (aCons (eV 0) (aCons (eOp pAdd (eV 2) (eC (.int 1))) aNil))) aNil)) (gN 4) (sSeq (sOwn 5 (eLc [6] (iR2 (aCons (eC (.int 1)) (aCons (eUn pLen (eV 3)) aNil))) (gN 6) (tV (eOp pLt (eIx (eV 3) (eOp pSub (eV 6) (eC (.int 1)))) (eIx (eV 3) (eV 6)))) (eV 6))) (sFrz 5 (sIf (tV (eOp pNe (eV 5) (eB pLst aNil))) (sSet 3 (eCall f_l_swapped (aCons (eV 3) (aCons (eCall f_l_of (aCons (eV 0) (aCons (eV 5) aNil))) aNil)))) sNext)))) (sRet (eV 3))))
def f_l_line : List PV → Sto → Res (PV × Sto) := runF 7 F_l_line
def F_l_turned_pairs : FS := (sRet (eUn pSum (eLc [1] (iR1 (aCons (eUn pLen (eV 0)) aNil)) (gN 1) tT (eUn pLen (eLc [2] (iSeq (eSl (eV 0) (oSo (eOp pAdd (eV 1) (eC (.int 1)))) oNo)) (gN 2) (tV (eOp pLt (eV 2) (eIx (eV 0) (eV 1)))) (eV 2))))))
def f_l_turned_pairs : List PV → Sto → Res (PV × Sto) := runF 3 F_l_turned_pairs
def F_l_all_steps (self : List PV → Sto → Res (PV × Sto)) : FS := (sSeq (sIf (tV (eOp pEq (eCall f_l_turned_pairs (aCons (eV 0) aNil)) (eC (.int 0)))) (sRet (eB pLst (aCons (eB pTup aNil) aNil))) sNext) (sSeq (sSet 1 (eB pLst aNil)) (sSeq (sFor (iR2 (aCons (eC (.int 1)) (aCons (eUn pLen (eV 0)) aNil))) (gN 2) (sIf (tV (eOp pGt (eIx (eV 0) (eOp pSub (eV 2) (eC (.int 1)))) (eIx (eV 0) (eV 2)))) (sSet 1 (eOp pAdd (eV 1) (eLc [3] (iSeq (eCall self (aCons (eCall f_l_swapped (aCons (eV 0) (aCons (eV 2) aNil))) aNil))) (gN 3) tT (eOp pAdd (eV 3) (eB pTup (aCons (eV 2) aNil)))))) sNext)) (sRet (eUn (pSrt (.seq .int)) (eV 1))))))
def q_l_all_steps : Nat → List PV → Sto → Res (PV × Sto)
  | 0 => fun _ _ => .err
  | n + 1 => runF 4 (F_l_all_steps (q_l_all_steps n))
def f_l_all_steps : List PV → Sto → Res (PV × Sto) := q_l_all_steps 8
def F_word_braided : FS := (sSeq (sIf (tV (eOp pGe (eOp pAdd (eV 1) (eC (.int 1))) (eUn pLen (eV 0)))) (sRet (eC .non)) sNext) (sSeq (sPar 2 3 (aCons (eIx (eV 0) (eV 1)) (aCons (eIx (eV 0) (eOp pAdd (eV 1) (eC (.int 1)))) aNil))) (sSeq (sIf (tV (eOp pGt (eUn pAbs (eOp pSub (eV 2) (eV 3))) (eC (.int 1)))) (sRet (eCall f_swapped (aCons (eV 0) (aCons (eV 1) aNil)))) sNext) (sSeq (sIf (tAn (tV (eOp pEq (eUn pAbs (eOp pSub (eV 2) (eV 3))) (eC (.int 1)))) (tAn (tV (eOp pLt (eOp pAdd (eV 1) (eC (.int 2))) (eUn pLen (eV 0)))) (tV (eOp pEq (eIx (eV 0) (eOp pAdd (eV 1) (eC (.int 2)))) (eV 2))))) (sRet (eB pTup (aStar (eSl (eV 0) oNo (oSo (eV 1))) (aCons (eV 3) (aCons (eV 2) (aCons (eV 3) (aStar (eSl (eV 0) (oSo (eOp pAdd (eV 1) (eC (.int 3)))) oNo) aNil))))))) sNext) (sRet (eC .non))))))
def f_word_braided : List PV → Sto → Res (PV × Sto) := runF 4 F_word_braided
def F_braids : FS := (sSeq (sDrop (eCall f_check_word (aCons (eV 0) aNil))) (sRet (eUn pTupC (eLc [1] (iR1 (aCons (eUn pLen (eV 0)) aNil)) (gN 1) (tV (eOp pNotN (eCall f_word_braided (aCons (eV 0) (aCons (eV 1) aNil))) (eC .non))) (eV 1)))))
def f_braids : List PV → Sto → Res (PV × Sto) := runF 2 F_braids
def F_braided : FS := (sSeq (sDrop (eCall f_check_word (aCons (eV 0) aNil))) (sSeq (sIf (tNo (tV (eCall f_is_within (aCons (eV 1) (aCons (eC (.int 0)) (aCons (eOp pSub (eUn pLen (eV 0)) (eC (.int 1))) aNil)))))) sX sNext) (sSeq (sSet 2 (eCall f_word_braided (aCons (eV 0) (aCons (eV 1) aNil)))) (sSeq (sIf (tV (eOp pIsN (eV 2) (eC .non))) sX sNext) (sRet (eV 2))))))
def f_braided : List PV → Sto → Res (PV × Sto) := runF 3 F_braided
def F_l_braid : FS := (sSeq (sIf (tAn (tV (eOp pLt (eOp pAdd (eV 1) (eC (.int 1))) (eUn pLen (eV 0)))) (tV (eOp pGt (eUn pAbs (eOp pSub (eIx (eV 0) (eV 1)) (eIx (eV 0) (eOp pAdd (eV 1) (eC (.int 1)))))) (eC (.int 1))))) (sRet (eOp pAdd (eOp pAdd (eSl (eV 0) oNo (oSo (eV 1))) (eB pTup (aCons (eIx (eV 0) (eOp pAdd (eV 1) (eC (.int 1)))) (aCons (eIx (eV 0) (eV 1)) aNil)))) (eSl (eV 0) (oSo (eOp pAdd (eV 1) (eC (.int 2)))) oNo))) sNext) (sSeq (sIf (tAn (tV (eOp pLt (eOp pAdd (eV 1) (eC (.int 2))) (eUn pLen (eV 0)))) (tAn (tV (eOp pEq (eIx (eV 0) (eV 1)) (eIx (eV 0) (eOp pAdd (eV 1) (eC (.int 2)))))) (tV (eOp pEq (eUn pAbs (eOp pSub (eIx (eV 0) (eV 1)) (eIx (eV 0) (eOp pAdd (eV 1) (eC (.int 1)))))) (eC (.int 1)))))) (sRet (eOp pAdd (eOp pAdd (eSl (eV 0) oNo (oSo (eV 1))) (eB pTup (aCons (eIx (eV 0) (eOp pAdd (eV 1) (eC (.int 1)))) (aCons (eIx (eV 0) (eV 1)) (aCons (eIx (eV 0) (eOp pAdd (eV 1) (eC (.int 1)))) aNil))))) (eSl (eV 0) (oSo (eOp pAdd (eV 1) (eC (.int 3)))) oNo))) sNext) (sRet (eB pTup aNil))))
def f_l_braid : List PV → Sto → Res (PV × Sto) := runF 2 F_l_braid
def F_l_braids_right : FS := (sSeq (sParFF 2 3 (eC (.dic true [] [])) (eB pLst (aCons (eIx (eV 0) (eUn pNeg (eC (.int 1)))) aNil))) (sSeq (sFor (iR1 (aCons (eOp pAdd (eOp pMulB (eUn pLen (eV 0)) (eC (.int 12))) (eC (.int 12))) aNil)) (gN 1) (sIf (tV (eOp pNe (eO 3) (eB pLst aNil))) (sSeq (sPop 3 (gOf (gN 4))) (sIf (tV (eOp pNotIn (eV 4) (eO 2))) (sSeq (sAsgG (eC (.bl true)) (gOwn 2 (eV 4))) (sSeq (sSet 5 (eCall f_braids (aCons (eV 4) aNil))) (sSeq (sIf (tV (eOp pNe (eV 5) (eUn pTupC (eLc [6] (iR1 (aCons (eUn pLen (eV 4)) aNil)) (gN 6) (tV (eOp pNe (eCall f_l_braid (aCons (eV 4) (aCons (eV 6) aNil))) (eB pTup aNil))) (eV 6))))) (sRet (eC (.bl false))) sNext) (sFor (iSeq (eV 5)) (gN 6) (sSeq (sSet 7 (eCall f_braided (aCons (eV 4) (aCons (eV 6) aNil)))) (sSeq (sIf (tOrr (tV (eOp pNe (eV 7) (eCall f_l_braid (aCons (eV 4) (aCons (eV 6) aNil))))) (tV (eOp pNe (eCallP f_braided swap2 (aCons (eV 6) (aCons (eV 7) aNil))) (eV 4)))) (sRet (eC (.bl false))) sNext) (sApp 3 (eV 7)))))))) sNext)) sNext)) (sRet (eAnd (eOp pEq (eUn (pSrt (.seq .int)) (eO 2)) (eV 0)) (eOp pEq (eO 3) (eB pLst aNil))))))
def f_l_braids_right : List PV → Sto → Res (PV × Sto) := runF 8 F_l_braids_right
def F_l_walked : FS := (sSeq (sSet 2 (eTR (iR2 (aCons (eC (.int 1)) (aCons (eOp pAdd (eV 1) (eC (.int 1))) aNil))))) (sSeq (sFor (iSeq (eV 0)) (gN 3) (sSet 2 (eCall f_l_swapped (aCons (eV 2) (aCons (eV 3) aNil))))) (sRet (eV 2))))
def f_l_walked : List PV → Sto → Res (PV × Sto) := runF 4 F_l_walked
def F_l_is_short : FS := (sSeq (sSet 1 (eOp pAdd (eUn pMaxL (eOp pAdd (eB pLst (aCons (eC (.int 0)) aNil)) (eUn pLstC (eV 0)))) (eC (.int 1)))) (sRet (eAnd (eOp pLt (eV 1) (eC (.int 13))) (eOp pEq (eCall f_l_turned_pairs (aCons (eCall f_l_walked (aCons (eV 0) (aCons (eV 1) aNil))) aNil)) (eUn pLen (eV 0))))))
def f_l_is_short : List PV → Sto → Res (PV × Sto) := runF 2 F_l_is_short
def F_l_near_right : FS := (sSeq (sPar 6 7 (aCons (eCall f_l_dip (aCons (eV 0) (aCons (eOp pAdd (eUn pLen (eV 1)) (eC (.int 1))) aNil))) (aCons (eB pTup (aCons (eOp pAdd (eC (.int 1)) (eCall f_l_dip (aCons (eV 0) (aCons (eC (.int 12)) aNil)))) aNil)) aNil))) (sSeq (sPar 8 9 (aCons (eCall f_l_dip (aCons (eV 0) (aCons (eC (.int 3)) aNil))) (aCons (eCall f_l_dip (aCons (eV 0) (aCons (eC (.int 2)) aNil))) aNil))) (sSeq (sSet 3 (eOp pAdd (eOp pAdd (eSl (eV 1) oNo (oSo (eV 6))) (eOp pMulB (eV 7) (eV 8))) (eSl (eV 1) (oSo (eOp pAdd (eV 6) (eV 9))) oNo))) (sSeq (sIf (tV (eOp (pRpr false) (eB pLst (aCons (eCall f_is_reduced (aCons (eV 3) aNil)) (aCons (eCallK f_is_reduced aNil (aCons (eV 3) aNil)) aNil))) (eOp pMulB (eB pLst (aCons (eCall f_l_is_short (aCons (eV 3) aNil)) aNil)) (eC (.int 2))))) (sRet (eC (.bl false))) sNext) (sSeq (sSet 4 (eUn pMaxL (eOp pAdd (eB pLst (aCons (eUn pLen (eV 2)) (aCons (eC (.int 1)) aNil))) (eLc [10] (iSeq (eV 3)) (gN 10) tT (eOp pAdd (eV 10) (eC (.int 1))))))) (sSeq (sSet 5 (eIf (tV (eOp pLt (eV 4) (eC (.int 13)))) (eCall f_l_walked (aCons (eV 3) (aCons (eV 4) aNil))) (eB pTup aNil))) (sRet (eOr (eOp pGt (eV 4) (eC (.int 12))) (eOp pEq (eB pLst (aCons (eCall f_order_by (aCons (eV 3) (aCons (eV 4) aNil))) (aCons (eCallP f_order_by swap2 (aCons (eV 4) (aCons (eV 3) aNil))) aNil))) (eB pLst (aCons (eV 5) (aCons (eV 5) aNil))))))))))))
def f_l_near_right : List PV → Sto → Res (PV × Sto) := runF 11 F_l_near_right
def F_l_right : FS := (sSeq (sSet 1 (eCall f_l_line (aCons (eV 0) (aCons (eC (.int 5)) (aCons (eC (.int 6)) aNil))))) (sSeq (sAsg (eB pTup (aCons (eCall f_l_all_steps (aCons (eV 1) aNil)) (aCons (eUn pLen (eV 1)) aNil))) (gT 2 (gNc (gN 5) (gNc (gN 6) gNn)))) (sSeq (sSet 2 (eB pLst (aCons (eCall f_l_turned_pairs (aCons (eV 1) aNil)) (aCons (eUn pLen (eV 5)) (aCons (eUn pTupC (eV 5)) aNil))))) (sSeq (sIf (tV (eOp pNe (eB pLst (aCons (eCall f_inversion_count (aCons (eV 1) aNil)) (aCons (eCall f_reduced_count (aCons (eV 1) aNil)) (aCons (eCall f_reduced_rows (aCons (eV 1) aNil)) aNil)))) (eV 2))) (sRet (eC (.bl false))) sNext) (sSeq (sIf (tV (eOp pNe (eB pLst (aCons (eCallK f_inversion_count aNil (aCons (eV 1) aNil)) (aCons (eCallK f_reduced_count aNil (aCons (eV 1) aNil)) (aCons (eCallK f_reduced_rows aNil (aCons (eV 1) aNil)) aNil)))) (eV 2))) (sRet (eC (.bl false))) sNext) (sSeq (sFor (iR2 (aCons (eC (.int 1)) (aCons (eV 6) aNil))) (gN 3) (sSeq (sIf (tV (eOp pNe (eB pLst (aCons (eCall f_exchanged_at (aCons (eV 1) (aCons (eV 3) aNil))) (aCons (eCallP f_exchanged_at swap2 (aCons (eV 3) (aCons (eV 1) aNil))) aNil))) (eOp pMulB (eB pLst (aCons (eCall f_l_swapped (aCons (eV 1) (aCons (eV 3) aNil))) aNil)) (eC (.int 2))))) (sRet (eC (.bl false))) sNext) (sIf (tV (eOp pNe (eUn pAbs (eOp pSub (eCall f_inversion_count (aCons (eCall f_exchanged_at (aCons (eV 1) (aCons (eV 3) aNil))) aNil)) (eIx (eV 2) (eC (.int 0))))) (eC (.int 1)))) (sRet (eC (.bl false))) sNext))) (sSeq (sFor (iSeq (eV 5)) (gN 4) (sIf (tOrr (tV (eOp pNe (eCall f_order_by (aCons (eV 4) (aCons (eV 6) aNil))) (eV 1))) (tV (eOp pNotB (eCall f_is_reduced (aCons (eV 4) aNil)) (eC (.bl true))))) (sRet (eC (.bl false))) sNext)) (sSeq (sIf (tNo (tV (eCall f_l_braids_right (aCons (eV 5) aNil)))) (sRet (eC (.bl false))) sNext) (sRet (eUn pAll (eLc [7] (iR1 (aCons (eC (.int 6)) aNil)) (gN 7) tT (eCall f_l_near_right (aCons (eV 0) (aCons (eCall f_l_of (aCons (eV 0) (aCons (eV 5) aNil))) (aCons (eV 1) aNil)))))))))))))))
def f_l_right : List PV → Sto → Res (PV × Sto) := runF 8 F_l_right
def F_law : FS := (sRet (eUn pAll (eLc [1] (iR1 (aCons (eB pMax2 (aCons (eC (.int 2)) (aCons (eB pMin2 (aCons (eUn pLen (eV 0)) (aCons (eC (.int 4)) aNil))) aNil))) aNil)) (gN 1) tT (eCall f_l_right (aCons (eCall f_l_tap (aCons (eV 0) (aCons (eV 1) aNil))) aNil)))))
def f_law : List PV → Sto → Res (PV × Sto) := runF 2 F_law
/-! ### facts of the top -/
structure Facts (K : PySem.W.Frag) (mg : Str → Option Value) : Prop where
  f_abs : mg "abs" = none
  f_all : mg "all" = none
  f_any : mg "any" = none
  f_bool : mg "bool" = none
  f_divmod : mg "divmod" = none
  f_enumerate : mg "enumerate" = none
  f_int : mg "int" = none
  f_isinstance : mg "isinstance" = none
  f_len : mg "len" = none
  f_list : mg "list" = none
  f_max : mg "max" = none
  f_min : mg "min" = none
  f_range : mg "range" = none
  f_repr : mg "repr" = none
  f_sorted : mg "sorted" = none
  f_sum : mg "sum" = none
  f_tuple : mg "tuple" = none
  c_MOST_LETTER : ∃ t, mg "MOST_LETTER" = some (.int 12 t)
  c_MOST_LISTED : ∃ t, mg "MOST_LISTED" = some (.int 2000 t)
  c_MOST_LONG : ∃ t, mg "MOST_LONG" = some (.int 12 t)
  d_l_tap : Def1 K mg "_law_tap" s_l_tap
  d_is_integer : Def1 K mg "is_integer" s_is_integer
  d_is_within : Def1 K mg "is_within" s_is_within
  d_is_letter : Def1 K mg "is_letter" s_is_letter
  d_is_word : Def1 K mg "is_word" s_is_word
  d_check_word : Def1 K mg "check_word" s_check_word
  d_is_order : Def1 K mg "is_order" s_is_order
  d_check_order : Def1 K mg "check_order" s_check_order
  d_inversions_of : Def1 K mg "inversions_of" s_inversions_of
  d_inversion_count : Def1 K mg "inversion_count" s_inversion_count
  d_swapped : Def1 K mg "swapped" s_swapped
  d_exchanged_at : Def1 K mg "exchanged_at" s_exchanged_at
  d_order_of_row : Def1 K mg "order_of_row" s_order_of_row
  d_order_by : Def1 K mg "order_by" s_order_by
  d_is_reduced_row : Def1 K mg "is_reduced_row" s_is_reduced_row
  d_is_reduced : Def1 K mg "is_reduced" s_is_reduced
  d_descents_of : Def1 K mg "descents_of" s_descents_of
  d_count_of : Def1 K mg "count_of" s_count_of
  d_rows_of_order : Def1 K mg "rows_of_order" s_rows_of_order
  d_check_inversions : Def1 K mg "check_inversions" s_check_inversions
  d_reduced_rows : Def1 K mg "reduced_rows" s_reduced_rows
  d_reduced_count : Def1 K mg "reduced_count" s_reduced_count
  d_l_dip : Def1 K mg "_law_dip" s_l_dip
  d_l_of : Def1 K mg "_law_of" s_l_of
  d_l_swapped : Def1 K mg "_law_swapped" s_l_swapped
  d_l_line : Def1 K mg "_law_line" s_l_line
  d_l_turned_pairs : Def1 K mg "_law_turned_pairs" s_l_turned_pairs
  d_l_all_steps : Def1 K mg "_law_all_steps" s_l_all_steps
  d_word_braided : Def1 K mg "word_braided" s_word_braided
  d_braids : Def1 K mg "braids" s_braids
  d_braided : Def1 K mg "braided" s_braided
  d_l_braid : Def1 K mg "_law_braid" s_l_braid
  d_l_braids_right : Def1 K mg "_law_braids_right" s_l_braids_right
  d_l_walked : Def1 K mg "_law_walked" s_l_walked
  d_l_is_short : Def1 K mg "_law_is_short" s_l_is_short
  d_l_near_right : Def1 K mg "_law_near_right" s_l_near_right
  d_l_right : Def1 K mg "_law_right" s_l_right
  d_law : Def1 K mg "law" s_law
theorem sc_l_tap : FnScope ["_law_script", "_law_turn", "_law_state", "_law_each", "_law_own"] ["_law_script", "_law_turn"] (defScope s_l_tap) := ⟨rfl, rfl, rfl, by decide +kernel, rfl, by decide +kernel, by decide +kernel⟩
theorem pb_l_tap : PosB "_law_tap" s_l_tap ["_law_script", "_law_turn"] := fun _ _ _ _ _ _ us hl => match us, hl with | [_, _], _ => rfl
theorem sc_is_integer : FnScope ["value"] ["value"] (defScope s_is_integer) := ⟨rfl, rfl, rfl, by decide +kernel, rfl, by decide +kernel, by decide +kernel⟩
theorem pb_is_integer : PosB "is_integer" s_is_integer ["value"] := fun _ _ _ _ _ _ us hl => match us, hl with | [_], _ => rfl
theorem sc_is_within : FnScope ["value", "low", "high"] ["value", "low", "high"] (defScope s_is_within) := ⟨rfl, rfl, rfl, by decide +kernel, rfl, by decide +kernel, by decide +kernel⟩
theorem pb_is_within : PosB "is_within" s_is_within ["value", "low", "high"] := fun _ _ _ _ _ _ us hl => match us, hl with | [_, _, _], _ => rfl
theorem sc_is_letter : FnScope ["value"] ["value"] (defScope s_is_letter) := ⟨rfl, rfl, rfl, by decide +kernel, rfl, by decide +kernel, by decide +kernel⟩
theorem pb_is_letter : PosB "is_letter" s_is_letter ["value"] := fun _ _ _ _ _ _ us hl => match us, hl with | [_], _ => rfl
theorem sc_is_word : FnScope ["value", "letter"] ["value"] (defScope s_is_word) := ⟨rfl, rfl, rfl, by decide +kernel, rfl, by decide +kernel, by decide +kernel⟩
theorem pb_is_word : PosB "is_word" s_is_word ["value"] := fun _ _ _ _ _ _ us hl => match us, hl with | [_], _ => rfl
theorem b_is_word_0 : BlkOk ["value", "letter"] (defScope s_is_word) { kind := PySem.ScopeKind.function, names := [ (PySem.Str.ofString ".0", PySem.NameKind.local), (PySem.Str.ofString "letter", PySem.NameKind.local), (PySem.Str.ofString "is_letter", PySem.NameKind.globalImplicit)], isGenerator := false, isCoroutine := false, more := [] : PySem.Scope } [("letter", 1)] := ⟨rfl, by decide +kernel, by decide +kernel, by decide +kernel, by decide +kernel⟩
theorem sc_check_word : FnScope ["value"] ["value"] (defScope s_check_word) := ⟨rfl, rfl, rfl, by decide +kernel, rfl, by decide +kernel, by decide +kernel⟩
theorem pb_check_word : PosB "check_word" s_check_word ["value"] := fun _ _ _ _ _ _ us hl => match us, hl with | [_], _ => rfl
theorem sc_is_order : FnScope ["word"] ["word"] (defScope s_is_order) := ⟨rfl, rfl, rfl, by decide +kernel, rfl, by decide +kernel, by decide +kernel⟩
theorem pb_is_order : PosB "is_order" s_is_order ["word"] := fun _ _ _ _ _ _ us hl => match us, hl with | [_], _ => rfl
theorem sc_check_order : FnScope ["order"] ["order"] (defScope s_check_order) := ⟨rfl, rfl, rfl, by decide +kernel, rfl, by decide +kernel, by decide +kernel⟩
theorem pb_check_order : PosB "check_order" s_check_order ["order"] := fun _ _ _ _ _ _ us hl => match us, hl with | [_], _ => rfl
theorem sc_inversions_of : FnScope ["order", "place", "letter", "later"] ["order"] (defScope s_inversions_of) := ⟨rfl, rfl, rfl, by decide +kernel, rfl, by decide +kernel, by decide +kernel⟩
theorem pb_inversions_of : PosB "inversions_of" s_inversions_of ["order"] := fun _ _ _ _ _ _ us hl => match us, hl with | [_], _ => rfl
theorem b_inversions_of_0 : BlkOk ["order", "place", "letter", "later"] (defScope s_inversions_of) { kind := PySem.ScopeKind.function, names := [ (PySem.Str.ofString ".0", PySem.NameKind.local), (PySem.Str.ofString "place", PySem.NameKind.local), (PySem.Str.ofString "letter", PySem.NameKind.cell), (PySem.Str.ofString "len", PySem.NameKind.globalImplicit), (PySem.Str.ofString "order", PySem.NameKind.free)], isGenerator := false, isCoroutine := false, more := [] : PySem.Scope } [("place", 1), ("letter", 2)] := ⟨rfl, by decide +kernel, by decide +kernel, by decide +kernel, by decide +kernel⟩
theorem b_inversions_of_1 : BlkOk ["order", "place", "letter", "later"] ({ kind := PySem.ScopeKind.function, names := [ (PySem.Str.ofString ".0", PySem.NameKind.local), (PySem.Str.ofString "place", PySem.NameKind.local), (PySem.Str.ofString "letter", PySem.NameKind.cell), (PySem.Str.ofString "len", PySem.NameKind.globalImplicit), (PySem.Str.ofString "order", PySem.NameKind.cell)], isGenerator := false, isCoroutine := false, more := [] : PySem.Scope }) { kind := PySem.ScopeKind.function, names := [ (PySem.Str.ofString ".0", PySem.NameKind.local), (PySem.Str.ofString "later", PySem.NameKind.local), (PySem.Str.ofString "letter", PySem.NameKind.free)], isGenerator := false, isCoroutine := false, more := [] : PySem.Scope } [("later", 3)] := ⟨rfl, by decide +kernel, by decide +kernel, by decide +kernel, by decide +kernel⟩
theorem sc_inversion_count : FnScope ["order"] ["order"] (defScope s_inversion_count) := ⟨rfl, rfl, rfl, by decide +kernel, rfl, by decide +kernel, by decide +kernel⟩
theorem pb_inversion_count : PosB "inversion_count" s_inversion_count ["order"] := fun _ _ _ _ _ _ us hl => match us, hl with | [_], _ => rfl
theorem kw_inversion_count : KwB "inversion_count" s_inversion_count ["order"] 0 := fun _ _ _ _ _ _ us ws h1 h2 => match us, ws, h1, h2 with | [], [_], _, _ => rfl
theorem sc_swapped : FnScope ["word", "place"] ["word", "place"] (defScope s_swapped) := ⟨rfl, rfl, rfl, by decide +kernel, rfl, by decide +kernel, by decide +kernel⟩
theorem pb_swapped : PosB "swapped" s_swapped ["word", "place"] := fun _ _ _ _ _ _ us hl => match us, hl with | [_, _], _ => rfl
theorem sc_exchanged_at : FnScope ["order", "letter"] ["order", "letter"] (defScope s_exchanged_at) := ⟨rfl, rfl, rfl, by decide +kernel, rfl, by decide +kernel, by decide +kernel⟩
theorem pb_exchanged_at : PosB "exchanged_at" s_exchanged_at ["order", "letter"] := fun _ _ _ _ _ _ us hl => match us, hl with | [_, _], _ => rfl
theorem kp_exchanged_at : KwP "exchanged_at" s_exchanged_at ["order", "letter"] ["letter", "order"] swap2 := fun _ _ _ _ _ _ ws h => match ws, h with | [_, _], _ => rfl
theorem sc_order_of_row : FnScope ["row", "size", "found", "letter"] ["row", "size"] (defScope s_order_of_row) := ⟨rfl, rfl, rfl, by decide +kernel, rfl, by decide +kernel, by decide +kernel⟩
theorem pb_order_of_row : PosB "order_of_row" s_order_of_row ["row", "size"] := fun _ _ _ _ _ _ us hl => match us, hl with | [_, _], _ => rfl
theorem sc_order_by : FnScope ["row", "size", "letter"] ["row", "size"] (defScope s_order_by) := ⟨rfl, rfl, rfl, by decide +kernel, rfl, by decide +kernel, by decide +kernel⟩
theorem pb_order_by : PosB "order_by" s_order_by ["row", "size"] := fun _ _ _ _ _ _ us hl => match us, hl with | [_, _], _ => rfl
theorem kp_order_by : KwP "order_by" s_order_by ["row", "size"] ["size", "row"] swap2 := fun _ _ _ _ _ _ ws h => match ws, h with | [_, _], _ => rfl
theorem b_order_by_0 : BlkOk ["row", "size", "letter"] (defScope s_order_by) { kind := PySem.ScopeKind.function, names := [ (PySem.Str.ofString ".0", PySem.NameKind.local), (PySem.Str.ofString "letter", PySem.NameKind.local), (PySem.Str.ofString "size", PySem.NameKind.free)], isGenerator := false, isCoroutine := false, more := [] : PySem.Scope } [("letter", 2)] := ⟨rfl, by decide +kernel, by decide +kernel, by decide +kernel, by decide +kernel⟩
theorem sc_is_reduced_row : FnScope ["row", "size"] ["row"] (defScope s_is_reduced_row) := ⟨rfl, rfl, rfl, by decide +kernel, rfl, by decide +kernel, by decide +kernel⟩
theorem pb_is_reduced_row : PosB "is_reduced_row" s_is_reduced_row ["row"] := fun _ _ _ _ _ _ us hl => match us, hl with | [_], _ => rfl
theorem sc_is_reduced : FnScope ["row"] ["row"] (defScope s_is_reduced) := ⟨rfl, rfl, rfl, by decide +kernel, rfl, by decide +kernel, by decide +kernel⟩
theorem pb_is_reduced : PosB "is_reduced" s_is_reduced ["row"] := fun _ _ _ _ _ _ us hl => match us, hl with | [_], _ => rfl
theorem kw_is_reduced : KwB "is_reduced" s_is_reduced ["row"] 0 := fun _ _ _ _ _ _ us ws h1 h2 => match us, ws, h1, h2 with | [], [_], _, _ => rfl
theorem sc_descents_of : FnScope ["word", "place"] ["word"] (defScope s_descents_of) := ⟨rfl, rfl, rfl, by decide +kernel, rfl, by decide +kernel, by decide +kernel⟩
theorem pb_descents_of : PosB "descents_of" s_descents_of ["word"] := fun _ _ _ _ _ _ us hl => match us, hl with | [_], _ => rfl
theorem b_descents_of_0 : BlkOk ["word", "place"] (defScope s_descents_of) { kind := PySem.ScopeKind.function, names := [ (PySem.Str.ofString ".0", PySem.NameKind.local), (PySem.Str.ofString "place", PySem.NameKind.local), (PySem.Str.ofString "word", PySem.NameKind.free)], isGenerator := false, isCoroutine := false, more := [] : PySem.Scope } [("place", 1)] := ⟨rfl, by decide +kernel, by decide +kernel, by decide +kernel, by decide +kernel⟩
theorem sc_count_of : FnScope ["order", "now", "turn", "later", "here", "many", "place", "there"] ["order"] (defScope s_count_of) := ⟨rfl, rfl, rfl, by decide +kernel, rfl, by decide +kernel, by decide +kernel⟩
theorem pb_count_of : PosB "count_of" s_count_of ["order"] := fun _ _ _ _ _ _ us hl => match us, hl with | [_], _ => rfl
theorem sc_rows_of_order : FnScope ["order", "now", "turn", "later", "here", "rows", "place", "row", "there"] ["order"] (defScope s_rows_of_order) := ⟨rfl, rfl, rfl, by decide +kernel, rfl, by decide +kernel, by decide +kernel⟩
theorem pb_rows_of_order : PosB "rows_of_order" s_rows_of_order ["order"] := fun _ _ _ _ _ _ us hl => match us, hl with | [_], _ => rfl
theorem b_rows_of_order_0 : BlkOk ["order", "now", "turn", "later", "here", "rows", "place", "row", "there"] (defScope s_rows_of_order) { kind := PySem.ScopeKind.function, names := [ (PySem.Str.ofString ".0", PySem.NameKind.local), (PySem.Str.ofString "row", PySem.NameKind.local), (PySem.Str.ofString "place", PySem.NameKind.free)], isGenerator := false, isCoroutine := false, more := [] : PySem.Scope } [("row", 7)] := ⟨rfl, by decide +kernel, by decide +kernel, by decide +kernel, by decide +kernel⟩
theorem b_rows_of_order_1 : BlkOk ["order", "now", "turn", "later", "here", "rows", "place", "row", "there"] (defScope s_rows_of_order) { kind := PySem.ScopeKind.function, names := [ (PySem.Str.ofString ".0", PySem.NameKind.local), (PySem.Str.ofString "rows", PySem.NameKind.local), (PySem.Str.ofString "row", PySem.NameKind.local)], isGenerator := false, isCoroutine := false, more := [] : PySem.Scope } [("rows", 5), ("row", 7)] := ⟨rfl, by decide +kernel, by decide +kernel, by decide +kernel, by decide +kernel⟩
theorem sc_check_inversions : FnScope ["order", "most"] ["order", "most"] (defScope s_check_inversions) := ⟨rfl, rfl, rfl, by decide +kernel, rfl, by decide +kernel, by decide +kernel⟩
theorem pb_check_inversions : PosB "check_inversions" s_check_inversions ["order", "most"] := fun _ _ _ _ _ _ us hl => match us, hl with | [_, _], _ => rfl
theorem sc_reduced_rows : FnScope ["order"] ["order"] (defScope s_reduced_rows) := ⟨rfl, rfl, rfl, by decide +kernel, rfl, by decide +kernel, by decide +kernel⟩
theorem pb_reduced_rows : PosB "reduced_rows" s_reduced_rows ["order"] := fun _ _ _ _ _ _ us hl => match us, hl with | [_], _ => rfl
theorem kw_reduced_rows : KwB "reduced_rows" s_reduced_rows ["order"] 0 := fun _ _ _ _ _ _ us ws h1 h2 => match us, ws, h1, h2 with | [], [_], _, _ => rfl
theorem sc_reduced_count : FnScope ["order"] ["order"] (defScope s_reduced_count) := ⟨rfl, rfl, rfl, by decide +kernel, rfl, by decide +kernel, by decide +kernel⟩
theorem pb_reduced_count : PosB "reduced_count" s_reduced_count ["order"] := fun _ _ _ _ _ _ us hl => match us, hl with | [_], _ => rfl
theorem kw_reduced_count : KwB "reduced_count" s_reduced_count ["order"] 0 := fun _ _ _ _ _ _ us ws h1 h2 => match us, ws, h1, h2 with | [], [_], _, _ => rfl
theorem sc_l_dip : FnScope ["_law_tap_here", "_law_many", "_law_digit"] ["_law_tap_here", "_law_many"] (defScope s_l_dip) := ⟨rfl, rfl, rfl, by decide +kernel, rfl, by decide +kernel, by decide +kernel⟩
theorem pb_l_dip : PosB "_law_dip" s_l_dip ["_law_tap_here", "_law_many"] := fun _ _ _ _ _ _ us hl => match us, hl with | [_, _], _ => rfl
theorem sc_l_of : FnScope ["_law_tap_here", "_law_some"] ["_law_tap_here", "_law_some"] (defScope s_l_of) := ⟨rfl, rfl, rfl, by decide +kernel, rfl, by decide +kernel, by decide +kernel⟩
theorem pb_l_of : PosB "_law_of" s_l_of ["_law_tap_here", "_law_some"] := fun _ _ _ _ _ _ us hl => match us, hl with | [_, _], _ => rfl
theorem sc_l_swapped : FnScope ["_law_line_here", "_law_k"] ["_law_line_here", "_law_k"] (defScope s_l_swapped) := ⟨rfl, rfl, rfl, by decide +kernel, rfl, by decide +kernel, by decide +kernel⟩
theorem pb_l_swapped : PosB "_law_swapped" s_l_swapped ["_law_line_here", "_law_k"] := fun _ _ _ _ _ _ us hl => match us, hl with | [_, _], _ => rfl
theorem sc_l_line : FnScope ["_law_tap_here", "_law_most", "_law_many", "_law_line_here", "_law_turn", "_law_free", "_law_k"] ["_law_tap_here", "_law_most", "_law_many"] (defScope s_l_line) := ⟨rfl, rfl, rfl, by decide +kernel, rfl, by decide +kernel, by decide +kernel⟩
theorem pb_l_line : PosB "_law_line" s_l_line ["_law_tap_here", "_law_most", "_law_many"] := fun _ _ _ _ _ _ us hl => match us, hl with | [_, _, _], _ => rfl
theorem b_l_line_0 : BlkOk ["_law_tap_here", "_law_most", "_law_many", "_law_line_here", "_law_turn", "_law_free", "_law_k"] (defScope s_l_line) { kind := PySem.ScopeKind.function, names := [ (PySem.Str.ofString ".0", PySem.NameKind.local), (PySem.Str.ofString "_law_k", PySem.NameKind.local), (PySem.Str.ofString "_law_line_here", PySem.NameKind.free)], isGenerator := false, isCoroutine := false, more := [] : PySem.Scope } [("_law_k", 6)] := ⟨rfl, by decide +kernel, by decide +kernel, by decide +kernel, by decide +kernel⟩
theorem sc_l_turned_pairs : FnScope ["_law_line_here", "_law_at", "_law_x"] ["_law_line_here"] (defScope s_l_turned_pairs) := ⟨rfl, rfl, rfl, by decide +kernel, rfl, by decide +kernel, by decide +kernel⟩
theorem pb_l_turned_pairs : PosB "_law_turned_pairs" s_l_turned_pairs ["_law_line_here"] := fun _ _ _ _ _ _ us hl => match us, hl with | [_], _ => rfl
theorem b_l_turned_pairs_0 : BlkOk ["_law_line_here", "_law_at", "_law_x"] (defScope s_l_turned_pairs) { kind := PySem.ScopeKind.function, names := [ (PySem.Str.ofString ".0", PySem.NameKind.local), (PySem.Str.ofString "_law_at", PySem.NameKind.cell), (PySem.Str.ofString "len", PySem.NameKind.globalImplicit), (PySem.Str.ofString "_law_line_here", PySem.NameKind.free)], isGenerator := false, isCoroutine := false, more := [] : PySem.Scope } [("_law_at", 1)] := ⟨rfl, by decide +kernel, by decide +kernel, by decide +kernel, by decide +kernel⟩
theorem b_l_turned_pairs_1 : BlkOk ["_law_line_here", "_law_at", "_law_x"] ({ kind := PySem.ScopeKind.function, names := [ (PySem.Str.ofString ".0", PySem.NameKind.local), (PySem.Str.ofString "_law_at", PySem.NameKind.cell), (PySem.Str.ofString "len", PySem.NameKind.globalImplicit), (PySem.Str.ofString "_law_line_here", PySem.NameKind.cell)], isGenerator := false, isCoroutine := false, more := [] : PySem.Scope }) { kind := PySem.ScopeKind.function, names := [ (PySem.Str.ofString ".0", PySem.NameKind.local), (PySem.Str.ofString "_law_x", PySem.NameKind.local), (PySem.Str.ofString "_law_at", PySem.NameKind.free), (PySem.Str.ofString "_law_line_here", PySem.NameKind.free)], isGenerator := false, isCoroutine := false, more := [] : PySem.Scope } [("_law_x", 2)] := ⟨rfl, by decide +kernel, by decide +kernel, by decide +kernel, by decide +kernel⟩
theorem sc_l_all_steps : FnScope ["_law_line_here", "_law_found", "_law_k", "_law_some"] ["_law_line_here"] (defScope s_l_all_steps) := ⟨rfl, rfl, rfl, by decide +kernel, rfl, by decide +kernel, by decide +kernel⟩
theorem pb_l_all_steps : PosB "_law_all_steps" s_l_all_steps ["_law_line_here"] := fun _ _ _ _ _ _ us hl => match us, hl with | [_], _ => rfl
theorem b_l_all_steps_0 : BlkOk ["_law_line_here", "_law_found", "_law_k", "_law_some"] (defScope s_l_all_steps) { kind := PySem.ScopeKind.function, names := [ (PySem.Str.ofString ".0", PySem.NameKind.local), (PySem.Str.ofString "_law_some", PySem.NameKind.local), (PySem.Str.ofString "_law_k", PySem.NameKind.free)], isGenerator := false, isCoroutine := false, more := [] : PySem.Scope } [("_law_some", 3)] := ⟨rfl, by decide +kernel, by decide +kernel, by decide +kernel, by decide +kernel⟩
theorem sc_word_braided : FnScope ["word", "place", "here", "next_one"] ["word", "place"] (defScope s_word_braided) := ⟨rfl, rfl, rfl, by decide +kernel, rfl, by decide +kernel, by decide +kernel⟩
theorem pb_word_braided : PosB "word_braided" s_word_braided ["word", "place"] := fun _ _ _ _ _ _ us hl => match us, hl with | [_, _], _ => rfl
theorem sc_braids : FnScope ["row", "place"] ["row"] (defScope s_braids) := ⟨rfl, rfl, rfl, by decide +kernel, rfl, by decide +kernel, by decide +kernel⟩
theorem pb_braids : PosB "braids" s_braids ["row"] := fun _ _ _ _ _ _ us hl => match us, hl with | [_], _ => rfl
theorem b_braids_0 : BlkOk ["row", "place"] (defScope s_braids) { kind := PySem.ScopeKind.function, names := [ (PySem.Str.ofString ".0", PySem.NameKind.local), (PySem.Str.ofString "place", PySem.NameKind.local), (PySem.Str.ofString "word_braided", PySem.NameKind.globalImplicit), (PySem.Str.ofString "row", PySem.NameKind.free)], isGenerator := false, isCoroutine := false, more := [] : PySem.Scope } [("place", 1)] := ⟨rfl, by decide +kernel, by decide +kernel, by decide +kernel, by decide +kernel⟩
theorem sc_braided : FnScope ["row", "place", "found"] ["row", "place"] (defScope s_braided) := ⟨rfl, rfl, rfl, by decide +kernel, rfl, by decide +kernel, by decide +kernel⟩
theorem pb_braided : PosB "braided" s_braided ["row", "place"] := fun _ _ _ _ _ _ us hl => match us, hl with | [_, _], _ => rfl
theorem kp_braided : KwP "braided" s_braided ["row", "place"] ["place", "row"] swap2 := fun _ _ _ _ _ _ ws h => match ws, h with | [_, _], _ => rfl
theorem sc_l_braid : FnScope ["_law_steps", "_law_at"] ["_law_steps", "_law_at"] (defScope s_l_braid) := ⟨rfl, rfl, rfl, by decide +kernel, rfl, by decide +kernel, by decide +kernel⟩
theorem pb_l_braid : PosB "_law_braid" s_l_braid ["_law_steps", "_law_at"] := fun _ _ _ _ _ _ us hl => match us, hl with | [_, _], _ => rfl
theorem sc_l_braids_right : FnScope ["_law_rows_now", "_law_turn", "_law_known", "_law_waiting", "_law_steps", "_law_spots", "_law_at", "_law_after"] ["_law_rows_now"] (defScope s_l_braids_right) := ⟨rfl, rfl, rfl, by decide +kernel, rfl, by decide +kernel, by decide +kernel⟩
theorem pb_l_braids_right : PosB "_law_braids_right" s_l_braids_right ["_law_rows_now"] := fun _ _ _ _ _ _ us hl => match us, hl with | [_], _ => rfl
theorem b_l_braids_right_0 : BlkOk ["_law_rows_now", "_law_turn", "_law_known", "_law_waiting", "_law_steps", "_law_spots", "_law_at", "_law_after"] (defScope s_l_braids_right) { kind := PySem.ScopeKind.function, names := [ (PySem.Str.ofString ".0", PySem.NameKind.local), (PySem.Str.ofString "_law_at", PySem.NameKind.local), (PySem.Str.ofString "_law_braid", PySem.NameKind.globalImplicit), (PySem.Str.ofString "_law_steps", PySem.NameKind.free)], isGenerator := false, isCoroutine := false, more := [] : PySem.Scope } [("_law_at", 6)] := ⟨rfl, by decide +kernel, by decide +kernel, by decide +kernel, by decide +kernel⟩
theorem sc_l_walked : FnScope ["_law_steps", "_law_span", "_law_line_here", "_law_k"] ["_law_steps", "_law_span"] (defScope s_l_walked) := ⟨rfl, rfl, rfl, by decide +kernel, rfl, by decide +kernel, by decide +kernel⟩
theorem pb_l_walked : PosB "_law_walked" s_l_walked ["_law_steps", "_law_span"] := fun _ _ _ _ _ _ us hl => match us, hl with | [_, _], _ => rfl
theorem sc_l_is_short : FnScope ["_law_steps", "_law_span"] ["_law_steps"] (defScope s_l_is_short) := ⟨rfl, rfl, rfl, by decide +kernel, rfl, by decide +kernel, by decide +kernel⟩
theorem pb_l_is_short : PosB "_law_is_short" s_l_is_short ["_law_steps"] := fun _ _ _ _ _ _ us hl => match us, hl with | [_], _ => rfl
theorem sc_l_near_right : FnScope ["_law_tap_here", "_law_steps", "_law_line_here", "_law_near", "_law_wide", "_law_due", "_law_at", "_law_fresh", "_law_more", "_law_gone", "_law_k"] ["_law_tap_here", "_law_steps", "_law_line_here"] (defScope s_l_near_right) := ⟨rfl, rfl, rfl, by decide +kernel, rfl, by decide +kernel, by decide +kernel⟩
theorem pb_l_near_right : PosB "_law_near_right" s_l_near_right ["_law_tap_here", "_law_steps", "_law_line_here"] := fun _ _ _ _ _ _ us hl => match us, hl with | [_, _, _], _ => rfl
theorem b_l_near_right_0 : BlkOk ["_law_tap_here", "_law_steps", "_law_line_here", "_law_near", "_law_wide", "_law_due", "_law_at", "_law_fresh", "_law_more", "_law_gone", "_law_k"] (defScope s_l_near_right) { kind := PySem.ScopeKind.function, names := [(PySem.Str.ofString ".0", PySem.NameKind.local), (PySem.Str.ofString "_law_k", PySem.NameKind.local)], isGenerator := false, isCoroutine := false, more := [] : PySem.Scope } [("_law_k", 10)] := ⟨rfl, by decide +kernel, by decide +kernel, by decide +kernel, by decide +kernel⟩
theorem sc_l_right : FnScope ["_law_tap_here", "_law_line_here", "_law_due", "_law_k", "_law_steps", "_law_rows_now", "_law_span", "_law_turn"] ["_law_tap_here"] (defScope s_l_right) := ⟨rfl, rfl, rfl, by decide +kernel, rfl, by decide +kernel, by decide +kernel⟩
theorem pb_l_right : PosB "_law_right" s_l_right ["_law_tap_here"] := fun _ _ _ _ _ _ us hl => match us, hl with | [_], _ => rfl
theorem b_l_right_0 : BlkOk ["_law_tap_here", "_law_line_here", "_law_due", "_law_k", "_law_steps", "_law_rows_now", "_law_span", "_law_turn"] (defScope s_l_right) { kind := PySem.ScopeKind.function, names := [ (PySem.Str.ofString ".0", PySem.NameKind.local), (PySem.Str.ofString "_law_turn", PySem.NameKind.local), (PySem.Str.ofString "_law_near_right", PySem.NameKind.globalImplicit), (PySem.Str.ofString "_law_of", PySem.NameKind.globalImplicit), (PySem.Str.ofString "_law_line_here", PySem.NameKind.free), (PySem.Str.ofString "_law_rows_now", PySem.NameKind.free), (PySem.Str.ofString "_law_tap_here", PySem.NameKind.free)], isGenerator := false, isCoroutine := false, more := [] : PySem.Scope } [("_law_turn", 7)] := ⟨rfl, by decide +kernel, by decide +kernel, by decide +kernel, by decide +kernel⟩
theorem sc_law : FnScope ["_law_script", "_law_turn"] ["_law_script"] (defScope s_law) := ⟨rfl, rfl, rfl, by decide +kernel, rfl, by decide +kernel, by decide +kernel⟩
theorem b_law_0 : BlkOk ["_law_script", "_law_turn"] (defScope s_law) { kind := PySem.ScopeKind.function, names := [ (PySem.Str.ofString ".0", PySem.NameKind.local), (PySem.Str.ofString "_law_turn", PySem.NameKind.local), (PySem.Str.ofString "_law_right", PySem.NameKind.globalImplicit), (PySem.Str.ofString "_law_tap", PySem.NameKind.globalImplicit), (PySem.Str.ofString "_law_script", PySem.NameKind.free)], isGenerator := false, isCoroutine := false, more := [] : PySem.Scope } [("_law_turn", 1)] := ⟨rfl, by decide +kernel, by decide +kernel, by decide +kernel, by decide +kernel⟩
section
variable {P : Program} {w : World} {base : Heap} {K : PySem.W.Frag} {mg : Str → Option Value}
abbrev ct0 : Ct := fun _ => none
theorem ok_l_tap (Z : Facts K mg) : DefOk ct0 P w K mg base "_law_tap" s_l_tap 1 ["_law_script", "_law_turn"] f_l_tap := by
  exact def_ok Z.d_l_tap sc_l_tap fun _ _ _ _ _ _ _ hr hG => (jss_cons (js_set 2 sc_l_tap.nd (je_add (je_jb je_int) (je_jb (je_mulB (je_jb je_int) (je_jb (je_var 1)))))) (jss_cons (js_for (ji_seq (je_sl (je_jb (je_var 0)) jo_none (jo_some je_int))) (jn_name 3 sc_l_tap.nd) (jss_one (js_set 2 sc_l_tap.nd (je_mod (je_jb (je_intC Z.f_int (je_jb (je_add (je_jb (je_add (je_jb (je_mulB (je_jb (je_var 2)) (je_jb je_int))) (je_jb (je_mulB (je_jb (je_intC Z.f_int (je_jb (je_var 3)))) (je_jb je_int))))) (je_jb (je_var 1)))))) (je_jb je_int))))) (jss_cons (js_set 4 sc_l_tap.nd (je_if (jt_lt (je_jb (je_var 1)) (je_jb (je_len Z.f_len (je_jb (je_var 0))))) (je_intC Z.f_int (je_jb (je_ix hr (je_jb (je_var 0)) (je_var 1)))) (je_var 2))) (jss_one (js_ret (je_new (ja_cons (je_if (jt_w (jw_or (jt_lt (je_jb (je_var 4)) (je_jb je_int)) (jw_or1 (jt_ge (je_jb (je_var 4)) (je_jb (je_pow (je_jb je_int) (je_jb je_int))))))) (je_abs Z.f_abs (je_jb (je_var 4))) je_int) (ja_cons (je_mod (je_jb (je_intC Z.f_int (je_jb (je_add (je_jb (je_var 2)) (je_jb (je_mulB (je_jb (je_var 4)) (je_jb je_int))))))) (je_jb je_int)) (ja_cons je_int ja_nil)))))))))
theorem ok_is_integer (Z : Facts K mg) : DefOk ct0 P w K mg base "is_integer" s_is_integer 1 ["value"] f_is_integer := by
  exact def_ok Z.d_is_integer sc_is_integer fun _ _ _ _ _ _ _ hr hG => (jss_one (js_ret (je_and (je_isT (T := "int") Z.f_isinstance Z.f_int (je_var 0)) (je_one (je_not (je_isT (T := "bool") Z.f_isinstance Z.f_bool (je_var 0)))))))
theorem ok_is_within (Z : Facts K mg) : DefOk ct0 P w K mg base "is_within" s_is_within 2 ["value", "low", "high"] f_is_within := by
  have D_is_integer := ok_is_integer (P := P) (w := w) (base := base) Z
  exact def_ok Z.d_is_within sc_is_within fun _ _ _ _ _ _ _ hr hG => (jss_one (js_ret (je_and (je_call (D_is_integer.mono (by decide)) hr hG pb_is_integer (ja_cons (je_var 0) ja_nil) rfl (al_cons al_nil)) (je_one (je_chain op_le op_le (je_var 1) (je_var 0) (je_var 2))))))
theorem ok_is_letter (Z : Facts K mg) : DefOk ct0 P w K mg base "is_letter" s_is_letter 3 ["value"] f_is_letter := by
  have D_is_within := ok_is_within (P := P) (w := w) (base := base) Z
  exact def_ok Z.d_is_letter sc_is_letter fun _ _ _ _ _ _ _ hr hG => (jss_one (js_ret (je_call (D_is_within.mono (by decide)) hr hG pb_is_within (ja_cons (je_var 0) (ja_cons je_int (ja_cons (je_globIx Z.c_MOST_LETTER) ja_nil))) rfl (al_cons (al_cons (al_cons al_nil))))))
theorem ok_is_word (Z : Facts K mg) : DefOk ct0 P w K mg base "is_word" s_is_word 4 ["value"] f_is_word := by
  have D_is_letter := ok_is_letter (P := P) (w := w) (base := base) Z
  exact def_ok Z.d_is_word sc_is_word fun _ _ _ _ _ _ _ hr hG => (jss_one (js_ret (je_and (je_isT (T := "tuple") Z.f_isinstance Z.f_tuple (je_var 0)) (je_and (je_le (je_jb (je_len Z.f_len (je_jb (je_var 0)))) (je_jb (je_globIx Z.c_MOST_LONG))) (je_one (je_all Z.f_all (je_jb (jf_je (jf_lc [("letter", 1)] sc_is_word.nd (ji_seq (je_var 0)) b_is_word_0 (fun _ _ _ _ _ => (jn_name 1 sc_is_word.nd)) (fun _ _ _ _ _ => jts_nil) (fun _ _ _ _ _ => (je_call (D_is_letter.mono (by decide)) hr hG pb_is_letter (ja_cons (je_var 1) ja_nil) rfl (al_cons al_nil))))))))))))
theorem ok_check_word (Z : Facts K mg) : DefOk ct0 P w K mg base "check_word" s_check_word 5 ["value"] f_check_word := by
  have D_is_word := ok_is_word (P := P) (w := w) (base := base) Z
  exact def_ok Z.d_check_word sc_check_word fun _ _ _ _ _ _ _ hr hG => (jss_one (js_if (jt_not (jt_val (je_call (D_is_word.mono (by decide)) hr hG pb_is_word (ja_cons (je_var 0) ja_nil) rfl (al_cons al_nil)))) (jss_one js_never) jss_nil))
theorem ok_is_order (Z : Facts K mg) : DefOk ct0 P w K mg base "is_order" s_is_order 1 ["word"] f_is_order := by
  exact def_ok Z.d_is_order sc_is_order fun _ _ _ _ _ _ _ hr hG => (jss_one (js_ret (je_eq hr (je_jb (jf_je (jf_sorted .int hr Z.f_sorted (je_jb (je_var 0))))) (je_jb (jf_je (jf_lstR Z.f_list (jr_range2 Z.f_range (ja_cons je_int (ja_cons (je_add (je_jb (je_len Z.f_len (je_jb (je_var 0)))) (je_jb je_int)) ja_nil)))))))))
theorem ok_check_order (Z : Facts K mg) : DefOk ct0 P w K mg base "check_order" s_check_order 2 ["order"] f_check_order := by
  have D_is_order := ok_is_order (P := P) (w := w) (base := base) Z
  exact def_ok Z.d_check_order sc_check_order fun _ _ _ _ _ _ _ hr hG => (jss_one (js_if (jt_not (jt_val (je_call (D_is_order.mono (by decide)) hr hG pb_is_order (ja_cons (je_var 0) ja_nil) rfl (al_cons al_nil)))) (jss_one js_never) jss_nil))
theorem ok_inversions_of (Z : Facts K mg) : DefOk ct0 P w K mg base "inversions_of" s_inversions_of 1 ["order"] f_inversions_of := by
  exact def_ok Z.d_inversions_of sc_inversions_of fun _ _ _ _ _ _ _ hr hG => (jss_one (js_ret (je_sum Z.f_sum (je_jb (jf_je (jf_lc [("place", 1), ("letter", 2)] sc_inversions_of.nd (ji_enum Z.f_enumerate (ja_cons (je_var 0) ja_nil)) b_inversions_of_0 (fun _ _ _ _ _ => (jn_tup rfl (jns_cons (jn_name 1 sc_inversions_of.nd) (jns_cons (jn_name 2 sc_inversions_of.nd) jns_nil)))) (fun _ _ _ _ _ => jts_nil) (fun _ _ _ _ _ => (je_len Z.f_len (je_jb (jf_je (jf_lc [("later", 3)] sc_inversions_of.nd (ji_seq (je_sl (je_jb (je_var 0)) (jo_some (je_add (je_jb (je_var 1)) (je_jb je_int))) jo_none)) b_inversions_of_1 (fun _ _ _ _ _ => (jn_name 3 sc_inversions_of.nd)) (fun _ _ _ _ _ => (jts_one (jt_lt (je_jb (je_var 3)) (je_jb (je_var 2))))) (fun _ _ _ _ _ => (je_var 3)))))))))))))
theorem ok_inversion_count (Z : Facts K mg) : DefOk ct0 P w K mg base "inversion_count" s_inversion_count 6 ["order"] f_inversion_count := by
  have D_check_word := ok_check_word (P := P) (w := w) (base := base) Z
  have D_check_order := ok_check_order (P := P) (w := w) (base := base) Z
  have D_inversions_of := ok_inversions_of (P := P) (w := w) (base := base) Z
  exact def_ok Z.d_inversion_count sc_inversion_count fun _ _ _ _ _ _ _ hr hG => (jss_cons (js_expr (je_call (D_check_word.mono (by decide)) hr hG pb_check_word (ja_cons (je_var 0) ja_nil) rfl (al_cons al_nil))) (jss_cons (js_expr (je_call (D_check_order.mono (by decide)) hr hG pb_check_order (ja_cons (je_var 0) ja_nil) rfl (al_cons al_nil))) (jss_one (js_ret (je_call (D_inversions_of.mono (by decide)) hr hG pb_inversions_of (ja_cons (je_var 0) ja_nil) rfl (al_cons al_nil))))))
theorem ok_swapped (Z : Facts K mg) : DefOk ct0 P w K mg base "swapped" s_swapped 1 ["word", "place"] f_swapped := by
  exact def_ok Z.d_swapped sc_swapped fun _ _ _ _ _ _ _ hr hG => (jss_one (js_ret (je_tup (ja_star (je_sl (je_jb (je_var 0)) jo_none (jo_some (je_var 1))) (ja_cons (je_ix hr (je_jb (je_var 0)) (je_add (je_jb (je_var 1)) (je_jb je_int))) (ja_cons (je_ix hr (je_jb (je_var 0)) (je_var 1)) (ja_star (je_sl (je_jb (je_var 0)) (jo_some (je_add (je_jb (je_var 1)) (je_jb je_int))) jo_none) ja_nil)))))))
theorem ok_exchanged_at (Z : Facts K mg) : DefOk ct0 P w K mg base "exchanged_at" s_exchanged_at 6 ["order", "letter"] f_exchanged_at := by
  have D_is_within := ok_is_within (P := P) (w := w) (base := base) Z
  have D_check_word := ok_check_word (P := P) (w := w) (base := base) Z
  have D_check_order := ok_check_order (P := P) (w := w) (base := base) Z
  have D_swapped := ok_swapped (P := P) (w := w) (base := base) Z
  exact def_ok Z.d_exchanged_at sc_exchanged_at fun _ _ _ _ _ _ _ hr hG => (jss_cons (js_expr (je_call (D_check_word.mono (by decide)) hr hG pb_check_word (ja_cons (je_var 0) ja_nil) rfl (al_cons al_nil))) (jss_cons (js_if (jt_not (jt_val (je_call (D_is_within.mono (by decide)) hr hG pb_is_within (ja_cons (je_var 1) (ja_cons je_int (ja_cons (je_sub (je_jb (je_len Z.f_len (je_jb (je_var 0)))) (je_jb je_int)) ja_nil))) rfl (al_cons (al_cons (al_cons al_nil)))))) (jss_one js_never) jss_nil) (jss_cons (js_expr (je_call (D_check_order.mono (by decide)) hr hG pb_check_order (ja_cons (je_var 0) ja_nil) rfl (al_cons al_nil))) (jss_one (js_ret (je_call (D_swapped.mono (by decide)) hr hG pb_swapped (ja_cons (je_var 0) (ja_cons (je_sub (je_jb (je_var 1)) (je_jb je_int)) ja_nil)) rfl (al_cons (al_cons al_nil))))))))
theorem ok_order_of_row (Z : Facts K mg) : DefOk ct0 P w K mg base "order_of_row" s_order_of_row 2 ["row", "size"] f_order_of_row := by
  have D_swapped := ok_swapped (P := P) (w := w) (base := base) Z
  exact def_ok Z.d_order_of_row sc_order_of_row fun _ _ _ _ _ _ _ hr hG => (jss_cons (js_set 2 sc_order_of_row.nd (je_tupR Z.f_tuple (jr_range2 Z.f_range (ja_cons je_int (ja_cons (je_add (je_jb (je_var 1)) (je_jb je_int)) ja_nil))))) (jss_cons (js_for (ji_seq (je_var 0)) (jn_name 3 sc_order_of_row.nd) (jss_one (js_set 2 sc_order_of_row.nd (je_call (D_swapped.mono (by decide)) hr hG pb_swapped (ja_cons (je_var 2) (ja_cons (je_sub (je_jb (je_var 3)) (je_jb je_int)) ja_nil)) rfl (al_cons (al_cons al_nil)))))) (jss_one (js_ret (je_var 2)))))
theorem ok_order_by (Z : Facts K mg) : DefOk ct0 P w K mg base "order_by" s_order_by 6 ["row", "size"] f_order_by := by
  have D_is_within := ok_is_within (P := P) (w := w) (base := base) Z
  have D_check_word := ok_check_word (P := P) (w := w) (base := base) Z
  have D_order_of_row := ok_order_of_row (P := P) (w := w) (base := base) Z
  exact def_ok Z.d_order_by sc_order_by fun _ _ _ _ _ _ _ hr hG => (jss_cons (js_expr (je_call (D_check_word.mono (by decide)) hr hG pb_check_word (ja_cons (je_var 0) ja_nil) rfl (al_cons al_nil))) (jss_cons (js_if (jt_w (jw_or (jt_not (jt_val (je_call (D_is_within.mono (by decide)) hr hG pb_is_within (ja_cons (je_var 1) (ja_cons je_int (ja_cons (je_globIx Z.c_MOST_LONG) ja_nil))) rfl (al_cons (al_cons (al_cons al_nil)))))) (jw_or1 (jt_val (je_any Z.f_any (je_jb (jf_je (jf_lc [("letter", 2)] sc_order_by.nd (ji_seq (je_var 0)) b_order_by_0 (fun _ _ _ _ _ => (jn_name 2 sc_order_by.nd)) (fun _ _ _ _ _ => jts_nil) (fun _ _ _ _ _ => (je_ge (je_jb (je_var 2)) (je_jb (je_var 1)))))))))))) (jss_one js_never) jss_nil) (jss_one (js_ret (je_call (D_order_of_row.mono (by decide)) hr hG pb_order_of_row (ja_cons (je_var 0) (ja_cons (je_var 1) ja_nil)) rfl (al_cons (al_cons al_nil)))))))
theorem ok_is_reduced_row (Z : Facts K mg) : DefOk ct0 P w K mg base "is_reduced_row" s_is_reduced_row 3 ["row"] f_is_reduced_row := by
  have D_inversions_of := ok_inversions_of (P := P) (w := w) (base := base) Z
  have D_order_of_row := ok_order_of_row (P := P) (w := w) (base := base) Z
  exact def_ok Z.d_is_reduced_row sc_is_reduced_row fun _ _ _ _ _ _ _ hr hG => (jss_cons (js_set 1 sc_is_reduced_row.nd (je_add (je_jb (je_maxL Z.f_max (je_jb (jf_je (jf_lst (ja_cons je_int (ja_star (je_var 0) ja_nil))))))) (je_jb je_int))) (jss_one (js_ret (je_and (je_le (je_jb (je_var 1)) (je_jb (je_globIx Z.c_MOST_LONG))) (je_one (je_eq hr (je_jb (je_call (D_inversions_of.mono (by decide)) hr hG pb_inversions_of (ja_cons (je_call (D_order_of_row.mono (by decide)) hr hG pb_order_of_row (ja_cons (je_var 0) (ja_cons (je_var 1) ja_nil)) rfl (al_cons (al_cons al_nil))) ja_nil) rfl (al_cons al_nil))) (je_jb (je_len Z.f_len (je_jb (je_var 0))))))))))
theorem ok_is_reduced (Z : Facts K mg) : DefOk ct0 P w K mg base "is_reduced" s_is_reduced 6 ["row"] f_is_reduced := by
  have D_check_word := ok_check_word (P := P) (w := w) (base := base) Z
  have D_is_reduced_row := ok_is_reduced_row (P := P) (w := w) (base := base) Z
  exact def_ok Z.d_is_reduced sc_is_reduced fun _ _ _ _ _ _ _ hr hG => (jss_cons (js_expr (je_call (D_check_word.mono (by decide)) hr hG pb_check_word (ja_cons (je_var 0) ja_nil) rfl (al_cons al_nil))) (jss_one (js_ret (je_call (D_is_reduced_row.mono (by decide)) hr hG pb_is_reduced_row (ja_cons (je_var 0) ja_nil) rfl (al_cons al_nil)))))
theorem ok_descents_of (Z : Facts K mg) : DefOk ct0 P w K mg base "descents_of" s_descents_of 1 ["word"] f_descents_of := by
  exact def_ok Z.d_descents_of sc_descents_of fun _ _ _ _ _ _ _ hr hG => (jss_one (js_ret (je_tuple Z.f_tuple (je_jb (jf_je (jf_lc [("place", 1)] sc_descents_of.nd (ji_range1 Z.f_range (ja_cons (je_sub (je_jb (je_len Z.f_len (je_jb (je_var 0)))) (je_jb je_int)) ja_nil)) b_descents_of_0 (fun _ _ _ _ _ => (jn_name 1 sc_descents_of.nd)) (fun _ _ _ _ _ => (jts_one (jt_gt (je_jb (je_ix hr (je_jb (je_var 0)) (je_var 1))) (je_jb (je_ix hr (je_jb (je_var 0)) (je_add (je_jb (je_var 1)) (je_jb je_int))))))) (fun _ _ _ _ _ => (je_var 1))))))))
theorem ok_count_of (Z : Facts K mg) : DefOk ct0 P w K mg base "count_of" s_count_of 2 ["order"] f_count_of := by
  have D_descents_of := ok_descents_of (P := P) (w := w) (base := base) Z
  have D_swapped := ok_swapped (P := P) (w := w) (base := base) Z
  have D_inversions_of := ok_inversions_of (P := P) (w := w) (base := base) Z
  exact def_ok Z.d_count_of sc_count_of fun _ _ _ _ _ _ _ hr hG => (jss_cons (js_set 1 sc_count_of.nd (jf_je (jf_dispT hr (jp_cons (je_var 0) je_int jp_nil)))) (jss_cons (js_for (ji_range1 Z.f_range (ja_cons (je_call (D_inversions_of.mono (by decide)) hr hG pb_inversions_of (ja_cons (je_var 0) ja_nil) rfl (al_cons al_nil)) ja_nil)) (jn_name 2 sc_count_of.nd) (jss_cons (js_own 3 sc_count_of.nd (jf_dict true)) (jss_cons (js_for (ji_items (je_var 1)) (jn_tup rfl (jns_cons (jn_name 4 sc_count_of.nd) (jns_cons (jn_name 5 sc_count_of.nd) jns_nil))) (jss_one (js_for (ji_seq (je_call (D_descents_of.mono (by decide)) hr hG pb_descents_of (ja_cons (je_var 4) ja_nil) rfl (al_cons al_nil))) (jn_name 6 sc_count_of.nd) (jss_cons (js_set 7 sc_count_of.nd (je_call (D_swapped.mono (by decide)) hr hG pb_swapped (ja_cons (je_var 4) (ja_cons (je_var 6) ja_nil)) rfl (al_cons (al_cons al_nil)))) (jss_one (js_asgG (je_add (je_jb (je_get hr (jb_own 3) (je_var 7) je_int)) (je_jb (je_var 5))) (jg_own 3 hr (je_var 7)))))))) (jss_one (js_frz 3 (js_set 1 sc_count_of.nd (je_var 3))))))) (jss_one (js_ret (je_sumV Z.f_sum (je_var 1))))))
theorem ok_rows_of_order (Z : Facts K mg) : DefOk ct0 P w K mg base "rows_of_order" s_rows_of_order 2 ["order"] f_rows_of_order := by
  have D_descents_of := ok_descents_of (P := P) (w := w) (base := base) Z
  have D_swapped := ok_swapped (P := P) (w := w) (base := base) Z
  have D_inversions_of := ok_inversions_of (P := P) (w := w) (base := base) Z
  exact def_ok Z.d_rows_of_order sc_rows_of_order fun _ _ _ _ _ _ _ hr hG => (jss_cons (js_set 1 sc_rows_of_order.nd (jf_je (jf_dispT hr (jp_cons (je_var 0) (jf_je (jf_lst (ja_cons (je_tup ja_nil) ja_nil))) jp_nil)))) (jss_cons (js_for (ji_range1 Z.f_range (ja_cons (je_call (D_inversions_of.mono (by decide)) hr hG pb_inversions_of (ja_cons (je_var 0) ja_nil) rfl (al_cons al_nil)) ja_nil)) (jn_name 2 sc_rows_of_order.nd) (jss_cons (js_own 3 sc_rows_of_order.nd (jf_dict true)) (jss_cons (js_for (ji_items (je_var 1)) (jn_tup rfl (jns_cons (jn_name 4 sc_rows_of_order.nd) (jns_cons (jn_name 5 sc_rows_of_order.nd) jns_nil))) (jss_one (js_for (ji_seq (je_call (D_descents_of.mono (by decide)) hr hG pb_descents_of (ja_cons (je_var 4) ja_nil) rfl (al_cons al_nil))) (jn_name 6 sc_rows_of_order.nd) (jss_cons (js_set 8 sc_rows_of_order.nd (je_call (D_swapped.mono (by decide)) hr hG pb_swapped (ja_cons (je_var 4) (ja_cons (je_var 6) ja_nil)) rfl (al_cons (al_cons al_nil)))) (jss_one (js_asgG (je_add (je_jb (je_get hr (jb_own 3) (je_var 8) (jf_je (jf_lst ja_nil)))) (je_jb (jf_je (jf_lc [("row", 7)] sc_rows_of_order.nd (ji_seq (je_var 5)) b_rows_of_order_0 (fun _ _ _ _ _ => (jn_name 7 sc_rows_of_order.nd)) (fun _ _ _ _ _ => jts_nil) (fun _ _ _ _ _ => (je_tup (ja_cons (je_add (je_jb (je_var 6)) (je_jb je_int)) (ja_star (je_var 7) ja_nil)))))))) (jg_own 3 hr (je_var 8)))))))) (jss_one (js_frz 3 (js_set 1 sc_rows_of_order.nd (je_var 3))))))) (jss_one (js_ret (jf_je (jf_lc2 [("rows", 5), ("row", 7)] [7] sc_rows_of_order.nd (ji_vals (je_var 1)) b_rows_of_order_1 (fun _ _ _ _ _ => (jn_name 5 sc_rows_of_order.nd)) (gw_n 5) (fun _ _ _ _ _ => jts_nil) (fun _ _ _ _ _ => (ji_seq (je_var 5))) (fun _ _ _ _ _ => (jn_name 7 sc_rows_of_order.nd)) (fun _ _ _ _ _ => jts_nil) (fun _ _ _ _ _ => (je_var 7))))))))
theorem ok_check_inversions (Z : Facts K mg) : DefOk ct0 P w K mg base "check_inversions" s_check_inversions 2 ["order", "most"] f_check_inversions := by
  have D_inversions_of := ok_inversions_of (P := P) (w := w) (base := base) Z
  exact def_ok Z.d_check_inversions sc_check_inversions fun _ _ _ _ _ _ _ hr hG => (jss_one (js_if (jt_gt (je_jb (je_call (D_inversions_of.mono (by decide)) hr hG pb_inversions_of (ja_cons (je_var 0) ja_nil) rfl (al_cons al_nil))) (je_jb (je_var 1))) (jss_one js_never) jss_nil))
theorem ok_reduced_rows (Z : Facts K mg) : DefOk ct0 P w K mg base "reduced_rows" s_reduced_rows 6 ["order"] f_reduced_rows := by
  have D_check_word := ok_check_word (P := P) (w := w) (base := base) Z
  have D_check_order := ok_check_order (P := P) (w := w) (base := base) Z
  have D_count_of := ok_count_of (P := P) (w := w) (base := base) Z
  have D_rows_of_order := ok_rows_of_order (P := P) (w := w) (base := base) Z
  have D_check_inversions := ok_check_inversions (P := P) (w := w) (base := base) Z
  exact def_ok Z.d_reduced_rows sc_reduced_rows fun _ _ _ _ _ _ _ hr hG => (jss_cons (js_expr (je_call (D_check_word.mono (by decide)) hr hG pb_check_word (ja_cons (je_var 0) ja_nil) rfl (al_cons al_nil))) (jss_cons (js_expr (je_call (D_check_order.mono (by decide)) hr hG pb_check_order (ja_cons (je_var 0) ja_nil) rfl (al_cons al_nil))) (jss_cons (js_expr (je_call (D_check_inversions.mono (by decide)) hr hG pb_check_inversions (ja_cons (je_var 0) (ja_cons (je_globIx Z.c_MOST_LONG) ja_nil)) rfl (al_cons (al_cons al_nil)))) (jss_cons (js_if (jt_gt (je_jb (je_call (D_count_of.mono (by decide)) hr hG pb_count_of (ja_cons (je_var 0) ja_nil) rfl (al_cons al_nil))) (je_jb (je_globIx Z.c_MOST_LISTED))) (jss_one js_never) jss_nil) (jss_one (js_ret (je_tuple Z.f_tuple (je_jb (jf_je (jf_sorted (.seq .int) hr Z.f_sorted (je_jb (je_call (D_rows_of_order.mono (by decide)) hr hG pb_rows_of_order (ja_cons (je_var 0) ja_nil) rfl (al_cons al_nil)))))))))))))
theorem ok_reduced_count (Z : Facts K mg) : DefOk ct0 P w K mg base "reduced_count" s_reduced_count 6 ["order"] f_reduced_count := by
  have D_check_word := ok_check_word (P := P) (w := w) (base := base) Z
  have D_check_order := ok_check_order (P := P) (w := w) (base := base) Z
  have D_count_of := ok_count_of (P := P) (w := w) (base := base) Z
  have D_check_inversions := ok_check_inversions (P := P) (w := w) (base := base) Z
  exact def_ok Z.d_reduced_count sc_reduced_count fun _ _ _ _ _ _ _ hr hG => (jss_cons (js_expr (je_call (D_check_word.mono (by decide)) hr hG pb_check_word (ja_cons (je_var 0) ja_nil) rfl (al_cons al_nil))) (jss_cons (js_expr (je_call (D_check_order.mono (by decide)) hr hG pb_check_order (ja_cons (je_var 0) ja_nil) rfl (al_cons al_nil))) (jss_cons (js_expr (je_call (D_check_inversions.mono (by decide)) hr hG pb_check_inversions (ja_cons (je_var 0) (ja_cons (je_globIx Z.c_MOST_LONG) ja_nil)) rfl (al_cons (al_cons al_nil)))) (jss_one (js_ret (je_call (D_count_of.mono (by decide)) hr hG pb_count_of (ja_cons (je_var 0) ja_nil) rfl (al_cons al_nil)))))))
theorem ok_l_dip (Z : Facts K mg) : DefOk ct0 P w K mg base "_law_dip" s_l_dip 1 ["_law_tap_here", "_law_many"] f_l_dip := by
  exact def_ok Z.d_l_dip sc_l_dip fun _ _ _ _ _ _ _ hr hG => (jss_cons (js_asgG (je_add (je_jb (je_ix hr (je_jb (je_var 0)) je_int)) (je_jb je_int)) (jg_sub (je_var 0) je_int)) (jss_cons (js_if (jt_gt (je_jb (je_ix hr (je_jb (je_var 0)) je_int)) (je_jb je_int)) (jss_cons (js_asgG (je_divmod Z.f_divmod (ja_cons (je_ix hr (je_jb (je_var 0)) je_int) (ja_cons (je_var 1) ja_nil))) (jg_tup rfl (jgs_cons (jg_sub (je_var 0) je_int) (jgs_cons (jg_n (jn_name 2 sc_l_dip.nd)) jgs_nil)))) (jss_one (js_ret (je_var 2)))) jss_nil) (jss_cons (js_asgG (je_mod (je_jb (je_intC Z.f_int (je_jb (je_add (je_jb (je_add (je_jb (je_mulB (je_jb (je_ix hr (je_jb (je_var 0)) je_int)) (je_jb je_int))) (je_jb (je_mulB (je_jb je_int) (je_jb (je_ix hr (je_jb (je_var 0)) je_int)))))) (je_jb je_int))))) (je_jb je_int)) (jg_sub (je_var 0) je_int)) (jss_one (js_ret (je_mod (je_jb (je_intC Z.f_int (je_jb (je_div (je_jb (je_ix hr (je_jb (je_var 0)) je_int)) (je_jb je_int))))) (je_jb (je_var 1))))))))
theorem ok_l_of (Z : Facts K mg) : DefOk ct0 P w K mg base "_law_of" s_l_of 2 ["_law_tap_here", "_law_some"] f_l_of := by
  have D_l_dip := ok_l_dip (P := P) (w := w) (base := base) Z
  exact def_ok Z.d_l_of sc_l_of fun _ _ _ _ _ _ _ hr hG => (jss_one (js_ret (je_ix hr (je_jb (je_var 1)) (je_call (D_l_dip.mono (by decide)) hr hG pb_l_dip (ja_cons (je_var 0) (ja_cons (je_len Z.f_len (je_jb (je_var 1))) ja_nil)) rfl (al_cons (al_cons al_nil))))))
theorem ok_l_swapped (Z : Facts K mg) : DefOk ct0 P w K mg base "_law_swapped" s_l_swapped 1 ["_law_line_here", "_law_k"] f_l_swapped := by
  exact def_ok Z.d_l_swapped sc_l_swapped fun _ _ _ _ _ _ _ hr hG => (jss_one (js_ret (je_add (je_jb (je_add (je_jb (je_sl (je_jb (je_var 0)) jo_none (jo_some (je_sub (je_jb (je_var 1)) (je_jb je_int))))) (je_jb (je_tup (ja_cons (je_ix hr (je_jb (je_var 0)) (je_var 1)) (ja_cons (je_ix hr (je_jb (je_var 0)) (je_sub (je_jb (je_var 1)) (je_jb je_int))) ja_nil)))))) (je_jb (je_sl (je_jb (je_var 0)) (jo_some (je_add (je_jb (je_var 1)) (je_jb je_int))) jo_none)))))
theorem ok_l_line (Z : Facts K mg) : DefOk ct0 P w K mg base "_law_line" s_l_line 3 ["_law_tap_here", "_law_most", "_law_many"] f_l_line := by
  have D_l_dip := ok_l_dip (P := P) (w := w) (base := base) Z
  have D_l_of := ok_l_of (P := P) (w := w) (base := base) Z
  have D_l_swapped := ok_l_swapped (P := P) (w := w) (base := base) Z
  exact def_ok Z.d_l_line sc_l_line fun _ _ _ _ _ _ _ hr hG => (jss_cons (js_set 3 sc_l_line.nd (je_tupR Z.f_tuple (jr_range2 Z.f_range (ja_cons je_int (ja_cons (je_add (je_jb je_int) (je_jb (je_call (D_l_dip.mono (by decide)) hr hG pb_l_dip (ja_cons (je_var 0) (ja_cons (je_var 1) ja_nil)) rfl (al_cons (al_cons al_nil))))) ja_nil))))) (jss_cons (js_for (ji_range1 Z.f_range (ja_cons (je_call (D_l_dip.mono (by decide)) hr hG pb_l_dip (ja_cons (je_var 0) (ja_cons (je_add (je_jb (je_var 2)) (je_jb je_int)) ja_nil)) rfl (al_cons (al_cons al_nil))) ja_nil)) (jn_name 4 sc_l_line.nd) (jss_cons (js_ownLc 5 [("_law_k", 6)] sc_l_line.nd (ji_range2 Z.f_range (ja_cons je_int (ja_cons (je_len Z.f_len (je_jb (je_var 3))) ja_nil))) b_l_line_0 (fun _ _ _ _ _ => (jn_name 6 sc_l_line.nd)) (fun _ _ _ _ _ => (jts_one (jt_lt (je_jb (je_ix hr (je_jb (je_var 3)) (je_sub (je_jb (je_var 6)) (je_jb je_int)))) (je_jb (je_ix hr (je_jb (je_var 3)) (je_var 6)))))) (fun _ _ _ _ _ => (je_var 6))) (jss_frz 5 (jss_one (js_if (jt_ne hr (je_jb (je_var 5)) (je_jb (jf_je (jf_lst ja_nil)))) (jss_one (js_set 3 sc_l_line.nd (je_call (D_l_swapped.mono (by decide)) hr hG pb_l_swapped (ja_cons (je_var 3) (ja_cons (je_call (D_l_of.mono (by decide)) hr hG pb_l_of (ja_cons (je_var 0) (ja_cons (je_var 5) ja_nil)) rfl (al_cons (al_cons al_nil))) ja_nil)) rfl (al_cons (al_cons al_nil))))) jss_nil))))) (jss_one (js_ret (je_var 3)))))
theorem ok_l_turned_pairs (Z : Facts K mg) : DefOk ct0 P w K mg base "_law_turned_pairs" s_l_turned_pairs 1 ["_law_line_here"] f_l_turned_pairs := by
  exact def_ok Z.d_l_turned_pairs sc_l_turned_pairs fun _ _ _ _ _ _ _ hr hG => (jss_one (js_ret (je_sum Z.f_sum (je_jb (jf_je (jf_lc [("_law_at", 1)] sc_l_turned_pairs.nd (ji_range1 Z.f_range (ja_cons (je_len Z.f_len (je_jb (je_var 0))) ja_nil)) b_l_turned_pairs_0 (fun _ _ _ _ _ => (jn_name 1 sc_l_turned_pairs.nd)) (fun _ _ _ _ _ => jts_nil) (fun _ _ _ _ _ => (je_len Z.f_len (je_jb (jf_je (jf_lc [("_law_x", 2)] sc_l_turned_pairs.nd (ji_seq (je_sl (je_jb (je_var 0)) (jo_some (je_add (je_jb (je_var 1)) (je_jb je_int))) jo_none)) b_l_turned_pairs_1 (fun _ _ _ _ _ => (jn_name 2 sc_l_turned_pairs.nd)) (fun _ _ _ _ _ => (jts_one (jt_lt (je_jb (je_var 2)) (je_jb (je_ix hr (je_jb (je_var 0)) (je_var 1)))))) (fun _ _ _ _ _ => (je_var 2)))))))))))))
theorem okr_l_all_steps (Z : Facts K mg) : ∀ n, DefOk ct0 P w K mg base "_law_all_steps" s_l_all_steps (2 + n) ["_law_line_here"] (q_l_all_steps n)
  | 0 => (def_ok (k := 1) (F := sX) Z.d_l_all_steps sc_l_all_steps fun _ _ _ _ _ _ _ _ _ => jss_never).sub (fun _ _ _ h => nomatch h)
  | n + 1 => by
    have D_l_all_steps := okr_l_all_steps Z n
    have D_l_swapped := ok_l_swapped (P := P) (w := w) (base := base) Z
    have D_l_turned_pairs := ok_l_turned_pairs (P := P) (w := w) (base := base) Z
    exact def_ok (k := 2 + n) Z.d_l_all_steps sc_l_all_steps fun _ _ _ _ _ _ _ hr hG => (jss_cons (js_if (jt_eq hr (je_jb (je_call (D_l_turned_pairs.mono (by omega)) hr hG pb_l_turned_pairs (ja_cons (je_var 0) ja_nil) rfl (al_cons al_nil))) (je_jb je_int)) (jss_one (js_ret (jf_je (jf_lst (ja_cons (je_tup ja_nil) ja_nil))))) jss_nil) (jss_cons (js_set 1 sc_l_all_steps.nd (jf_je (jf_lst ja_nil))) (jss_cons (js_for (ji_range2 Z.f_range (ja_cons je_int (ja_cons (je_len Z.f_len (je_jb (je_var 0))) ja_nil))) (jn_name 2 sc_l_all_steps.nd) (jss_one (js_if (jt_gt (je_jb (je_ix hr (je_jb (je_var 0)) (je_sub (je_jb (je_var 2)) (je_jb je_int)))) (je_jb (je_ix hr (je_jb (je_var 0)) (je_var 2)))) (jss_one (js_set 1 sc_l_all_steps.nd (je_add (je_jb (je_var 1)) (je_jb (jf_je (jf_lc [("_law_some", 3)] sc_l_all_steps.nd (ji_seq (je_call (D_l_all_steps.mono (by omega)) hr hG pb_l_all_steps (ja_cons (je_call (D_l_swapped.mono (by omega)) hr hG pb_l_swapped (ja_cons (je_var 0) (ja_cons (je_var 2) ja_nil)) rfl (al_cons (al_cons al_nil))) ja_nil) rfl (al_cons al_nil))) b_l_all_steps_0 (fun _ _ _ _ _ => (jn_name 3 sc_l_all_steps.nd)) (fun _ _ _ _ _ => jts_nil) (fun _ _ _ _ _ => (je_add (je_jb (je_var 3)) (je_jb (je_tup (ja_cons (je_var 2) ja_nil))))))))))) jss_nil))) (jss_one (js_ret (jf_je (jf_sorted (.seq .int) hr Z.f_sorted (je_jb (je_var 1)))))))))
theorem ok_l_all_steps (Z : Facts K mg) : DefOk ct0 P w K mg base "_law_all_steps" s_l_all_steps 10 ["_law_line_here"] f_l_all_steps := okr_l_all_steps Z 8
theorem ok_word_braided (Z : Facts K mg) : DefOk ct0 P w K mg base "word_braided" s_word_braided 2 ["word", "place"] f_word_braided := by
  have D_swapped := ok_swapped (P := P) (w := w) (base := base) Z
  exact def_ok Z.d_word_braided sc_word_braided fun _ _ _ _ _ _ _ hr hG => (jss_cons (js_if (jt_ge (je_jb (je_add (je_jb (je_var 1)) (je_jb je_int))) (je_jb (je_len Z.f_len (je_jb (je_var 0))))) (jss_one (js_ret je_non)) jss_nil) (jss_cons (js_par 2 3 sc_word_braided.nd (ja_cons (je_ix hr (je_jb (je_var 0)) (je_var 1)) (ja_cons (je_ix hr (je_jb (je_var 0)) (je_add (je_jb (je_var 1)) (je_jb je_int))) ja_nil))) (jss_cons (js_if (jt_gt (je_jb (je_abs Z.f_abs (je_jb (je_sub (je_jb (je_var 2)) (je_jb (je_var 3)))))) (je_jb je_int)) (jss_one (js_ret (je_call (D_swapped.mono (by decide)) hr hG pb_swapped (ja_cons (je_var 0) (ja_cons (je_var 1) ja_nil)) rfl (al_cons (al_cons al_nil))))) jss_nil) (jss_cons (js_if (jt_w (jw_and (jt_eq hr (je_jb (je_abs Z.f_abs (je_jb (je_sub (je_jb (je_var 2)) (je_jb (je_var 3)))))) (je_jb je_int)) (jw_and (jt_lt (je_jb (je_add (je_jb (je_var 1)) (je_jb je_int))) (je_jb (je_len Z.f_len (je_jb (je_var 0))))) (jw_and1 (jt_eq hr (je_jb (je_ix hr (je_jb (je_var 0)) (je_add (je_jb (je_var 1)) (je_jb je_int)))) (je_jb (je_var 2))))))) (jss_one (js_ret (je_tup (ja_star (je_sl (je_jb (je_var 0)) jo_none (jo_some (je_var 1))) (ja_cons (je_var 3) (ja_cons (je_var 2) (ja_cons (je_var 3) (ja_star (je_sl (je_jb (je_var 0)) (jo_some (je_add (je_jb (je_var 1)) (je_jb je_int))) jo_none) ja_nil)))))))) jss_nil) (jss_one (js_ret je_non))))))
theorem ok_braids (Z : Facts K mg) : DefOk ct0 P w K mg base "braids" s_braids 6 ["row"] f_braids := by
  have D_check_word := ok_check_word (P := P) (w := w) (base := base) Z
  have D_word_braided := ok_word_braided (P := P) (w := w) (base := base) Z
  exact def_ok Z.d_braids sc_braids fun _ _ _ _ _ _ _ hr hG => (jss_cons (js_expr (je_call (D_check_word.mono (by decide)) hr hG pb_check_word (ja_cons (je_var 0) ja_nil) rfl (al_cons al_nil))) (jss_one (js_ret (je_tuple Z.f_tuple (je_jb (jf_je (jf_lc [("place", 1)] sc_braids.nd (ji_range1 Z.f_range (ja_cons (je_len Z.f_len (je_jb (je_var 0))) ja_nil)) b_braids_0 (fun _ _ _ _ _ => (jn_name 1 sc_braids.nd)) (fun _ _ _ _ _ => (jts_one (jt_isnot (je_jb (je_call (D_word_braided.mono (by decide)) hr hG pb_word_braided (ja_cons (je_var 0) (ja_cons (je_var 1) ja_nil)) rfl (al_cons (al_cons al_nil)))) (je_jb je_non)))) (fun _ _ _ _ _ => (je_var 1)))))))))
theorem ok_braided (Z : Facts K mg) : DefOk ct0 P w K mg base "braided" s_braided 6 ["row", "place"] f_braided := by
  have D_is_within := ok_is_within (P := P) (w := w) (base := base) Z
  have D_check_word := ok_check_word (P := P) (w := w) (base := base) Z
  have D_word_braided := ok_word_braided (P := P) (w := w) (base := base) Z
  exact def_ok Z.d_braided sc_braided fun _ _ _ _ _ _ _ hr hG => (jss_cons (js_expr (je_call (D_check_word.mono (by decide)) hr hG pb_check_word (ja_cons (je_var 0) ja_nil) rfl (al_cons al_nil))) (jss_cons (js_if (jt_not (jt_val (je_call (D_is_within.mono (by decide)) hr hG pb_is_within (ja_cons (je_var 1) (ja_cons je_int (ja_cons (je_sub (je_jb (je_len Z.f_len (je_jb (je_var 0)))) (je_jb je_int)) ja_nil))) rfl (al_cons (al_cons (al_cons al_nil)))))) (jss_one js_never) jss_nil) (jss_cons (js_set 2 sc_braided.nd (je_call (D_word_braided.mono (by decide)) hr hG pb_word_braided (ja_cons (je_var 0) (ja_cons (je_var 1) ja_nil)) rfl (al_cons (al_cons al_nil)))) (jss_cons (js_if (jt_is (je_jb (je_var 2)) (je_jb je_non)) (jss_one js_never) jss_nil) (jss_one (js_ret (je_var 2)))))))
theorem ok_l_braid (Z : Facts K mg) : DefOk ct0 P w K mg base "_law_braid" s_l_braid 1 ["_law_steps", "_law_at"] f_l_braid := by
  exact def_ok Z.d_l_braid sc_l_braid fun _ _ _ _ _ _ _ hr hG => (jss_cons (js_if (jt_w (jw_and (jt_lt (je_jb (je_add (je_jb (je_var 1)) (je_jb je_int))) (je_jb (je_len Z.f_len (je_jb (je_var 0))))) (jw_and1 (jt_gt (je_jb (je_abs Z.f_abs (je_jb (je_sub (je_jb (je_ix hr (je_jb (je_var 0)) (je_var 1))) (je_jb (je_ix hr (je_jb (je_var 0)) (je_add (je_jb (je_var 1)) (je_jb je_int)))))))) (je_jb je_int))))) (jss_one (js_ret (je_add (je_jb (je_add (je_jb (je_sl (je_jb (je_var 0)) jo_none (jo_some (je_var 1)))) (je_jb (je_tup (ja_cons (je_ix hr (je_jb (je_var 0)) (je_add (je_jb (je_var 1)) (je_jb je_int))) (ja_cons (je_ix hr (je_jb (je_var 0)) (je_var 1)) ja_nil)))))) (je_jb (je_sl (je_jb (je_var 0)) (jo_some (je_add (je_jb (je_var 1)) (je_jb je_int))) jo_none))))) jss_nil) (jss_cons (js_if (jt_w (jw_and (jt_lt (je_jb (je_add (je_jb (je_var 1)) (je_jb je_int))) (je_jb (je_len Z.f_len (je_jb (je_var 0))))) (jw_and (jt_eq hr (je_jb (je_ix hr (je_jb (je_var 0)) (je_var 1))) (je_jb (je_ix hr (je_jb (je_var 0)) (je_add (je_jb (je_var 1)) (je_jb je_int))))) (jw_and1 (jt_eq hr (je_jb (je_abs Z.f_abs (je_jb (je_sub (je_jb (je_ix hr (je_jb (je_var 0)) (je_var 1))) (je_jb (je_ix hr (je_jb (je_var 0)) (je_add (je_jb (je_var 1)) (je_jb je_int)))))))) (je_jb je_int)))))) (jss_one (js_ret (je_add (je_jb (je_add (je_jb (je_sl (je_jb (je_var 0)) jo_none (jo_some (je_var 1)))) (je_jb (je_tup (ja_cons (je_ix hr (je_jb (je_var 0)) (je_add (je_jb (je_var 1)) (je_jb je_int))) (ja_cons (je_ix hr (je_jb (je_var 0)) (je_var 1)) (ja_cons (je_ix hr (je_jb (je_var 0)) (je_add (je_jb (je_var 1)) (je_jb je_int))) ja_nil))))))) (je_jb (je_sl (je_jb (je_var 0)) (jo_some (je_add (je_jb (je_var 1)) (je_jb je_int))) jo_none))))) jss_nil) (jss_one (js_ret (je_tup ja_nil)))))
theorem ok_l_braids_right (Z : Facts K mg) : DefOk ct0 P w K mg base "_law_braids_right" s_l_braids_right 7 ["_law_rows_now"] f_l_braids_right := by
  have D_braids := ok_braids (P := P) (w := w) (base := base) Z
  have D_braided := ok_braided (P := P) (w := w) (base := base) Z
  have D_l_braid := ok_l_braid (P := P) (w := w) (base := base) Z
  exact def_ok Z.d_l_braids_right sc_l_braids_right fun _ _ _ _ _ _ _ hr hG => (jss_cons (js_parFF 2 3 sc_l_braids_right.nd (jf_dict true) (jf_lst (ja_cons (je_ix hr (je_jb (je_var 0)) (je_neg je_int)) ja_nil))) (jss_cons (js_for (ji_range1 Z.f_range (ja_cons (je_add (je_jb (je_mulB (je_jb (je_len Z.f_len (je_jb (je_var 0)))) (je_jb je_int))) (je_jb je_int)) ja_nil)) (jn_name 1 sc_l_braids_right.nd) (jss_one (js_if (jt_ne hr (jb_own 3) (je_jb (jf_je (jf_lst ja_nil)))) (jss_cons (js_pop 3 (jg_n (jn_name 4 sc_l_braids_right.nd))) (jss_one (js_if (jt_notIn hr (je_var 4) (jb_own 2)) (jss_cons (js_asgG je_bl (jg_own 2 hr (je_var 4))) (jss_cons (js_set 5 sc_l_braids_right.nd (je_call (D_braids.mono (by decide)) hr hG pb_braids (ja_cons (je_var 4) ja_nil) rfl (al_cons al_nil))) (jss_cons (js_if (jt_ne hr (je_jb (je_var 5)) (je_jb (je_tuple Z.f_tuple (je_jb (jf_je (jf_lc [("_law_at", 6)] sc_l_braids_right.nd (ji_range1 Z.f_range (ja_cons (je_len Z.f_len (je_jb (je_var 4))) ja_nil)) b_l_braids_right_0 (fun _ _ _ _ _ => (jn_name 6 sc_l_braids_right.nd)) (fun _ _ _ _ _ => (jts_one (jt_ne hr (je_jb (je_call (D_l_braid.mono (by decide)) hr hG pb_l_braid (ja_cons (je_var 4) (ja_cons (je_var 6) ja_nil)) rfl (al_cons (al_cons al_nil)))) (je_jb (je_tup ja_nil))))) (fun _ _ _ _ _ => (je_var 6)))))))) (jss_one (js_ret je_bl)) jss_nil) (jss_one (js_for (ji_seq (je_var 5)) (jn_name 6 sc_l_braids_right.nd) (jss_cons (js_set 7 sc_l_braids_right.nd (je_call (D_braided.mono (by decide)) hr hG pb_braided (ja_cons (je_var 4) (ja_cons (je_var 6) ja_nil)) rfl (al_cons (al_cons al_nil)))) (jss_cons (js_if (jt_w (jw_or (jt_ne hr (je_jb (je_var 7)) (je_jb (je_call (D_l_braid.mono (by decide)) hr hG pb_l_braid (ja_cons (je_var 4) (ja_cons (je_var 6) ja_nil)) rfl (al_cons (al_cons al_nil))))) (jw_or1 (jt_ne hr (je_jb (je_callP swap2 (D_braided.mono (by decide)) hr hG kp_braided (jk_cons (je_var 6) (jk_cons (je_var 7) jk_nil)) swap2_len swap2_vals swap2_rep (al_cons (al_cons al_nil)))) (je_jb (je_var 4)))))) (jss_one (js_ret je_bl)) jss_nil) (jss_one (js_append 3 (je_var 7)))))))))) jss_nil))) jss_nil))) (jss_one (js_ret (je_and (je_eq hr (je_jb (jf_je (jf_sorted (.seq .int) hr Z.f_sorted (jb_own 2)))) (je_jb (je_var 0))) (je_one (je_eq hr (jb_own 3) (je_jb (jf_je (jf_lst ja_nil))))))))))
theorem ok_l_walked (Z : Facts K mg) : DefOk ct0 P w K mg base "_law_walked" s_l_walked 2 ["_law_steps", "_law_span"] f_l_walked := by
  have D_l_swapped := ok_l_swapped (P := P) (w := w) (base := base) Z
  exact def_ok Z.d_l_walked sc_l_walked fun _ _ _ _ _ _ _ hr hG => (jss_cons (js_set 2 sc_l_walked.nd (je_tupR Z.f_tuple (jr_range2 Z.f_range (ja_cons je_int (ja_cons (je_add (je_jb (je_var 1)) (je_jb je_int)) ja_nil))))) (jss_cons (js_for (ji_seq (je_var 0)) (jn_name 3 sc_l_walked.nd) (jss_one (js_set 2 sc_l_walked.nd (je_call (D_l_swapped.mono (by decide)) hr hG pb_l_swapped (ja_cons (je_var 2) (ja_cons (je_var 3) ja_nil)) rfl (al_cons (al_cons al_nil)))))) (jss_one (js_ret (je_var 2)))))
theorem ok_l_is_short (Z : Facts K mg) : DefOk ct0 P w K mg base "_law_is_short" s_l_is_short 3 ["_law_steps"] f_l_is_short := by
  have D_l_turned_pairs := ok_l_turned_pairs (P := P) (w := w) (base := base) Z
  have D_l_walked := ok_l_walked (P := P) (w := w) (base := base) Z
  exact def_ok Z.d_l_is_short sc_l_is_short fun _ _ _ _ _ _ _ hr hG => (jss_cons (js_set 1 sc_l_is_short.nd (je_add (je_jb (je_maxL Z.f_max (je_jb (je_add (je_jb (jf_je (jf_lst (ja_cons je_int ja_nil)))) (je_jb (jf_je (jf_list Z.f_list (je_jb (je_var 0))))))))) (je_jb je_int))) (jss_one (js_ret (je_and (je_lt (je_jb (je_var 1)) (je_jb je_int)) (je_one (je_eq hr (je_jb (je_call (D_l_turned_pairs.mono (by decide)) hr hG pb_l_turned_pairs (ja_cons (je_call (D_l_walked.mono (by decide)) hr hG pb_l_walked (ja_cons (je_var 0) (ja_cons (je_var 1) ja_nil)) rfl (al_cons (al_cons al_nil))) ja_nil) rfl (al_cons al_nil))) (je_jb (je_len Z.f_len (je_jb (je_var 0))))))))))
theorem ok_l_near_right (Z : Facts K mg) : DefOk ct0 P w K mg base "_law_near_right" s_l_near_right 7 ["_law_tap_here", "_law_steps", "_law_line_here"] f_l_near_right := by
  have D_order_by := ok_order_by (P := P) (w := w) (base := base) Z
  have D_is_reduced := ok_is_reduced (P := P) (w := w) (base := base) Z
  have D_l_dip := ok_l_dip (P := P) (w := w) (base := base) Z
  have D_l_walked := ok_l_walked (P := P) (w := w) (base := base) Z
  have D_l_is_short := ok_l_is_short (P := P) (w := w) (base := base) Z
  exact def_ok Z.d_l_near_right sc_l_near_right fun _ _ _ _ _ _ _ hr hG => (jss_cons (js_par 6 7 sc_l_near_right.nd (ja_cons (je_call (D_l_dip.mono (by decide)) hr hG pb_l_dip (ja_cons (je_var 0) (ja_cons (je_add (je_jb (je_len Z.f_len (je_jb (je_var 1)))) (je_jb je_int)) ja_nil)) rfl (al_cons (al_cons al_nil))) (ja_cons (je_tup (ja_cons (je_add (je_jb je_int) (je_jb (je_call (D_l_dip.mono (by decide)) hr hG pb_l_dip (ja_cons (je_var 0) (ja_cons je_int ja_nil)) rfl (al_cons (al_cons al_nil))))) ja_nil)) ja_nil))) (jss_cons (js_par 8 9 sc_l_near_right.nd (ja_cons (je_call (D_l_dip.mono (by decide)) hr hG pb_l_dip (ja_cons (je_var 0) (ja_cons je_int ja_nil)) rfl (al_cons (al_cons al_nil))) (ja_cons (je_call (D_l_dip.mono (by decide)) hr hG pb_l_dip (ja_cons (je_var 0) (ja_cons je_int ja_nil)) rfl (al_cons (al_cons al_nil))) ja_nil))) (jss_cons (js_set 3 sc_l_near_right.nd (je_add (je_jb (je_add (je_jb (je_sl (je_jb (je_var 1)) jo_none (jo_some (je_var 6)))) (je_jb (je_mulB (je_jb (je_var 7)) (je_jb (je_var 8)))))) (je_jb (je_sl (je_jb (je_var 1)) (jo_some (je_add (je_jb (je_var 6)) (je_jb (je_var 9)))) jo_none)))) (jss_cons (js_if (jt_rprNe hG hr Z.f_repr (je_jb (jf_je (jf_lst (ja_cons (je_call (D_is_reduced.mono (by decide)) hr hG pb_is_reduced (ja_cons (je_var 3) ja_nil) rfl (al_cons al_nil)) (ja_cons (je_callK0 (D_is_reduced.mono (by decide)) hr hG kw_is_reduced (jk_cons (je_var 3) jk_nil) (al_cons al_nil)) ja_nil))))) (je_jb (je_mulB (je_jb (jf_je (jf_lst (ja_cons (je_call (D_l_is_short.mono (by decide)) hr hG pb_l_is_short (ja_cons (je_var 3) ja_nil) rfl (al_cons al_nil)) ja_nil)))) (je_jb je_int)))) (jss_one (js_ret je_bl)) jss_nil) (jss_cons (js_set 4 sc_l_near_right.nd (je_maxL Z.f_max (je_jb (je_add (je_jb (jf_je (jf_lst (ja_cons (je_len Z.f_len (je_jb (je_var 2))) (ja_cons je_int ja_nil))))) (je_jb (jf_je (jf_lc [("_law_k", 10)] sc_l_near_right.nd (ji_seq (je_var 3)) b_l_near_right_0 (fun _ _ _ _ _ => (jn_name 10 sc_l_near_right.nd)) (fun _ _ _ _ _ => jts_nil) (fun _ _ _ _ _ => (je_add (je_jb (je_var 10)) (je_jb je_int)))))))))) (jss_cons (js_set 5 sc_l_near_right.nd (je_if (jt_lt (je_jb (je_var 4)) (je_jb je_int)) (je_call (D_l_walked.mono (by decide)) hr hG pb_l_walked (ja_cons (je_var 3) (ja_cons (je_var 4) ja_nil)) rfl (al_cons (al_cons al_nil))) (je_tup ja_nil))) (jss_one (js_ret (je_or (je_gt (je_jb (je_var 4)) (je_jb je_int)) (je_one (je_eq hr (je_jb (jf_je (jf_lst (ja_cons (je_call (D_order_by.mono (by decide)) hr hG pb_order_by (ja_cons (je_var 3) (ja_cons (je_var 4) ja_nil)) rfl (al_cons (al_cons al_nil))) (ja_cons (je_callP swap2 (D_order_by.mono (by decide)) hr hG kp_order_by (jk_cons (je_var 4) (jk_cons (je_var 3) jk_nil)) swap2_len swap2_vals swap2_rep (al_cons (al_cons al_nil))) ja_nil))))) (je_jb (jf_je (jf_lst (ja_cons (je_var 5) (ja_cons (je_var 5) ja_nil))))))))))))))))
theorem ok_l_right (Z : Facts K mg) : DefOk ct0 P w K mg base "_law_right" s_l_right 11 ["_law_tap_here"] f_l_right := by
  have D_inversion_count := ok_inversion_count (P := P) (w := w) (base := base) Z
  have D_exchanged_at := ok_exchanged_at (P := P) (w := w) (base := base) Z
  have D_order_by := ok_order_by (P := P) (w := w) (base := base) Z
  have D_is_reduced := ok_is_reduced (P := P) (w := w) (base := base) Z
  have D_reduced_rows := ok_reduced_rows (P := P) (w := w) (base := base) Z
  have D_reduced_count := ok_reduced_count (P := P) (w := w) (base := base) Z
  have D_l_of := ok_l_of (P := P) (w := w) (base := base) Z
  have D_l_swapped := ok_l_swapped (P := P) (w := w) (base := base) Z
  have D_l_line := ok_l_line (P := P) (w := w) (base := base) Z
  have D_l_turned_pairs := ok_l_turned_pairs (P := P) (w := w) (base := base) Z
  have D_l_all_steps := ok_l_all_steps (P := P) (w := w) (base := base) Z
  have D_l_braids_right := ok_l_braids_right (P := P) (w := w) (base := base) Z
  have D_l_near_right := ok_l_near_right (P := P) (w := w) (base := base) Z
  exact def_ok Z.d_l_right sc_l_right fun _ _ _ _ _ _ _ hr hG => (jss_cons (js_set 1 sc_l_right.nd (je_call (D_l_line.mono (by decide)) hr hG pb_l_line (ja_cons (je_var 0) (ja_cons je_int (ja_cons je_int ja_nil))) rfl (al_cons (al_cons (al_cons al_nil))))) (jss_cons (js_asg (je_tup (ja_cons (je_call (D_l_all_steps.mono (by decide)) hr hG pb_l_all_steps (ja_cons (je_var 1) ja_nil) rfl (al_cons al_nil)) (ja_cons (je_len Z.f_len (je_jb (je_var 1))) ja_nil))) (jn_tup rfl (jns_cons (jn_name 5 sc_l_right.nd) (jns_cons (jn_name 6 sc_l_right.nd) jns_nil)))) (jss_cons (js_set 2 sc_l_right.nd (jf_je (jf_lst (ja_cons (je_call (D_l_turned_pairs.mono (by decide)) hr hG pb_l_turned_pairs (ja_cons (je_var 1) ja_nil) rfl (al_cons al_nil)) (ja_cons (je_len Z.f_len (je_jb (je_var 5))) (ja_cons (je_tuple Z.f_tuple (je_jb (je_var 5))) ja_nil)))))) (jss_cons (js_if (jt_ne hr (je_jb (jf_je (jf_lst (ja_cons (je_call (D_inversion_count.mono (by decide)) hr hG pb_inversion_count (ja_cons (je_var 1) ja_nil) rfl (al_cons al_nil)) (ja_cons (je_call (D_reduced_count.mono (by decide)) hr hG pb_reduced_count (ja_cons (je_var 1) ja_nil) rfl (al_cons al_nil)) (ja_cons (je_call (D_reduced_rows.mono (by decide)) hr hG pb_reduced_rows (ja_cons (je_var 1) ja_nil) rfl (al_cons al_nil)) ja_nil)))))) (je_jb (je_var 2))) (jss_one (js_ret je_bl)) jss_nil) (jss_cons (js_if (jt_ne hr (je_jb (jf_je (jf_lst (ja_cons (je_callK0 (D_inversion_count.mono (by decide)) hr hG kw_inversion_count (jk_cons (je_var 1) jk_nil) (al_cons al_nil)) (ja_cons (je_callK0 (D_reduced_count.mono (by decide)) hr hG kw_reduced_count (jk_cons (je_var 1) jk_nil) (al_cons al_nil)) (ja_cons (je_callK0 (D_reduced_rows.mono (by decide)) hr hG kw_reduced_rows (jk_cons (je_var 1) jk_nil) (al_cons al_nil)) ja_nil)))))) (je_jb (je_var 2))) (jss_one (js_ret je_bl)) jss_nil) (jss_cons (js_for (ji_range2 Z.f_range (ja_cons je_int (ja_cons (je_var 6) ja_nil))) (jn_name 3 sc_l_right.nd) (jss_cons (js_if (jt_ne hr (je_jb (jf_je (jf_lst (ja_cons (je_call (D_exchanged_at.mono (by decide)) hr hG pb_exchanged_at (ja_cons (je_var 1) (ja_cons (je_var 3) ja_nil)) rfl (al_cons (al_cons al_nil))) (ja_cons (je_callP swap2 (D_exchanged_at.mono (by decide)) hr hG kp_exchanged_at (jk_cons (je_var 3) (jk_cons (je_var 1) jk_nil)) swap2_len swap2_vals swap2_rep (al_cons (al_cons al_nil))) ja_nil))))) (je_jb (je_mulB (je_jb (jf_je (jf_lst (ja_cons (je_call (D_l_swapped.mono (by decide)) hr hG pb_l_swapped (ja_cons (je_var 1) (ja_cons (je_var 3) ja_nil)) rfl (al_cons (al_cons al_nil))) ja_nil)))) (je_jb je_int)))) (jss_one (js_ret je_bl)) jss_nil) (jss_one (js_if (jt_ne hr (je_jb (je_abs Z.f_abs (je_jb (je_sub (je_jb (je_call (D_inversion_count.mono (by decide)) hr hG pb_inversion_count (ja_cons (je_call (D_exchanged_at.mono (by decide)) hr hG pb_exchanged_at (ja_cons (je_var 1) (ja_cons (je_var 3) ja_nil)) rfl (al_cons (al_cons al_nil))) ja_nil) rfl (al_cons al_nil))) (je_jb (je_ix hr (je_jb (je_var 2)) je_int)))))) (je_jb je_int)) (jss_one (js_ret je_bl)) jss_nil)))) (jss_cons (js_for (ji_seq (je_var 5)) (jn_name 4 sc_l_right.nd) (jss_one (js_if (jt_w (jw_or (jt_ne hr (je_jb (je_call (D_order_by.mono (by decide)) hr hG pb_order_by (ja_cons (je_var 4) (ja_cons (je_var 6) ja_nil)) rfl (al_cons (al_cons al_nil)))) (je_jb (je_var 1))) (jw_or1 (jt_notB (je_jb (je_call (D_is_reduced.mono (by decide)) hr hG pb_is_reduced (ja_cons (je_var 4) ja_nil) rfl (al_cons al_nil))) (je_jb je_bl))))) (jss_one (js_ret je_bl)) jss_nil))) (jss_cons (js_if (jt_not (jt_val (je_call (D_l_braids_right.mono (by decide)) hr hG pb_l_braids_right (ja_cons (je_var 5) ja_nil) rfl (al_cons al_nil)))) (jss_one (js_ret je_bl)) jss_nil) (jss_one (js_ret (je_all Z.f_all (je_jb (jf_je (jf_lc [("_law_turn", 7)] sc_l_right.nd (ji_range1 Z.f_range (ja_cons je_int ja_nil)) b_l_right_0 (fun _ _ _ _ _ => (jn_name 7 sc_l_right.nd)) (fun _ _ _ _ _ => jts_nil) (fun _ _ _ _ _ => (je_call (D_l_near_right.mono (by decide)) hr hG pb_l_near_right (ja_cons (je_var 0) (ja_cons (je_call (D_l_of.mono (by decide)) hr hG pb_l_of (ja_cons (je_var 0) (ja_cons (je_var 5) ja_nil)) rfl (al_cons (al_cons al_nil))) (ja_cons (je_var 1) ja_nil))) rfl (al_cons (al_cons (al_cons al_nil)))))))))))))))))))
theorem ok_law (Z : Facts K mg) : DefOk ct0 P w K mg base "law" s_law 12 ["_law_script"] f_law := by
  have D_l_tap := ok_l_tap (P := P) (w := w) (base := base) Z
  have D_l_right := ok_l_right (P := P) (w := w) (base := base) Z
  exact def_ok Z.d_law sc_law fun _ _ _ _ _ _ _ hr hG => (jss_one (js_ret (je_all Z.f_all (je_jb (jf_je (jf_lc [("_law_turn", 1)] sc_law.nd (ji_range1 Z.f_range (ja_cons (je_max2 Z.f_max (ja_cons je_int (ja_cons (je_min2 Z.f_min (ja_cons (je_len Z.f_len (je_jb (je_var 0))) (ja_cons je_int ja_nil))) ja_nil))) ja_nil)) b_law_0 (fun _ _ _ _ _ => (jn_name 1 sc_law.nd)) (fun _ _ _ _ _ => jts_nil) (fun _ _ _ _ _ => (je_call (D_l_right.mono (by decide)) hr hG pb_l_right (ja_cons (je_call (D_l_tap.mono (by decide)) hr hG pb_l_tap (ja_cons (je_var 0) (ja_cons (je_var 1) ja_nil)) rfl (al_cons (al_cons al_nil))) ja_nil) rfl (al_cons al_nil)))))))))
end
end K72
set_option Elab.async false
set_option linter.all false
set_option maxRecDepth 100000
set_option maxHeartbeats 0
namespace K72
open PySem PySem.Spec PyProof.Rows L2 J
def d_l_tap : He.DefD := ⟨("_law_tap", none), "_law_tap", "_law_tap", defArgs s_l_tap, defBody s_l_tap, defScope s_l_tap, [], []⟩
def d_is_integer : He.DefD := ⟨("is_integer", none), "is_integer", "is_integer", defArgs s_is_integer, defBody s_is_integer, defScope s_is_integer, [], []⟩
def d_is_within : He.DefD := ⟨("is_within", none), "is_within", "is_within", defArgs s_is_within, defBody s_is_within, defScope s_is_within, [], []⟩
def d_is_letter : He.DefD := ⟨("is_letter", none), "is_letter", "is_letter", defArgs s_is_letter, defBody s_is_letter, defScope s_is_letter, [], []⟩
def d_is_word : He.DefD := ⟨("is_word", none), "is_word", "is_word", defArgs s_is_word, defBody s_is_word, defScope s_is_word, [], []⟩
def d_check_word : He.DefD := ⟨("check_word", none), "check_word", "check_word", defArgs s_check_word, defBody s_check_word, defScope s_check_word, [], []⟩
def d_is_order : He.DefD := ⟨("is_order", none), "is_order", "is_order", defArgs s_is_order, defBody s_is_order, defScope s_is_order, [], []⟩
def d_check_order : He.DefD := ⟨("check_order", none), "check_order", "check_order", defArgs s_check_order, defBody s_check_order, defScope s_check_order, [], []⟩
def d_inversions_of : He.DefD := ⟨("inversions_of", none), "inversions_of", "inversions_of", defArgs s_inversions_of, defBody s_inversions_of, defScope s_inversions_of, [], []⟩
def d_inversion_count : He.DefD := ⟨("inversion_count", none), "inversion_count", "inversion_count", defArgs s_inversion_count, defBody s_inversion_count, defScope s_inversion_count, [], []⟩
def d_swapped : He.DefD := ⟨("swapped", none), "swapped", "swapped", defArgs s_swapped, defBody s_swapped, defScope s_swapped, [], []⟩
def d_exchanged_at : He.DefD := ⟨("exchanged_at", none), "exchanged_at", "exchanged_at", defArgs s_exchanged_at, defBody s_exchanged_at, defScope s_exchanged_at, [], []⟩
def d_order_of_row : He.DefD := ⟨("order_of_row", none), "order_of_row", "order_of_row", defArgs s_order_of_row, defBody s_order_of_row, defScope s_order_of_row, [], []⟩
def d_order_by : He.DefD := ⟨("order_by", none), "order_by", "order_by", defArgs s_order_by, defBody s_order_by, defScope s_order_by, [], []⟩
def d_is_reduced_row : He.DefD := ⟨("is_reduced_row", none), "is_reduced_row", "is_reduced_row", defArgs s_is_reduced_row, defBody s_is_reduced_row, defScope s_is_reduced_row, [], []⟩
def d_is_reduced : He.DefD := ⟨("is_reduced", none), "is_reduced", "is_reduced", defArgs s_is_reduced, defBody s_is_reduced, defScope s_is_reduced, [], []⟩
def d_descents_of : He.DefD := ⟨("descents_of", none), "descents_of", "descents_of", defArgs s_descents_of, defBody s_descents_of, defScope s_descents_of, [], []⟩
def d_count_of : He.DefD := ⟨("count_of", none), "count_of", "count_of", defArgs s_count_of, defBody s_count_of, defScope s_count_of, [], []⟩
def d_rows_of_order : He.DefD := ⟨("rows_of_order", none), "rows_of_order", "rows_of_order", defArgs s_rows_of_order, defBody s_rows_of_order, defScope s_rows_of_order, [], []⟩
def d_check_inversions : He.DefD := ⟨("check_inversions", none), "check_inversions", "check_inversions", defArgs s_check_inversions, defBody s_check_inversions, defScope s_check_inversions, [], []⟩
def d_reduced_rows : He.DefD := ⟨("reduced_rows", none), "reduced_rows", "reduced_rows", defArgs s_reduced_rows, defBody s_reduced_rows, defScope s_reduced_rows, [], []⟩
def d_reduced_count : He.DefD := ⟨("reduced_count", none), "reduced_count", "reduced_count", defArgs s_reduced_count, defBody s_reduced_count, defScope s_reduced_count, [], []⟩
def d_l_dip : He.DefD := ⟨("_law_dip", none), "_law_dip", "_law_dip", defArgs s_l_dip, defBody s_l_dip, defScope s_l_dip, [], []⟩
def d_l_of : He.DefD := ⟨("_law_of", none), "_law_of", "_law_of", defArgs s_l_of, defBody s_l_of, defScope s_l_of, [], []⟩
def d_l_swapped : He.DefD := ⟨("_law_swapped", none), "_law_swapped", "_law_swapped", defArgs s_l_swapped, defBody s_l_swapped, defScope s_l_swapped, [], []⟩
def d_l_line : He.DefD := ⟨("_law_line", none), "_law_line", "_law_line", defArgs s_l_line, defBody s_l_line, defScope s_l_line, [], []⟩
def d_l_turned_pairs : He.DefD := ⟨("_law_turned_pairs", none), "_law_turned_pairs", "_law_turned_pairs", defArgs s_l_turned_pairs, defBody s_l_turned_pairs, defScope s_l_turned_pairs, [], []⟩
def d_l_all_steps : He.DefD := ⟨("_law_all_steps", none), "_law_all_steps", "_law_all_steps", defArgs s_l_all_steps, defBody s_l_all_steps, defScope s_l_all_steps, [], []⟩
def d_word_braided : He.DefD := ⟨("word_braided", none), "word_braided", "word_braided", defArgs s_word_braided, defBody s_word_braided, defScope s_word_braided, [], []⟩
def d_braids : He.DefD := ⟨("braids", none), "braids", "braids", defArgs s_braids, defBody s_braids, defScope s_braids, [], []⟩
def d_braided : He.DefD := ⟨("braided", none), "braided", "braided", defArgs s_braided, defBody s_braided, defScope s_braided, [], []⟩
def d_l_braid : He.DefD := ⟨("_law_braid", none), "_law_braid", "_law_braid", defArgs s_l_braid, defBody s_l_braid, defScope s_l_braid, [], []⟩
def d_l_braids_right : He.DefD := ⟨("_law_braids_right", none), "_law_braids_right", "_law_braids_right", defArgs s_l_braids_right, defBody s_l_braids_right, defScope s_l_braids_right, [], []⟩
def d_l_walked : He.DefD := ⟨("_law_walked", none), "_law_walked", "_law_walked", defArgs s_l_walked, defBody s_l_walked, defScope s_l_walked, [], []⟩
def d_l_is_short : He.DefD := ⟨("_law_is_short", none), "_law_is_short", "_law_is_short", defArgs s_l_is_short, defBody s_l_is_short, defScope s_l_is_short, [], []⟩
def d_l_near_right : He.DefD := ⟨("_law_near_right", none), "_law_near_right", "_law_near_right", defArgs s_l_near_right, defBody s_l_near_right, defScope s_l_near_right, [], []⟩
def d_l_right : He.DefD := ⟨("_law_right", none), "_law_right", "_law_right", defArgs s_l_right, defBody s_l_right, defScope s_l_right, [], []⟩
def d_law : He.DefD := ⟨("law", none), "law", "law", defArgs s_law, defBody s_law, defScope s_law, [], []⟩
def fnL : List He.DefD := [d_l_tap, d_is_integer, d_is_within, d_is_letter, d_is_word, d_check_word, d_is_order, d_check_order, d_inversions_of, d_inversion_count, d_swapped, d_exchanged_at, d_order_of_row, d_order_by, d_is_reduced_row, d_is_reduced, d_descents_of, d_count_of, d_rows_of_order, d_check_inversions, d_reduced_rows, d_reduced_count, d_l_dip, d_l_of, d_l_swapped, d_l_line, d_l_turned_pairs, d_l_all_steps, d_word_braided, d_braids, d_braided, d_l_braid, d_l_braids_right, d_l_walked, d_l_is_short, d_l_near_right, d_l_right, d_law]
def faL : List He.Fa := [.glo "_law_tap", .glo "is_integer", .glo "is_within", .glo "is_letter", .glo "is_word", .glo "check_word", .glo "is_order", .glo "check_order", .glo "inversions_of", .glo "inversion_count", .glo "swapped", .glo "exchanged_at", .glo "order_of_row", .glo "order_by", .glo "is_reduced_row", .glo "is_reduced", .glo "descents_of", .glo "count_of", .glo "rows_of_order", .glo "check_inversions", .glo "reduced_rows", .glo "reduced_count", .glo "_law_dip", .glo "_law_of", .glo "_law_swapped", .glo "_law_line", .glo "_law_turned_pairs", .glo "_law_all_steps", .glo "word_braided", .glo "braids", .glo "braided", .glo "_law_braid", .glo "_law_braids_right", .glo "_law_walked", .glo "_law_is_short", .glo "_law_near_right", .glo "_law_right", .glo "law", .free "abs", .free "all", .free "any", .free "bool", .free "divmod", .free "enumerate", .free "int", .free "isinstance", .free "len", .free "list", .free "max", .free "min", .free "range", .free "repr", .free "sorted", .free "sum", .free "tuple", .int "MOST_LETTER" 12, .int "MOST_LISTED" 2000, .int "MOST_LONG" 12]
abbrev R : PySem.W.OpenRow := PySem.W.OpenLaw.row PySem.Challenge.rw_wordshapes_k72_whole_reduced_rows
abbrev hk : PySem.W.Hook := He.hookD 4 faL fnL
def ob (s : PySem.W.SharedT) : He.AlD := He.obsDG 4 faL fnL (HandSHeadRun.getT s)
theorem ob_eq (st : PySem.W.SharedT) : ob st = hk.obs st.abs := He.obsDG_eq (HandSHeadRun.getT_eq st)
def looseP0 : List Str := ["WrongValue", "InvalidWord", "InvalidLetter", "InvalidPlace", "InvalidNumber", "NoAnswer", "NotStandard", "NoMove", "TooMany", "MOST_LETTER", "MOST_LONG", "MOST_LISTED", "is_integer", "is_within", "is_letter", "is_word", "check_word", "is_order", "descents_of", "check_order", "swapped", "inversions_of", "order_of_row", "is_reduced_row", "count_of", "rows_of_order", "word_braided", "check_inversions", "inversion_count", "exchanged_at"]
def looseP1 : List Str := ["order_by", "is_reduced", "reduced_rows", "reduced_count", "braids", "braided", "_law_tap", "_law_dip", "_law_of", "_law_swapped", "_law_line", "_law_turned_pairs", "_law_walked", "_law_is_short", "_law_all_steps", "_law_braid", "_law_braids_right", "_law_near_right", "_law_right"]
def loose : List Str := looseP0 ++ looseP1
theorem run (w : World) : HandSHeadRun.RunEq R (PySem.W.view R.prog [53]) hk ob 9000 loose w := by
  intro os
  kernel_rfl
theorem facts {K : PySem.W.Frag} {h : Heap} {mg : Str → Option Value} (X : K.In h) (G : h.Ns mainGlobals mg) (c : He.SaysD faL fnL K) : Facts K mg where
  f_abs := He.free_ok X G (c.fact 38 (f := .free "abs") rfl)
  f_all := He.free_ok X G (c.fact 39 (f := .free "all") rfl)
  f_any := He.free_ok X G (c.fact 40 (f := .free "any") rfl)
  f_bool := He.free_ok X G (c.fact 41 (f := .free "bool") rfl)
  f_divmod := He.free_ok X G (c.fact 42 (f := .free "divmod") rfl)
  f_enumerate := He.free_ok X G (c.fact 43 (f := .free "enumerate") rfl)
  f_int := He.free_ok X G (c.fact 44 (f := .free "int") rfl)
  f_isinstance := He.free_ok X G (c.fact 45 (f := .free "isinstance") rfl)
  f_len := He.free_ok X G (c.fact 46 (f := .free "len") rfl)
  f_list := He.free_ok X G (c.fact 47 (f := .free "list") rfl)
  f_max := He.free_ok X G (c.fact 48 (f := .free "max") rfl)
  f_min := He.free_ok X G (c.fact 49 (f := .free "min") rfl)
  f_range := He.free_ok X G (c.fact 50 (f := .free "range") rfl)
  f_repr := He.free_ok X G (c.fact 51 (f := .free "repr") rfl)
  f_sorted := He.free_ok X G (c.fact 52 (f := .free "sorted") rfl)
  f_sum := He.free_ok X G (c.fact 53 (f := .free "sum") rfl)
  f_tuple := He.free_ok X G (c.fact 54 (f := .free "tuple") rfl)
  c_MOST_LETTER := He.int_ok X G (c.fact 55 (f := .int "MOST_LETTER" 12) rfl)
  c_MOST_LISTED := He.int_ok X G (c.fact 56 (f := .int "MOST_LISTED" 2000) rfl)
  c_MOST_LONG := He.int_ok X G (c.fact 57 (f := .int "MOST_LONG" 12) rfl)
  d_l_tap := let ⟨fd, F⟩ := c.def_ 0 (d := d_l_tap) rfl; ⟨_, fd, F, He.glo_ok X G (c.fact 0 (f := .glo "_law_tap") rfl)⟩
  d_is_integer := let ⟨fd, F⟩ := c.def_ 1 (d := d_is_integer) rfl; ⟨_, fd, F, He.glo_ok X G (c.fact 1 (f := .glo "is_integer") rfl)⟩
  d_is_within := let ⟨fd, F⟩ := c.def_ 2 (d := d_is_within) rfl; ⟨_, fd, F, He.glo_ok X G (c.fact 2 (f := .glo "is_within") rfl)⟩
  d_is_letter := let ⟨fd, F⟩ := c.def_ 3 (d := d_is_letter) rfl; ⟨_, fd, F, He.glo_ok X G (c.fact 3 (f := .glo "is_letter") rfl)⟩
  d_is_word := let ⟨fd, F⟩ := c.def_ 4 (d := d_is_word) rfl; ⟨_, fd, F, He.glo_ok X G (c.fact 4 (f := .glo "is_word") rfl)⟩
  d_check_word := let ⟨fd, F⟩ := c.def_ 5 (d := d_check_word) rfl; ⟨_, fd, F, He.glo_ok X G (c.fact 5 (f := .glo "check_word") rfl)⟩
  d_is_order := let ⟨fd, F⟩ := c.def_ 6 (d := d_is_order) rfl; ⟨_, fd, F, He.glo_ok X G (c.fact 6 (f := .glo "is_order") rfl)⟩
  d_check_order := let ⟨fd, F⟩ := c.def_ 7 (d := d_check_order) rfl; ⟨_, fd, F, He.glo_ok X G (c.fact 7 (f := .glo "check_order") rfl)⟩
  d_inversions_of := let ⟨fd, F⟩ := c.def_ 8 (d := d_inversions_of) rfl; ⟨_, fd, F, He.glo_ok X G (c.fact 8 (f := .glo "inversions_of") rfl)⟩
  d_inversion_count := let ⟨fd, F⟩ := c.def_ 9 (d := d_inversion_count) rfl; ⟨_, fd, F, He.glo_ok X G (c.fact 9 (f := .glo "inversion_count") rfl)⟩
  d_swapped := let ⟨fd, F⟩ := c.def_ 10 (d := d_swapped) rfl; ⟨_, fd, F, He.glo_ok X G (c.fact 10 (f := .glo "swapped") rfl)⟩
  d_exchanged_at := let ⟨fd, F⟩ := c.def_ 11 (d := d_exchanged_at) rfl; ⟨_, fd, F, He.glo_ok X G (c.fact 11 (f := .glo "exchanged_at") rfl)⟩
  d_order_of_row := let ⟨fd, F⟩ := c.def_ 12 (d := d_order_of_row) rfl; ⟨_, fd, F, He.glo_ok X G (c.fact 12 (f := .glo "order_of_row") rfl)⟩
  d_order_by := let ⟨fd, F⟩ := c.def_ 13 (d := d_order_by) rfl; ⟨_, fd, F, He.glo_ok X G (c.fact 13 (f := .glo "order_by") rfl)⟩
  d_is_reduced_row := let ⟨fd, F⟩ := c.def_ 14 (d := d_is_reduced_row) rfl; ⟨_, fd, F, He.glo_ok X G (c.fact 14 (f := .glo "is_reduced_row") rfl)⟩
  d_is_reduced := let ⟨fd, F⟩ := c.def_ 15 (d := d_is_reduced) rfl; ⟨_, fd, F, He.glo_ok X G (c.fact 15 (f := .glo "is_reduced") rfl)⟩
  d_descents_of := let ⟨fd, F⟩ := c.def_ 16 (d := d_descents_of) rfl; ⟨_, fd, F, He.glo_ok X G (c.fact 16 (f := .glo "descents_of") rfl)⟩
  d_count_of := let ⟨fd, F⟩ := c.def_ 17 (d := d_count_of) rfl; ⟨_, fd, F, He.glo_ok X G (c.fact 17 (f := .glo "count_of") rfl)⟩
  d_rows_of_order := let ⟨fd, F⟩ := c.def_ 18 (d := d_rows_of_order) rfl; ⟨_, fd, F, He.glo_ok X G (c.fact 18 (f := .glo "rows_of_order") rfl)⟩
  d_check_inversions := let ⟨fd, F⟩ := c.def_ 19 (d := d_check_inversions) rfl; ⟨_, fd, F, He.glo_ok X G (c.fact 19 (f := .glo "check_inversions") rfl)⟩
  d_reduced_rows := let ⟨fd, F⟩ := c.def_ 20 (d := d_reduced_rows) rfl; ⟨_, fd, F, He.glo_ok X G (c.fact 20 (f := .glo "reduced_rows") rfl)⟩
  d_reduced_count := let ⟨fd, F⟩ := c.def_ 21 (d := d_reduced_count) rfl; ⟨_, fd, F, He.glo_ok X G (c.fact 21 (f := .glo "reduced_count") rfl)⟩
  d_l_dip := let ⟨fd, F⟩ := c.def_ 22 (d := d_l_dip) rfl; ⟨_, fd, F, He.glo_ok X G (c.fact 22 (f := .glo "_law_dip") rfl)⟩
  d_l_of := let ⟨fd, F⟩ := c.def_ 23 (d := d_l_of) rfl; ⟨_, fd, F, He.glo_ok X G (c.fact 23 (f := .glo "_law_of") rfl)⟩
  d_l_swapped := let ⟨fd, F⟩ := c.def_ 24 (d := d_l_swapped) rfl; ⟨_, fd, F, He.glo_ok X G (c.fact 24 (f := .glo "_law_swapped") rfl)⟩
  d_l_line := let ⟨fd, F⟩ := c.def_ 25 (d := d_l_line) rfl; ⟨_, fd, F, He.glo_ok X G (c.fact 25 (f := .glo "_law_line") rfl)⟩
  d_l_turned_pairs := let ⟨fd, F⟩ := c.def_ 26 (d := d_l_turned_pairs) rfl; ⟨_, fd, F, He.glo_ok X G (c.fact 26 (f := .glo "_law_turned_pairs") rfl)⟩
  d_l_all_steps := let ⟨fd, F⟩ := c.def_ 27 (d := d_l_all_steps) rfl; ⟨_, fd, F, He.glo_ok X G (c.fact 27 (f := .glo "_law_all_steps") rfl)⟩
  d_word_braided := let ⟨fd, F⟩ := c.def_ 28 (d := d_word_braided) rfl; ⟨_, fd, F, He.glo_ok X G (c.fact 28 (f := .glo "word_braided") rfl)⟩
  d_braids := let ⟨fd, F⟩ := c.def_ 29 (d := d_braids) rfl; ⟨_, fd, F, He.glo_ok X G (c.fact 29 (f := .glo "braids") rfl)⟩
  d_braided := let ⟨fd, F⟩ := c.def_ 30 (d := d_braided) rfl; ⟨_, fd, F, He.glo_ok X G (c.fact 30 (f := .glo "braided") rfl)⟩
  d_l_braid := let ⟨fd, F⟩ := c.def_ 31 (d := d_l_braid) rfl; ⟨_, fd, F, He.glo_ok X G (c.fact 31 (f := .glo "_law_braid") rfl)⟩
  d_l_braids_right := let ⟨fd, F⟩ := c.def_ 32 (d := d_l_braids_right) rfl; ⟨_, fd, F, He.glo_ok X G (c.fact 32 (f := .glo "_law_braids_right") rfl)⟩
  d_l_walked := let ⟨fd, F⟩ := c.def_ 33 (d := d_l_walked) rfl; ⟨_, fd, F, He.glo_ok X G (c.fact 33 (f := .glo "_law_walked") rfl)⟩
  d_l_is_short := let ⟨fd, F⟩ := c.def_ 34 (d := d_l_is_short) rfl; ⟨_, fd, F, He.glo_ok X G (c.fact 34 (f := .glo "_law_is_short") rfl)⟩
  d_l_near_right := let ⟨fd, F⟩ := c.def_ 35 (d := d_l_near_right) rfl; ⟨_, fd, F, He.glo_ok X G (c.fact 35 (f := .glo "_law_near_right") rfl)⟩
  d_l_right := let ⟨fd, F⟩ := c.def_ 36 (d := d_l_right) rfl; ⟨_, fd, F, He.glo_ok X G (c.fact 36 (f := .glo "_law_right") rfl)⟩
  d_law := let ⟨fd, F⟩ := c.def_ 37 (d := d_law) rfl; ⟨_, fd, F, He.glo_ok X G (c.fact 37 (f := .glo "law") rfl)⟩
end K72
set_option Elab.async false
set_option maxRecDepth 100000
set_option maxHeartbeats 0
namespace K72
open PySem PySem.Spec PyProof.Rows L2 J
def TapIs (S : Sto) (n : Nat) : Prop := ∃ a b c, S[n]? = some [.int a, .int b, .int c] ∧ 0 ≤ a ∧ 0 ≤ b ∧ b < 2147483587
theorem dip_ok (n : Nat) (S : Sto) (t : Int) (hS : TapIs S n) (ht : 0 < t) (ht2 : t < 1000000) :
    ∃ d S', f_l_dip [.obj n, .int t] S = .ok (.int d, S') ∧ 0 ≤ d ∧ d < t ∧ TapIs S' n := by
  obtain ⟨a, b, c, hS, ha, hb, hb2⟩ := hS
  have hn : n < S.length := (List.getElem?_eq_some_iff.mp hS).1
  have ht3 : t < 1073741824 := by omega
  have hset : ∀ xs : List PV, (S.set n xs)[n]? = some xs := fun xs => List.getElem?_set_self hn
  by_cases h0 : 0 < a
  · refine ⟨a % t, S.set n [.int (a / t), .int b, .int (c + 1)], ?_, Int.emod_nonneg _ (by omega), Int.emod_lt_of_pos _ ht, ⟨_, _, _, hset _, Int.ediv_nonneg ha (by omega), hb, hb2⟩⟩
    simp [f_l_dip, runF, F_l_dip, env0, sSeq, sAsgG, sSet, sIf, sRet, sNext, eOp, eIx, eV, eC, eUn, eB, aCons, aNil, gSubO, gOf, gN, ggT, ggCons, ggNil, tV, pAdd, pIx, atI, ixN, pInt, pMod, pMulB, pMulA, pMul, pCmp, pDivmod, pDiv, Res.bind, ofO, hS, hset, h0, ht, ht3]
  · have hmul1 : okMul 7013 (c + 1) = true := by unfold okMul; rw [decide_eq_true_eq]; left; omega
    have hmul2 : okMul b 40014 = true := by unfold okMul; rw [decide_eq_true_eq]; left; omega
    refine ⟨((b * 40014 + 7013 * (c + 1) + 9) % 2147483587 / 928) % t, S.set n [.int a, .int ((b * 40014 + 7013 * (c + 1) + 9) % 2147483587), .int (c + 1)], ?_, Int.emod_nonneg _ (by omega), Int.emod_lt_of_pos _ ht, ⟨_, _, _, hset _, ha, Int.emod_nonneg _ (by omega), Int.emod_lt_of_pos _ (by omega)⟩⟩
    simp [f_l_dip, runF, F_l_dip, env0, sSeq, sAsgG, sSet, sIf, sRet, sNext, eOp, eIx, eV, eC, eUn, eB, aCons, aNil, gSubO, gOf, gN, ggT, ggCons, ggNil, tV, pAdd, pIx, atI, ixN, pInt, pMod, pMulB, pMulA, pMul, pCmp, pDivmod, pDiv, Res.bind, ofO, hS, hset, hmul1, hmul2, h0, ht, ht3]
/-! ### a tap made -/
def Stir : FS := (sSet 2 (eOp pMod (eUn pInt (eOp pAdd (eOp pAdd (eOp pMulB (eV 2) (eC (.int 44021))) (eOp pMulB (eUn pInt (eV 3)) (eC (.int 43)))) (eV 1))) (eC (.int 2147483587))))
theorem stir_ok (S : Sto) (e0 e4 : Slot) (k : Int) : ∀ (zs : List Int) (e3 : Slot) (s : Int), 0 ≤ s → s < 2147483587 →
    ∃ s' e3', forL (gN 3) Stir (zs.map PV.int) [e0, .val (.int k), .val (.int s), e3, e4] S = .ok (.nx [e0, .val (.int k), .val (.int s'), e3', e4] S) ∧ 0 ≤ s' ∧ s' < 2147483587
  | [], e3, s, h1, h2 => ⟨s, e3, rfl, h1, h2⟩
  | z :: zs, e3, s, h1, h2 => by
    obtain ⟨s', e3', h, k1, k2⟩ := stir_ok S e0 e4 k zs (.val (.int z)) ((s * 44021 + z * 43 + k) % 2147483587) (Int.emod_nonneg _ (by omega)) (Int.emod_lt_of_pos _ (by omega))
    refine ⟨s', e3', ?_, k1, k2⟩
    have hm : okMul s 44021 = true := by unfold okMul; rw [decide_eq_true_eq]; right; omega
    have hm2 : okMul z 43 = true := by unfold okMul; rw [decide_eq_true_eq]; right; omega
    rw [List.map_cons, forL]
    rw [← h]
    simp [Stir, sSet, eOp, eUn, eV, eC, gN, ofO, Res.bind, pMulB, pMulA, pMul, pAdd, pMod, pInt, hm, hm2]
def TapA : FS := (sRet (eNew (aCons (eIf (tOrr (tV (eOp pLt (eV 4) (eC (.int 0)))) (tV (eOp pGe (eV 4) (eOp pPow (eC (.int 10)) (eC (.int 17)))))) (eUn pAbs (eV 4)) (eC (.int 0))) (aCons (eOp pMod (eUn pInt (eOp pAdd (eV 2) (eOp pMulB (eV 4) (eC (.int 47))))) (eC (.int 2147483587))) (aCons (eC (.int 0)) aNil)))))
theorem tapA_ok (S : Sto) (e0 e1 e3 : Slot) (z s : Int) : ∃ a b, 0 ≤ a ∧ 0 ≤ b ∧ b < 2147483587 ∧ TapA [e0, e1, .val (.int s), e3, .val (.int z)] S = .ok (.rt (.obj S.length) (S ++ [[.int a, .int b, .int 0]])) := by
  have hm : okMul z 47 = true := by unfold okMul; rw [decide_eq_true_eq]; right; omega
  by_cases h : z < 0 ∨ 100000000000000000 ≤ z
  · refine ⟨if z < 0 then -z else z, (s + z * 47) % 2147483587, by split <;> omega, Int.emod_nonneg _ (by omega), Int.emod_lt_of_pos _ (by omega), ?_⟩
    by_cases hz : z < 0
    · simp [TapA, sRet, eNew, aCons, aNil, eIf, tOrr, tV, eOp, eUn, eV, eC, pCmp, pPow, pAbs, pMod, pInt, pAdd, pMulB, pMulA, pMul, ofO, Res.bind, hz, hm]
    · have hz2 : 100000000000000000 ≤ z := by omega
      simp [TapA, sRet, eNew, aCons, aNil, eIf, tOrr, tV, eOp, eUn, eV, eC, pCmp, pPow, pAbs, pMod, pInt, pAdd, pMulB, pMulA, pMul, ofO, Res.bind, hz, hz2, hm]
  · refine ⟨0, (s + z * 47) % 2147483587, by omega, Int.emod_nonneg _ (by omega), Int.emod_lt_of_pos _ (by omega), ?_⟩
    have hz : ¬ z < 0 := by omega
    have hz2 : ¬ 100000000000000000 ≤ z := by omega
    simp [TapA, sRet, eNew, aCons, aNil, eIf, tOrr, tV, eOp, eUn, eV, eC, pCmp, pPow, pAbs, pMod, pInt, pAdd, pMulB, pMulA, pMul, ofO, Res.bind, hz, hz2, hm]
def Start : FS := (sSet 2 (eOp pAdd (eC (.int 161803)) (eOp pMulB (eC (.int 28001)) (eV 1))))
def Own : FS := (sSet 4 (eIf (tV (eOp pLt (eV 1) (eUn pLen (eV 0)))) (eUn pInt (eIx (eV 0) (eV 1))) (eV 2)))
theorem tap_eq : F_l_tap = sSeq Start (sSeq (sFor (iSeq (eSl (eV 0) oNo (oSo (eC (.int 7))))) (gN 3) Stir) (sSeq Own TapA)) := rfl
theorem own_ok (ns : List Int) (k : Nat) (s : Int) (S : Sto) (e3 e4 : Slot) : ∃ z, Own [.val (.scr ns), .val (.int k), .val (.int s), e3, e4] S = .ok (.nx [.val (.scr ns), .val (.int k), .val (.int s), e3, .val (.int z)] S) := by
  by_cases h : k < ns.length
  · refine ⟨ns[k], ?_⟩
    simp [Own, sSet, eIf, tV, eOp, eUn, eV, eC, eIx, pIx, atI, ixN, pCmp, pLen, pInt, ofO, Res.bind, h]
  · refine ⟨s, ?_⟩
    simp [Own, sSet, eIf, tV, eOp, eUn, eV, eC, eIx, pIx, atI, ixN, pCmp, pLen, pInt, ofO, Res.bind, h]
theorem tap_ok (ns : List Int) (k : Nat) (hk : k < 10) (S : Sto) : ∃ S', f_l_tap [.scr ns, .int k] S = .ok (.obj S.length, S') ∧ TapIs S' S.length := by
  obtain ⟨s', e3', h3, k1, k2⟩ := stir_ok S (.val (.scr ns)) .un k (cutP ns none (some 7)) .un (161803 + 28001 * k) (by omega) (by omega)
  obtain ⟨z, h2⟩ := own_ok ns k s' S e3' .un
  obtain ⟨a, b, ha, hb, hb2, h4⟩ := tapA_ok S (.val (.scr ns)) (.val (.int k)) e3' z s'
  refine ⟨S ++ [[.int a, .int b, .int 0]], ?_, a, b, 0, by simp, ha, hb, hb2⟩
  have hm : okMul 28001 (k : Int) = true := by unfold okMul; rw [decide_eq_true_eq]; left; omega
  have h1 : Start [.val (.scr ns), .val (.int k), .un, .un, .un] S = .ok (.nx [.val (.scr ns), .val (.int k), .val (.int (161803 + 28001 * k)), .un, .un] S) := by
    simp [Start, sSet, eOp, eV, eC, pAdd, pMulB, pMulA, pMul, ofO, Res.bind, hm]
  refine runF_rt ?_
  rw [tap_eq]
  have e : env0 5 [.scr ns, .int k] = [.val (.scr ns), .val (.int k), .un, .un, .un] := rfl
  rw [e]
  exact (sSeq_nx h1).trans ((sSeq_nx (sFor_ok (xs := (cutP ns none (some 7)).map PV.int) (S1 := S) rfl h3)).trans ((sSeq_nx h2).trans h4))
end K72
set_option Elab.async false
set_option linter.all false
set_option maxRecDepth 100000
set_option maxHeartbeats 1000001
/-! what the functions do to any word -/
namespace K72
open PySem PySem.Spec PyProof.Rows L2 J
theorem six_hi (n : Nat) (d i : Nat) : HT.sIx n d (some (i : Int)) = min i n := by
  unfold HT.sIx
  split
  · rename_i h; cases h
  · rename_i k h
    cases h
    split <;> omega
theorem cut_take {α : Type} (xs : List α) (i : Nat) : cutP xs none (some (i : Int)) = xs.take i := by
  unfold cutP
  rw [six_hi]
  show (xs.drop 0).take (min i xs.length - 0) = _
  rw [List.drop_zero, Nat.sub_zero]
  by_cases h : i ≤ xs.length
  · rw [Nat.min_eq_left h]
  · rw [Nat.min_eq_right (by omega)]; rw [List.take_of_length_le (Nat.le_refl _)]; rw [List.take_of_length_le (by omega)]
theorem cut_drop {α : Type} (xs : List α) (i : Nat) : cutP xs (some (i : Int)) none = xs.drop i := by
  unfold cutP
  rw [six_hi]
  show (xs.drop (min i xs.length)).take (xs.length - min i xs.length) = _
  by_cases h : i ≤ xs.length
  · rw [Nat.min_eq_left h, List.take_of_length_le (by rw [List.length_drop]; omega)]
  · rw [Nat.min_eq_right (by omega), Nat.sub_self, List.take_zero, List.drop_of_length_le (by omega)]
theorem nats_take (w : List Nat) (i : Nat) : (natsP w).take i = natsP (w.take i) := by unfold natsP; rw [List.map_take]
theorem nats_drop (w : List Nat) (i : Nat) : (natsP w).drop i = natsP (w.drop i) := by unfold natsP; rw [List.map_drop]
theorem sl_hi {a f : FE} {env : J.Env} {S S1 S2 : Sto} {w : List Nat} {i : Nat} (h : a env S = .ok (tI w, S1)) (k : f env S1 = .ok (.int (i : Int), S2)) : eSl a oNo (oSo f) env S = .ok (tI (w.take i), S2) := by
  unfold eSl
  rw [h]
  simp only [Res.bind, oNo, oSo, k, tI, pSl, ofO, cut_take, nats_take]
theorem sl_lo {a f : FE} {env : J.Env} {S S1 S2 : Sto} {w : List Nat} {i : Nat} (h : a env S = .ok (tI w, S1)) (k : f env S1 = .ok (.int (i : Int), S2)) : eSl a (oSo f) oNo env S = .ok (tI (w.drop i), S2) := by
  unfold eSl
  rw [h]
  simp only [Res.bind, oNo, oSo, k, tI, pSl, ofO, cut_drop, nats_drop]
theorem aStar_ok {a : FE} {r : FA} {env : J.Env} {S S1 S2 : Sto} {w : List Nat} {ys : List PV} (h : a env S = .ok (tI w, S1)) (k : r env S1 = .ok (ys, S2)) : aStar a r env S = .ok (natsP w ++ ys, S2) := by
  unfold aStar
  rw [h]
  simp only [Res.bind, tI, k]
/-! exchanged -/
def swp (w : List Nat) (i : Nat) : List Nat := w.take i ++ (w.getD (i + 1) 0 :: w.getD i 0 :: w.drop (i + 2))
theorem swp_len (w : List Nat) (i : Nat) (h : i + 1 < w.length) : (swp w i).length = w.length := by
  unfold swp
  simp
  omega
theorem pTup_ok {xs : List PV} (h : xs.length ≤ 1000000) : pTup xs = some (.tup xs) := if_pos h
theorem pLst_ok {xs : List PV} (h : xs.length ≤ 1000000) : pLst xs = some (.lst xs) := if_pos h
theorem swp_nats (w : List Nat) (i : Nat) : natsP (w.take i) ++ (.int ((w.getD (i + 1) 0 : Nat) : Int) :: .int ((w.getD i 0 : Nat) : Int) :: natsP (w.drop (i + 2))) = natsP (swp w i) := by
  unfold swp natsP
  simp
theorem swapped_ok (w : List Nat) (i : Nat) (h : i + 1 < w.length) (hl : w.length ≤ 40) (S : Sto) : f_swapped [tI w, .int (i : Int)] S = .ok (tI (swp w i), S) := by
  refine runF_rt (sRet_ok ?_)
  have e0 : env0 2 [tI w, .int (i : Int)] = [.val (tI w), .val (.int (i : Int))] := rfl
  rw [e0]
  have g1 : w[i + 1] = w.getD (i + 1) 0 := by simp [h]
  have g0 : w[i]'(by omega) = w.getD i 0 := by simp [show i < w.length by omega]
  have x1 : eIx (eV 0) (eOp pAdd (eV 1) (eC (.int 1))) [.val (tI w), .val (.int (i : Int))] S = .ok (.int ((w.getD (i + 1) 0 : Nat) : Int), S) := by
    have := eIx_ok (a := eV 0) (b := eOp pAdd (eV 1) (eC (.int 1))) (env := [.val (tI w), .val (.int (i : Int))]) (S := S) (l := w) (k := i + 1) rfl rfl h
    rwa [g1] at this
  have x0 : eIx (eV 0) (eV 1) [.val (tI w), .val (.int (i : Int))] S = .ok (.int ((w.getD i 0 : Nat) : Int), S) := by
    have := eIx_ok (a := eV 0) (b := eV 1) (env := [.val (tI w), .val (.int (i : Int))]) (S := S) (l := w) (k := i) rfl rfl (by omega)
    rwa [g0] at this
  have y2 : eSl (eV 0) (oSo (eOp pAdd (eV 1) (eC (.int 2)))) oNo [.val (tI w), .val (.int (i : Int))] S = .ok (tI (w.drop (i + 2)), S) := sl_lo (i := i + 2) rfl rfl
  have y0 : eSl (eV 0) oNo (oSo (eV 1)) [.val (tI w), .val (.int (i : Int))] S = .ok (tI (w.take i), S) := sl_hi (i := i) rfl rfl
  have all : (aStar (eSl (eV 0) oNo (oSo (eV 1))) (aCons (eIx (eV 0) (eOp pAdd (eV 1) (eC (.int 1)))) (aCons (eIx (eV 0) (eV 1)) (aStar (eSl (eV 0) (oSo (eOp pAdd (eV 1) (eC (.int 2)))) oNo) aNil)))) [.val (tI w), .val (.int (i : Int))] S = .ok (natsP (swp w i), S) := by
    have := aStar_ok y0 (aCons_ok x1 (aCons_ok x0 (aStar_ok (r := aNil) (ys := []) y2 rfl)))
    rw [List.append_nil, swp_nats] at this
    exact this
  exact eB_ok all (pTup_ok (by rw [natsP_len, swp_len w i h]; omega))
theorem lswapped_ok (w : List Nat) (k : Nat) (h0 : 1 ≤ k) (h : k < w.length) (hl : w.length ≤ 40) (S : Sto) : f_l_swapped [tI w, .int (k : Int)] S = .ok (tI (swp w (k - 1)), S) := by
  obtain ⟨i, rfl⟩ : ∃ i, k = i + 1 := ⟨k - 1, by omega⟩
  rw [Nat.add_sub_cancel]
  refine runF_rt (sRet_ok ?_)
  have e0 : env0 2 [tI w, .int ((i + 1 : Nat) : Int)] = [.val (tI w), .val (.int ((i + 1 : Nat) : Int))] := rfl
  rw [e0]
  have g1 : w[i + 1] = w.getD (i + 1) 0 := by simp [h]
  have g0 : w[i]'(by omega) = w.getD i 0 := by simp [show i < w.length by omega]
  have sb : eOp pSub (eV 1) (eC (.int 1)) [.val (tI w), .val (.int ((i + 1 : Nat) : Int))] S = .ok (.int (i : Int), S) := by
    refine eOp_ok (x := .int ((i + 1 : Nat) : Int)) (y := .int 1) rfl rfl ?_
    show some (PV.int _) = _
    congr 2
    omega
  have x1 : eIx (eV 0) (eV 1) [.val (tI w), .val (.int ((i + 1 : Nat) : Int))] S = .ok (.int ((w.getD (i + 1) 0 : Nat) : Int), S) := by
    have := eIx_ok (a := eV 0) (b := eV 1) (env := [.val (tI w), .val (.int ((i + 1 : Nat) : Int))]) (S := S) (l := w) (k := i + 1) rfl rfl h
    rwa [g1] at this
  have x0 : eIx (eV 0) (eOp pSub (eV 1) (eC (.int 1))) [.val (tI w), .val (.int ((i + 1 : Nat) : Int))] S = .ok (.int ((w.getD i 0 : Nat) : Int), S) := by
    have := eIx_ok (a := eV 0) (l := w) (k := i) (env := [.val (tI w), .val (.int ((i + 1 : Nat) : Int))]) (S := S) rfl sb (by omega)
    rwa [g0] at this
  have y2 : eSl (eV 0) (oSo (eOp pAdd (eV 1) (eC (.int 1)))) oNo [.val (tI w), .val (.int ((i + 1 : Nat) : Int))] S = .ok (tI (w.drop (i + 2)), S) := by
    refine sl_lo (i := i + 2) rfl (eOp_ok (x := .int ((i + 1 : Nat) : Int)) (y := .int 1) rfl rfl ?_)
    show some (PV.int _) = _
    congr 2
  have y0 : eSl (eV 0) oNo (oSo (eOp pSub (eV 1) (eC (.int 1)))) [.val (tI w), .val (.int ((i + 1 : Nat) : Int))] S = .ok (tI (w.take i), S) := sl_hi (i := i) rfl sb
  have m : eB pTup (aCons (eIx (eV 0) (eV 1)) (aCons (eIx (eV 0) (eOp pSub (eV 1) (eC (.int 1)))) aNil)) [.val (tI w), .val (.int ((i + 1 : Nat) : Int))] S = .ok (.tup [.int ((w.getD (i + 1) 0 : Nat) : Int), .int ((w.getD i 0 : Nat) : Int)], S) := eB_ok (aCons_ok x1 (aCons_ok x0 rfl)) rfl
  refine eOp_ok (eOp_ok y0 m (pAdd_tup (a := natsP (w.take i)) ?_)) y2 ?_
  · rw [natsP_len, List.length_take]; simp; omega
  · unfold tI
    rw [pAdd_tup]
    · rw [List.append_assoc]
      congr 2
      exact swp_nats w i
    · rw [List.length_append, natsP_len, natsP_len, List.length_take, List.length_drop]; simp; omega
/-! inversions -/
def invs : List Nat → List Nat
  | [] => []
  | a :: r => (r.filter (· < a)).length :: invs r
def inv (w : List Nat) : Nat := (invs w).sum
theorem less_lc (a : Nat) (a0 a1 : Slot) (S : Sto) : ∀ l : List Nat, lcL (gN 3) (tV (eOp pLt (eV 3) (eV 2))) (eV 3) (natsP l) [a0, a1, .val (.int a), .un] S = .ok (natsP (l.filter (· < a)), S)
  | [] => rfl
  | p :: r => by
    rw [natsP_cons]
    by_cases hp : p < a
    · have e : (p :: r).filter (· < a) = p :: r.filter (· < a) := by simp [hp]
      rw [e, natsP_cons]
      refine lcL_yes (en := [a0, a1, .val (.int a), .val (.int p)]) rfl ?_ rfl (less_lc a a0 a1 S r)
      simp [tV, eOp, eV, pCmp, Res.bind, ofO, hp]
    · have e : (p :: r).filter (· < a) = r.filter (· < a) := by simp [hp]
      rw [e]
      refine lcL_no (en := [a0, a1, .val (.int a), .val (.int p)]) rfl ?_ (less_lc a a0 a1 S r)
      simp [tV, eOp, eV, pCmp, Res.bind, ofO]
      omega
theorem inv_lc (w : List Nat) (hl : w.length ≤ 40) (S : Sto) : ∀ (l : List Nat) (i : Nat), w.drop i = l →
    lcL (gT 2 (gNc (gN 1) (gNc (gN 2) gNn))) tT (eUn pLen (eLc [3] (iSeq (eSl (eV 0) (oSo (eOp pAdd (eV 1) (eC (.int 1)))) oNo)) (gN 3) (tV (eOp pLt (eV 3) (eV 2))) (eV 3))) (enumP i (natsP l)) [.val (tI w), .un, .un, .un] S = .ok (natsP (invs l), S)
  | [], i, _ => rfl
  | a :: r, i, h => by
    rw [natsP_cons, enumP, invs, natsP_cons]
    have hr : w.drop (i + 1) = r := by rw [← List.drop_drop, h]; rfl
    refine lcL_yes (en := [.val (tI w), .val (.int (i : Int)), .val (.int a), .un]) rfl rfl ?_ (inv_lc w hl S r (i + 1) hr)
    have y : eSl (eV 0) (oSo (eOp pAdd (eV 1) (eC (.int 1)))) oNo [.val (tI w), .val (.int (i : Int)), .val (.int a), .un] S = .ok (tI r, S) := by
      have := sl_lo (a := eV 0) (f := eOp pAdd (eV 1) (eC (.int 1))) (env := [.val (tI w), .val (.int (i : Int)), .val (.int a), .un]) (S := S) (w := w) (i := i + 1) rfl rfl
      rwa [hr] at this
    have it : iSeq (eSl (eV 0) (oSo (eOp pAdd (eV 1) (eC (.int 1)))) oNo) [.val (tI w), .val (.int (i : Int)), .val (.int a), .un] S = .ok (natsP r, S) := by
      unfold iSeq
      rw [y]
      rfl
    have hrl : r.length ≤ 40 := by rw [← hr, List.length_drop]; omega
    refine un_eq (lc_eq (S1 := S) it (by rw [natsP_len]; omega) (less_lc a _ _ S r)) ?_
    show some (PV.int ((natsP _).length : Int)) = _
    rw [natsP_len]
theorem pSum_lst (l : List Nat) : pSum (.lst (natsP l)) = some (.int (l.sum : Int)) := by
  show (intsP (natsP l)).map _ = _
  rw [intsP_nats]
  show some (PV.int _) = _
  rw [sum_cast]
theorem invof_ok (w : List Nat) (hl : w.length ≤ 40) (S : Sto) : f_inversions_of [tI w] S = .ok (.int (inv w : Nat), S) :=
  runF_rt (sRet_ok (un_eq (lc_eq (xs := enumP 0 (natsP w)) (S1 := S) rfl (by rw [enum_len, natsP_len]; omega) (inv_lc w hl S w 0 rfl)) (pSum_lst _)))
theorem lless_lc (w : List Nat) (k : Nat) (hk : k < w.length) (S : Sto) : ∀ l : List Nat, lcL (gN 2) (tV (eOp pLt (eV 2) (eIx (eV 0) (eV 1)))) (eV 2) (natsP l) [.val (tI w), .val (.int (k : Int)), .un] S = .ok (natsP (l.filter (· < w[k])), S)
  | [] => rfl
  | p :: r => by
    rw [natsP_cons]
    have ix : eIx (eV 0) (eV 1) [.val (tI w), .val (.int (k : Int)), .val (.int p)] S = .ok (.int (w[k] : Int), S) := eIx_ok (l := w) (k := k) rfl rfl hk
    by_cases hp : p < w[k]
    · have e : (p :: r).filter (· < w[k]) = p :: r.filter (· < w[k]) := by simp [hp]
      rw [e, natsP_cons]
      refine lcL_yes (en := [.val (tI w), .val (.int (k : Int)), .val (.int p)]) rfl (tV_ok (eOp_ok (x := .int p) rfl ix ?_)) rfl (lless_lc w k hk S r)
      simp [pCmp, hp]
    · have e : (p :: r).filter (· < w[k]) = r.filter (· < w[k]) := by simp [hp]
      rw [e]
      refine lcL_no (en := [.val (tI w), .val (.int (k : Int)), .val (.int p)]) rfl (tV_ok (eOp_ok (x := .int p) rfl ix ?_)) (lless_lc w k hk S r)
      simp [pCmp]
      omega
theorem turned_lc (w : List Nat) (hl : w.length ≤ 40) (S : Sto) : ∀ (l : List Nat) (k : Nat), w.drop k = l →
    lcL (gN 1) tT (eUn pLen (eLc [2] (iSeq (eSl (eV 0) (oSo (eOp pAdd (eV 1) (eC (.int 1)))) oNo)) (gN 2) (tV (eOp pLt (eV 2) (eIx (eV 0) (eV 1)))) (eV 2))) ((List.range' k l.length).map fun (i : Nat) => PV.int (i : Int)) [.val (tI w), .un, .un] S = .ok (natsP (invs l), S)
  | [], k, _ => rfl
  | a :: r, k, h => by
    rw [List.length_cons, List.range'_succ, List.map_cons, invs, natsP_cons]
    have hr : w.drop (k + 1) = r := by rw [← List.drop_drop, h]; rfl
    have hk : k < w.length := by
      (have := congrArg List.length h)
      rw [List.length_drop, List.length_cons] at this
      omega
    have ha : w[k] = a := by
      have := List.drop_eq_getElem_cons hk
      rw [h] at this
      simp only [List.cons.injEq] at this
      exact this.1.symm
    refine lcL_yes (en := [.val (tI w), .val (.int (k : Int)), .un]) rfl rfl ?_ (turned_lc w hl S r (k + 1) hr)
    have y : eSl (eV 0) (oSo (eOp pAdd (eV 1) (eC (.int 1)))) oNo [.val (tI w), .val (.int (k : Int)), .un] S = .ok (tI r, S) := by
      have := sl_lo (a := eV 0) (f := eOp pAdd (eV 1) (eC (.int 1))) (env := [.val (tI w), .val (.int (k : Int)), .un]) (S := S) (w := w) (i := k + 1) rfl rfl
      rwa [hr] at this
    have it : iSeq (eSl (eV 0) (oSo (eOp pAdd (eV 1) (eC (.int 1)))) oNo) [.val (tI w), .val (.int (k : Int)), .un] S = .ok (natsP r, S) := by
      unfold iSeq
      rw [y]
      rfl
    have hrl : r.length ≤ 40 := by rw [← hr, List.length_drop]; omega
    refine un_eq (lc_eq (S1 := S) it (by rw [natsP_len]; omega) (lless_lc w k hk S r)) ?_
    show some (PV.int ((natsP _).length : Int)) = _
    rw [natsP_len, ha]
theorem turned_ok (w : List Nat) (hl : w.length ≤ 40) (S : Sto) : f_l_turned_pairs [tI w] S = .ok (.int (inv w : Nat), S) := by
  have r1 : (iR1 (aCons (eUn pLen (eV 0)) aNil)) [.val (tI w), .un, .un] S = .ok (rangeP 0 w.length, S) := by
    have := iR1_eq (f := aCons (eUn pLen (eV 0)) aNil) (env := [.val (tI w), .un, .un]) (S := S) (aCons_ok (un_eq (x := tI w) rfl (pLen_tI w)) rfl) (bdI_of (by omega) (by omega))
    rwa [Int.toNat_natCast] at this
  rw [rangeP_nat] at r1
  exact runF_rt (sRet_ok (un_eq (lc_eq (S1 := S) r1 (by rw [List.length_map, List.length_range']; omega) (turned_lc w hl S w 0 rfl)) (pSum_lst _)))
end K72
set_option Elab.async false
set_option linter.all false
set_option maxRecDepth 100000
set_option maxHeartbeats 1000001
namespace K72
open PySem PySem.Spec PyProof.Rows L2 J
structure Wd (w : List Nat) : Prop where
  len : w.length ≤ 12
  all : ∀ q ∈ w, 1 ≤ q ∧ q ≤ 12
theorem within_ok (x lo hi : Int) (h1 : lo ≤ x) (h2 : x ≤ hi) (S : Sto) : f_is_within [.int x, .int lo, .int hi] S = .ok (.bl true, S) := by
  have i : f_is_integer [.int x] S = .ok (.bl true, S) := rfl
  refine runF_rt (sRet_ok ?_)
  have e0 : env0 3 [.int x, .int lo, .int hi] = [.val (.int x), .val (.int lo), .val (.int hi)] := rfl
  rw [e0]
  have c : eCall f_is_integer (aCons (eV 0) aNil) [.val (.int x), .val (.int lo), .val (.int hi)] S = .ok (.bl true, S) := eCall_ok (xs := [.int x]) (S1 := S) rfl i
  unfold eAnd
  rw [c]
  simp [eChain, eV, pCmp, Res.bind, ofO, h1, h2]
theorem letter_ok (q : Nat) (h1 : 1 ≤ q) (h2 : q ≤ 12) (S : Sto) : f_is_letter [.int (q : Int)] S = .ok (.bl true, S) :=
  runF_rt (sRet_ok (eCall_ok (xs := [.int (q : Int), .int 1, .int 12]) (S1 := S) rfl (within_ok q 1 12 (by omega) (by omega) S)))
theorem letters_lc (a0 : Slot) (S : Sto) : ∀ l : List Nat, (∀ q ∈ l, 1 ≤ q ∧ q ≤ 12) →
    lcL (gN 1) tT (eCall f_is_letter (aCons (eV 1) aNil)) (natsP l) [a0, .un] S = .ok (List.replicate l.length (.bl true), S)
  | [], _ => rfl
  | p :: r, h => by
    rw [natsP_cons, List.length_cons, List.replicate_succ]
    obtain ⟨h1, h2⟩ := h p (by simp)
    exact lcL_yes (en := [a0, .val (.int p)]) rfl rfl (eCall_ok (xs := [.int p]) (S1 := S) rfl (letter_ok p h1 h2 S)) (letters_lc a0 S r fun q hq => h q (by simp [hq]))
theorem isword_ok (w : List Nat) (hw : Wd w) (S : Sto) : f_is_word [tI w] S = .ok (.bl true, S) := by
  refine runF_rt (sRet_ok ?_)
  have e0 : env0 2 [tI w] = [.val (tI w), .un] := rfl
  rw [e0]
  have a1 : (eUn (pIsT "tuple") (eV 0)) [.val (tI w), .un] S = .ok (.bl true, S) := rfl
  have a2 : (eOp pLe (eUn pLen (eV 0)) (eC (.int 12))) [.val (tI w), .un] S = .ok (.bl true, S) := by
    refine eOp_ok (un_eq (x := tI w) rfl (pLen_tI w)) (y := .int 12) rfl ?_
    have := hw.len
    simp [pCmp]
    omega
  have a3 : (eUn pAll (eLc [1] (iSeq (eV 0)) (gN 1) tT (eCall f_is_letter (aCons (eV 1) aNil)))) [.val (tI w), .un] S = .ok (.bl true, S) :=
    un_eq (lc_eq (xs := natsP w) (S1 := S) rfl (by rw [natsP_len]; have := hw.len; omega) (letters_lc _ S w hw.all)) (all_true _)
  unfold eAnd
  rw [a1]
  simp only [Res.bind]
  rw [a2]
  simp only [Res.bind]
  exact a3
theorem runF_nx {n : Nat} {F : FS} {args : List PV} {S S1 : Sto} {e : J.Env} (h : F (env0 n args) S = .ok (.nx e S1)) : runF n F args S = .ok (.non, S1) := by unfold runF; rw [h]
theorem checkw_ok (w : List Nat) (hw : Wd w) (S : Sto) : f_check_word [tI w] S = .ok (.non, S) := by
  have e : eCall f_is_word (aCons (eV 0) aNil) [.val (tI w)] S = .ok (.bl true, S) := eCall_ok (xs := [tI w]) (S1 := S) rfl (isword_ok w hw S)
  refine runF_nx (e := [.val (tI w)]) ?_
  show (sIf (tNo (tV (eCall f_is_word (aCons (eV 0) aNil)))) sX sNext) [.val (tI w)] S = _
  unfold sIf tNo tV
  rw [e]
  rfl
theorem drop_ok {a : FE} {env : J.Env} {S S1 : Sto} {v : PV} (h : a env S = .ok (v, S1)) : sDrop a env S = .ok (.nx env S1) := by unfold sDrop; rw [h]; rfl
/-! orders -/
theorem rangeP_one (n : Nat) : rangeP 1 n = natsP (List.range' 1 n) := by
  unfold rangeP natsP
  rw [List.range'_eq_map_range, List.map_map]
  (refine List.map_congr_left fun k _ => ?_)
  simp
theorem srt_tI (l : List Nat) (hl : l.length ≤ 40) : pSrt .int (tI l) = some (.lst (natsP (nsort l))) := srt_ints l hl
theorem eLR_one {a : FE} {env : J.Env} {S : Sto} {n : Nat} (h : a env S = .ok (.int (n : Int), S)) (hn : n ≤ 40) : eLR (iR2 (aCons (eC (.int 1)) (aCons (eOp pAdd a (eC (.int 1))) aNil))) env S = .ok (.lst (natsP (List.range' 1 n)), S) := by
  have r := iR2_eq (f := aCons (eC (.int 1)) (aCons (eOp pAdd a (eC (.int 1))) aNil)) (env := env) (S := S) (aCons_ok rfl (aCons_ok (eOp_ok h (y := .int 1) rfl (z := .int ((n : Int) + 1)) rfl) rfl)) (bdI_of (by omega) (by omega)) (bdI_of (by omega) (by omega))
  have e : ((n : Int) + 1 - 1).toNat = n := by omega
  rw [e, rangeP_one] at r
  unfold eLR
  rw [r]
  simp only [Res.bind]
  rw [if_pos (by rw [natsP_len, List.length_range']; omega)]
theorem eTR_one {a : FE} {env : J.Env} {S : Sto} {n : Nat} (h : a env S = .ok (.int (n : Int), S)) (hn : n ≤ 40) : eTR (iR2 (aCons (eC (.int 1)) (aCons (eOp pAdd a (eC (.int 1))) aNil))) env S = .ok (tI (List.range' 1 n), S) := by
  have r := iR2_eq (f := aCons (eC (.int 1)) (aCons (eOp pAdd a (eC (.int 1))) aNil)) (env := env) (S := S) (aCons_ok rfl (aCons_ok (eOp_ok h (y := .int 1) rfl (z := .int ((n : Int) + 1)) rfl) rfl)) (bdI_of (by omega) (by omega)) (bdI_of (by omega) (by omega))
  have e : ((n : Int) + 1 - 1).toNat = n := by omega
  rw [e, rangeP_one] at r
  unfold eTR
  rw [r]
  simp only [Res.bind]
  rw [if_pos (by rw [natsP_len, List.length_range']; omega)]
  rfl
theorem eq_lst (a b : List Nat) : pEq (.lst (natsP a)) (.lst (natsP b)) = some (.bl (decide (a = b))) := by
  unfold pEq
  rw [dOK_lst, dOK_lst]
  simp only [Bool.and_self, if_true, eqP, eqPL_nats]
theorem eq_int (a b : Nat) : pEq (.int (a : Int)) (.int (b : Int)) = some (.bl (decide (a = b))) := by
  unfold pEq
  rw [dOK_int, dOK_int]
  by_cases h : a = b
  · subst h; simp [eqP]
  · have h' : ¬ (a : Int) = (b : Int) := by omega
    simp [eqP, h, h']
structure Ord (w : List Nat) : Prop where
  wd : Wd w
  srt : nsort w = List.range' 1 w.length
theorem isord_ok (w : List Nat) (hw : Ord w) (S : Sto) : f_is_order [tI w] S = .ok (.bl true, S) := by
  have hl := hw.wd.len
  refine runF_rt (sRet_ok (eOp_ok (un_eq (x := tI w) rfl (srt_tI w (by omega))) (eLR_one (n := w.length) (un_eq (x := tI w) rfl (pLen_tI w)) (by omega)) ?_))
  rw [eq_lst, hw.srt]
  simp
theorem checko_ok (w : List Nat) (hw : Ord w) (S : Sto) : f_check_order [tI w] S = .ok (.non, S) := by
  have e : eCall f_is_order (aCons (eV 0) aNil) [.val (tI w)] S = .ok (.bl true, S) := eCall_ok (xs := [tI w]) (S1 := S) rfl (isord_ok w hw S)
  refine runF_nx (e := [.val (tI w)]) ?_
  show (sIf (tNo (tV (eCall f_is_order (aCons (eV 0) aNil)))) sX sNext) [.val (tI w)] S = _
  unfold sIf tNo tV
  rw [e]
  rfl
theorem invc_ok (w : List Nat) (hw : Ord w) (S : Sto) : f_inversion_count [tI w] S = .ok (.int (inv w : Nat), S) := by
  refine runF_rt ?_
  have e0 : env0 1 [tI w] = [.val (tI w)] := rfl
  rw [e0]
  exact (sSeq_nx (drop_ok (eCall_ok (xs := [tI w]) (S1 := S) rfl (checkw_ok w hw.wd S)))).trans ((sSeq_nx (drop_ok (eCall_ok (xs := [tI w]) (S1 := S) rfl (checko_ok w hw S)))).trans (sRet_ok (eCall_ok (xs := [tI w]) (S1 := S) rfl (invof_ok w (by have := hw.wd.len; omega) S))))
theorem exch_ok (w : List Nat) (k : Nat) (hw : Ord w) (h0 : 1 ≤ k) (h : k < w.length) (S : Sto) : f_exchanged_at [tI w, .int (k : Int)] S = .ok (tI (swp w (k - 1)), S) := by
  have hl := hw.wd.len
  refine runF_rt ?_
  have e0 : env0 2 [tI w, .int (k : Int)] = [.val (tI w), .val (.int (k : Int))] := rfl
  rw [e0]
  have sb : ∀ (n : Nat), 1 ≤ n → pSub (.int (n : Int)) (.int 1) = some (.int ((n - 1 : Nat) : Int)) := fun n hn => by
    show some (PV.int _) = _
    congr 2
    omega
  have c : (sIf (tNo (tV (eCall f_is_within (aCons (eV 1) (aCons (eC (.int 1)) (aCons (eOp pSub (eUn pLen (eV 0)) (eC (.int 1))) aNil)))))) sX sNext) [.val (tI w), .val (.int (k : Int))] S = .ok (.nx [.val (tI w), .val (.int (k : Int))] S) := by
    have q : eCall f_is_within (aCons (eV 1) (aCons (eC (.int 1)) (aCons (eOp pSub (eUn pLen (eV 0)) (eC (.int 1))) aNil))) [.val (tI w), .val (.int (k : Int))] S = .ok (.bl true, S) :=
      eCall_ok (xs := [.int (k : Int), .int 1, .int ((w.length - 1 : Nat) : Int)]) (S1 := S) (aCons_ok rfl (aCons_ok rfl (aCons_ok (eOp_ok (un_eq (x := tI w) rfl (pLen_tI w)) (y := .int 1) rfl (sb w.length (by omega))) rfl))) (within_ok k 1 _ (by omega) (by omega) S)
    unfold sIf tNo tV
    rw [q]
    rfl
  refine (sSeq_nx (drop_ok (eCall_ok (xs := [tI w]) (S1 := S) rfl (checkw_ok w hw.wd S)))).trans ((sSeq_nx c).trans ((sSeq_nx (drop_ok (eCall_ok (xs := [tI w]) (S1 := S) rfl (checko_ok w hw S)))).trans (sRet_ok (eCall_ok (xs := [tI w, .int ((k - 1 : Nat) : Int)]) (S1 := S) ?_ (swapped_ok w (k - 1) (by omega) (by omega) S)))))
  exact aCons_ok rfl (aCons_ok (eOp_ok (x := .int (k : Int)) (y := .int 1) rfl rfl (sb k h0)) rfl)
/-! walks -/
def stp (f : List Nat) (q : Nat) : List Nat := swp f (q - 1)
def wlk (n : Nat) (row : List Nat) : List Nat := row.foldl stp (List.range' 1 n)
theorem wloop (a0 a1 : Slot) (S : Sto) : ∀ (l f : List Nat) (a3 : Slot), (∀ q ∈ l, 1 ≤ q ∧ q < f.length) → f.length ≤ 40 →
    ∃ b3, forL (gN 3) (sSet 2 (eCall f_swapped (aCons (eV 2) (aCons (eOp pSub (eV 3) (eC (.int 1))) aNil)))) (natsP l) [a0, a1, .val (tI f), a3] S = .ok (.nx [a0, a1, .val (tI (l.foldl stp f)), b3] S)
  | [], f, a3, _, _ => ⟨a3, rfl⟩
  | q :: r, f, a3, h, hl => by
    obtain ⟨h1, h2⟩ := h q (by simp)
    have hlen : (stp f q).length = f.length := swp_len f (q - 1) (by omega)
    obtain ⟨b3, ih⟩ := wloop a0 a1 S r (stp f q) (.val (.int q)) (fun x hx => by rw [hlen]; exact h x (by simp [hx])) (by omega)
    refine ⟨b3, ?_⟩
    rw [natsP_cons]
    refine (forL_nx (e := [a0, a1, .val (tI f), .val (.int q)]) rfl (sSet_ok (eCall_ok (xs := [tI f, .int ((q - 1 : Nat) : Int)]) (S1 := S) (aCons_ok rfl (aCons_ok (eOp_ok (x := .int q) (y := .int 1) rfl rfl ?_) rfl)) (swapped_ok f (q - 1) (by omega) hl S)))).trans ih
    show some (PV.int _) = _
    congr 2
    omega
theorem lwloop (a0 a1 : Slot) (S : Sto) : ∀ (l f : List Nat) (a3 : Slot), (∀ q ∈ l, 1 ≤ q ∧ q < f.length) → f.length ≤ 40 →
    ∃ b3, forL (gN 3) (sSet 2 (eCall f_l_swapped (aCons (eV 2) (aCons (eV 3) aNil)))) (natsP l) [a0, a1, .val (tI f), a3] S = .ok (.nx [a0, a1, .val (tI (l.foldl stp f)), b3] S)
  | [], f, a3, _, _ => ⟨a3, rfl⟩
  | q :: r, f, a3, h, hl => by
    obtain ⟨h1, h2⟩ := h q (by simp)
    have hlen : (stp f q).length = f.length := swp_len f (q - 1) (by omega)
    obtain ⟨b3, ih⟩ := lwloop a0 a1 S r (stp f q) (.val (.int q)) (fun x hx => by rw [hlen]; exact h x (by simp [hx])) (by omega)
    refine ⟨b3, ?_⟩
    rw [natsP_cons]
    exact (forL_nx (e := [a0, a1, .val (tI f), .val (.int q)]) rfl (sSet_ok (eCall_ok (xs := [tI f, .int q]) (S1 := S) rfl (lswapped_ok f q h1 h2 hl S)))).trans ih
theorem wlk_len : ∀ (l f : List Nat), (∀ q ∈ l, 1 ≤ q ∧ q < f.length) → (l.foldl stp f).length = f.length
  | [], f, _ => rfl
  | q :: r, f, h => by
    obtain ⟨h1, h2⟩ := h q (by simp)
    have hlen : (stp f q).length = f.length := swp_len f (q - 1) (by omega)
    rw [List.foldl_cons, wlk_len r (stp f q) (fun x hx => by rw [hlen]; exact h x (by simp [hx])), hlen]
theorem orow_ok (row : List Nat) (n : Nat) (h : ∀ q ∈ row, 1 ≤ q ∧ q < n) (hn : n ≤ 40) (S : Sto) : f_order_of_row [tI row, .int (n : Int)] S = .ok (tI (wlk n row), S) := by
  obtain ⟨b3, hl⟩ := wloop (.val (tI row)) (.val (.int (n : Int))) S row (List.range' 1 n) .un (by rw [List.length_range']; exact h) (by rw [List.length_range']; exact hn)
  refine runF_rt ?_
  have e0 : env0 4 [tI row, .int (n : Int)] = [.val (tI row), .val (.int (n : Int)), .un, .un] := rfl
  rw [e0]
  exact (sSeq_nx (sSet_ok (eTR_one (n := n) (a := eV 1) rfl hn))).trans ((sSeq_nx (sFor_ok (xs := natsP row) (S1 := S) rfl hl)).trans rfl)
theorem walked_ok (row : List Nat) (n : Nat) (h : ∀ q ∈ row, 1 ≤ q ∧ q < n) (hn : n ≤ 40) (S : Sto) : f_l_walked [tI row, .int (n : Int)] S = .ok (tI (wlk n row), S) := by
  obtain ⟨b3, hl⟩ := lwloop (.val (tI row)) (.val (.int (n : Int))) S row (List.range' 1 n) .un (by rw [List.length_range']; exact h) (by rw [List.length_range']; exact hn)
  refine runF_rt ?_
  have e0 : env0 4 [tI row, .int (n : Int)] = [.val (tI row), .val (.int (n : Int)), .un, .un] := rfl
  rw [e0]
  exact (sSeq_nx (sSet_ok (eTR_one (n := n) (a := eV 1) rfl hn))).trans ((sSeq_nx (sFor_ok (xs := natsP row) (S1 := S) rfl hl)).trans rfl)
/-! the greatest -/
def mx (row : List Nat) : Nat := row.foldr max 0
theorem mx_ge : ∀ (row : List Nat) (q : Nat), q ∈ row → q ≤ mx row
  | [], _, h => by cases h
  | a :: r, q, h => by
    (rcases List.mem_cons.mp h with rfl | h)
    · exact Nat.le_max_left _ _
    · exact Nat.le_trans (mx_ge r q h) (Nat.le_max_right _ _)
theorem maxI_eq : ∀ (a : Nat) (r : List Nat), maxI ((a :: r).map fun (n : Nat) => (n : Int)) = (mx (a :: r) : Nat)
  | a, [] => by simp [maxI, mx]
  | a, b :: r => by
    have ih := maxI_eq b r
    rw [List.map_cons, List.map_cons, maxI, ← List.map_cons (f := fun (n : Nat) => (n : Int)), ih]
    · show max (a : Int) ((mx (b :: r) : Nat) : Int) = ((max a (mx (b :: r)) : Nat) : Int)
      omega
    · intro h; cases h
theorem pMaxL_ok (a : Nat) (r : List Nat) : pMaxL (.lst (natsP (a :: r))) = some (.int (mx (a :: r) : Nat)) := by
  show (intsP (natsP (a :: r))).bind _ = _
  rw [intsP_nats]
  show (if (List.map (fun (n : Nat) => (n : Int)) (a :: r)) = [] then none else _) = _
  rw [maxI_eq]
  exact if_neg (by simp)
theorem mx_zero (row : List Nat) : mx (0 :: row) = mx row := Nat.zero_max _
def red (row : List Nat) : Bool := decide (mx row + 1 ≤ 12) && decide (inv (wlk (mx row + 1) row) = row.length)
theorem rr_d (row : List Nat) (hw : Wd row) (S : Sto) : eB pLst (aCons (eC (.int 0)) (aStar (eV 0) aNil)) [.val (tI row), .un] S = .ok (.lst (natsP (0 :: row)), S) := by
  have h1 := aCons_ok (a := eC (.int 0)) (x := .int 0) (S := S) (S1 := S) rfl (aStar_ok (a := eV 0) (r := aNil) (env := [.val (tI row), .un]) (S := S) (w := row) (ys := []) rfl rfl)
  rw [List.append_nil] at h1
  have h2 := eB_ok (op := pLst) h1 (pLst_ok (by rw [List.length_cons, natsP_len]; have := hw.len; omega))
  rw [natsP_cons]
  exact h2
theorem rr_a (row : List Nat) (S : Sto) : eOp pLe (eV 1) (eC (.int 12)) [.val (tI row), .val (.int ((mx row + 1 : Nat) : Int))] S = .ok (.bl (decide (mx row + 1 ≤ 12)), S) := by
    refine eOp_ok (x := .int ((mx row + 1 : Nat) : Int)) (y := .int 12) rfl rfl ?_
    have hd : decide (((mx row + 1 : Nat) : Int) ≤ 12) = decide (mx row + 1 ≤ 12) := decide_eq_decide.mpr (by omega)
    exact congrArg (fun b => some (PV.bl b)) hd
theorem rr_s (row : List Nat) (S : Sto) (d : eB pLst (aCons (eC (.int 0)) (aStar (eV 0) aNil)) [.val (tI row), .un] S = .ok (.lst (natsP (0 :: row)), S)) : sSet 1 (eOp pAdd (eUn pMaxL (eB pLst (aCons (eC (.int 0)) (aStar (eV 0) aNil)))) (eC (.int 1))) [.val (tI row), .un] S = .ok (.nx [.val (tI row), .val (.int ((mx row + 1 : Nat) : Int))] S) := by
    refine sSet_ok (eOp_ok (un_eq d (pMaxL_ok 0 row)) (y := .int 1) rfl ?_)
    rw [mx_zero]
    exact congrArg (fun z => some (PV.int z)) (Int.natCast_succ (mx row)).symm
theorem rs_d (row : List Nat) (hw : Wd row) (S : Sto) : eOp pAdd (eB pLst (aCons (eC (.int 0)) aNil)) (eUn pLstC (eV 0)) [.val (tI row), .un] S = .ok (.lst (natsP (0 :: row)), S) := by
  have h2 := eOp_ok (op := pAdd) (a := eB pLst (aCons (eC (.int 0)) aNil)) (b := eUn pLstC (eV 0)) (env := [.val (tI row), .un]) (S := S) (S1 := S) (x := .lst [.int 0]) rfl (un_eq (x := tI row) (z := .lst (natsP row)) (S1 := S) rfl rfl) (pAdd_lst (a := [.int 0]) (b := natsP row) (by rw [natsP_len]; have := hw.len; simp; omega))
  rw [natsP_cons]
  exact h2
theorem rs_s (row : List Nat) (hw : Wd row) (S : Sto) : sSet 1 (eOp pAdd (eUn pMaxL (eOp pAdd (eB pLst (aCons (eC (.int 0)) aNil)) (eUn pLstC (eV 0)))) (eC (.int 1))) [.val (tI row), .un] S = .ok (.nx [.val (tI row), .val (.int ((mx row + 1 : Nat) : Int))] S) := by
    refine sSet_ok (eOp_ok (un_eq (rs_d row hw S) (pMaxL_ok 0 row)) (y := .int 1) rfl ?_)
    rw [mx_zero]
    exact congrArg (fun z => some (PV.int z)) (Int.natCast_succ (mx row)).symm
theorem rs_a (row : List Nat) (S : Sto) : eOp pLt (eV 1) (eC (.int 13)) [.val (tI row), .val (.int ((mx row + 1 : Nat) : Int))] S = .ok (.bl (decide (mx row + 1 ≤ 12)), S) := by
    refine eOp_ok (x := .int ((mx row + 1 : Nat) : Int)) (y := .int 13) rfl rfl ?_
    have hd : decide (((mx row + 1 : Nat) : Int) < 13) = decide (mx row + 1 ≤ 12) := decide_eq_decide.mpr (by omega)
    exact congrArg (fun b => some (PV.bl b)) hd
theorem eAnd_ok {a b : FE} {env : J.Env} {S S1 S2 : Sto} {c d : Bool} (h : a env S = .ok (.bl c, S1)) (h1 : c = true → b env S1 = .ok (.bl d, S2)) (h2 : c = false → S2 = S1) : eAnd a b env S = .ok (.bl (c && d), S2) := by
  unfold eAnd
  rw [h]
  cases c with
  | true => simp only [Res.bind, Bool.true_and]; exact h1 rfl
  | false => simp only [Res.bind, Bool.false_and]; rw [h2 rfl]
theorem wlk_le (row : List Nat) (hx : ∀ q ∈ row, 1 ≤ q ∧ q < mx row + 1) (hm : mx row + 1 ≤ 12) : (wlk (mx row + 1) row).length ≤ 40 := by
  unfold wlk
  rw [wlk_len row _ (by rw [List.length_range']; exact hx), List.length_range']
  omega
theorem redrow_ok (row : List Nat) (hw : Wd row) (S : Sto) : f_is_reduced_row [tI row] S = .ok (.bl (red row), S) := by
  refine runF_rt ?_
  have e0 : env0 2 [tI row] = [.val (tI row), .un] := rfl
  rw [e0]
  have hx : ∀ q ∈ row, 1 ≤ q ∧ q < mx row + 1 := fun q hq => ⟨(hw.all q hq).1, Nat.lt_succ_of_le (mx_ge row q hq)⟩
  refine (sSeq_nx (rr_s row S (rr_d row hw S))).trans (sRet_ok (eAnd_ok (rr_a row S) (fun hc => ?_) (fun _ => rfl)))
  have hm := of_decide_eq_true hc
  exact eOp_ok (eCall_ok (xs := [tI (wlk (mx row + 1) row)]) (S1 := S) (aCons_ok (eCall_ok (xs := [tI row, .int ((mx row + 1 : Nat) : Int)]) (S1 := S) rfl (orow_ok row (mx row + 1) hx (by omega) S)) rfl) (invof_ok _ (wlk_le row hx hm) S)) (un_eq (x := tI row) rfl (pLen_tI row)) (eq_int _ _)
theorem short_ok (row : List Nat) (hw : Wd row) (S : Sto) : f_l_is_short [tI row] S = .ok (.bl (red row), S) := by
  refine runF_rt ?_
  have e0 : env0 2 [tI row] = [.val (tI row), .un] := rfl
  rw [e0]
  have hx : ∀ q ∈ row, 1 ≤ q ∧ q < mx row + 1 := fun q hq => ⟨(hw.all q hq).1, Nat.lt_succ_of_le (mx_ge row q hq)⟩
  refine (sSeq_nx (rs_s row hw S)).trans (sRet_ok (eAnd_ok (rs_a row S) (fun hc => ?_) (fun _ => rfl)))
  have hm := of_decide_eq_true hc
  exact eOp_ok (eCall_ok (xs := [tI (wlk (mx row + 1) row)]) (S1 := S) (aCons_ok (eCall_ok (xs := [tI row, .int ((mx row + 1 : Nat) : Int)]) (S1 := S) rfl (walked_ok row (mx row + 1) hx (by omega) S)) rfl) (turned_ok _ (wlk_le row hx hm) S)) (un_eq (x := tI row) rfl (pLen_tI row)) (eq_int _ _)
theorem reduced_ok (row : List Nat) (hw : Wd row) (S : Sto) : f_is_reduced [tI row] S = .ok (.bl (red row), S) := by
  refine runF_rt ?_
  have e0 : env0 1 [tI row] = [.val (tI row)] := rfl
  rw [e0]
  exact (sSeq_nx (drop_ok (eCall_ok (xs := [tI row]) (S1 := S) rfl (checkw_ok row hw S)))).trans (sRet_ok (eCall_ok (xs := [tI row]) (S1 := S) rfl (redrow_ok row hw S)))
/-! order_by -/
theorem bls_false : ∀ m : Nat, bls (List.replicate m (PV.bl false)) = some (List.replicate m false)
  | 0 => rfl
  | m + 1 => by rw [List.replicate_succ, bls, bls_false m]; rfl
theorem any_false (m : Nat) : pAny (.lst (List.replicate m (PV.bl false))) = some (.bl false) := by
  unfold pAny
  dsimp only
  rw [bls_false]
  simp
theorem ge_lc (n : Nat) (a0 : Slot) (S : Sto) : ∀ l : List Nat, (∀ q ∈ l, q < n) → lcL (gN 2) tT (eOp pGe (eV 2) (eV 1)) (natsP l) [a0, .val (.int (n : Int)), .un] S = .ok (List.replicate l.length (.bl false), S)
  | [], _ => rfl
  | p :: r, h => by
    rw [natsP_cons, List.length_cons, List.replicate_succ]
    refine lcL_yes (en := [a0, .val (.int (n : Int)), .val (.int p)]) rfl rfl (eOp_ok (x := .int p) (y := .int n) rfl rfl ?_) (ge_lc n a0 S r fun q hq => h q (by simp [hq]))
    have := h p (by simp)
    simp [pCmp]
    omega
theorem oby_ok (row : List Nat) (n : Nat) (hw : Wd row) (h : ∀ q ∈ row, q < n) (h1 : 1 ≤ n) (h2 : n ≤ 12) (S : Sto) : f_order_by [tI row, .int (n : Int)] S = .ok (tI (wlk n row), S) := by
  refine runF_rt ?_
  have e0 : env0 3 [tI row, .int (n : Int)] = [.val (tI row), .val (.int (n : Int)), .un] := rfl
  rw [e0]
  have q1 : tNo (tV (eCall f_is_within (aCons (eV 1) (aCons (eC (.int 1)) (aCons (eC (.int 12)) aNil))))) [.val (tI row), .val (.int (n : Int)), .un] S = .ok (false, S) := by
    have : eCall f_is_within (aCons (eV 1) (aCons (eC (.int 1)) (aCons (eC (.int 12)) aNil))) [.val (tI row), .val (.int (n : Int)), .un] S = .ok (.bl true, S) := eCall_ok (xs := [.int (n : Int), .int 1, .int 12]) (S1 := S) rfl (within_ok n 1 12 (by omega) (by omega) S)
    unfold tNo tV
    rw [this]
    rfl
  have q2 : tV (eUn pAny (eLc [2] (iSeq (eV 0)) (gN 2) tT (eOp pGe (eV 2) (eV 1)))) [.val (tI row), .val (.int (n : Int)), .un] S = .ok (false, S) :=
    tV_ok (un_eq (lc_eq (xs := natsP row) (S1 := S) rfl (by rw [natsP_len]; have := hw.len; omega) (ge_lc n _ S row h)) (any_false _))
  exact (sSeq_nx (drop_ok (eCall_ok (xs := [tI row]) (S1 := S) rfl (checkw_ok row hw S)))).trans ((sSeq_nx (sIf_no (tOrr_no q1 q2) rfl)).trans (sRet_ok (eCall_ok (xs := [tI row, .int (n : Int)]) (S1 := S) rfl (orow_ok row n (fun q hq => ⟨(hw.all q hq).1, h q hq⟩) (by omega) S))))
end K72
set_option Elab.async false
set_option linter.all false
set_option maxRecDepth 100000
set_option maxHeartbeats 1000001
namespace K72
open PySem PySem.Spec PyProof.Rows L2 J
theorem of_ok (n : Nat) (S : Sto) (xs : List PV) (h0 : 0 < xs.length) (h1 : xs.length < 1000000) (hS : TapIs S n) :
    ∃ v S', v ∈ xs ∧ f_l_of [.obj n, .lst xs] S = .ok (v, S') ∧ TapIs S' n := by
  obtain ⟨d, S', k1, k2, k3, k4⟩ := dip_ok n S (xs.length : Int) hS (by omega) (by omega)
  obtain ⟨j, rfl⟩ : ∃ j : Nat, d = (j : Int) := ⟨d.toNat, by omega⟩
  have hj : j < xs.length := by omega
  refine ⟨xs[j], S', List.getElem_mem hj, ?_, k4⟩
  have e : eCall f_l_dip (aCons (eV 0) (aCons (eUn pLen (eV 1)) aNil)) [.val (.obj n), .val (.lst xs)] S = .ok (.int (j : Int), S') := eCall_ok (xs := [.obj n, .int (xs.length : Int)]) (by simp [aCons, aNil, eV, eUn, pLen, ofO, Res.bind]) k1
  have a : atI xs (j : Int) = some xs[j] := atI_nat (List.getElem?_eq_getElem hj)
  have h : eIx (eV 1) (eCall f_l_dip (aCons (eV 0) (aCons (eUn pLen (eV 1)) aNil))) [.val (.obj n), .val (.lst xs)] S = .ok (xs[j], S') := by
    unfold eIx
    have e1 : eV 1 [.val (.obj n), .val (.lst xs)] S = .ok (.lst xs, S) := rfl
    rw [e1]
    simp only [Res.bind]
    rw [e]
    simp only [pIx, a, ofO]
  exact runF_rt (sRet_ok h)
/-! words near -/
def near (steps : List Nat) (at_ fresh more gone : Nat) : List Nat := (steps.take at_ ++ List.replicate more fresh) ++ steps.drop (at_ + gone)
theorem near_wd {steps : List Nat} (hl : steps.length ≤ 8) (h : ∀ q ∈ steps, 1 ≤ q ∧ q ≤ 12) {a f m g : Nat} (hf : 1 ≤ f ∧ f ≤ 12) (hm : m ≤ 2) : Wd (near steps a f m g) := by
  refine ⟨?_, fun q hq => ?_⟩
  · unfold near
    rw [List.length_append, List.length_append, List.length_take, List.length_replicate, List.length_drop]
    omega
  · unfold near at hq
    (rcases List.mem_append.mp hq with hq | hq)
    · (rcases List.mem_append.mp hq with hq | hq)
      · exact h q (List.mem_of_mem_take hq)
      · rw [(List.mem_replicate.mp hq).2]; exact hf
    · exact h q (List.mem_of_mem_drop hq)
theorem mul_ok (f m : Nat) (hm : m ≤ 2) : pMulB (.tup [.int (f : Int)]) (.int (m : Int)) = some (tI (List.replicate m f)) := by
  have hc : m = 0 ∨ m = 1 ∨ m = 2 := by omega
  rcases hc with rfl | rfl | rfl
  · rfl
  · rfl
  · rfl
def NNear : FS := sSet 3 (eOp pAdd (eOp pAdd (eSl (eV 1) oNo (oSo (eV 6))) (eOp pMulB (eV 7) (eV 8))) (eSl (eV 1) (oSo (eOp pAdd (eV 6) (eV 9))) oNo))
def NIf : FS := (sIf (tV (eOp (pRpr false) (eB pLst (aCons (eCall f_is_reduced (aCons (eV 3) aNil)) (aCons (eCallK f_is_reduced aNil (aCons (eV 3) aNil)) aNil))) (eOp pMulB (eB pLst (aCons (eCall f_l_is_short (aCons (eV 3) aNil)) aNil)) (eC (.int 2))))) (sRet (eC (.bl false))) sNext)
def NWide : FS := (sSet 4 (eUn pMaxL (eOp pAdd (eB pLst (aCons (eUn pLen (eV 2)) (aCons (eC (.int 1)) aNil))) (eLc [10] (iSeq (eV 3)) (gN 10) tT (eOp pAdd (eV 10) (eC (.int 1)))))))
def NDue : FS := (sSet 5 (eIf (tV (eOp pLt (eV 4) (eC (.int 13)))) (eCall f_l_walked (aCons (eV 3) (aCons (eV 4) aNil))) (eB pTup aNil)))
def NRet : FS := (sRet (eOr (eOp pGt (eV 4) (eC (.int 12))) (eOp pEq (eB pLst (aCons (eCall f_order_by (aCons (eV 3) (aCons (eV 4) aNil))) (aCons (eCallP f_order_by swap2 (aCons (eV 4) (aCons (eV 3) aNil))) aNil))) (eB pLst (aCons (eV 5) (aCons (eV 5) aNil))))))
def NP1 : FS := (sPar 6 7 (aCons (eCall f_l_dip (aCons (eV 0) (aCons (eOp pAdd (eUn pLen (eV 1)) (eC (.int 1))) aNil))) (aCons (eB pTup (aCons (eOp pAdd (eC (.int 1)) (eCall f_l_dip (aCons (eV 0) (aCons (eC (.int 12)) aNil)))) aNil)) aNil)))
def NP2 : FS := (sPar 8 9 (aCons (eCall f_l_dip (aCons (eV 0) (aCons (eC (.int 3)) aNil))) (aCons (eCall f_l_dip (aCons (eV 0) (aCons (eC (.int 2)) aNil))) aNil)))
theorem near_is : F_l_near_right = sSeq NP1 (sSeq NP2 (sSeq NNear (sSeq NIf (sSeq NWide (sSeq NDue NRet))))) := rfl
theorem rpr2 (b : Bool) : pRpr false (.lst [.bl b, .bl b]) (.lst [.bl b, .bl b]) = some (.bl false) := by cases b <;> decide
theorem mul2 (b : Bool) : pMulB (.lst [.bl b]) (.int 2) = some (.lst [.bl b, .bl b]) := by cases b <;> decide
theorem plus_lc (a0 a1 a2 a3 a4 a5 a6 a7 a8 a9 : Slot) (S : Sto) : ∀ l : List Nat, lcL (gN 10) tT (eOp pAdd (eV 10) (eC (.int 1))) (natsP l) [a0, a1, a2, a3, a4, a5, a6, a7, a8, a9, .un] S = .ok (natsP (l.map (· + 1)), S)
  | [] => rfl
  | p :: r => by
    rw [natsP_cons, List.map_cons, natsP_cons]
    exact lcL_yes (en := [a0, a1, a2, a3, a4, a5, a6, a7, a8, a9, .val (.int p)]) rfl rfl (eOp_ok (x := .int p) (y := .int 1) rfl rfl rfl) (plus_lc a0 a1 a2 a3 a4 a5 a6 a7 a8 a9 S r)
theorem eqP2 (w : List Nat) : pEq (.lst [tI w, tI w]) (.lst [tI w, tI w]) = some (.bl true) := by
  have h : dOK (.lst [tI w, tI w]) = true := by simp [tI, dOK, isD, isDL, dpP, dpPL, isDL_natsP, dpPL_natsP]
  unfold pEq
  rw [h]
  simp [eqP, eqPL, tI, eqPL_nats]
theorem wide_ok (w x : List Nat) (hx : Wd x) (hw : w.length ≤ 12) (a0 a1 a4 a5 a6 a7 a8 a9 a10 : Slot) (S : Sto) :
    NWide [a0, a1, .val (tI w), .val (tI x), a4, a5, a6, a7, a8, a9, a10] S = .ok (.nx [a0, a1, .val (tI w), .val (tI x), .val (.int (mx (w.length :: 1 :: x.map (· + 1)) : Nat)), a5, a6, a7, a8, a9, a10] S) := by
  have d1 : eB pLst (aCons (eUn pLen (eV 2)) (aCons (eC (.int 1)) aNil)) [a0, a1, .val (tI w), .val (tI x), a4, a5, a6, a7, a8, a9, a10] S = .ok (.lst (natsP [w.length, 1]), S) := eB_ok (xs := natsP [w.length, 1]) (aCons_ok (un_eq (x := tI w) rfl (pLen_tI w)) rfl) (pLst_ok (by rw [natsP_len]; simp))
  have d2 : eLc [10] (iSeq (eV 3)) (gN 10) tT (eOp pAdd (eV 10) (eC (.int 1))) [a0, a1, .val (tI w), .val (tI x), a4, a5, a6, a7, a8, a9, a10] S = .ok (.lst (natsP (x.map (· + 1))), S) := lc_eq (xs := natsP x) (S1 := S) rfl (by rw [natsP_len]; have := hx.len; omega) (plus_lc _ _ _ _ _ _ _ _ _ _ S x)
  have hp := pAdd_lst (a := natsP [w.length, 1]) (b := natsP (x.map (· + 1))) (by rw [natsP_len, natsP_len, List.length_map]; have := hx.len; simp; omega)
  have hp2 := hp.trans (congrArg (fun l => some (PV.lst l)) (natsP_append [w.length, 1] (x.map (· + 1))).symm)
  exact sSet_ok (un_eq (eOp_ok d1 d2 hp2) (pMaxL_ok w.length (1 :: x.map (· + 1))))
theorem eIf_yes {c : FT} {a b : FE} {env : J.Env} {S S1 : Sto} {r : Res (PV × Sto)} (h : c env S = .ok (true, S1)) (k : a env S1 = r) : eIf c a b env S = r := by
  unfold eIf
  rw [h]
  exact k
theorem eIf_no {c : FT} {a b : FE} {env : J.Env} {S S1 : Sto} {r : Res (PV × Sto)} (h : c env S = .ok (false, S1)) (k : b env S1 = r) : eIf c a b env S = r := by
  unfold eIf
  rw [h]
  exact k
theorem due_yes (x : List Nat) (n : Nat) (h : ∀ q ∈ x, 1 ≤ q ∧ q < n) (hn : n ≤ 12) (a0 a1 a2 a5 a6 a7 a8 a9 a10 : Slot) (S : Sto) :
    NDue [a0, a1, a2, .val (tI x), .val (.int (n : Int)), a5, a6, a7, a8, a9, a10] S = .ok (.nx [a0, a1, a2, .val (tI x), .val (.int (n : Int)), .val (tI (wlk n x)), a6, a7, a8, a9, a10] S) := by
  refine sSet_ok ?_
  have c : tV (eOp pLt (eV 4) (eC (.int 13))) [a0, a1, a2, .val (tI x), .val (.int (n : Int)), a5, a6, a7, a8, a9, a10] S = .ok (true, S) := by
    refine tV_ok (eOp_ok (x := .int (n : Int)) (y := .int 13) rfl rfl ?_)
    have hd : decide ((n : Int) < 13) = true := decide_eq_true (by omega)
    exact congrArg (fun b => some (PV.bl b)) hd
  have k : eCall f_l_walked (aCons (eV 3) (aCons (eV 4) aNil)) [a0, a1, a2, .val (tI x), .val (.int (n : Int)), a5, a6, a7, a8, a9, a10] S = .ok (tI (wlk n x), S) := eCall_ok (xs := [tI x, .int (n : Int)]) (S1 := S) rfl (walked_ok x n h (by omega) S)
  exact eIf_yes c k
theorem due_no (x : List Nat) (n : Nat) (hn : ¬ n ≤ 12) (a0 a1 a2 a5 a6 a7 a8 a9 a10 : Slot) (S : Sto) :
    NDue [a0, a1, a2, .val (tI x), .val (.int (n : Int)), a5, a6, a7, a8, a9, a10] S = .ok (.nx [a0, a1, a2, .val (tI x), .val (.int (n : Int)), .val (.tup []), a6, a7, a8, a9, a10] S) := by
  refine sSet_ok ?_
  have c : tV (eOp pLt (eV 4) (eC (.int 13))) [a0, a1, a2, .val (tI x), .val (.int (n : Int)), a5, a6, a7, a8, a9, a10] S = .ok (false, S) := by
    refine tV_ok (eOp_ok (x := .int (n : Int)) (y := .int 13) rfl rfl ?_)
    have hd : decide ((n : Int) < 13) = false := decide_eq_false (by omega)
    exact congrArg (fun b => some (PV.bl b)) hd
  exact eIf_no c rfl
theorem eOr_yes {a b : FE} {env : J.Env} {S S1 : Sto} (h : a env S = .ok (.bl true, S1)) : eOr a b env S = .ok (.bl true, S1) := by unfold eOr; rw [h]; rfl
theorem eOr_no {a b : FE} {env : J.Env} {S S1 : Sto} {r : Res (PV × Sto)} (h : a env S = .ok (.bl false, S1)) (k : b env S1 = r) : eOr a b env S = r := by unfold eOr; rw [h]; exact k
theorem ret_yes (x : List Nat) (n : Nat) (hw : Wd x) (h : ∀ q ∈ x, q < n) (h1 : 1 ≤ n) (hn : n ≤ 12) (a0 a1 a2 a6 a7 a8 a9 a10 : Slot) (S : Sto) :
    NRet [a0, a1, a2, .val (tI x), .val (.int (n : Int)), .val (tI (wlk n x)), a6, a7, a8, a9, a10] S = .ok (.rt (.bl true) S) := by
  refine sRet_ok (eOr_no ?_ (eOp_ok (x := .lst [tI (wlk n x), tI (wlk n x)]) (eB_ok (aCons_ok (eCall_ok (xs := [tI x, .int (n : Int)]) (S1 := S) rfl (oby_ok x n hw h h1 hn S)) (aCons_ok (S1 := S) (x := tI (wlk n x)) ?_ rfl)) rfl) (y := .lst [tI (wlk n x), tI (wlk n x)]) rfl (eqP2 _)))
  · refine eOp_ok (x := .int (n : Int)) (y := .int 12) rfl rfl ?_
    have hd : decide ((12 : Int) < (n : Int)) = false := decide_eq_false (by omega)
    exact congrArg (fun b => some (PV.bl b)) hd
  · show f_order_by (swap2 [.int (n : Int), tI x]) S = _
    exact oby_ok x n hw h h1 hn S
theorem ret_no (x : List Nat) (n : Nat) (hn : ¬ n ≤ 12) (a0 a1 a2 a5 a6 a7 a8 a9 a10 : Slot) (S : Sto) :
    NRet [a0, a1, a2, .val (tI x), .val (.int (n : Int)), a5, a6, a7, a8, a9, a10] S = .ok (.rt (.bl true) S) := by
  refine sRet_ok (eOr_yes (eOp_ok (x := .int (n : Int)) (y := .int 12) rfl rfl ?_))
  have hd : decide ((12 : Int) < (n : Int)) = true := decide_eq_true (by omega)
  exact congrArg (fun b => some (PV.bl b)) hd
theorem near_ok (n : Nat) (S : Sto) (hS : TapIs S n) (steps w : List Nat) (hl : steps.length ≤ 8) (h : ∀ q ∈ steps, 1 ≤ q ∧ q ≤ 12) (hw : w.length ≤ 12) :
    ∃ S', f_l_near_right [.obj n, tI steps, tI w] S = .ok (.bl true, S') ∧ TapIs S' n := by
  obtain ⟨d1, S1, p1, p2, p3, p4⟩ := dip_ok n S ((steps.length : Int) + 1) hS (by omega) (by omega)
  obtain ⟨d2, S2, q1, q2, q3, q4⟩ := dip_ok n S1 12 p4 (by omega) (by omega)
  obtain ⟨d3, S3, r1, r2, r3, r4⟩ := dip_ok n S2 3 q4 (by omega) (by omega)
  obtain ⟨d4, S4, t1, t2, t3, t4⟩ := dip_ok n S3 2 r4 (by omega) (by omega)
  obtain ⟨a, rfl⟩ : ∃ a : Nat, d1 = (a : Int) := ⟨d1.toNat, by omega⟩
  obtain ⟨f, hf⟩ : ∃ f : Nat, 1 + d2 = (f : Int) := ⟨(1 + d2).toNat, by omega⟩
  obtain ⟨m, rfl⟩ : ∃ m : Nat, d3 = (m : Int) := ⟨d3.toNat, by omega⟩
  obtain ⟨g, rfl⟩ : ∃ g : Nat, d4 = (g : Int) := ⟨d4.toNat, by omega⟩
  have hx : Wd (near steps a f m g) := near_wd hl h (by omega) (by omega)
  refine ⟨S4, runF_rt ?_, t4⟩
  rw [near_is]
  have e0 : env0 11 [.obj n, tI steps, tI w] = [.val (.obj n), .val (tI steps), .val (tI w), .un, .un, .un, .un, .un, .un, .un, .un] := rfl
  rw [e0]
  have s1 : NP1 [.val (.obj n), .val (tI steps), .val (tI w), .un, .un, .un, .un, .un, .un, .un, .un] S = .ok (.nx [.val (.obj n), .val (tI steps), .val (tI w), .un, .un, .un, .val (.int a), .val (.tup [.int (f : Int)]), .un, .un, .un] S2) := by
    have ha : (aCons (eCall f_l_dip (aCons (eV 0) (aCons (eOp pAdd (eUn pLen (eV 1)) (eC (.int 1))) aNil))) (aCons (eB pTup (aCons (eOp pAdd (eC (.int 1)) (eCall f_l_dip (aCons (eV 0) (aCons (eC (.int 12)) aNil)))) aNil)) aNil)) [.val (.obj n), .val (tI steps), .val (tI w), .un, .un, .un, .un, .un, .un, .un, .un] S = .ok ([.int a, .tup [.int (1 + d2)]], S2) :=
      aCons_ok (eCall_ok (xs := [.obj n, .int ((steps.length : Int) + 1)]) (S1 := S) (aCons_ok rfl (aCons_ok (eOp_ok (un_eq (x := tI steps) rfl (pLen_tI steps)) (y := .int 1) rfl rfl) rfl)) p1) (aCons_ok (eB_ok (aCons_ok (eOp_ok (x := .int 1) rfl (eCall_ok (xs := [.obj n, .int 12]) (S1 := S1) rfl q1) rfl) rfl) rfl) rfl)
    rw [hf] at ha
    unfold NP1 sPar
    rw [ha]
    rfl
  have s2 : NP2 [.val (.obj n), .val (tI steps), .val (tI w), .un, .un, .un, .val (.int a), .val (.tup [.int (f : Int)]), .un, .un, .un] S2 = .ok (.nx [.val (.obj n), .val (tI steps), .val (tI w), .un, .un, .un, .val (.int a), .val (.tup [.int (f : Int)]), .val (.int m), .val (.int g), .un] S4) := by
    have ha : (aCons (eCall f_l_dip (aCons (eV 0) (aCons (eC (.int 3)) aNil))) (aCons (eCall f_l_dip (aCons (eV 0) (aCons (eC (.int 2)) aNil))) aNil)) [.val (.obj n), .val (tI steps), .val (tI w), .un, .un, .un, .val (.int a), .val (.tup [.int (f : Int)]), .un, .un, .un] S2 = .ok ([.int m, .int g], S4) :=
      aCons_ok (eCall_ok (xs := [.obj n, .int 3]) (S1 := S2) rfl r1) (aCons_ok (eCall_ok (xs := [.obj n, .int 2]) (S1 := S3) rfl t1) rfl)
    unfold NP2 sPar
    rw [ha]
    rfl
  have s3 : NNear [.val (.obj n), .val (tI steps), .val (tI w), .un, .un, .un, .val (.int a), .val (.tup [.int (f : Int)]), .val (.int m), .val (.int g), .un] S4 = .ok (.nx [.val (.obj n), .val (tI steps), .val (tI w), .val (tI (near steps a f m g)), .un, .un, .val (.int a), .val (.tup [.int (f : Int)]), .val (.int m), .val (.int g), .un] S4) := by
    refine sSet_ok (eOp_ok (x := tI (steps.take a ++ List.replicate m f)) (eOp_ok (sl_hi (i := a) (w := steps) rfl rfl) (eOp_ok (x := .tup [.int (f : Int)]) (y := .int (m : Int)) rfl rfl (mul_ok f m (by omega))) ?_) (sl_lo (i := a + g) (w := steps) rfl rfl) ?_)
    · unfold tI
      rw [pAdd_tup (by rw [natsP_len, natsP_len, List.length_take, List.length_replicate]; omega), natsP_append]
    · unfold tI
      rw [pAdd_tup (by rw [natsP_len, natsP_len, List.length_append, List.length_take, List.length_replicate, List.length_drop]; omega), ← natsP_append]
      rfl
  have s4 : NIf [.val (.obj n), .val (tI steps), .val (tI w), .val (tI (near steps a f m g)), .un, .un, .val (.int a), .val (.tup [.int (f : Int)]), .val (.int m), .val (.int g), .un] S4 = .ok (.nx [.val (.obj n), .val (tI steps), .val (tI w), .val (tI (near steps a f m g)), .un, .un, .val (.int a), .val (.tup [.int (f : Int)]), .val (.int m), .val (.int g), .un] S4) := by
    refine sIf_no (tV_ok (eOp_ok (x := .lst [.bl (red (near steps a f m g)), .bl (red (near steps a f m g))]) (eB_ok (aCons_ok (eCall_ok (xs := [tI (near steps a f m g)]) (S1 := S4) rfl (reduced_ok _ hx S4)) (aCons_ok (x := .bl (red (near steps a f m g))) (S1 := S4) ?_ rfl)) rfl) (eOp_ok (eB_ok (aCons_ok (eCall_ok (xs := [tI (near steps a f m g)]) (S1 := S4) rfl (short_ok _ hx S4)) rfl) rfl) (y := .int 2) rfl (mul2 _)) (rpr2 _))) rfl
    show f_is_reduced ([] ++ [tI (near steps a f m g)]) S4 = _
    exact reduced_ok _ hx S4
  obtain ⟨N, hN⟩ : ∃ N, N = mx (w.length :: 1 :: (near steps a f m g).map (· + 1)) := ⟨_, rfl⟩
  have s5 := wide_ok w (near steps a f m g) hx hw (.val (.obj n)) (.val (tI steps)) .un .un (.val (.int a)) (.val (.tup [.int (f : Int)])) (.val (.int m)) (.val (.int g)) .un S4
  rw [← hN] at s5
  have hlt : ∀ q ∈ near steps a f m g, q < N := fun q hq => by
    have := mx_ge (w.length :: 1 :: (near steps a f m g).map (· + 1)) (q + 1) (by simp [hq])
    rw [hN]
    omega
  have h1N : 1 ≤ N := by rw [hN]; exact mx_ge _ 1 (by simp)
  refine (sSeq_nx s1).trans ((sSeq_nx s2).trans ((sSeq_nx s3).trans ((sSeq_nx s4).trans ((sSeq_nx s5).trans ?_))))
  by_cases hn : N ≤ 12
  · exact (sSeq_nx (due_yes _ N (fun q hq => ⟨(hx.all q hq).1, hlt q hq⟩) hn _ _ _ _ _ _ _ _ _ S4)).trans (ret_yes _ N hx hlt h1N hn _ _ _ _ _ _ _ _ S4)
  · exact (sSeq_nx (due_no _ N hn _ _ _ _ _ _ _ _ _ S4)).trans (ret_no _ N hn _ _ _ _ _ _ _ _ _ S4)
end K72
set_option Elab.async false
set_option linter.all false
set_option maxRecDepth 100000
set_option maxHeartbeats 1000001
namespace K72
open PySem PySem.Spec PyProof.Rows L2 J
/-! a drawn order -/
def free (w : List Nat) : List Nat := (List.range' 1 (w.length - 1)).filter fun k => decide (w.getD (k - 1) 0 < w.getD k 0)
theorem free_lc (w : List Nat) (a0 a1 a2 a4 a5 : Slot) (S : Sto) : ∀ l : List Nat, (∀ k ∈ l, 1 ≤ k ∧ k < w.length) →
    lcL (gN 6) (tV (eOp pLt (eIx (eV 3) (eOp pSub (eV 6) (eC (.int 1)))) (eIx (eV 3) (eV 6)))) (eV 6) (natsP l) [a0, a1, a2, .val (tI w), a4, a5, .un] S = .ok (natsP (l.filter fun k => decide (w.getD (k - 1) 0 < w.getD k 0)), S)
  | [], _ => rfl
  | k :: r, h => by
    obtain ⟨h1, h2⟩ := h k (by simp)
    have ih := free_lc w a0 a1 a2 a4 a5 S r fun q hq => h q (by simp [hq])
    have g1 : w[k] = w.getD k 0 := by simp [h2]
    have g0 : w[k - 1]'(by omega) = w.getD (k - 1) 0 := by simp [show k - 1 < w.length by omega]
    have sb : eOp pSub (eV 6) (eC (.int 1)) [a0, a1, a2, .val (tI w), a4, a5, .val (.int k)] S = .ok (.int ((k - 1 : Nat) : Int), S) := by
      refine eOp_ok (x := .int (k : Int)) (y := .int 1) rfl rfl ?_
      have hz : (k : Int) - 1 = ((k - 1 : Nat) : Int) := by omega
      exact congrArg (fun z => some (PV.int z)) hz
    have x0 : eIx (eV 3) (eOp pSub (eV 6) (eC (.int 1))) [a0, a1, a2, .val (tI w), a4, a5, .val (.int k)] S = .ok (.int ((w.getD (k - 1) 0 : Nat) : Int), S) := by
      have := eIx_ok (a := eV 3) (l := w) (k := k - 1) (env := [a0, a1, a2, .val (tI w), a4, a5, .val (.int k)]) (S := S) rfl sb (by omega)
      rwa [g0] at this
    have x1 : eIx (eV 3) (eV 6) [a0, a1, a2, .val (tI w), a4, a5, .val (.int k)] S = .ok (.int ((w.getD k 0 : Nat) : Int), S) := by
      have := eIx_ok (a := eV 3) (b := eV 6) (l := w) (k := k) (env := [a0, a1, a2, .val (tI w), a4, a5, .val (.int k)]) (S := S) rfl rfl h2
      rwa [g1] at this
    have c : tV (eOp pLt (eIx (eV 3) (eOp pSub (eV 6) (eC (.int 1)))) (eIx (eV 3) (eV 6))) [a0, a1, a2, .val (tI w), a4, a5, .val (.int k)] S = .ok (decide (w.getD (k - 1) 0 < w.getD k 0), S) := by
      refine tV_ok (eOp_ok x0 x1 ?_)
      have hd : decide (((w.getD (k - 1) 0 : Nat) : Int) < ((w.getD k 0 : Nat) : Int)) = decide (w.getD (k - 1) 0 < w.getD k 0) := decide_eq_decide.mpr (by omega)
      exact congrArg (fun b => some (PV.bl b)) hd
    rw [natsP_cons, List.filter_cons]
    by_cases hc : w.getD (k - 1) 0 < w.getD k 0
    · rw [decide_eq_true hc] at c
      rw [if_pos (decide_eq_true hc), natsP_cons]
      exact lcL_yes (en := [a0, a1, a2, .val (tI w), a4, a5, .val (.int k)]) rfl c rfl ih
    · rw [decide_eq_false hc] at c
      rw [if_neg (by simpa using hc)]
      exact lcL_no (en := [a0, a1, a2, .val (tI w), a4, a5, .val (.int k)]) rfl c ih
def LFree : FE := (eLc [6] (iR2 (aCons (eC (.int 1)) (aCons (eUn pLen (eV 3)) aNil))) (gN 6) (tV (eOp pLt (eIx (eV 3) (eOp pSub (eV 6) (eC (.int 1)))) (eIx (eV 3) (eV 6)))) (eV 6))
def LIf : FS := (sIf (tV (eOp pNe (eV 5) (eB pLst aNil))) (sSet 3 (eCall f_l_swapped (aCons (eV 3) (aCons (eCall f_l_of (aCons (eV 0) (aCons (eV 5) aNil))) aNil)))) sNext)
def LBody : FS := sSeq (sOwn 5 LFree) (sFrz 5 LIf)
theorem line_is : F_l_line = sSeq (sSet 3 (eTR (iR2 (aCons (eC (.int 1)) (aCons (eOp pAdd (eC (.int 2)) (eCall f_l_dip (aCons (eV 0) (aCons (eV 1) aNil)))) aNil))))) (sSeq (sFor (iR1 (aCons (eCall f_l_dip (aCons (eV 0) (aCons (eOp pAdd (eV 2) (eC (.int 1))) aNil))) aNil)) (gN 4) LBody) (sRet (eV 3))) := rfl
theorem ne_lst (a : List Nat) : pNe (.lst (natsP a)) (.lst []) = some (.bl (!decide (a = []))) := by
  have h : dOK (.lst (natsP [])) = true := dOK_lst []
  show pNe (.lst (natsP a)) (.lst (natsP [])) = _
  unfold pNe
  rw [dOK_lst, h]
  simp only [Bool.and_self, if_true, eqP, eqPL_nats]
theorem lfree_ok (w : List Nat) (hl : w.length ≤ 12) (a0 a1 a2 a4 a5 a6 : Slot) (S : Sto) : LFree [a0, a1, a2, .val (tI w), a4, a5, a6] S = .ok (.lst (natsP (free w)), S) := by
  have r := iR2_eq (f := aCons (eC (.int 1)) (aCons (eUn pLen (eV 3)) aNil)) (env := [a0, a1, a2, .val (tI w), a4, a5, a6]) (S := S) (aCons_ok rfl (aCons_ok (un_eq (x := tI w) rfl (pLen_tI w)) rfl)) (bdI_of (by omega) (by omega)) (bdI_of (by omega) (by omega))
  have e : ((w.length : Int) - 1).toNat = w.length - 1 := by omega
  rw [e, rangeP_one] at r
  refine lc_eq (S1 := S) r (by rw [natsP_len, List.length_range']; omega) (free_lc w a0 a1 a2 a4 a5 S _ fun k hk => ?_)
  have := List.mem_range'_1.mp hk
  omega
variable {AllW : List (List Nat)}
structure Cl (AllW : List (List Nat)) : Prop where
  len : ∀ w ∈ AllW, w.length ≤ 5
  ids : ∀ n, 1 ≤ n → n ≤ 5 → List.range' 1 n ∈ AllW ∧ inv (List.range' 1 n) ≤ 0
  step : ∀ w ∈ AllW, ∀ k ∈ free w, inv w ≤ 5 → swp w (k - 1) ∈ AllW ∧ inv (swp w (k - 1)) ≤ inv w + 1
theorem lbody_ok (C : Cl AllW) (n : Nat) (S : Sto) (hS : TapIs S n) (w : List Nat) (hw : w ∈ AllW) (j : Nat) (hj : inv w ≤ j) (h5 : j ≤ 5) (a1 a2 a4 a5 a6 : Slot) :
    ∃ w' S' b5, LBody [.val (.obj n), a1, a2, .val (tI w), a4, a5, a6] S = .ok (.nx [.val (.obj n), a1, a2, .val (tI w'), a4, b5, a6] S') ∧ TapIs S' n ∧ w' ∈ AllW ∧ inv w' ≤ j + 1 := by
  have hl := C.len w hw
  have e1 : sOwn 5 LFree [.val (.obj n), a1, a2, .val (tI w), a4, a5, a6] S = .ok (.nx [.val (.obj n), a1, a2, .val (tI w), a4, .own (.lst (natsP (free w))), a6] S) := sOwn_ok (lfree_ok w (by omega) _ _ _ _ _ _ S)
  have c : tV (eOp pNe (eV 5) (eB pLst aNil)) [.val (.obj n), a1, a2, .val (tI w), a4, .val (.lst (natsP (free w))), a6] S = .ok (!decide (free w = []), S) := tV_ok (eOp_ok (x := .lst (natsP (free w))) (y := .lst []) rfl rfl (ne_lst _))
  by_cases hf : free w = []
  · refine ⟨w, S, .val (.lst (natsP (free w))), (sSeq_nx e1).trans ?_, hS, hw, by omega⟩
    show LIf [.val (.obj n), a1, a2, .val (tI w), a4, .val (.lst (natsP (free w))), a6] S = _
    rw [decide_eq_true hf] at c
    exact sIf_no c rfl
  · obtain ⟨v, S1, v1, v2, v3⟩ := of_ok n S (natsP (free w)) (by rw [natsP_len]; exact List.length_pos_iff.mpr hf) (by rw [natsP_len]; unfold free; have := List.length_filter_le (fun k => decide (w.getD (k - 1) 0 < w.getD k 0)) (List.range' 1 (w.length - 1)); rw [List.length_range'] at this; omega) hS
    obtain ⟨k, hk, rfl⟩ := List.mem_map.mp v1
    have hk2 := List.mem_range'_1.mp (List.mem_filter.mp hk).1
    obtain ⟨s1, s2⟩ := C.step w hw k hk (by omega)
    refine ⟨swp w (k - 1), S1, .val (.lst (natsP (free w))), (sSeq_nx e1).trans ?_, v3, s1, by omega⟩
    show LIf [.val (.obj n), a1, a2, .val (tI w), a4, .val (.lst (natsP (free w))), a6] S = _
    rw [decide_eq_false hf] at c
    have q : sSet 3 (eCall f_l_swapped (aCons (eV 3) (aCons (eCall f_l_of (aCons (eV 0) (aCons (eV 5) aNil))) aNil))) [.val (.obj n), a1, a2, .val (tI w), a4, .val (.lst (natsP (free w))), a6] S = .ok (.nx [.val (.obj n), a1, a2, .val (tI (swp w (k - 1))), a4, .val (.lst (natsP (free w))), a6] S1) :=
      sSet_ok (eCall_ok (xs := [tI w, .int (k : Int)]) (S1 := S1) (aCons_ok rfl (aCons_ok (eCall_ok (xs := [.obj n, .lst (natsP (free w))]) (S1 := S) rfl v2) rfl)) (lswapped_ok w k (by omega) (by omega) (by omega) S1))
    unfold LIf sIf
    rw [c]
    exact q
theorem lloop (C : Cl AllW) (n : Nat) (a1 a2 a6 : Slot) : ∀ (xs : List PV) (j : Nat) (S : Sto) (w : List Nat) (a4 a5 : Slot), TapIs S n → w ∈ AllW → inv w ≤ j → j + xs.length ≤ 6 →
    ∃ w' S' b4 b5, forL (gN 4) LBody xs [.val (.obj n), a1, a2, .val (tI w), a4, a5, a6] S = .ok (.nx [.val (.obj n), a1, a2, .val (tI w'), b4, b5, a6] S') ∧ TapIs S' n ∧ w' ∈ AllW
  | [], j, S, w, a4, a5, hS, hw, _, _ => ⟨w, S, a4, a5, rfl, hS, hw⟩
  | x :: r, j, S, w, a4, a5, hS, hw, hj, hl => by
    obtain ⟨w1, S1, b5, h1, h2, h3, h4⟩ := lbody_ok C n S hS w hw j hj (by simp at hl; omega) a1 a2 (.val x) a5 a6
    obtain ⟨w2, S2, c4, c5, k1, k2, k3⟩ := lloop C n a1 a2 a6 r (j + 1) S1 w1 (.val x) b5 h2 h3 h4 (by simp at hl; omega)
    exact ⟨w2, S2, c4, c5, (forL_nx rfl h1).trans k1, k2, k3⟩
theorem line_ok (C : Cl AllW) (n : Nat) (S : Sto) (hS : TapIs S n) : ∃ w S', f_l_line [.obj n, .int 5, .int 6] S = .ok (tI w, S') ∧ TapIs S' n ∧ w ∈ AllW := by
  obtain ⟨d, S1, k1, k2, k3, k4⟩ := dip_ok n S 5 hS (by omega) (by omega)
  obtain ⟨m, rfl⟩ : ∃ m : Nat, d = (m : Int) := ⟨d.toNat, by omega⟩
  obtain ⟨d2, S2, l1, l2, l3, l4⟩ := dip_ok n S1 7 k4 (by omega) (by omega)
  obtain ⟨i1, i2⟩ := C.ids (m + 1) (by omega) (by omega)
  have hlen : (rangeP 0 d2.toNat).length = d2.toNat := by unfold rangeP; rw [List.length_map, List.length_range]
  obtain ⟨w, S3, b4, b5, h1, h2, h3⟩ := lloop C n (.val (.int 5)) (.val (.int 6)) .un (rangeP 0 d2.toNat) 0 S2 (List.range' 1 (m + 1)) .un .un l4 i1 i2 (by omega)
  refine ⟨w, S3, runF_rt ?_, h2, h3⟩
  rw [line_is]
  have e0 : env0 7 [.obj n, .int 5, .int 6] = [.val (.obj n), .val (.int 5), .val (.int 6), .un, .un, .un, .un] := rfl
  rw [e0]
  have t1 : eTR (iR2 (aCons (eC (.int 1)) (aCons (eOp pAdd (eC (.int 2)) (eCall f_l_dip (aCons (eV 0) (aCons (eV 1) aNil)))) aNil))) [.val (.obj n), .val (.int 5), .val (.int 6), .un, .un, .un, .un] S = .ok (tI (List.range' 1 (m + 1)), S1) := by
    have r := iR2_eq (f := aCons (eC (.int 1)) (aCons (eOp pAdd (eC (.int 2)) (eCall f_l_dip (aCons (eV 0) (aCons (eV 1) aNil)))) aNil)) (env := [.val (.obj n), .val (.int 5), .val (.int 6), .un, .un, .un, .un]) (S := S) (aCons_ok rfl (aCons_ok (eOp_ok (x := .int 2) rfl (eCall_ok (xs := [.obj n, .int 5]) (S1 := S) rfl k1) (z := .int (2 + (m : Int))) rfl) rfl)) (bdI_of (by omega) (by omega)) (bdI_of (by omega) (by omega))
    have e : (2 + (m : Int) - 1).toNat = m + 1 := by omega
    rw [e, rangeP_one] at r
    unfold eTR
    rw [r]
    simp only [Res.bind]
    rw [if_pos (by rw [natsP_len, List.length_range']; omega)]
    rfl
  have t2 : iR1 (aCons (eCall f_l_dip (aCons (eV 0) (aCons (eOp pAdd (eV 2) (eC (.int 1))) aNil))) aNil) [.val (.obj n), .val (.int 5), .val (.int 6), .val (tI (List.range' 1 (m + 1))), .un, .un, .un] S1 = .ok (rangeP 0 d2.toNat, S2) :=
    iR1_eq (aCons_ok (eCall_ok (xs := [.obj n, .int 7]) (S1 := S1) rfl l1) rfl) (bdI_of (by omega) (by omega))
  exact (sSeq_nx (sSet_ok t1)).trans ((sSeq_nx (sFor_ok t2 h1)).trans rfl)
/-! what is known of an order -/
structure Mid (w : List Nat) (R : List (List Nat)) : Prop where
  ord : Ord w
  ne : 0 < R.length
  le : R.length ≤ 2000
  il : inv w ≤ 12
  st : ∀ S : Sto, f_l_all_steps [tI w] S = .ok (.lst (R.map tI), S)
  cn : ∀ S : Sto, f_count_of [tI w] S = .ok (.int (R.length : Int), S)
  ro : ∃ L, (∀ S : Sto, f_rows_of_order [tI w] S = .ok (.lst L, S)) ∧ pSrt (.seq .int) (.lst L) = some (.lst (R.map tI))
  br : ∀ S : Sto, f_l_braids_right [.lst (R.map tI)] S = .ok (.bl true, S)
  rows : ∀ r ∈ R, r.length ≤ 8 ∧ (∀ q ∈ r, 1 ≤ q ∧ q < w.length) ∧ red r = true ∧ wlk w.length r = w
  exch : ∀ k, 1 ≤ k → k < w.length → Ord (swp w (k - 1)) ∧ (inv (swp w (k - 1)) = inv w + 1 ∨ inv (swp w (k - 1)) + 1 = inv w)
theorem checki_ok (w : List Nat) (hw : Ord w) (hi : inv w ≤ 12) (S : Sto) : f_check_inversions [tI w, .int 12] S = .ok (.non, S) := by
  refine runF_nx (e := [.val (tI w), .val (.int 12)]) ?_
  show (sIf (tV (eOp pGt (eCall f_inversions_of (aCons (eV 0) aNil)) (eV 1))) sX sNext) [.val (tI w), .val (.int 12)] S = _
  refine sIf_no (tV_ok (eOp_ok (eCall_ok (xs := [tI w]) (S1 := S) rfl (invof_ok w (by have := hw.wd.len; omega) S)) (y := .int 12) rfl ?_)) rfl
  have hd : decide ((12 : Int) < ((inv w : Nat) : Int)) = false := decide_eq_false (by omega)
  exact congrArg (fun b => some (PV.bl b)) hd
theorem rcount_ok {w : List Nat} {R : List (List Nat)} (M : Mid w R) (S : Sto) : f_reduced_count [tI w] S = .ok (.int (R.length : Int), S) := by
  refine runF_rt ?_
  have e0 : env0 1 [tI w] = [.val (tI w)] := rfl
  rw [e0]
  exact (sSeq_nx (drop_ok (eCall_ok (xs := [tI w]) (S1 := S) rfl (checkw_ok w M.ord.wd S)))).trans ((sSeq_nx (drop_ok (eCall_ok (xs := [tI w]) (S1 := S) rfl (checko_ok w M.ord S)))).trans ((sSeq_nx (drop_ok (eCall_ok (xs := [tI w, .int 12]) (S1 := S) rfl (checki_ok w M.ord M.il S)))).trans (sRet_ok (eCall_ok (xs := [tI w]) (S1 := S) rfl (M.cn S)))))
theorem rrows_ok {w : List Nat} {R : List (List Nat)} (M : Mid w R) (S : Sto) : f_reduced_rows [tI w] S = .ok (.tup (R.map tI), S) := by
  obtain ⟨L, l1, l2⟩ := M.ro
  refine runF_rt ?_
  have e0 : env0 1 [tI w] = [.val (tI w)] := rfl
  rw [e0]
  have c : tV (eOp pGt (eCall f_count_of (aCons (eV 0) aNil)) (eC (.int 2000))) [.val (tI w)] S = .ok (false, S) := by
    refine tV_ok (eOp_ok (eCall_ok (xs := [tI w]) (S1 := S) rfl (M.cn S)) (y := .int 2000) rfl ?_)
    have := M.le
    have hd : decide ((2000 : Int) < (R.length : Int)) = false := decide_eq_false (by omega)
    exact congrArg (fun b => some (PV.bl b)) hd
  exact (sSeq_nx (drop_ok (eCall_ok (xs := [tI w]) (S1 := S) rfl (checkw_ok w M.ord.wd S)))).trans ((sSeq_nx (drop_ok (eCall_ok (xs := [tI w]) (S1 := S) rfl (checko_ok w M.ord S)))).trans ((sSeq_nx (drop_ok (eCall_ok (xs := [tI w, .int 12]) (S1 := S) rfl (checki_ok w M.ord M.il S)))).trans ((sSeq_nx (sIf_no c rfl)).trans (sRet_ok (un_eq (un_eq (eCall_ok (xs := [tI w]) (S1 := S) rfl (l1 S)) l2) rfl)))))
end K72
set_option Elab.async false
set_option linter.all false
set_option maxRecDepth 100000
set_option maxHeartbeats 1000001
namespace K72
open PySem PySem.Spec PyProof.Rows L2 J
def A1 : FS := (sSet 1 (eCall f_l_line (aCons (eV 0) (aCons (eC (.int 5)) (aCons (eC (.int 6)) aNil)))))
def A2 : FS := (sAsg (eB pTup (aCons (eCall f_l_all_steps (aCons (eV 1) aNil)) (aCons (eUn pLen (eV 1)) aNil))) (gT 2 (gNc (gN 5) (gNc (gN 6) gNn))))
def A3 : FS := (sSet 2 (eB pLst (aCons (eCall f_l_turned_pairs (aCons (eV 1) aNil)) (aCons (eUn pLen (eV 5)) (aCons (eUn pTupC (eV 5)) aNil)))))
def A4 : FS := (sIf (tV (eOp pNe (eB pLst (aCons (eCall f_inversion_count (aCons (eV 1) aNil)) (aCons (eCall f_reduced_count (aCons (eV 1) aNil)) (aCons (eCall f_reduced_rows (aCons (eV 1) aNil)) aNil)))) (eV 2))) (sRet (eC (.bl false))) sNext)
def A5 : FS := (sIf (tV (eOp pNe (eB pLst (aCons (eCallK f_inversion_count aNil (aCons (eV 1) aNil)) (aCons (eCallK f_reduced_count aNil (aCons (eV 1) aNil)) (aCons (eCallK f_reduced_rows aNil (aCons (eV 1) aNil)) aNil)))) (eV 2))) (sRet (eC (.bl false))) sNext)
def B1 : FS := (sIf (tV (eOp pNe (eB pLst (aCons (eCall f_exchanged_at (aCons (eV 1) (aCons (eV 3) aNil))) (aCons (eCallP f_exchanged_at swap2 (aCons (eV 3) (aCons (eV 1) aNil))) aNil))) (eOp pMulB (eB pLst (aCons (eCall f_l_swapped (aCons (eV 1) (aCons (eV 3) aNil))) aNil)) (eC (.int 2))))) (sRet (eC (.bl false))) sNext)
def B2 : FS := (sIf (tV (eOp pNe (eUn pAbs (eOp pSub (eCall f_inversion_count (aCons (eCall f_exchanged_at (aCons (eV 1) (aCons (eV 3) aNil))) aNil)) (eIx (eV 2) (eC (.int 0))))) (eC (.int 1)))) (sRet (eC (.bl false))) sNext)
def B3 : FS := (sIf (tOrr (tV (eOp pNe (eCall f_order_by (aCons (eV 4) (aCons (eV 6) aNil))) (eV 1))) (tV (eOp pNotB (eCall f_is_reduced (aCons (eV 4) aNil)) (eC (.bl true))))) (sRet (eC (.bl false))) sNext)
def A8 : FS := (sIf (tNo (tV (eCall f_l_braids_right (aCons (eV 5) aNil)))) (sRet (eC (.bl false))) sNext)
def NEach : FE := (eCall f_l_near_right (aCons (eV 0) (aCons (eCall f_l_of (aCons (eV 0) (aCons (eV 5) aNil))) (aCons (eV 1) aNil))))
theorem right_eq : F_l_right = sSeq A1 (sSeq A2 (sSeq A3 (sSeq A4 (sSeq A5 (sSeq (sFor (iR2 (aCons (eC (.int 1)) (aCons (eV 6) aNil))) (gN 3) (sSeq B1 B2)) (sSeq (sFor (iSeq (eV 5)) (gN 4) B3) (sSeq A8 (sRet (eUn pAll (eLc [7] (iR1 (aCons (eC (.int 6)) aNil)) (gN 7) tT NEach)))))))))) := rfl
theorem callK_ok {f : List PV → Sto → Res (PV × Sto)} {b : FA} {env : J.Env} {S S1 : Sto} {ys : List PV} {r : Res (PV × Sto)} (h : b env S = .ok (ys, S1)) (k : f ys S1 = r) : eCallK f aNil b env S = r := by
  unfold eCallK
  simp only [aNil, Res.bind, h, List.nil_append]
  exact k
theorem callP_ok {f : List PV → Sto → Res (PV × Sto)} {b : FA} {env : J.Env} {S S1 : Sto} {u v : PV} {r : Res (PV × Sto)} (h : b env S = .ok ([u, v], S1)) (k : f [v, u] S1 = r) : eCallP f swap2 b env S = r := by
  unfold eCallP
  simp only [h, Res.bind, swap2]
  exact k
theorem sAsg_ok {a : FE} {g : GN} {env e : J.Env} {S S1 : Sto} {v : PV} (h : a env S = .ok (v, S1)) (k : g v env = some e) : sAsg a g env S = .ok (.nx e S1) := by
  unfold sAsg
  rw [h]
  show (ofO (g v env)).bind _ = _
  rw [k]
  rfl
theorem isDL_R : ∀ R : List (List Nat), isDL (R.map tI) = true ∧ dpPL (R.map tI) ≤ 1
  | [] => by simp [isDL, dpPL]
  | a :: r => by
    obtain ⟨h1, h2⟩ := isDL_R r
    rw [List.map_cons, isDL, dpPL, h1]
    simp [tI, isD, dpP, isDL_natsP, dpPL_natsP]
    omega
theorem eqPL_R : ∀ R : List (List Nat), eqPL (R.map tI) (R.map tI) = true
  | [] => by simp [eqPL]
  | a :: r => by rw [List.map_cons, eqPL, eqPL_R r]; simp [tI, eqP, eqPL_nats]
theorem neX (a b : Int) (R : List (List Nat)) : pNe (.lst [.int a, .int b, .tup (R.map tI)]) (.lst [.int a, .int b, .tup (R.map tI)]) = some (.bl false) := by
  obtain ⟨h1, h2⟩ := isDL_R R
  have h : dOK (.lst [.int a, .int b, .tup (R.map tI)]) = true := by
    simp [dOK, isD, isDL, dpP, dpPL, h1]
    omega
  unfold pNe
  rw [h]
  simp [eqP, eqPL, eqPL_R]
theorem neP2 (w : List Nat) : pNe (.lst [tI w, tI w]) (.lst [tI w, tI w]) = some (.bl false) := by
  have h : dOK (.lst [tI w, tI w]) = true := by simp [tI, dOK, isD, isDL, dpP, dpPL, isDL_natsP, dpPL_natsP]
  unfold pNe
  rw [h]
  simp [eqP, eqPL, tI, eqPL_nats]
theorem mulT (w : List Nat) : pMulB (.lst [tI w]) (.int 2) = some (.lst [tI w, tI w]) := rfl
theorem pLen_R (R : List (List Nat)) : pLen (.lst (R.map tI)) = some (.int (R.length : Int)) := by show some (PV.int ((R.map tI).length : Int)) = _; rw [List.length_map]
def X (w : List Nat) (R : List (List Nat)) : PV := .lst [.int (inv w : Nat), .int (R.length : Int), .tup (R.map tI)]
theorem b1_ok {w : List Nat} {R : List (List Nat)} (M : Mid w R) (k : Nat) (h1 : 1 ≤ k) (h2 : k < w.length) (a0 a4 a5 a6 a7 : Slot) (S : Sto) :
    B1 [a0, .val (tI w), .val (X w R), .val (.int k), a4, a5, a6, a7] S = .ok (.nx [a0, .val (tI w), .val (X w R), .val (.int k), a4, a5, a6, a7] S) := by
  have hl := M.ord.wd.len
  refine sIf_no (tV_ok (eOp_ok (x := .lst [tI (swp w (k - 1)), tI (swp w (k - 1))]) (eB_ok (aCons_ok (eCall_ok (xs := [tI w, .int (k : Int)]) (S1 := S) rfl (exch_ok w k M.ord h1 h2 S)) (aCons_ok (callP_ok (u := .int (k : Int)) (v := tI w) (S1 := S) rfl (exch_ok w k M.ord h1 h2 S)) rfl)) rfl) (eOp_ok (x := .lst [tI (swp w (k - 1))]) (eB_ok (aCons_ok (eCall_ok (xs := [tI w, .int (k : Int)]) (S1 := S) rfl (lswapped_ok w k h1 h2 (by omega) S)) rfl) rfl) (y := .int 2) rfl (mulT _)) (neP2 _))) rfl
theorem ne_one : pNe (.int 1) (.int 1) = some (.bl false) := by decide
theorem b2_ok {w : List Nat} {R : List (List Nat)} (M : Mid w R) (k : Nat) (h1 : 1 ≤ k) (h2 : k < w.length) (a0 a4 a5 a6 a7 : Slot) (S : Sto) :
    B2 [a0, .val (tI w), .val (X w R), .val (.int k), a4, a5, a6, a7] S = .ok (.nx [a0, .val (tI w), .val (X w R), .val (.int k), a4, a5, a6, a7] S) := by
  obtain ⟨o1, o2⟩ := M.exch k h1 h2
  have ix : eIx (eV 2) (eC (.int 0)) [a0, .val (tI w), .val (X w R), .val (.int k), a4, a5, a6, a7] S = .ok (.int (inv w : Nat), S) := rfl
  refine sIf_no (tV_ok (eOp_ok (x := .int 1) (un_eq (x := .int (((inv (swp w (k - 1)) : Nat) : Int) - ((inv w : Nat) : Int))) (eOp_ok (eCall_ok (xs := [tI (swp w (k - 1))]) (S1 := S) (aCons_ok (eCall_ok (xs := [tI w, .int (k : Int)]) (S1 := S) rfl (exch_ok w k M.ord h1 h2 S)) rfl) (invc_ok _ o1 S)) ix rfl) ?_) (y := .int 1) rfl ne_one)) rfl
  show some (PV.int _) = _
  have hz : (if ((inv (swp w (k - 1)) : Nat) : Int) - ((inv w : Nat) : Int) < 0 then -(((inv (swp w (k - 1)) : Nat) : Int) - ((inv w : Nat) : Int)) else ((inv (swp w (k - 1)) : Nat) : Int) - ((inv w : Nat) : Int)) = 1 := by
    rcases o2 with o2 | o2
    · rw [if_neg (by omega)]; omega
    · rw [if_pos (by omega)]; omega
  rw [hz]
theorem loop6 {w : List Nat} {R : List (List Nat)} (M : Mid w R) (a0 a4 a5 a6 a7 : Slot) (S : Sto) : ∀ (l : List Nat) (a3 : Slot), (∀ k ∈ l, 1 ≤ k ∧ k < w.length) →
    ∃ b3, forL (gN 3) (sSeq B1 B2) (natsP l) [a0, .val (tI w), .val (X w R), a3, a4, a5, a6, a7] S = .ok (.nx [a0, .val (tI w), .val (X w R), b3, a4, a5, a6, a7] S)
  | [], a3, _ => ⟨a3, rfl⟩
  | k :: r, a3, h => by
    obtain ⟨h1, h2⟩ := h k (by simp)
    obtain ⟨b3, ih⟩ := loop6 M a0 a4 a5 a6 a7 S r (.val (.int k)) fun q hq => h q (by simp [hq])
    rw [natsP_cons]
    exact ⟨b3, (forL_nx rfl ((sSeq_nx (b1_ok M k h1 h2 a0 a4 a5 a6 a7 S)).trans (b2_ok M k h1 h2 a0 a4 a5 a6 a7 S))).trans ih⟩
theorem notB_tt : pNotB (.bl true) (.bl true) = some (.bl false) := by decide
theorem b3_ok {w : List Nat} {R : List (List Nat)} (M : Mid w R) (h0 : 1 ≤ w.length) (r : List Nat) (hr : r ∈ R) (a0 a2 a3 a5 a7 : Slot) (S : Sto) :
    B3 [a0, .val (tI w), a2, a3, .val (tI r), a5, .val (.int (w.length : Int)), a7] S = .ok (.nx [a0, .val (tI w), a2, a3, .val (tI r), a5, .val (.int (w.length : Int)), a7] S) := by
  obtain ⟨r1, r2, r3, r4⟩ := M.rows r hr
  have hl := M.ord.wd.len
  have hw : Wd r := ⟨by omega, fun q hq => ⟨(r2 q hq).1, by have := (r2 q hq).2; omega⟩⟩
  have o := oby_ok r w.length hw (fun q hq => (r2 q hq).2) h0 hl S
  rw [r4] at o
  have d := reduced_ok r hw S
  rw [r3] at d
  exact sIf_no (tOrr_no (tV_ok (eOp_ok (eCall_ok (xs := [tI r, .int (w.length : Int)]) (S1 := S) rfl o) (y := tI w) rfl (ne_self w))) (tV_ok (eOp_ok (eCall_ok (xs := [tI r]) (S1 := S) rfl d) (y := .bl true) rfl notB_tt))) rfl
theorem loop7 {w : List Nat} {R : List (List Nat)} (M : Mid w R) (h0 : 1 ≤ w.length) (a0 a2 a3 a5 a7 : Slot) (S : Sto) : ∀ (l : List (List Nat)) (a4 : Slot), (∀ r ∈ l, r ∈ R) →
    ∃ b4, forL (gN 4) B3 (l.map tI) [a0, .val (tI w), a2, a3, a4, a5, .val (.int (w.length : Int)), a7] S = .ok (.nx [a0, .val (tI w), a2, a3, b4, a5, .val (.int (w.length : Int)), a7] S)
  | [], a4, _ => ⟨a4, rfl⟩
  | r :: l, a4, h => by
    obtain ⟨b4, ih⟩ := loop7 M h0 a0 a2 a3 a5 a7 S l (.val (tI r)) fun q hq => h q (by simp [hq])
    rw [List.map_cons]
    exact ⟨b4, (forL_nx rfl (b3_ok M h0 r (h r (by simp)) a0 a2 a3 a5 a7 S)).trans ih⟩
theorem loop9 {w : List Nat} {R : List (List Nat)} (M : Mid w R) (n : Nat) (a2 a3 a4 a6 : Slot) : ∀ (xs : List PV) (S : Sto), TapIs S n →
    ∃ S', lcL (gN 7) tT NEach xs [.val (.obj n), .val (tI w), a2, a3, a4, .val (.lst (R.map tI)), a6, .un] S = .ok (List.replicate xs.length (.bl true), S') ∧ TapIs S' n
  | [], S, hS => ⟨S, rfl, hS⟩
  | x :: r, S, hS => by
    obtain ⟨v, S1, v1, v2, v3⟩ := of_ok n S (R.map tI) (by rw [List.length_map]; exact M.ne) (by rw [List.length_map]; have := M.le; omega) hS
    obtain ⟨t, ht, rfl⟩ := List.mem_map.mp v1
    obtain ⟨r1, r2, r3, r4⟩ := M.rows t ht
    have hl := M.ord.wd.len
    obtain ⟨S2, n1, n2⟩ := near_ok n S1 v3 t w r1 (fun q hq => ⟨(r2 q hq).1, by have := (r2 q hq).2; omega⟩) hl
    obtain ⟨S3, ih, t3⟩ := loop9 M n a2 a3 a4 a6 r S2 n2
    refine ⟨S3, ?_, t3⟩
    rw [List.length_cons, List.replicate_succ]
    exact lcL_yes (en := [.val (.obj n), .val (tI w), a2, a3, a4, .val (.lst (R.map tI)), a6, .val x]) rfl rfl (eCall_ok (xs := [.obj n, tI t, tI w]) (S1 := S1) (aCons_ok rfl (aCons_ok (eCall_ok (xs := [.obj n, .lst (R.map tI)]) (S1 := S) rfl v2) rfl)) n1) ih
theorem right_ok {AllW : List (List Nat)} (C : Cl AllW) (pos : ∀ w ∈ AllW, 1 ≤ w.length) (mid : ∀ w ∈ AllW, ∃ R, Mid w R) (n : Nat) (S : Sto) (hS : TapIs S n) : ∃ S', f_l_right [.obj n] S = .ok (.bl true, S') := by
  obtain ⟨w, S1, w1, w2, w3⟩ := line_ok C n S hS
  obtain ⟨R, M⟩ := mid w w3
  have h0 := pos w w3
  have hl := M.ord.wd.len
  have e0 : env0 8 [.obj n] = [.val (.obj n), .un, .un, .un, .un, .un, .un, .un] := rfl
  have a1 : A1 [.val (.obj n), .un, .un, .un, .un, .un, .un, .un] S = .ok (.nx [.val (.obj n), .val (tI w), .un, .un, .un, .un, .un, .un] S1) := sSet_ok (eCall_ok (xs := [.obj n, .int 5, .int 6]) (S1 := S) rfl w1)
  have a2 : A2 [.val (.obj n), .val (tI w), .un, .un, .un, .un, .un, .un] S1 = .ok (.nx [.val (.obj n), .val (tI w), .un, .un, .un, .val (.lst (R.map tI)), .val (.int (w.length : Int)), .un] S1) :=
    sAsg_ok (v := .tup [.lst (R.map tI), .int (w.length : Int)]) (eB_ok (aCons_ok (eCall_ok (xs := [tI w]) (S1 := S1) rfl (M.st S1)) (aCons_ok (un_eq (x := tI w) rfl (pLen_tI w)) rfl)) rfl) rfl
  have a3 : A3 [.val (.obj n), .val (tI w), .un, .un, .un, .val (.lst (R.map tI)), .val (.int (w.length : Int)), .un] S1 = .ok (.nx [.val (.obj n), .val (tI w), .val (X w R), .un, .un, .val (.lst (R.map tI)), .val (.int (w.length : Int)), .un] S1) :=
    sSet_ok (eB_ok (aCons_ok (eCall_ok (xs := [tI w]) (S1 := S1) rfl (turned_ok w (by omega) S1)) (aCons_ok (un_eq (x := .lst (R.map tI)) rfl (pLen_R R)) (aCons_ok (un_eq (x := .lst (R.map tI)) (z := .tup (R.map tI)) rfl rfl) rfl))) rfl)
  have a4 : A4 [.val (.obj n), .val (tI w), .val (X w R), .un, .un, .val (.lst (R.map tI)), .val (.int (w.length : Int)), .un] S1 = .ok (.nx [.val (.obj n), .val (tI w), .val (X w R), .un, .un, .val (.lst (R.map tI)), .val (.int (w.length : Int)), .un] S1) :=
    sIf_no (tV_ok (eOp_ok (x := X w R) (eB_ok (aCons_ok (eCall_ok (xs := [tI w]) (S1 := S1) rfl (invc_ok w M.ord S1)) (aCons_ok (eCall_ok (xs := [tI w]) (S1 := S1) rfl (rcount_ok M S1)) (aCons_ok (eCall_ok (xs := [tI w]) (S1 := S1) rfl (rrows_ok M S1)) rfl))) rfl) (y := X w R) rfl (neX _ _ R))) rfl
  have a5 : A5 [.val (.obj n), .val (tI w), .val (X w R), .un, .un, .val (.lst (R.map tI)), .val (.int (w.length : Int)), .un] S1 = .ok (.nx [.val (.obj n), .val (tI w), .val (X w R), .un, .un, .val (.lst (R.map tI)), .val (.int (w.length : Int)), .un] S1) :=
    sIf_no (tV_ok (eOp_ok (x := X w R) (eB_ok (aCons_ok (callK_ok (ys := [tI w]) (S1 := S1) rfl (invc_ok w M.ord S1)) (aCons_ok (callK_ok (ys := [tI w]) (S1 := S1) rfl (rcount_ok M S1)) (aCons_ok (callK_ok (ys := [tI w]) (S1 := S1) rfl (rrows_ok M S1)) rfl))) rfl) (y := X w R) rfl (neX _ _ R))) rfl
  have i6 : iR2 (aCons (eC (.int 1)) (aCons (eV 6) aNil)) [.val (.obj n), .val (tI w), .val (X w R), .un, .un, .val (.lst (R.map tI)), .val (.int (w.length : Int)), .un] S1 = .ok (natsP (List.range' 1 (w.length - 1)), S1) := by
    have r := iR2_eq (f := aCons (eC (.int 1)) (aCons (eV 6) aNil)) (env := [.val (.obj n), .val (tI w), .val (X w R), .un, .un, .val (.lst (R.map tI)), .val (.int (w.length : Int)), .un]) (S := S1) (S1 := S1) (i := 1) (j := (w.length : Int)) rfl (bdI_of (by omega) (by omega)) (bdI_of (by omega) (by omega))
    have e : ((w.length : Int) - 1).toNat = w.length - 1 := by omega
    rw [e, rangeP_one] at r
    exact r
  obtain ⟨b3, l6⟩ := loop6 M (.val (.obj n)) .un (.val (.lst (R.map tI))) (.val (.int (w.length : Int))) .un S1 (List.range' 1 (w.length - 1)) .un (fun k hk => by have := List.mem_range'_1.mp hk; omega)
  obtain ⟨b4, l7⟩ := loop7 M h0 (.val (.obj n)) (.val (X w R)) b3 (.val (.lst (R.map tI))) .un S1 R .un (fun r hr => hr)
  have a8 : A8 [.val (.obj n), .val (tI w), .val (X w R), b3, b4, .val (.lst (R.map tI)), .val (.int (w.length : Int)), .un] S1 = .ok (.nx [.val (.obj n), .val (tI w), .val (X w R), b3, b4, .val (.lst (R.map tI)), .val (.int (w.length : Int)), .un] S1) := by
    have q := tV_ok (eCall_ok (f := f_l_braids_right) (a := aCons (eV 5) aNil) (env := [.val (.obj n), .val (tI w), .val (X w R), b3, b4, .val (.lst (R.map tI)), .val (.int (w.length : Int)), .un]) (S := S1) (xs := [.lst (R.map tI)]) (S1 := S1) rfl (M.br S1))
    refine sIf_no (S1 := S1) ?_ rfl
    unfold tNo
    rw [q]
    rfl
  obtain ⟨S2, l9, t9⟩ := loop9 M n (.val (X w R)) b3 b4 (.val (.int (w.length : Int))) (rangeP 0 6) S1 w2
  have hr6 : (rangeP 0 6).length = 6 := rfl
  rw [hr6] at l9
  refine ⟨S2, runF_rt ?_⟩
  rw [right_eq, e0]
  exact (sSeq_nx a1).trans ((sSeq_nx a2).trans ((sSeq_nx a3).trans ((sSeq_nx a4).trans ((sSeq_nx a5).trans ((sSeq_nx (sFor_ok i6 l6)).trans ((sSeq_nx (sFor_ok (xs := R.map tI) (S1 := S1) rfl l7)).trans ((sSeq_nx a8).trans (sRet_ok (un_eq (lc_eq (xs := rangeP 0 6) (S1 := S1) rfl (by rw [hr6]; decide) l9) (all_true 6))))))))))
theorem law_is : f_law = runF 2 (sRet (eUn pAll (eLc [1] (iR1 (aCons (eB pMax2 (aCons (eC (.int (2 : Nat))) (aCons (eB pMin2 (aCons (eUn pLen (eV 0)) (aCons (eC (.int (4 : Nat))) aNil))) aNil))) aNil)) (gN 1) tT (eCall f_l_right (aCons (eCall f_l_tap (aCons (eV 0) (aCons (eV 1) aNil))) aNil))))) := rfl
theorem law_of {AllW : List (List Nat)} (C : Cl AllW) (pos : ∀ w ∈ AllW, 1 ≤ w.length) (mid : ∀ w ∈ AllW, ∃ R, Mid w R) (ns : List Int) : ∃ S', f_law [.scr ns] [] = .ok (.bl true, S') := by
  rw [law_is]
  exact law_all ns 2 4 (by omega) (by omega) (each_of (Is := TapIs) (fun k hk S => tap_ok ns k hk S) (right_ok C pos mid))
end K72
set_option Elab.async false
set_option maxRecDepth 100000
set_option maxHeartbeats 0
namespace K72
open PySem PySem.Spec PyProof.Rows L2 J
def rw12345 : List PV := [.tup []]
theorem st12345 (S : Sto) : f_l_all_steps [.tup [.int 1, .int 2, .int 3, .int 4, .int 5]] S = .ok (.lst rw12345, S) := by kernel_rfl
theorem cn12345 (S : Sto) : f_count_of [.tup [.int 1, .int 2, .int 3, .int 4, .int 5]] S = .ok (.int 1, S) := by kernel_rfl
theorem ro12345 (S : Sto) : f_rows_of_order [.tup [.int 1, .int 2, .int 3, .int 4, .int 5]] S = .ok (.lst [.tup []], S) := by kernel_rfl
theorem so12345 : pSrt (.seq .int) (.lst [.tup []]) = some (.lst rw12345) := by kernel_rfl
theorem br12345 (S : Sto) : f_l_braids_right [.lst rw12345] S = .ok (.bl true, S) := by kernel_rfl
def rw13425 : List PV := [.tup [.int 2, .int 3]]
theorem st13425 (S : Sto) : f_l_all_steps [.tup [.int 1, .int 3, .int 4, .int 2, .int 5]] S = .ok (.lst rw13425, S) := by kernel_rfl
theorem cn13425 (S : Sto) : f_count_of [.tup [.int 1, .int 3, .int 4, .int 2, .int 5]] S = .ok (.int 1, S) := by kernel_rfl
theorem ro13425 (S : Sto) : f_rows_of_order [.tup [.int 1, .int 3, .int 4, .int 2, .int 5]] S = .ok (.lst [.tup [.int 2, .int 3]], S) := by kernel_rfl
theorem so13425 : pSrt (.seq .int) (.lst [.tup [.int 2, .int 3]]) = some (.lst rw13425) := by kernel_rfl
theorem br13425 (S : Sto) : f_l_braids_right [.lst rw13425] S = .ok (.bl true, S) := by kernel_rfl
def rw1423 : List PV := [.tup [.int 3, .int 2]]
theorem st1423 (S : Sto) : f_l_all_steps [.tup [.int 1, .int 4, .int 2, .int 3]] S = .ok (.lst rw1423, S) := by kernel_rfl
theorem cn1423 (S : Sto) : f_count_of [.tup [.int 1, .int 4, .int 2, .int 3]] S = .ok (.int 1, S) := by kernel_rfl
theorem ro1423 (S : Sto) : f_rows_of_order [.tup [.int 1, .int 4, .int 2, .int 3]] S = .ok (.lst [.tup [.int 3, .int 2]], S) := by kernel_rfl
theorem so1423 : pSrt (.seq .int) (.lst [.tup [.int 3, .int 2]]) = some (.lst rw1423) := by kernel_rfl
theorem br1423 (S : Sto) : f_l_braids_right [.lst rw1423] S = .ok (.bl true, S) := by kernel_rfl
def rw14523 : List PV := [.tup [.int 3, .int 2, .int 4, .int 3], .tup [.int 3, .int 4, .int 2, .int 3]]
theorem st14523 (S : Sto) : f_l_all_steps [.tup [.int 1, .int 4, .int 5, .int 2, .int 3]] S = .ok (.lst rw14523, S) := by kernel_rfl
theorem cn14523 (S : Sto) : f_count_of [.tup [.int 1, .int 4, .int 5, .int 2, .int 3]] S = .ok (.int 2, S) := by kernel_rfl
theorem ro14523 (S : Sto) : f_rows_of_order [.tup [.int 1, .int 4, .int 5, .int 2, .int 3]] S = .ok (.lst [.tup [.int 3, .int 4, .int 2, .int 3], .tup [.int 3, .int 2, .int 4, .int 3]], S) := by kernel_rfl
theorem so14523 : pSrt (.seq .int) (.lst [.tup [.int 3, .int 4, .int 2, .int 3], .tup [.int 3, .int 2, .int 4, .int 3]]) = some (.lst rw14523) := by kernel_rfl
theorem br14523 (S : Sto) : f_l_braids_right [.lst rw14523] S = .ok (.bl true, S) := by kernel_rfl
def rw15243 : List PV := [.tup [.int 3, .int 4, .int 3, .int 2], .tup [.int 4, .int 3, .int 2, .int 4], .tup [.int 4, .int 3, .int 4, .int 2]]
theorem st15243 (S : Sto) : f_l_all_steps [.tup [.int 1, .int 5, .int 2, .int 4, .int 3]] S = .ok (.lst rw15243, S) := by kernel_rfl
theorem cn15243 (S : Sto) : f_count_of [.tup [.int 1, .int 5, .int 2, .int 4, .int 3]] S = .ok (.int 3, S) := by kernel_rfl
theorem ro15243 (S : Sto) : f_rows_of_order [.tup [.int 1, .int 5, .int 2, .int 4, .int 3]] S = .ok (.lst [.tup [.int 3, .int 4, .int 3, .int 2], .tup [.int 4, .int 3, .int 4, .int 2], .tup [.int 4, .int 3, .int 2, .int 4]], S) := by kernel_rfl
theorem so15243 : pSrt (.seq .int) (.lst [.tup [.int 3, .int 4, .int 3, .int 2], .tup [.int 4, .int 3, .int 4, .int 2], .tup [.int 4, .int 3, .int 2, .int 4]]) = some (.lst rw15243) := by kernel_rfl
theorem br15243 (S : Sto) : f_l_braids_right [.lst rw15243] S = .ok (.bl true, S) := by kernel_rfl
def rw21543 : List PV := [.tup [.int 1, .int 3, .int 4, .int 3], .tup [.int 1, .int 4, .int 3, .int 4], .tup [.int 3, .int 1, .int 4, .int 3], .tup [.int 3, .int 4, .int 1, .int 3], .tup [.int 3, .int 4, .int 3, .int 1], .tup [.int 4, .int 1, .int 3, .int 4], .tup [.int 4, .int 3, .int 1, .int 4], .tup [.int 4, .int 3, .int 4, .int 1]]
theorem st21543 (S : Sto) : f_l_all_steps [.tup [.int 2, .int 1, .int 5, .int 4, .int 3]] S = .ok (.lst rw21543, S) := by kernel_rfl
theorem cn21543 (S : Sto) : f_count_of [.tup [.int 2, .int 1, .int 5, .int 4, .int 3]] S = .ok (.int 8, S) := by kernel_rfl
theorem ro21543 (S : Sto) : f_rows_of_order [.tup [.int 2, .int 1, .int 5, .int 4, .int 3]] S = .ok (.lst [.tup [.int 3, .int 4, .int 3, .int 1], .tup [.int 3, .int 4, .int 1, .int 3], .tup [.int 3, .int 1, .int 4, .int 3], .tup [.int 4, .int 3, .int 4, .int 1], .tup [.int 4, .int 3, .int 1, .int 4], .tup [.int 4, .int 1, .int 3, .int 4], .tup [.int 1, .int 3, .int 4, .int 3], .tup [.int 1, .int 4, .int 3, .int 4]], S) := by kernel_rfl
theorem so21543 : pSrt (.seq .int) (.lst [.tup [.int 3, .int 4, .int 3, .int 1], .tup [.int 3, .int 4, .int 1, .int 3], .tup [.int 3, .int 1, .int 4, .int 3], .tup [.int 4, .int 3, .int 4, .int 1], .tup [.int 4, .int 3, .int 1, .int 4], .tup [.int 4, .int 1, .int 3, .int 4], .tup [.int 1, .int 3, .int 4, .int 3], .tup [.int 1, .int 4, .int 3, .int 4]]) = some (.lst rw21543) := by kernel_rfl
theorem br21543 (S : Sto) : f_l_braids_right [.lst rw21543] S = .ok (.bl true, S) := by kernel_rfl
def rw231 : List PV := [.tup [.int 1, .int 2]]
theorem st231 (S : Sto) : f_l_all_steps [.tup [.int 2, .int 3, .int 1]] S = .ok (.lst rw231, S) := by kernel_rfl
theorem cn231 (S : Sto) : f_count_of [.tup [.int 2, .int 3, .int 1]] S = .ok (.int 1, S) := by kernel_rfl
theorem ro231 (S : Sto) : f_rows_of_order [.tup [.int 2, .int 3, .int 1]] S = .ok (.lst [.tup [.int 1, .int 2]], S) := by kernel_rfl
theorem so231 : pSrt (.seq .int) (.lst [.tup [.int 1, .int 2]]) = some (.lst rw231) := by kernel_rfl
theorem br231 (S : Sto) : f_l_braids_right [.lst rw231] S = .ok (.bl true, S) := by kernel_rfl
def rw23415 : List PV := [.tup [.int 1, .int 2, .int 3]]
theorem st23415 (S : Sto) : f_l_all_steps [.tup [.int 2, .int 3, .int 4, .int 1, .int 5]] S = .ok (.lst rw23415, S) := by kernel_rfl
theorem cn23415 (S : Sto) : f_count_of [.tup [.int 2, .int 3, .int 4, .int 1, .int 5]] S = .ok (.int 1, S) := by kernel_rfl
theorem ro23415 (S : Sto) : f_rows_of_order [.tup [.int 2, .int 3, .int 4, .int 1, .int 5]] S = .ok (.lst [.tup [.int 1, .int 2, .int 3]], S) := by kernel_rfl
theorem so23415 : pSrt (.seq .int) (.lst [.tup [.int 1, .int 2, .int 3]]) = some (.lst rw23415) := by kernel_rfl
theorem br23415 (S : Sto) : f_l_braids_right [.lst rw23415] S = .ok (.bl true, S) := by kernel_rfl
def rw24153 : List PV := [.tup [.int 1, .int 3, .int 2, .int 4], .tup [.int 1, .int 3, .int 4, .int 2], .tup [.int 3, .int 1, .int 2, .int 4], .tup [.int 3, .int 1, .int 4, .int 2], .tup [.int 3, .int 4, .int 1, .int 2]]
theorem st24153 (S : Sto) : f_l_all_steps [.tup [.int 2, .int 4, .int 1, .int 5, .int 3]] S = .ok (.lst rw24153, S) := by kernel_rfl
theorem cn24153 (S : Sto) : f_count_of [.tup [.int 2, .int 4, .int 1, .int 5, .int 3]] S = .ok (.int 5, S) := by kernel_rfl
theorem ro24153 (S : Sto) : f_rows_of_order [.tup [.int 2, .int 4, .int 1, .int 5, .int 3]] S = .ok (.lst [.tup [.int 3, .int 4, .int 1, .int 2], .tup [.int 3, .int 1, .int 4, .int 2], .tup [.int 3, .int 1, .int 2, .int 4], .tup [.int 1, .int 3, .int 4, .int 2], .tup [.int 1, .int 3, .int 2, .int 4]], S) := by kernel_rfl
theorem so24153 : pSrt (.seq .int) (.lst [.tup [.int 3, .int 4, .int 1, .int 2], .tup [.int 3, .int 1, .int 4, .int 2], .tup [.int 3, .int 1, .int 2, .int 4], .tup [.int 1, .int 3, .int 4, .int 2], .tup [.int 1, .int 3, .int 2, .int 4]]) = some (.lst rw24153) := by kernel_rfl
theorem br24153 (S : Sto) : f_l_braids_right [.lst rw24153] S = .ok (.bl true, S) := by kernel_rfl
def rw24315 : List PV := [.tup [.int 1, .int 2, .int 3, .int 2], .tup [.int 1, .int 3, .int 2, .int 3], .tup [.int 3, .int 1, .int 2, .int 3]]
theorem st24315 (S : Sto) : f_l_all_steps [.tup [.int 2, .int 4, .int 3, .int 1, .int 5]] S = .ok (.lst rw24315, S) := by kernel_rfl
theorem cn24315 (S : Sto) : f_count_of [.tup [.int 2, .int 4, .int 3, .int 1, .int 5]] S = .ok (.int 3, S) := by kernel_rfl
theorem ro24315 (S : Sto) : f_rows_of_order [.tup [.int 2, .int 4, .int 3, .int 1, .int 5]] S = .ok (.lst [.tup [.int 1, .int 2, .int 3, .int 2], .tup [.int 1, .int 3, .int 2, .int 3], .tup [.int 3, .int 1, .int 2, .int 3]], S) := by kernel_rfl
theorem so24315 : pSrt (.seq .int) (.lst [.tup [.int 1, .int 2, .int 3, .int 2], .tup [.int 1, .int 3, .int 2, .int 3], .tup [.int 3, .int 1, .int 2, .int 3]]) = some (.lst rw24315) := by kernel_rfl
theorem br24315 (S : Sto) : f_l_braids_right [.lst rw24315] S = .ok (.bl true, S) := by kernel_rfl
def rw32451 : List PV := [.tup [.int 1, .int 2, .int 1, .int 3, .int 4], .tup [.int 1, .int 2, .int 3, .int 1, .int 4], .tup [.int 1, .int 2, .int 3, .int 4, .int 1], .tup [.int 2, .int 1, .int 2, .int 3, .int 4]]
theorem st32451 (S : Sto) : f_l_all_steps [.tup [.int 3, .int 2, .int 4, .int 5, .int 1]] S = .ok (.lst rw32451, S) := by kernel_rfl
theorem cn32451 (S : Sto) : f_count_of [.tup [.int 3, .int 2, .int 4, .int 5, .int 1]] S = .ok (.int 4, S) := by kernel_rfl
theorem ro32451 (S : Sto) : f_rows_of_order [.tup [.int 3, .int 2, .int 4, .int 5, .int 1]] S = .ok (.lst [.tup [.int 1, .int 2, .int 3, .int 4, .int 1], .tup [.int 1, .int 2, .int 3, .int 1, .int 4], .tup [.int 1, .int 2, .int 1, .int 3, .int 4], .tup [.int 2, .int 1, .int 2, .int 3, .int 4]], S) := by kernel_rfl
theorem so32451 : pSrt (.seq .int) (.lst [.tup [.int 1, .int 2, .int 3, .int 4, .int 1], .tup [.int 1, .int 2, .int 3, .int 1, .int 4], .tup [.int 1, .int 2, .int 1, .int 3, .int 4], .tup [.int 2, .int 1, .int 2, .int 3, .int 4]]) = some (.lst rw32451) := by kernel_rfl
theorem br32451 (S : Sto) : f_l_braids_right [.lst rw32451] S = .ok (.bl true, S) := by kernel_rfl
def rw32541 : List PV := [.tup [.int 1, .int 2, .int 1, .int 3, .int 4, .int 3], .tup [.int 1, .int 2, .int 1, .int 4, .int 3, .int 4], .tup [.int 1, .int 2, .int 3, .int 1, .int 4, .int 3], .tup [.int 1, .int 2, .int 3, .int 4, .int 1, .int 3], .tup [.int 1, .int 2, .int 3, .int 4, .int 3, .int 1], .tup [.int 1, .int 2, .int 4, .int 1, .int 3, .int 4], .tup [.int 1, .int 2, .int 4, .int 3, .int 1, .int 4], .tup [.int 1, .int 2, .int 4, .int 3, .int 4, .int 1], .tup [.int 1, .int 4, .int 2, .int 1, .int 3, .int 4], .tup [.int 1, .int 4, .int 2, .int 3, .int 1, .int 4], .tup [.int 1, .int 4, .int 2, .int 3, .int 4, .int 1], .tup [.int 2, .int 1, .int 2, .int 3, .int 4, .int 3], .tup [.int 2, .int 1, .int 2, .int 4, .int 3, .int 4], .tup [.int 2, .int 1, .int 4, .int 2, .int 3, .int 4], .tup [.int 2, .int 4, .int 1, .int 2, .int 3, .int 4], .tup [.int 4, .int 1, .int 2, .int 1, .int 3, .int 4], .tup [.int 4, .int 1, .int 2, .int 3, .int 1, .int 4], .tup [.int 4, .int 1, .int 2, .int 3, .int 4, .int 1], .tup [.int 4, .int 2, .int 1, .int 2, .int 3, .int 4]]
theorem st32541 (S : Sto) : f_l_all_steps [.tup [.int 3, .int 2, .int 5, .int 4, .int 1]] S = .ok (.lst rw32541, S) := by kernel_rfl
theorem cn32541 (S : Sto) : f_count_of [.tup [.int 3, .int 2, .int 5, .int 4, .int 1]] S = .ok (.int 19, S) := by kernel_rfl
theorem ro32541 (S : Sto) : f_rows_of_order [.tup [.int 3, .int 2, .int 5, .int 4, .int 1]] S = .ok (.lst [.tup [.int 1, .int 2, .int 3, .int 4, .int 3, .int 1], .tup [.int 1, .int 2, .int 3, .int 4, .int 1, .int 3], .tup [.int 1, .int 2, .int 3, .int 1, .int 4, .int 3], .tup [.int 1, .int 2, .int 4, .int 3, .int 4, .int 1], .tup [.int 1, .int 2, .int 4, .int 3, .int 1, .int 4], .tup [.int 1, .int 2, .int 4, .int 1, .int 3, .int 4], .tup [.int 1, .int 2, .int 1, .int 3, .int 4, .int 3], .tup [.int 1, .int 2, .int 1, .int 4, .int 3, .int 4], .tup [.int 1, .int 4, .int 2, .int 3, .int 4, .int 1], .tup [.int 1, .int 4, .int 2, .int 3, .int 1, .int 4], .tup [.int 1, .int 4, .int 2, .int 1, .int 3, .int 4], .tup [.int 4, .int 1, .int 2, .int 3, .int 4, .int 1], .tup [.int 4, .int 1, .int 2, .int 3, .int 1, .int 4], .tup [.int 4, .int 1, .int 2, .int 1, .int 3, .int 4], .tup [.int 4, .int 2, .int 1, .int 2, .int 3, .int 4], .tup [.int 2, .int 1, .int 2, .int 3, .int 4, .int 3], .tup [.int 2, .int 1, .int 2, .int 4, .int 3, .int 4], .tup [.int 2, .int 1, .int 4, .int 2, .int 3, .int 4], .tup [.int 2, .int 4, .int 1, .int 2, .int 3, .int 4]], S) := by kernel_rfl
theorem so32541 : pSrt (.seq .int) (.lst [.tup [.int 1, .int 2, .int 3, .int 4, .int 3, .int 1], .tup [.int 1, .int 2, .int 3, .int 4, .int 1, .int 3], .tup [.int 1, .int 2, .int 3, .int 1, .int 4, .int 3], .tup [.int 1, .int 2, .int 4, .int 3, .int 4, .int 1], .tup [.int 1, .int 2, .int 4, .int 3, .int 1, .int 4], .tup [.int 1, .int 2, .int 4, .int 1, .int 3, .int 4], .tup [.int 1, .int 2, .int 1, .int 3, .int 4, .int 3], .tup [.int 1, .int 2, .int 1, .int 4, .int 3, .int 4], .tup [.int 1, .int 4, .int 2, .int 3, .int 4, .int 1], .tup [.int 1, .int 4, .int 2, .int 3, .int 1, .int 4], .tup [.int 1, .int 4, .int 2, .int 1, .int 3, .int 4], .tup [.int 4, .int 1, .int 2, .int 3, .int 4, .int 1], .tup [.int 4, .int 1, .int 2, .int 3, .int 1, .int 4], .tup [.int 4, .int 1, .int 2, .int 1, .int 3, .int 4], .tup [.int 4, .int 2, .int 1, .int 2, .int 3, .int 4], .tup [.int 2, .int 1, .int 2, .int 3, .int 4, .int 3], .tup [.int 2, .int 1, .int 2, .int 4, .int 3, .int 4], .tup [.int 2, .int 1, .int 4, .int 2, .int 3, .int 4], .tup [.int 2, .int 4, .int 1, .int 2, .int 3, .int 4]]) = some (.lst rw32541) := by kernel_rfl
theorem br32541 (S : Sto) : f_l_braids_right [.lst rw32541] S = .ok (.bl true, S) := by kernel_rfl
def rw3412 : List PV := [.tup [.int 2, .int 1, .int 3, .int 2], .tup [.int 2, .int 3, .int 1, .int 2]]
theorem st3412 (S : Sto) : f_l_all_steps [.tup [.int 3, .int 4, .int 1, .int 2]] S = .ok (.lst rw3412, S) := by kernel_rfl
theorem cn3412 (S : Sto) : f_count_of [.tup [.int 3, .int 4, .int 1, .int 2]] S = .ok (.int 2, S) := by kernel_rfl
theorem ro3412 (S : Sto) : f_rows_of_order [.tup [.int 3, .int 4, .int 1, .int 2]] S = .ok (.lst [.tup [.int 2, .int 3, .int 1, .int 2], .tup [.int 2, .int 1, .int 3, .int 2]], S) := by kernel_rfl
theorem so3412 : pSrt (.seq .int) (.lst [.tup [.int 2, .int 3, .int 1, .int 2], .tup [.int 2, .int 1, .int 3, .int 2]]) = some (.lst rw3412) := by kernel_rfl
theorem br3412 (S : Sto) : f_l_braids_right [.lst rw3412] S = .ok (.bl true, S) := by kernel_rfl
def rw34125 : List PV := [.tup [.int 2, .int 1, .int 3, .int 2], .tup [.int 2, .int 3, .int 1, .int 2]]
theorem st34125 (S : Sto) : f_l_all_steps [.tup [.int 3, .int 4, .int 1, .int 2, .int 5]] S = .ok (.lst rw34125, S) := by kernel_rfl
theorem cn34125 (S : Sto) : f_count_of [.tup [.int 3, .int 4, .int 1, .int 2, .int 5]] S = .ok (.int 2, S) := by kernel_rfl
theorem ro34125 (S : Sto) : f_rows_of_order [.tup [.int 3, .int 4, .int 1, .int 2, .int 5]] S = .ok (.lst [.tup [.int 2, .int 3, .int 1, .int 2], .tup [.int 2, .int 1, .int 3, .int 2]], S) := by kernel_rfl
theorem so34125 : pSrt (.seq .int) (.lst [.tup [.int 2, .int 3, .int 1, .int 2], .tup [.int 2, .int 1, .int 3, .int 2]]) = some (.lst rw34125) := by kernel_rfl
theorem br34125 (S : Sto) : f_l_braids_right [.lst rw34125] S = .ok (.bl true, S) := by kernel_rfl
def rw35124 : List PV := [.tup [.int 2, .int 1, .int 4, .int 3, .int 2], .tup [.int 2, .int 4, .int 1, .int 3, .int 2], .tup [.int 2, .int 4, .int 3, .int 1, .int 2], .tup [.int 4, .int 2, .int 1, .int 3, .int 2], .tup [.int 4, .int 2, .int 3, .int 1, .int 2]]
theorem st35124 (S : Sto) : f_l_all_steps [.tup [.int 3, .int 5, .int 1, .int 2, .int 4]] S = .ok (.lst rw35124, S) := by kernel_rfl
theorem cn35124 (S : Sto) : f_count_of [.tup [.int 3, .int 5, .int 1, .int 2, .int 4]] S = .ok (.int 5, S) := by kernel_rfl
theorem ro35124 (S : Sto) : f_rows_of_order [.tup [.int 3, .int 5, .int 1, .int 2, .int 4]] S = .ok (.lst [.tup [.int 4, .int 2, .int 3, .int 1, .int 2], .tup [.int 4, .int 2, .int 1, .int 3, .int 2], .tup [.int 2, .int 4, .int 3, .int 1, .int 2], .tup [.int 2, .int 4, .int 1, .int 3, .int 2], .tup [.int 2, .int 1, .int 4, .int 3, .int 2]], S) := by kernel_rfl
theorem so35124 : pSrt (.seq .int) (.lst [.tup [.int 4, .int 2, .int 3, .int 1, .int 2], .tup [.int 4, .int 2, .int 1, .int 3, .int 2], .tup [.int 2, .int 4, .int 3, .int 1, .int 2], .tup [.int 2, .int 4, .int 1, .int 3, .int 2], .tup [.int 2, .int 1, .int 4, .int 3, .int 2]]) = some (.lst rw35124) := by kernel_rfl
theorem br35124 (S : Sto) : f_l_braids_right [.lst rw35124] S = .ok (.bl true, S) := by kernel_rfl
def rw4132 : List PV := [.tup [.int 2, .int 3, .int 2, .int 1], .tup [.int 3, .int 2, .int 1, .int 3], .tup [.int 3, .int 2, .int 3, .int 1]]
theorem st4132 (S : Sto) : f_l_all_steps [.tup [.int 4, .int 1, .int 3, .int 2]] S = .ok (.lst rw4132, S) := by kernel_rfl
theorem cn4132 (S : Sto) : f_count_of [.tup [.int 4, .int 1, .int 3, .int 2]] S = .ok (.int 3, S) := by kernel_rfl
theorem ro4132 (S : Sto) : f_rows_of_order [.tup [.int 4, .int 1, .int 3, .int 2]] S = .ok (.lst [.tup [.int 2, .int 3, .int 2, .int 1], .tup [.int 3, .int 2, .int 3, .int 1], .tup [.int 3, .int 2, .int 1, .int 3]], S) := by kernel_rfl
theorem so4132 : pSrt (.seq .int) (.lst [.tup [.int 2, .int 3, .int 2, .int 1], .tup [.int 3, .int 2, .int 3, .int 1], .tup [.int 3, .int 2, .int 1, .int 3]]) = some (.lst rw4132) := by kernel_rfl
theorem br4132 (S : Sto) : f_l_braids_right [.lst rw4132] S = .ok (.bl true, S) := by kernel_rfl
def rw41325 : List PV := [.tup [.int 2, .int 3, .int 2, .int 1], .tup [.int 3, .int 2, .int 1, .int 3], .tup [.int 3, .int 2, .int 3, .int 1]]
theorem st41325 (S : Sto) : f_l_all_steps [.tup [.int 4, .int 1, .int 3, .int 2, .int 5]] S = .ok (.lst rw41325, S) := by kernel_rfl
theorem cn41325 (S : Sto) : f_count_of [.tup [.int 4, .int 1, .int 3, .int 2, .int 5]] S = .ok (.int 3, S) := by kernel_rfl
theorem ro41325 (S : Sto) : f_rows_of_order [.tup [.int 4, .int 1, .int 3, .int 2, .int 5]] S = .ok (.lst [.tup [.int 2, .int 3, .int 2, .int 1], .tup [.int 3, .int 2, .int 3, .int 1], .tup [.int 3, .int 2, .int 1, .int 3]], S) := by kernel_rfl
theorem so41325 : pSrt (.seq .int) (.lst [.tup [.int 2, .int 3, .int 2, .int 1], .tup [.int 3, .int 2, .int 3, .int 1], .tup [.int 3, .int 2, .int 1, .int 3]]) = some (.lst rw41325) := by kernel_rfl
theorem br41325 (S : Sto) : f_l_braids_right [.lst rw41325] S = .ok (.bl true, S) := by kernel_rfl
def rw42315 : List PV := [.tup [.int 1, .int 2, .int 3, .int 2, .int 1], .tup [.int 1, .int 3, .int 2, .int 1, .int 3], .tup [.int 1, .int 3, .int 2, .int 3, .int 1], .tup [.int 3, .int 1, .int 2, .int 1, .int 3], .tup [.int 3, .int 1, .int 2, .int 3, .int 1], .tup [.int 3, .int 2, .int 1, .int 2, .int 3]]
theorem st42315 (S : Sto) : f_l_all_steps [.tup [.int 4, .int 2, .int 3, .int 1, .int 5]] S = .ok (.lst rw42315, S) := by kernel_rfl
theorem cn42315 (S : Sto) : f_count_of [.tup [.int 4, .int 2, .int 3, .int 1, .int 5]] S = .ok (.int 6, S) := by kernel_rfl
theorem ro42315 (S : Sto) : f_rows_of_order [.tup [.int 4, .int 2, .int 3, .int 1, .int 5]] S = .ok (.lst [.tup [.int 1, .int 2, .int 3, .int 2, .int 1], .tup [.int 1, .int 3, .int 2, .int 3, .int 1], .tup [.int 1, .int 3, .int 2, .int 1, .int 3], .tup [.int 3, .int 1, .int 2, .int 3, .int 1], .tup [.int 3, .int 1, .int 2, .int 1, .int 3], .tup [.int 3, .int 2, .int 1, .int 2, .int 3]], S) := by kernel_rfl
theorem so42315 : pSrt (.seq .int) (.lst [.tup [.int 1, .int 2, .int 3, .int 2, .int 1], .tup [.int 1, .int 3, .int 2, .int 3, .int 1], .tup [.int 1, .int 3, .int 2, .int 1, .int 3], .tup [.int 3, .int 1, .int 2, .int 3, .int 1], .tup [.int 3, .int 1, .int 2, .int 1, .int 3], .tup [.int 3, .int 2, .int 1, .int 2, .int 3]]) = some (.lst rw42315) := by kernel_rfl
theorem br42315 (S : Sto) : f_l_braids_right [.lst rw42315] S = .ok (.bl true, S) := by kernel_rfl
def rw43215 : List PV := [.tup [.int 1, .int 2, .int 1, .int 3, .int 2, .int 1], .tup [.int 1, .int 2, .int 3, .int 1, .int 2, .int 1], .tup [.int 1, .int 2, .int 3, .int 2, .int 1, .int 2], .tup [.int 1, .int 3, .int 2, .int 1, .int 3, .int 2], .tup [.int 1, .int 3, .int 2, .int 3, .int 1, .int 2], .tup [.int 2, .int 1, .int 2, .int 3, .int 2, .int 1], .tup [.int 2, .int 1, .int 3, .int 2, .int 1, .int 3], .tup [.int 2, .int 1, .int 3, .int 2, .int 3, .int 1], .tup [.int 2, .int 3, .int 1, .int 2, .int 1, .int 3], .tup [.int 2, .int 3, .int 1, .int 2, .int 3, .int 1], .tup [.int 2, .int 3, .int 2, .int 1, .int 2, .int 3], .tup [.int 3, .int 1, .int 2, .int 1, .int 3, .int 2], .tup [.int 3, .int 1, .int 2, .int 3, .int 1, .int 2], .tup [.int 3, .int 2, .int 1, .int 2, .int 3, .int 2], .tup [.int 3, .int 2, .int 1, .int 3, .int 2, .int 3], .tup [.int 3, .int 2, .int 3, .int 1, .int 2, .int 3]]
theorem st43215 (S : Sto) : f_l_all_steps [.tup [.int 4, .int 3, .int 2, .int 1, .int 5]] S = .ok (.lst rw43215, S) := by kernel_rfl
theorem cn43215 (S : Sto) : f_count_of [.tup [.int 4, .int 3, .int 2, .int 1, .int 5]] S = .ok (.int 16, S) := by kernel_rfl
theorem ro43215 (S : Sto) : f_rows_of_order [.tup [.int 4, .int 3, .int 2, .int 1, .int 5]] S = .ok (.lst [.tup [.int 1, .int 2, .int 3, .int 1, .int 2, .int 1], .tup [.int 1, .int 2, .int 3, .int 2, .int 1, .int 2], .tup [.int 1, .int 2, .int 1, .int 3, .int 2, .int 1], .tup [.int 1, .int 3, .int 2, .int 3, .int 1, .int 2], .tup [.int 1, .int 3, .int 2, .int 1, .int 3, .int 2], .tup [.int 2, .int 1, .int 2, .int 3, .int 2, .int 1], .tup [.int 2, .int 1, .int 3, .int 2, .int 3, .int 1], .tup [.int 2, .int 1, .int 3, .int 2, .int 1, .int 3], .tup [.int 2, .int 3, .int 1, .int 2, .int 3, .int 1], .tup [.int 2, .int 3, .int 1, .int 2, .int 1, .int 3], .tup [.int 2, .int 3, .int 2, .int 1, .int 2, .int 3], .tup [.int 3, .int 1, .int 2, .int 3, .int 1, .int 2], .tup [.int 3, .int 1, .int 2, .int 1, .int 3, .int 2], .tup [.int 3, .int 2, .int 1, .int 2, .int 3, .int 2], .tup [.int 3, .int 2, .int 1, .int 3, .int 2, .int 3], .tup [.int 3, .int 2, .int 3, .int 1, .int 2, .int 3]], S) := by kernel_rfl
theorem so43215 : pSrt (.seq .int) (.lst [.tup [.int 1, .int 2, .int 3, .int 1, .int 2, .int 1], .tup [.int 1, .int 2, .int 3, .int 2, .int 1, .int 2], .tup [.int 1, .int 2, .int 1, .int 3, .int 2, .int 1], .tup [.int 1, .int 3, .int 2, .int 3, .int 1, .int 2], .tup [.int 1, .int 3, .int 2, .int 1, .int 3, .int 2], .tup [.int 2, .int 1, .int 2, .int 3, .int 2, .int 1], .tup [.int 2, .int 1, .int 3, .int 2, .int 3, .int 1], .tup [.int 2, .int 1, .int 3, .int 2, .int 1, .int 3], .tup [.int 2, .int 3, .int 1, .int 2, .int 3, .int 1], .tup [.int 2, .int 3, .int 1, .int 2, .int 1, .int 3], .tup [.int 2, .int 3, .int 2, .int 1, .int 2, .int 3], .tup [.int 3, .int 1, .int 2, .int 3, .int 1, .int 2], .tup [.int 3, .int 1, .int 2, .int 1, .int 3, .int 2], .tup [.int 3, .int 2, .int 1, .int 2, .int 3, .int 2], .tup [.int 3, .int 2, .int 1, .int 3, .int 2, .int 3], .tup [.int 3, .int 2, .int 3, .int 1, .int 2, .int 3]]) = some (.lst rw43215) := by kernel_rfl
theorem br43215 (S : Sto) : f_l_braids_right [.lst rw43215] S = .ok (.bl true, S) := by kernel_rfl
def rw51342 : List PV := [.tup [.int 2, .int 3, .int 4, .int 3, .int 2, .int 1], .tup [.int 2, .int 4, .int 3, .int 2, .int 1, .int 4], .tup [.int 2, .int 4, .int 3, .int 2, .int 4, .int 1], .tup [.int 2, .int 4, .int 3, .int 4, .int 2, .int 1], .tup [.int 4, .int 2, .int 3, .int 2, .int 1, .int 4], .tup [.int 4, .int 2, .int 3, .int 2, .int 4, .int 1], .tup [.int 4, .int 2, .int 3, .int 4, .int 2, .int 1], .tup [.int 4, .int 3, .int 2, .int 1, .int 3, .int 4], .tup [.int 4, .int 3, .int 2, .int 3, .int 1, .int 4], .tup [.int 4, .int 3, .int 2, .int 3, .int 4, .int 1]]
theorem st51342 (S : Sto) : f_l_all_steps [.tup [.int 5, .int 1, .int 3, .int 4, .int 2]] S = .ok (.lst rw51342, S) := by kernel_rfl
theorem cn51342 (S : Sto) : f_count_of [.tup [.int 5, .int 1, .int 3, .int 4, .int 2]] S = .ok (.int 10, S) := by kernel_rfl
theorem ro51342 (S : Sto) : f_rows_of_order [.tup [.int 5, .int 1, .int 3, .int 4, .int 2]] S = .ok (.lst [.tup [.int 2, .int 3, .int 4, .int 3, .int 2, .int 1], .tup [.int 2, .int 4, .int 3, .int 4, .int 2, .int 1], .tup [.int 2, .int 4, .int 3, .int 2, .int 4, .int 1], .tup [.int 2, .int 4, .int 3, .int 2, .int 1, .int 4], .tup [.int 4, .int 2, .int 3, .int 4, .int 2, .int 1], .tup [.int 4, .int 2, .int 3, .int 2, .int 4, .int 1], .tup [.int 4, .int 2, .int 3, .int 2, .int 1, .int 4], .tup [.int 4, .int 3, .int 2, .int 3, .int 4, .int 1], .tup [.int 4, .int 3, .int 2, .int 3, .int 1, .int 4], .tup [.int 4, .int 3, .int 2, .int 1, .int 3, .int 4]], S) := by kernel_rfl
theorem so51342 : pSrt (.seq .int) (.lst [.tup [.int 2, .int 3, .int 4, .int 3, .int 2, .int 1], .tup [.int 2, .int 4, .int 3, .int 4, .int 2, .int 1], .tup [.int 2, .int 4, .int 3, .int 2, .int 4, .int 1], .tup [.int 2, .int 4, .int 3, .int 2, .int 1, .int 4], .tup [.int 4, .int 2, .int 3, .int 4, .int 2, .int 1], .tup [.int 4, .int 2, .int 3, .int 2, .int 4, .int 1], .tup [.int 4, .int 2, .int 3, .int 2, .int 1, .int 4], .tup [.int 4, .int 3, .int 2, .int 3, .int 4, .int 1], .tup [.int 4, .int 3, .int 2, .int 3, .int 1, .int 4], .tup [.int 4, .int 3, .int 2, .int 1, .int 3, .int 4]]) = some (.lst rw51342) := by kernel_rfl
theorem br51342 (S : Sto) : f_l_braids_right [.lst rw51342] S = .ok (.bl true, S) := by kernel_rfl
end K72
set_option Elab.async false
set_option maxRecDepth 100000
set_option maxHeartbeats 0
namespace K72
open PySem PySem.Spec PyProof.Rows L2 J
def rw1 : List PV := [.tup []]
theorem st1 (S : Sto) : f_l_all_steps [.tup [.int 1]] S = .ok (.lst rw1, S) := by kernel_rfl
theorem cn1 (S : Sto) : f_count_of [.tup [.int 1]] S = .ok (.int 1, S) := by kernel_rfl
theorem ro1 (S : Sto) : f_rows_of_order [.tup [.int 1]] S = .ok (.lst [.tup []], S) := by kernel_rfl
theorem so1 : pSrt (.seq .int) (.lst [.tup []]) = some (.lst rw1) := by kernel_rfl
theorem br1 (S : Sto) : f_l_braids_right [.lst rw1] S = .ok (.bl true, S) := by kernel_rfl
def rw12 : List PV := [.tup []]
theorem st12 (S : Sto) : f_l_all_steps [.tup [.int 1, .int 2]] S = .ok (.lst rw12, S) := by kernel_rfl
theorem cn12 (S : Sto) : f_count_of [.tup [.int 1, .int 2]] S = .ok (.int 1, S) := by kernel_rfl
theorem ro12 (S : Sto) : f_rows_of_order [.tup [.int 1, .int 2]] S = .ok (.lst [.tup []], S) := by kernel_rfl
theorem so12 : pSrt (.seq .int) (.lst [.tup []]) = some (.lst rw12) := by kernel_rfl
theorem br12 (S : Sto) : f_l_braids_right [.lst rw12] S = .ok (.bl true, S) := by kernel_rfl
def rw12354 : List PV := [.tup [.int 4]]
theorem st12354 (S : Sto) : f_l_all_steps [.tup [.int 1, .int 2, .int 3, .int 5, .int 4]] S = .ok (.lst rw12354, S) := by kernel_rfl
theorem cn12354 (S : Sto) : f_count_of [.tup [.int 1, .int 2, .int 3, .int 5, .int 4]] S = .ok (.int 1, S) := by kernel_rfl
theorem ro12354 (S : Sto) : f_rows_of_order [.tup [.int 1, .int 2, .int 3, .int 5, .int 4]] S = .ok (.lst [.tup [.int 4]], S) := by kernel_rfl
theorem so12354 : pSrt (.seq .int) (.lst [.tup [.int 4]]) = some (.lst rw12354) := by kernel_rfl
theorem br12354 (S : Sto) : f_l_braids_right [.lst rw12354] S = .ok (.bl true, S) := by kernel_rfl
def rw12543 : List PV := [.tup [.int 3, .int 4, .int 3], .tup [.int 4, .int 3, .int 4]]
theorem st12543 (S : Sto) : f_l_all_steps [.tup [.int 1, .int 2, .int 5, .int 4, .int 3]] S = .ok (.lst rw12543, S) := by kernel_rfl
theorem cn12543 (S : Sto) : f_count_of [.tup [.int 1, .int 2, .int 5, .int 4, .int 3]] S = .ok (.int 2, S) := by kernel_rfl
theorem ro12543 (S : Sto) : f_rows_of_order [.tup [.int 1, .int 2, .int 5, .int 4, .int 3]] S = .ok (.lst [.tup [.int 3, .int 4, .int 3], .tup [.int 4, .int 3, .int 4]], S) := by kernel_rfl
theorem so12543 : pSrt (.seq .int) (.lst [.tup [.int 3, .int 4, .int 3], .tup [.int 4, .int 3, .int 4]]) = some (.lst rw12543) := by kernel_rfl
theorem br12543 (S : Sto) : f_l_braids_right [.lst rw12543] S = .ok (.bl true, S) := by kernel_rfl
def rw13452 : List PV := [.tup [.int 2, .int 3, .int 4]]
theorem st13452 (S : Sto) : f_l_all_steps [.tup [.int 1, .int 3, .int 4, .int 5, .int 2]] S = .ok (.lst rw13452, S) := by kernel_rfl
theorem cn13452 (S : Sto) : f_count_of [.tup [.int 1, .int 3, .int 4, .int 5, .int 2]] S = .ok (.int 1, S) := by kernel_rfl
theorem ro13452 (S : Sto) : f_rows_of_order [.tup [.int 1, .int 3, .int 4, .int 5, .int 2]] S = .ok (.lst [.tup [.int 2, .int 3, .int 4]], S) := by kernel_rfl
theorem so13452 : pSrt (.seq .int) (.lst [.tup [.int 2, .int 3, .int 4]]) = some (.lst rw13452) := by kernel_rfl
theorem br13452 (S : Sto) : f_l_braids_right [.lst rw13452] S = .ok (.bl true, S) := by kernel_rfl
def rw15324 : List PV := [.tup [.int 2, .int 4, .int 3, .int 2], .tup [.int 4, .int 2, .int 3, .int 2], .tup [.int 4, .int 3, .int 2, .int 3]]
theorem st15324 (S : Sto) : f_l_all_steps [.tup [.int 1, .int 5, .int 3, .int 2, .int 4]] S = .ok (.lst rw15324, S) := by kernel_rfl
theorem cn15324 (S : Sto) : f_count_of [.tup [.int 1, .int 5, .int 3, .int 2, .int 4]] S = .ok (.int 3, S) := by kernel_rfl
theorem ro15324 (S : Sto) : f_rows_of_order [.tup [.int 1, .int 5, .int 3, .int 2, .int 4]] S = .ok (.lst [.tup [.int 4, .int 2, .int 3, .int 2], .tup [.int 4, .int 3, .int 2, .int 3], .tup [.int 2, .int 4, .int 3, .int 2]], S) := by kernel_rfl
theorem so15324 : pSrt (.seq .int) (.lst [.tup [.int 4, .int 2, .int 3, .int 2], .tup [.int 4, .int 3, .int 2, .int 3], .tup [.int 2, .int 4, .int 3, .int 2]]) = some (.lst rw15324) := by kernel_rfl
theorem br15324 (S : Sto) : f_l_braids_right [.lst rw15324] S = .ok (.bl true, S) := by kernel_rfl
def rw2134 : List PV := [.tup [.int 1]]
theorem st2134 (S : Sto) : f_l_all_steps [.tup [.int 2, .int 1, .int 3, .int 4]] S = .ok (.lst rw2134, S) := by kernel_rfl
theorem cn2134 (S : Sto) : f_count_of [.tup [.int 2, .int 1, .int 3, .int 4]] S = .ok (.int 1, S) := by kernel_rfl
theorem ro2134 (S : Sto) : f_rows_of_order [.tup [.int 2, .int 1, .int 3, .int 4]] S = .ok (.lst [.tup [.int 1]], S) := by kernel_rfl
theorem so2134 : pSrt (.seq .int) (.lst [.tup [.int 1]]) = some (.lst rw2134) := by kernel_rfl
theorem br2134 (S : Sto) : f_l_braids_right [.lst rw2134] S = .ok (.bl true, S) := by kernel_rfl
def rw21354 : List PV := [.tup [.int 1, .int 4], .tup [.int 4, .int 1]]
theorem st21354 (S : Sto) : f_l_all_steps [.tup [.int 2, .int 1, .int 3, .int 5, .int 4]] S = .ok (.lst rw21354, S) := by kernel_rfl
theorem cn21354 (S : Sto) : f_count_of [.tup [.int 2, .int 1, .int 3, .int 5, .int 4]] S = .ok (.int 2, S) := by kernel_rfl
theorem ro21354 (S : Sto) : f_rows_of_order [.tup [.int 2, .int 1, .int 3, .int 5, .int 4]] S = .ok (.lst [.tup [.int 4, .int 1], .tup [.int 1, .int 4]], S) := by kernel_rfl
theorem so21354 : pSrt (.seq .int) (.lst [.tup [.int 4, .int 1], .tup [.int 1, .int 4]]) = some (.lst rw21354) := by kernel_rfl
theorem br21354 (S : Sto) : f_l_braids_right [.lst rw21354] S = .ok (.bl true, S) := by kernel_rfl
def rw23451 : List PV := [.tup [.int 1, .int 2, .int 3, .int 4]]
theorem st23451 (S : Sto) : f_l_all_steps [.tup [.int 2, .int 3, .int 4, .int 5, .int 1]] S = .ok (.lst rw23451, S) := by kernel_rfl
theorem cn23451 (S : Sto) : f_count_of [.tup [.int 2, .int 3, .int 4, .int 5, .int 1]] S = .ok (.int 1, S) := by kernel_rfl
theorem ro23451 (S : Sto) : f_rows_of_order [.tup [.int 2, .int 3, .int 4, .int 5, .int 1]] S = .ok (.lst [.tup [.int 1, .int 2, .int 3, .int 4]], S) := by kernel_rfl
theorem so23451 : pSrt (.seq .int) (.lst [.tup [.int 1, .int 2, .int 3, .int 4]]) = some (.lst rw23451) := by kernel_rfl
theorem br23451 (S : Sto) : f_l_braids_right [.lst rw23451] S = .ok (.bl true, S) := by kernel_rfl
def rw24513 : List PV := [.tup [.int 1, .int 3, .int 2, .int 4, .int 3], .tup [.int 1, .int 3, .int 4, .int 2, .int 3], .tup [.int 3, .int 1, .int 2, .int 4, .int 3], .tup [.int 3, .int 1, .int 4, .int 2, .int 3], .tup [.int 3, .int 4, .int 1, .int 2, .int 3]]
theorem st24513 (S : Sto) : f_l_all_steps [.tup [.int 2, .int 4, .int 5, .int 1, .int 3]] S = .ok (.lst rw24513, S) := by kernel_rfl
theorem cn24513 (S : Sto) : f_count_of [.tup [.int 2, .int 4, .int 5, .int 1, .int 3]] S = .ok (.int 5, S) := by kernel_rfl
theorem ro24513 (S : Sto) : f_rows_of_order [.tup [.int 2, .int 4, .int 5, .int 1, .int 3]] S = .ok (.lst [.tup [.int 3, .int 4, .int 1, .int 2, .int 3], .tup [.int 3, .int 1, .int 4, .int 2, .int 3], .tup [.int 3, .int 1, .int 2, .int 4, .int 3], .tup [.int 1, .int 3, .int 4, .int 2, .int 3], .tup [.int 1, .int 3, .int 2, .int 4, .int 3]], S) := by kernel_rfl
theorem so24513 : pSrt (.seq .int) (.lst [.tup [.int 3, .int 4, .int 1, .int 2, .int 3], .tup [.int 3, .int 1, .int 4, .int 2, .int 3], .tup [.int 3, .int 1, .int 2, .int 4, .int 3], .tup [.int 1, .int 3, .int 4, .int 2, .int 3], .tup [.int 1, .int 3, .int 2, .int 4, .int 3]]) = some (.lst rw24513) := by kernel_rfl
theorem br24513 (S : Sto) : f_l_braids_right [.lst rw24513] S = .ok (.bl true, S) := by kernel_rfl
def rw25134 : List PV := [.tup [.int 1, .int 4, .int 3, .int 2], .tup [.int 4, .int 1, .int 3, .int 2], .tup [.int 4, .int 3, .int 1, .int 2]]
theorem st25134 (S : Sto) : f_l_all_steps [.tup [.int 2, .int 5, .int 1, .int 3, .int 4]] S = .ok (.lst rw25134, S) := by kernel_rfl
theorem cn25134 (S : Sto) : f_count_of [.tup [.int 2, .int 5, .int 1, .int 3, .int 4]] S = .ok (.int 3, S) := by kernel_rfl
theorem ro25134 (S : Sto) : f_rows_of_order [.tup [.int 2, .int 5, .int 1, .int 3, .int 4]] S = .ok (.lst [.tup [.int 4, .int 3, .int 1, .int 2], .tup [.int 4, .int 1, .int 3, .int 2], .tup [.int 1, .int 4, .int 3, .int 2]], S) := by kernel_rfl
theorem so25134 : pSrt (.seq .int) (.lst [.tup [.int 4, .int 3, .int 1, .int 2], .tup [.int 4, .int 1, .int 3, .int 2], .tup [.int 1, .int 4, .int 3, .int 2]]) = some (.lst rw25134) := by kernel_rfl
theorem br25134 (S : Sto) : f_l_braids_right [.lst rw25134] S = .ok (.bl true, S) := by kernel_rfl
def rw25143 : List PV := [.tup [.int 1, .int 3, .int 4, .int 3, .int 2], .tup [.int 1, .int 4, .int 3, .int 2, .int 4], .tup [.int 1, .int 4, .int 3, .int 4, .int 2], .tup [.int 3, .int 1, .int 4, .int 3, .int 2], .tup [.int 3, .int 4, .int 1, .int 3, .int 2], .tup [.int 3, .int 4, .int 3, .int 1, .int 2], .tup [.int 4, .int 1, .int 3, .int 2, .int 4], .tup [.int 4, .int 1, .int 3, .int 4, .int 2], .tup [.int 4, .int 3, .int 1, .int 2, .int 4], .tup [.int 4, .int 3, .int 1, .int 4, .int 2], .tup [.int 4, .int 3, .int 4, .int 1, .int 2]]
theorem st25143 (S : Sto) : f_l_all_steps [.tup [.int 2, .int 5, .int 1, .int 4, .int 3]] S = .ok (.lst rw25143, S) := by kernel_rfl
theorem cn25143 (S : Sto) : f_count_of [.tup [.int 2, .int 5, .int 1, .int 4, .int 3]] S = .ok (.int 11, S) := by kernel_rfl
theorem ro25143 (S : Sto) : f_rows_of_order [.tup [.int 2, .int 5, .int 1, .int 4, .int 3]] S = .ok (.lst [.tup [.int 3, .int 4, .int 3, .int 1, .int 2], .tup [.int 3, .int 4, .int 1, .int 3, .int 2], .tup [.int 3, .int 1, .int 4, .int 3, .int 2], .tup [.int 4, .int 3, .int 4, .int 1, .int 2], .tup [.int 4, .int 3, .int 1, .int 4, .int 2], .tup [.int 4, .int 3, .int 1, .int 2, .int 4], .tup [.int 4, .int 1, .int 3, .int 4, .int 2], .tup [.int 4, .int 1, .int 3, .int 2, .int 4], .tup [.int 1, .int 3, .int 4, .int 3, .int 2], .tup [.int 1, .int 4, .int 3, .int 4, .int 2], .tup [.int 1, .int 4, .int 3, .int 2, .int 4]], S) := by kernel_rfl
theorem so25143 : pSrt (.seq .int) (.lst [.tup [.int 3, .int 4, .int 3, .int 1, .int 2], .tup [.int 3, .int 4, .int 1, .int 3, .int 2], .tup [.int 3, .int 1, .int 4, .int 3, .int 2], .tup [.int 4, .int 3, .int 4, .int 1, .int 2], .tup [.int 4, .int 3, .int 1, .int 4, .int 2], .tup [.int 4, .int 3, .int 1, .int 2, .int 4], .tup [.int 4, .int 1, .int 3, .int 4, .int 2], .tup [.int 4, .int 1, .int 3, .int 2, .int 4], .tup [.int 1, .int 3, .int 4, .int 3, .int 2], .tup [.int 1, .int 4, .int 3, .int 4, .int 2], .tup [.int 1, .int 4, .int 3, .int 2, .int 4]]) = some (.lst rw25143) := by kernel_rfl
theorem br25143 (S : Sto) : f_l_braids_right [.lst rw25143] S = .ok (.bl true, S) := by kernel_rfl
def rw312 : List PV := [.tup [.int 2, .int 1]]
theorem st312 (S : Sto) : f_l_all_steps [.tup [.int 3, .int 1, .int 2]] S = .ok (.lst rw312, S) := by kernel_rfl
theorem cn312 (S : Sto) : f_count_of [.tup [.int 3, .int 1, .int 2]] S = .ok (.int 1, S) := by kernel_rfl
theorem ro312 (S : Sto) : f_rows_of_order [.tup [.int 3, .int 1, .int 2]] S = .ok (.lst [.tup [.int 2, .int 1]], S) := by kernel_rfl
theorem so312 : pSrt (.seq .int) (.lst [.tup [.int 2, .int 1]]) = some (.lst rw312) := by kernel_rfl
theorem br312 (S : Sto) : f_l_braids_right [.lst rw312] S = .ok (.bl true, S) := by kernel_rfl
def rw31542 : List PV := [.tup [.int 2, .int 1, .int 3, .int 4, .int 3], .tup [.int 2, .int 1, .int 4, .int 3, .int 4], .tup [.int 2, .int 3, .int 1, .int 4, .int 3], .tup [.int 2, .int 3, .int 4, .int 1, .int 3], .tup [.int 2, .int 3, .int 4, .int 3, .int 1], .tup [.int 2, .int 4, .int 1, .int 3, .int 4], .tup [.int 2, .int 4, .int 3, .int 1, .int 4], .tup [.int 2, .int 4, .int 3, .int 4, .int 1], .tup [.int 4, .int 2, .int 1, .int 3, .int 4], .tup [.int 4, .int 2, .int 3, .int 1, .int 4], .tup [.int 4, .int 2, .int 3, .int 4, .int 1]]
theorem st31542 (S : Sto) : f_l_all_steps [.tup [.int 3, .int 1, .int 5, .int 4, .int 2]] S = .ok (.lst rw31542, S) := by kernel_rfl
theorem cn31542 (S : Sto) : f_count_of [.tup [.int 3, .int 1, .int 5, .int 4, .int 2]] S = .ok (.int 11, S) := by kernel_rfl
theorem ro31542 (S : Sto) : f_rows_of_order [.tup [.int 3, .int 1, .int 5, .int 4, .int 2]] S = .ok (.lst [.tup [.int 2, .int 3, .int 4, .int 3, .int 1], .tup [.int 2, .int 3, .int 4, .int 1, .int 3], .tup [.int 2, .int 3, .int 1, .int 4, .int 3], .tup [.int 2, .int 4, .int 3, .int 4, .int 1], .tup [.int 2, .int 4, .int 3, .int 1, .int 4], .tup [.int 2, .int 4, .int 1, .int 3, .int 4], .tup [.int 2, .int 1, .int 3, .int 4, .int 3], .tup [.int 2, .int 1, .int 4, .int 3, .int 4], .tup [.int 4, .int 2, .int 3, .int 4, .int 1], .tup [.int 4, .int 2, .int 3, .int 1, .int 4], .tup [.int 4, .int 2, .int 1, .int 3, .int 4]], S) := by kernel_rfl
theorem so31542 : pSrt (.seq .int) (.lst [.tup [.int 2, .int 3, .int 4, .int 3, .int 1], .tup [.int 2, .int 3, .int 4, .int 1, .int 3], .tup [.int 2, .int 3, .int 1, .int 4, .int 3], .tup [.int 2, .int 4, .int 3, .int 4, .int 1], .tup [.int 2, .int 4, .int 3, .int 1, .int 4], .tup [.int 2, .int 4, .int 1, .int 3, .int 4], .tup [.int 2, .int 1, .int 3, .int 4, .int 3], .tup [.int 2, .int 1, .int 4, .int 3, .int 4], .tup [.int 4, .int 2, .int 3, .int 4, .int 1], .tup [.int 4, .int 2, .int 3, .int 1, .int 4], .tup [.int 4, .int 2, .int 1, .int 3, .int 4]]) = some (.lst rw31542) := by kernel_rfl
theorem br31542 (S : Sto) : f_l_braids_right [.lst rw31542] S = .ok (.bl true, S) := by kernel_rfl
def rw32154 : List PV := [.tup [.int 1, .int 2, .int 1, .int 4], .tup [.int 1, .int 2, .int 4, .int 1], .tup [.int 1, .int 4, .int 2, .int 1], .tup [.int 2, .int 1, .int 2, .int 4], .tup [.int 2, .int 1, .int 4, .int 2], .tup [.int 2, .int 4, .int 1, .int 2], .tup [.int 4, .int 1, .int 2, .int 1], .tup [.int 4, .int 2, .int 1, .int 2]]
theorem st32154 (S : Sto) : f_l_all_steps [.tup [.int 3, .int 2, .int 1, .int 5, .int 4]] S = .ok (.lst rw32154, S) := by kernel_rfl
theorem cn32154 (S : Sto) : f_count_of [.tup [.int 3, .int 2, .int 1, .int 5, .int 4]] S = .ok (.int 8, S) := by kernel_rfl
theorem ro32154 (S : Sto) : f_rows_of_order [.tup [.int 3, .int 2, .int 1, .int 5, .int 4]] S = .ok (.lst [.tup [.int 4, .int 1, .int 2, .int 1], .tup [.int 4, .int 2, .int 1, .int 2], .tup [.int 1, .int 4, .int 2, .int 1], .tup [.int 1, .int 2, .int 4, .int 1], .tup [.int 1, .int 2, .int 1, .int 4], .tup [.int 2, .int 4, .int 1, .int 2], .tup [.int 2, .int 1, .int 4, .int 2], .tup [.int 2, .int 1, .int 2, .int 4]], S) := by kernel_rfl
theorem so32154 : pSrt (.seq .int) (.lst [.tup [.int 4, .int 1, .int 2, .int 1], .tup [.int 4, .int 2, .int 1, .int 2], .tup [.int 1, .int 4, .int 2, .int 1], .tup [.int 1, .int 2, .int 4, .int 1], .tup [.int 1, .int 2, .int 1, .int 4], .tup [.int 2, .int 4, .int 1, .int 2], .tup [.int 2, .int 1, .int 4, .int 2], .tup [.int 2, .int 1, .int 2, .int 4]]) = some (.lst rw32154) := by kernel_rfl
theorem br32154 (S : Sto) : f_l_braids_right [.lst rw32154] S = .ok (.bl true, S) := by kernel_rfl
def rw41523 : List PV := [.tup [.int 3, .int 2, .int 1, .int 4, .int 3], .tup [.int 3, .int 2, .int 4, .int 1, .int 3], .tup [.int 3, .int 2, .int 4, .int 3, .int 1], .tup [.int 3, .int 4, .int 2, .int 1, .int 3], .tup [.int 3, .int 4, .int 2, .int 3, .int 1]]
theorem st41523 (S : Sto) : f_l_all_steps [.tup [.int 4, .int 1, .int 5, .int 2, .int 3]] S = .ok (.lst rw41523, S) := by kernel_rfl
theorem cn41523 (S : Sto) : f_count_of [.tup [.int 4, .int 1, .int 5, .int 2, .int 3]] S = .ok (.int 5, S) := by kernel_rfl
theorem ro41523 (S : Sto) : f_rows_of_order [.tup [.int 4, .int 1, .int 5, .int 2, .int 3]] S = .ok (.lst [.tup [.int 3, .int 4, .int 2, .int 3, .int 1], .tup [.int 3, .int 4, .int 2, .int 1, .int 3], .tup [.int 3, .int 2, .int 4, .int 3, .int 1], .tup [.int 3, .int 2, .int 4, .int 1, .int 3], .tup [.int 3, .int 2, .int 1, .int 4, .int 3]], S) := by kernel_rfl
theorem so41523 : pSrt (.seq .int) (.lst [.tup [.int 3, .int 4, .int 2, .int 3, .int 1], .tup [.int 3, .int 4, .int 2, .int 1, .int 3], .tup [.int 3, .int 2, .int 4, .int 3, .int 1], .tup [.int 3, .int 2, .int 4, .int 1, .int 3], .tup [.int 3, .int 2, .int 1, .int 4, .int 3]]) = some (.lst rw41523) := by kernel_rfl
theorem br41523 (S : Sto) : f_l_braids_right [.lst rw41523] S = .ok (.bl true, S) := by kernel_rfl
def rw4213 : List PV := [.tup [.int 1, .int 3, .int 2, .int 1], .tup [.int 3, .int 1, .int 2, .int 1], .tup [.int 3, .int 2, .int 1, .int 2]]
theorem st4213 (S : Sto) : f_l_all_steps [.tup [.int 4, .int 2, .int 1, .int 3]] S = .ok (.lst rw4213, S) := by kernel_rfl
theorem cn4213 (S : Sto) : f_count_of [.tup [.int 4, .int 2, .int 1, .int 3]] S = .ok (.int 3, S) := by kernel_rfl
theorem ro4213 (S : Sto) : f_rows_of_order [.tup [.int 4, .int 2, .int 1, .int 3]] S = .ok (.lst [.tup [.int 3, .int 1, .int 2, .int 1], .tup [.int 3, .int 2, .int 1, .int 2], .tup [.int 1, .int 3, .int 2, .int 1]], S) := by kernel_rfl
theorem so4213 : pSrt (.seq .int) (.lst [.tup [.int 3, .int 1, .int 2, .int 1], .tup [.int 3, .int 2, .int 1, .int 2], .tup [.int 1, .int 3, .int 2, .int 1]]) = some (.lst rw4213) := by kernel_rfl
theorem br4213 (S : Sto) : f_l_braids_right [.lst rw4213] S = .ok (.bl true, S) := by kernel_rfl
def rw42135 : List PV := [.tup [.int 1, .int 3, .int 2, .int 1], .tup [.int 3, .int 1, .int 2, .int 1], .tup [.int 3, .int 2, .int 1, .int 2]]
theorem st42135 (S : Sto) : f_l_all_steps [.tup [.int 4, .int 2, .int 1, .int 3, .int 5]] S = .ok (.lst rw42135, S) := by kernel_rfl
theorem cn42135 (S : Sto) : f_count_of [.tup [.int 4, .int 2, .int 1, .int 3, .int 5]] S = .ok (.int 3, S) := by kernel_rfl
theorem ro42135 (S : Sto) : f_rows_of_order [.tup [.int 4, .int 2, .int 1, .int 3, .int 5]] S = .ok (.lst [.tup [.int 3, .int 1, .int 2, .int 1], .tup [.int 3, .int 2, .int 1, .int 2], .tup [.int 1, .int 3, .int 2, .int 1]], S) := by kernel_rfl
theorem so42135 : pSrt (.seq .int) (.lst [.tup [.int 3, .int 1, .int 2, .int 1], .tup [.int 3, .int 2, .int 1, .int 2], .tup [.int 1, .int 3, .int 2, .int 1]]) = some (.lst rw42135) := by kernel_rfl
theorem br42135 (S : Sto) : f_l_braids_right [.lst rw42135] S = .ok (.bl true, S) := by kernel_rfl
def rw51243 : List PV := [.tup [.int 3, .int 4, .int 3, .int 2, .int 1], .tup [.int 4, .int 3, .int 2, .int 1, .int 4], .tup [.int 4, .int 3, .int 2, .int 4, .int 1], .tup [.int 4, .int 3, .int 4, .int 2, .int 1]]
theorem st51243 (S : Sto) : f_l_all_steps [.tup [.int 5, .int 1, .int 2, .int 4, .int 3]] S = .ok (.lst rw51243, S) := by kernel_rfl
theorem cn51243 (S : Sto) : f_count_of [.tup [.int 5, .int 1, .int 2, .int 4, .int 3]] S = .ok (.int 4, S) := by kernel_rfl
theorem ro51243 (S : Sto) : f_rows_of_order [.tup [.int 5, .int 1, .int 2, .int 4, .int 3]] S = .ok (.lst [.tup [.int 3, .int 4, .int 3, .int 2, .int 1], .tup [.int 4, .int 3, .int 4, .int 2, .int 1], .tup [.int 4, .int 3, .int 2, .int 4, .int 1], .tup [.int 4, .int 3, .int 2, .int 1, .int 4]], S) := by kernel_rfl
theorem so51243 : pSrt (.seq .int) (.lst [.tup [.int 3, .int 4, .int 3, .int 2, .int 1], .tup [.int 4, .int 3, .int 4, .int 2, .int 1], .tup [.int 4, .int 3, .int 2, .int 4, .int 1], .tup [.int 4, .int 3, .int 2, .int 1, .int 4]]) = some (.lst rw51243) := by kernel_rfl
theorem br51243 (S : Sto) : f_l_braids_right [.lst rw51243] S = .ok (.bl true, S) := by kernel_rfl
def rw52143 : List PV := [.tup [.int 1, .int 3, .int 4, .int 3, .int 2, .int 1], .tup [.int 1, .int 4, .int 3, .int 2, .int 1, .int 4], .tup [.int 1, .int 4, .int 3, .int 2, .int 4, .int 1], .tup [.int 1, .int 4, .int 3, .int 4, .int 2, .int 1], .tup [.int 3, .int 1, .int 4, .int 3, .int 2, .int 1], .tup [.int 3, .int 4, .int 1, .int 3, .int 2, .int 1], .tup [.int 3, .int 4, .int 3, .int 1, .int 2, .int 1], .tup [.int 3, .int 4, .int 3, .int 2, .int 1, .int 2], .tup [.int 4, .int 1, .int 3, .int 2, .int 1, .int 4], .tup [.int 4, .int 1, .int 3, .int 2, .int 4, .int 1], .tup [.int 4, .int 1, .int 3, .int 4, .int 2, .int 1], .tup [.int 4, .int 3, .int 1, .int 2, .int 1, .int 4], .tup [.int 4, .int 3, .int 1, .int 2, .int 4, .int 1], .tup [.int 4, .int 3, .int 1, .int 4, .int 2, .int 1], .tup [.int 4, .int 3, .int 2, .int 1, .int 2, .int 4], .tup [.int 4, .int 3, .int 2, .int 1, .int 4, .int 2], .tup [.int 4, .int 3, .int 2, .int 4, .int 1, .int 2], .tup [.int 4, .int 3, .int 4, .int 1, .int 2, .int 1], .tup [.int 4, .int 3, .int 4, .int 2, .int 1, .int 2]]
theorem st52143 (S : Sto) : f_l_all_steps [.tup [.int 5, .int 2, .int 1, .int 4, .int 3]] S = .ok (.lst rw52143, S) := by kernel_rfl
theorem cn52143 (S : Sto) : f_count_of [.tup [.int 5, .int 2, .int 1, .int 4, .int 3]] S = .ok (.int 19, S) := by kernel_rfl
theorem ro52143 (S : Sto) : f_rows_of_order [.tup [.int 5, .int 2, .int 1, .int 4, .int 3]] S = .ok (.lst [.tup [.int 3, .int 4, .int 3, .int 1, .int 2, .int 1], .tup [.int 3, .int 4, .int 3, .int 2, .int 1, .int 2], .tup [.int 3, .int 4, .int 1, .int 3, .int 2, .int 1], .tup [.int 3, .int 1, .int 4, .int 3, .int 2, .int 1], .tup [.int 4, .int 3, .int 4, .int 1, .int 2, .int 1], .tup [.int 4, .int 3, .int 4, .int 2, .int 1, .int 2], .tup [.int 4, .int 3, .int 1, .int 4, .int 2, .int 1], .tup [.int 4, .int 3, .int 1, .int 2, .int 4, .int 1], .tup [.int 4, .int 3, .int 1, .int 2, .int 1, .int 4], .tup [.int 4, .int 3, .int 2, .int 4, .int 1, .int 2], .tup [.int 4, .int 3, .int 2, .int 1, .int 4, .int 2], .tup [.int 4, .int 3, .int 2, .int 1, .int 2, .int 4], .tup [.int 4, .int 1, .int 3, .int 4, .int 2, .int 1], .tup [.int 4, .int 1, .int 3, .int 2, .int 4, .int 1], .tup [.int 4, .int 1, .int 3, .int 2, .int 1, .int 4], .tup [.int 1, .int 3, .int 4, .int 3, .int 2, .int 1], .tup [.int 1, .int 4, .int 3, .int 4, .int 2, .int 1], .tup [.int 1, .int 4, .int 3, .int 2, .int 4, .int 1], .tup [.int 1, .int 4, .int 3, .int 2, .int 1, .int 4]], S) := by kernel_rfl
theorem so52143 : pSrt (.seq .int) (.lst [.tup [.int 3, .int 4, .int 3, .int 1, .int 2, .int 1], .tup [.int 3, .int 4, .int 3, .int 2, .int 1, .int 2], .tup [.int 3, .int 4, .int 1, .int 3, .int 2, .int 1], .tup [.int 3, .int 1, .int 4, .int 3, .int 2, .int 1], .tup [.int 4, .int 3, .int 4, .int 1, .int 2, .int 1], .tup [.int 4, .int 3, .int 4, .int 2, .int 1, .int 2], .tup [.int 4, .int 3, .int 1, .int 4, .int 2, .int 1], .tup [.int 4, .int 3, .int 1, .int 2, .int 4, .int 1], .tup [.int 4, .int 3, .int 1, .int 2, .int 1, .int 4], .tup [.int 4, .int 3, .int 2, .int 4, .int 1, .int 2], .tup [.int 4, .int 3, .int 2, .int 1, .int 4, .int 2], .tup [.int 4, .int 3, .int 2, .int 1, .int 2, .int 4], .tup [.int 4, .int 1, .int 3, .int 4, .int 2, .int 1], .tup [.int 4, .int 1, .int 3, .int 2, .int 4, .int 1], .tup [.int 4, .int 1, .int 3, .int 2, .int 1, .int 4], .tup [.int 1, .int 3, .int 4, .int 3, .int 2, .int 1], .tup [.int 1, .int 4, .int 3, .int 4, .int 2, .int 1], .tup [.int 1, .int 4, .int 3, .int 2, .int 4, .int 1], .tup [.int 1, .int 4, .int 3, .int 2, .int 1, .int 4]]) = some (.lst rw52143) := by kernel_rfl
theorem br52143 (S : Sto) : f_l_braids_right [.lst rw52143] S = .ok (.bl true, S) := by kernel_rfl
def rw52314 : List PV := [.tup [.int 1, .int 2, .int 4, .int 3, .int 2, .int 1], .tup [.int 1, .int 4, .int 2, .int 3, .int 2, .int 1], .tup [.int 1, .int 4, .int 3, .int 2, .int 1, .int 3], .tup [.int 1, .int 4, .int 3, .int 2, .int 3, .int 1], .tup [.int 4, .int 1, .int 2, .int 3, .int 2, .int 1], .tup [.int 4, .int 1, .int 3, .int 2, .int 1, .int 3], .tup [.int 4, .int 1, .int 3, .int 2, .int 3, .int 1], .tup [.int 4, .int 3, .int 1, .int 2, .int 1, .int 3], .tup [.int 4, .int 3, .int 1, .int 2, .int 3, .int 1], .tup [.int 4, .int 3, .int 2, .int 1, .int 2, .int 3]]
theorem st52314 (S : Sto) : f_l_all_steps [.tup [.int 5, .int 2, .int 3, .int 1, .int 4]] S = .ok (.lst rw52314, S) := by kernel_rfl
theorem cn52314 (S : Sto) : f_count_of [.tup [.int 5, .int 2, .int 3, .int 1, .int 4]] S = .ok (.int 10, S) := by kernel_rfl
theorem ro52314 (S : Sto) : f_rows_of_order [.tup [.int 5, .int 2, .int 3, .int 1, .int 4]] S = .ok (.lst [.tup [.int 4, .int 1, .int 2, .int 3, .int 2, .int 1], .tup [.int 4, .int 1, .int 3, .int 2, .int 3, .int 1], .tup [.int 4, .int 1, .int 3, .int 2, .int 1, .int 3], .tup [.int 4, .int 3, .int 1, .int 2, .int 3, .int 1], .tup [.int 4, .int 3, .int 1, .int 2, .int 1, .int 3], .tup [.int 4, .int 3, .int 2, .int 1, .int 2, .int 3], .tup [.int 1, .int 4, .int 2, .int 3, .int 2, .int 1], .tup [.int 1, .int 4, .int 3, .int 2, .int 3, .int 1], .tup [.int 1, .int 4, .int 3, .int 2, .int 1, .int 3], .tup [.int 1, .int 2, .int 4, .int 3, .int 2, .int 1]], S) := by kernel_rfl
theorem so52314 : pSrt (.seq .int) (.lst [.tup [.int 4, .int 1, .int 2, .int 3, .int 2, .int 1], .tup [.int 4, .int 1, .int 3, .int 2, .int 3, .int 1], .tup [.int 4, .int 1, .int 3, .int 2, .int 1, .int 3], .tup [.int 4, .int 3, .int 1, .int 2, .int 3, .int 1], .tup [.int 4, .int 3, .int 1, .int 2, .int 1, .int 3], .tup [.int 4, .int 3, .int 2, .int 1, .int 2, .int 3], .tup [.int 1, .int 4, .int 2, .int 3, .int 2, .int 1], .tup [.int 1, .int 4, .int 3, .int 2, .int 3, .int 1], .tup [.int 1, .int 4, .int 3, .int 2, .int 1, .int 3], .tup [.int 1, .int 2, .int 4, .int 3, .int 2, .int 1]]) = some (.lst rw52314) := by kernel_rfl
theorem br52314 (S : Sto) : f_l_braids_right [.lst rw52314] S = .ok (.bl true, S) := by kernel_rfl
end K72
set_option Elab.async false
set_option maxRecDepth 100000
set_option maxHeartbeats 0
namespace K72
open PySem PySem.Spec PyProof.Rows L2 J
def rw1234 : List PV := [.tup []]
theorem st1234 (S : Sto) : f_l_all_steps [.tup [.int 1, .int 2, .int 3, .int 4]] S = .ok (.lst rw1234, S) := by kernel_rfl
theorem cn1234 (S : Sto) : f_count_of [.tup [.int 1, .int 2, .int 3, .int 4]] S = .ok (.int 1, S) := by kernel_rfl
theorem ro1234 (S : Sto) : f_rows_of_order [.tup [.int 1, .int 2, .int 3, .int 4]] S = .ok (.lst [.tup []], S) := by kernel_rfl
theorem so1234 : pSrt (.seq .int) (.lst [.tup []]) = some (.lst rw1234) := by kernel_rfl
theorem br1234 (S : Sto) : f_l_braids_right [.lst rw1234] S = .ok (.bl true, S) := by kernel_rfl
def rw12435 : List PV := [.tup [.int 3]]
theorem st12435 (S : Sto) : f_l_all_steps [.tup [.int 1, .int 2, .int 4, .int 3, .int 5]] S = .ok (.lst rw12435, S) := by kernel_rfl
theorem cn12435 (S : Sto) : f_count_of [.tup [.int 1, .int 2, .int 4, .int 3, .int 5]] S = .ok (.int 1, S) := by kernel_rfl
theorem ro12435 (S : Sto) : f_rows_of_order [.tup [.int 1, .int 2, .int 4, .int 3, .int 5]] S = .ok (.lst [.tup [.int 3]], S) := by kernel_rfl
theorem so12435 : pSrt (.seq .int) (.lst [.tup [.int 3]]) = some (.lst rw12435) := by kernel_rfl
theorem br12435 (S : Sto) : f_l_braids_right [.lst rw12435] S = .ok (.bl true, S) := by kernel_rfl
def rw13254 : List PV := [.tup [.int 2, .int 4], .tup [.int 4, .int 2]]
theorem st13254 (S : Sto) : f_l_all_steps [.tup [.int 1, .int 3, .int 2, .int 5, .int 4]] S = .ok (.lst rw13254, S) := by kernel_rfl
theorem cn13254 (S : Sto) : f_count_of [.tup [.int 1, .int 3, .int 2, .int 5, .int 4]] S = .ok (.int 2, S) := by kernel_rfl
theorem ro13254 (S : Sto) : f_rows_of_order [.tup [.int 1, .int 3, .int 2, .int 5, .int 4]] S = .ok (.lst [.tup [.int 4, .int 2], .tup [.int 2, .int 4]], S) := by kernel_rfl
theorem so13254 : pSrt (.seq .int) (.lst [.tup [.int 4, .int 2], .tup [.int 2, .int 4]]) = some (.lst rw13254) := by kernel_rfl
theorem br13254 (S : Sto) : f_l_braids_right [.lst rw13254] S = .ok (.bl true, S) := by kernel_rfl
def rw14235 : List PV := [.tup [.int 3, .int 2]]
theorem st14235 (S : Sto) : f_l_all_steps [.tup [.int 1, .int 4, .int 2, .int 3, .int 5]] S = .ok (.lst rw14235, S) := by kernel_rfl
theorem cn14235 (S : Sto) : f_count_of [.tup [.int 1, .int 4, .int 2, .int 3, .int 5]] S = .ok (.int 1, S) := by kernel_rfl
theorem ro14235 (S : Sto) : f_rows_of_order [.tup [.int 1, .int 4, .int 2, .int 3, .int 5]] S = .ok (.lst [.tup [.int 3, .int 2]], S) := by kernel_rfl
theorem so14235 : pSrt (.seq .int) (.lst [.tup [.int 3, .int 2]]) = some (.lst rw14235) := by kernel_rfl
theorem br14235 (S : Sto) : f_l_braids_right [.lst rw14235] S = .ok (.bl true, S) := by kernel_rfl
def rw14532 : List PV := [.tup [.int 2, .int 3, .int 2, .int 4, .int 3], .tup [.int 2, .int 3, .int 4, .int 2, .int 3], .tup [.int 3, .int 2, .int 3, .int 4, .int 3], .tup [.int 3, .int 2, .int 4, .int 3, .int 4], .tup [.int 3, .int 4, .int 2, .int 3, .int 4]]
theorem st14532 (S : Sto) : f_l_all_steps [.tup [.int 1, .int 4, .int 5, .int 3, .int 2]] S = .ok (.lst rw14532, S) := by kernel_rfl
theorem cn14532 (S : Sto) : f_count_of [.tup [.int 1, .int 4, .int 5, .int 3, .int 2]] S = .ok (.int 5, S) := by kernel_rfl
theorem ro14532 (S : Sto) : f_rows_of_order [.tup [.int 1, .int 4, .int 5, .int 3, .int 2]] S = .ok (.lst [.tup [.int 2, .int 3, .int 4, .int 2, .int 3], .tup [.int 2, .int 3, .int 2, .int 4, .int 3], .tup [.int 3, .int 2, .int 3, .int 4, .int 3], .tup [.int 3, .int 2, .int 4, .int 3, .int 4], .tup [.int 3, .int 4, .int 2, .int 3, .int 4]], S) := by kernel_rfl
theorem so14532 : pSrt (.seq .int) (.lst [.tup [.int 2, .int 3, .int 4, .int 2, .int 3], .tup [.int 2, .int 3, .int 2, .int 4, .int 3], .tup [.int 3, .int 2, .int 3, .int 4, .int 3], .tup [.int 3, .int 2, .int 4, .int 3, .int 4], .tup [.int 3, .int 4, .int 2, .int 3, .int 4]]) = some (.lst rw14532) := by kernel_rfl
theorem br14532 (S : Sto) : f_l_braids_right [.lst rw14532] S = .ok (.bl true, S) := by kernel_rfl
def rw21 : List PV := [.tup [.int 1]]
theorem st21 (S : Sto) : f_l_all_steps [.tup [.int 2, .int 1]] S = .ok (.lst rw21, S) := by kernel_rfl
theorem cn21 (S : Sto) : f_count_of [.tup [.int 2, .int 1]] S = .ok (.int 1, S) := by kernel_rfl
theorem ro21 (S : Sto) : f_rows_of_order [.tup [.int 2, .int 1]] S = .ok (.lst [.tup [.int 1]], S) := by kernel_rfl
theorem so21 : pSrt (.seq .int) (.lst [.tup [.int 1]]) = some (.lst rw21) := by kernel_rfl
theorem br21 (S : Sto) : f_l_braids_right [.lst rw21] S = .ok (.bl true, S) := by kernel_rfl
def rw2143 : List PV := [.tup [.int 1, .int 3], .tup [.int 3, .int 1]]
theorem st2143 (S : Sto) : f_l_all_steps [.tup [.int 2, .int 1, .int 4, .int 3]] S = .ok (.lst rw2143, S) := by kernel_rfl
theorem cn2143 (S : Sto) : f_count_of [.tup [.int 2, .int 1, .int 4, .int 3]] S = .ok (.int 2, S) := by kernel_rfl
theorem ro2143 (S : Sto) : f_rows_of_order [.tup [.int 2, .int 1, .int 4, .int 3]] S = .ok (.lst [.tup [.int 3, .int 1], .tup [.int 1, .int 3]], S) := by kernel_rfl
theorem so2143 : pSrt (.seq .int) (.lst [.tup [.int 3, .int 1], .tup [.int 1, .int 3]]) = some (.lst rw2143) := by kernel_rfl
theorem br2143 (S : Sto) : f_l_braids_right [.lst rw2143] S = .ok (.bl true, S) := by kernel_rfl
def rw21435 : List PV := [.tup [.int 1, .int 3], .tup [.int 3, .int 1]]
theorem st21435 (S : Sto) : f_l_all_steps [.tup [.int 2, .int 1, .int 4, .int 3, .int 5]] S = .ok (.lst rw21435, S) := by kernel_rfl
theorem cn21435 (S : Sto) : f_count_of [.tup [.int 2, .int 1, .int 4, .int 3, .int 5]] S = .ok (.int 2, S) := by kernel_rfl
theorem ro21435 (S : Sto) : f_rows_of_order [.tup [.int 2, .int 1, .int 4, .int 3, .int 5]] S = .ok (.lst [.tup [.int 3, .int 1], .tup [.int 1, .int 3]], S) := by kernel_rfl
theorem so21435 : pSrt (.seq .int) (.lst [.tup [.int 3, .int 1], .tup [.int 1, .int 3]]) = some (.lst rw21435) := by kernel_rfl
theorem br21435 (S : Sto) : f_l_braids_right [.lst rw21435] S = .ok (.bl true, S) := by kernel_rfl
def rw21453 : List PV := [.tup [.int 1, .int 3, .int 4], .tup [.int 3, .int 1, .int 4], .tup [.int 3, .int 4, .int 1]]
theorem st21453 (S : Sto) : f_l_all_steps [.tup [.int 2, .int 1, .int 4, .int 5, .int 3]] S = .ok (.lst rw21453, S) := by kernel_rfl
theorem cn21453 (S : Sto) : f_count_of [.tup [.int 2, .int 1, .int 4, .int 5, .int 3]] S = .ok (.int 3, S) := by kernel_rfl
theorem ro21453 (S : Sto) : f_rows_of_order [.tup [.int 2, .int 1, .int 4, .int 5, .int 3]] S = .ok (.lst [.tup [.int 3, .int 4, .int 1], .tup [.int 3, .int 1, .int 4], .tup [.int 1, .int 3, .int 4]], S) := by kernel_rfl
theorem so21453 : pSrt (.seq .int) (.lst [.tup [.int 3, .int 4, .int 1], .tup [.int 3, .int 1, .int 4], .tup [.int 1, .int 3, .int 4]]) = some (.lst rw21453) := by kernel_rfl
theorem br21453 (S : Sto) : f_l_braids_right [.lst rw21453] S = .ok (.bl true, S) := by kernel_rfl
def rw2314 : List PV := [.tup [.int 1, .int 2]]
theorem st2314 (S : Sto) : f_l_all_steps [.tup [.int 2, .int 3, .int 1, .int 4]] S = .ok (.lst rw2314, S) := by kernel_rfl
theorem cn2314 (S : Sto) : f_count_of [.tup [.int 2, .int 3, .int 1, .int 4]] S = .ok (.int 1, S) := by kernel_rfl
theorem ro2314 (S : Sto) : f_rows_of_order [.tup [.int 2, .int 3, .int 1, .int 4]] S = .ok (.lst [.tup [.int 1, .int 2]], S) := by kernel_rfl
theorem so2314 : pSrt (.seq .int) (.lst [.tup [.int 1, .int 2]]) = some (.lst rw2314) := by kernel_rfl
theorem br2314 (S : Sto) : f_l_braids_right [.lst rw2314] S = .ok (.bl true, S) := by kernel_rfl
def rw23541 : List PV := [.tup [.int 1, .int 2, .int 3, .int 4, .int 3], .tup [.int 1, .int 2, .int 4, .int 3, .int 4], .tup [.int 1, .int 4, .int 2, .int 3, .int 4], .tup [.int 4, .int 1, .int 2, .int 3, .int 4]]
theorem st23541 (S : Sto) : f_l_all_steps [.tup [.int 2, .int 3, .int 5, .int 4, .int 1]] S = .ok (.lst rw23541, S) := by kernel_rfl
theorem cn23541 (S : Sto) : f_count_of [.tup [.int 2, .int 3, .int 5, .int 4, .int 1]] S = .ok (.int 4, S) := by kernel_rfl
theorem ro23541 (S : Sto) : f_rows_of_order [.tup [.int 2, .int 3, .int 5, .int 4, .int 1]] S = .ok (.lst [.tup [.int 1, .int 2, .int 3, .int 4, .int 3], .tup [.int 1, .int 2, .int 4, .int 3, .int 4], .tup [.int 1, .int 4, .int 2, .int 3, .int 4], .tup [.int 4, .int 1, .int 2, .int 3, .int 4]], S) := by kernel_rfl
theorem so23541 : pSrt (.seq .int) (.lst [.tup [.int 1, .int 2, .int 3, .int 4, .int 3], .tup [.int 1, .int 2, .int 4, .int 3, .int 4], .tup [.int 1, .int 4, .int 2, .int 3, .int 4], .tup [.int 4, .int 1, .int 2, .int 3, .int 4]]) = some (.lst rw23541) := by kernel_rfl
theorem br23541 (S : Sto) : f_l_braids_right [.lst rw23541] S = .ok (.bl true, S) := by kernel_rfl
def rw25314 : List PV := [.tup [.int 1, .int 2, .int 4, .int 3, .int 2], .tup [.int 1, .int 4, .int 2, .int 3, .int 2], .tup [.int 1, .int 4, .int 3, .int 2, .int 3], .tup [.int 4, .int 1, .int 2, .int 3, .int 2], .tup [.int 4, .int 1, .int 3, .int 2, .int 3], .tup [.int 4, .int 3, .int 1, .int 2, .int 3]]
theorem st25314 (S : Sto) : f_l_all_steps [.tup [.int 2, .int 5, .int 3, .int 1, .int 4]] S = .ok (.lst rw25314, S) := by kernel_rfl
theorem cn25314 (S : Sto) : f_count_of [.tup [.int 2, .int 5, .int 3, .int 1, .int 4]] S = .ok (.int 6, S) := by kernel_rfl
theorem ro25314 (S : Sto) : f_rows_of_order [.tup [.int 2, .int 5, .int 3, .int 1, .int 4]] S = .ok (.lst [.tup [.int 4, .int 1, .int 2, .int 3, .int 2], .tup [.int 4, .int 1, .int 3, .int 2, .int 3], .tup [.int 4, .int 3, .int 1, .int 2, .int 3], .tup [.int 1, .int 4, .int 2, .int 3, .int 2], .tup [.int 1, .int 4, .int 3, .int 2, .int 3], .tup [.int 1, .int 2, .int 4, .int 3, .int 2]], S) := by kernel_rfl
theorem so25314 : pSrt (.seq .int) (.lst [.tup [.int 4, .int 1, .int 2, .int 3, .int 2], .tup [.int 4, .int 1, .int 3, .int 2, .int 3], .tup [.int 4, .int 3, .int 1, .int 2, .int 3], .tup [.int 1, .int 4, .int 2, .int 3, .int 2], .tup [.int 1, .int 4, .int 3, .int 2, .int 3], .tup [.int 1, .int 2, .int 4, .int 3, .int 2]]) = some (.lst rw25314) := by kernel_rfl
theorem br25314 (S : Sto) : f_l_braids_right [.lst rw25314] S = .ok (.bl true, S) := by kernel_rfl
def rw31245 : List PV := [.tup [.int 2, .int 1]]
theorem st31245 (S : Sto) : f_l_all_steps [.tup [.int 3, .int 1, .int 2, .int 4, .int 5]] S = .ok (.lst rw31245, S) := by kernel_rfl
theorem cn31245 (S : Sto) : f_count_of [.tup [.int 3, .int 1, .int 2, .int 4, .int 5]] S = .ok (.int 1, S) := by kernel_rfl
theorem ro31245 (S : Sto) : f_rows_of_order [.tup [.int 3, .int 1, .int 2, .int 4, .int 5]] S = .ok (.lst [.tup [.int 2, .int 1]], S) := by kernel_rfl
theorem so31245 : pSrt (.seq .int) (.lst [.tup [.int 2, .int 1]]) = some (.lst rw31245) := by kernel_rfl
theorem br31245 (S : Sto) : f_l_braids_right [.lst rw31245] S = .ok (.bl true, S) := by kernel_rfl
def rw31254 : List PV := [.tup [.int 2, .int 1, .int 4], .tup [.int 2, .int 4, .int 1], .tup [.int 4, .int 2, .int 1]]
theorem st31254 (S : Sto) : f_l_all_steps [.tup [.int 3, .int 1, .int 2, .int 5, .int 4]] S = .ok (.lst rw31254, S) := by kernel_rfl
theorem cn31254 (S : Sto) : f_count_of [.tup [.int 3, .int 1, .int 2, .int 5, .int 4]] S = .ok (.int 3, S) := by kernel_rfl
theorem ro31254 (S : Sto) : f_rows_of_order [.tup [.int 3, .int 1, .int 2, .int 5, .int 4]] S = .ok (.lst [.tup [.int 4, .int 2, .int 1], .tup [.int 2, .int 4, .int 1], .tup [.int 2, .int 1, .int 4]], S) := by kernel_rfl
theorem so31254 : pSrt (.seq .int) (.lst [.tup [.int 4, .int 2, .int 1], .tup [.int 2, .int 4, .int 1], .tup [.int 2, .int 1, .int 4]]) = some (.lst rw31254) := by kernel_rfl
theorem br31254 (S : Sto) : f_l_braids_right [.lst rw31254] S = .ok (.bl true, S) := by kernel_rfl
def rw321 : List PV := [.tup [.int 1, .int 2, .int 1], .tup [.int 2, .int 1, .int 2]]
theorem st321 (S : Sto) : f_l_all_steps [.tup [.int 3, .int 2, .int 1]] S = .ok (.lst rw321, S) := by kernel_rfl
theorem cn321 (S : Sto) : f_count_of [.tup [.int 3, .int 2, .int 1]] S = .ok (.int 2, S) := by kernel_rfl
theorem ro321 (S : Sto) : f_rows_of_order [.tup [.int 3, .int 2, .int 1]] S = .ok (.lst [.tup [.int 1, .int 2, .int 1], .tup [.int 2, .int 1, .int 2]], S) := by kernel_rfl
theorem so321 : pSrt (.seq .int) (.lst [.tup [.int 1, .int 2, .int 1], .tup [.int 2, .int 1, .int 2]]) = some (.lst rw321) := by kernel_rfl
theorem br321 (S : Sto) : f_l_braids_right [.lst rw321] S = .ok (.bl true, S) := by kernel_rfl
def rw32514 : List PV := [.tup [.int 1, .int 2, .int 1, .int 4, .int 3], .tup [.int 1, .int 2, .int 4, .int 1, .int 3], .tup [.int 1, .int 2, .int 4, .int 3, .int 1], .tup [.int 1, .int 4, .int 2, .int 1, .int 3], .tup [.int 1, .int 4, .int 2, .int 3, .int 1], .tup [.int 2, .int 1, .int 2, .int 4, .int 3], .tup [.int 2, .int 1, .int 4, .int 2, .int 3], .tup [.int 2, .int 4, .int 1, .int 2, .int 3], .tup [.int 4, .int 1, .int 2, .int 1, .int 3], .tup [.int 4, .int 1, .int 2, .int 3, .int 1], .tup [.int 4, .int 2, .int 1, .int 2, .int 3]]
theorem st32514 (S : Sto) : f_l_all_steps [.tup [.int 3, .int 2, .int 5, .int 1, .int 4]] S = .ok (.lst rw32514, S) := by kernel_rfl
theorem cn32514 (S : Sto) : f_count_of [.tup [.int 3, .int 2, .int 5, .int 1, .int 4]] S = .ok (.int 11, S) := by kernel_rfl
theorem ro32514 (S : Sto) : f_rows_of_order [.tup [.int 3, .int 2, .int 5, .int 1, .int 4]] S = .ok (.lst [.tup [.int 4, .int 1, .int 2, .int 3, .int 1], .tup [.int 4, .int 1, .int 2, .int 1, .int 3], .tup [.int 4, .int 2, .int 1, .int 2, .int 3], .tup [.int 1, .int 4, .int 2, .int 3, .int 1], .tup [.int 1, .int 4, .int 2, .int 1, .int 3], .tup [.int 1, .int 2, .int 4, .int 3, .int 1], .tup [.int 1, .int 2, .int 4, .int 1, .int 3], .tup [.int 1, .int 2, .int 1, .int 4, .int 3], .tup [.int 2, .int 4, .int 1, .int 2, .int 3], .tup [.int 2, .int 1, .int 4, .int 2, .int 3], .tup [.int 2, .int 1, .int 2, .int 4, .int 3]], S) := by kernel_rfl
theorem so32514 : pSrt (.seq .int) (.lst [.tup [.int 4, .int 1, .int 2, .int 3, .int 1], .tup [.int 4, .int 1, .int 2, .int 1, .int 3], .tup [.int 4, .int 2, .int 1, .int 2, .int 3], .tup [.int 1, .int 4, .int 2, .int 3, .int 1], .tup [.int 1, .int 4, .int 2, .int 1, .int 3], .tup [.int 1, .int 2, .int 4, .int 3, .int 1], .tup [.int 1, .int 2, .int 4, .int 1, .int 3], .tup [.int 1, .int 2, .int 1, .int 4, .int 3], .tup [.int 2, .int 4, .int 1, .int 2, .int 3], .tup [.int 2, .int 1, .int 4, .int 2, .int 3], .tup [.int 2, .int 1, .int 2, .int 4, .int 3]]) = some (.lst rw32514) := by kernel_rfl
theorem br32514 (S : Sto) : f_l_braids_right [.lst rw32514] S = .ok (.bl true, S) := by kernel_rfl
def rw34215 : List PV := [.tup [.int 1, .int 2, .int 1, .int 3, .int 2], .tup [.int 1, .int 2, .int 3, .int 1, .int 2], .tup [.int 2, .int 1, .int 2, .int 3, .int 2], .tup [.int 2, .int 1, .int 3, .int 2, .int 3], .tup [.int 2, .int 3, .int 1, .int 2, .int 3]]
theorem st34215 (S : Sto) : f_l_all_steps [.tup [.int 3, .int 4, .int 2, .int 1, .int 5]] S = .ok (.lst rw34215, S) := by kernel_rfl
theorem cn34215 (S : Sto) : f_count_of [.tup [.int 3, .int 4, .int 2, .int 1, .int 5]] S = .ok (.int 5, S) := by kernel_rfl
theorem ro34215 (S : Sto) : f_rows_of_order [.tup [.int 3, .int 4, .int 2, .int 1, .int 5]] S = .ok (.lst [.tup [.int 1, .int 2, .int 3, .int 1, .int 2], .tup [.int 1, .int 2, .int 1, .int 3, .int 2], .tup [.int 2, .int 1, .int 2, .int 3, .int 2], .tup [.int 2, .int 1, .int 3, .int 2, .int 3], .tup [.int 2, .int 3, .int 1, .int 2, .int 3]], S) := by kernel_rfl
theorem so34215 : pSrt (.seq .int) (.lst [.tup [.int 1, .int 2, .int 3, .int 1, .int 2], .tup [.int 1, .int 2, .int 1, .int 3, .int 2], .tup [.int 2, .int 1, .int 2, .int 3, .int 2], .tup [.int 2, .int 1, .int 3, .int 2, .int 3], .tup [.int 2, .int 3, .int 1, .int 2, .int 3]]) = some (.lst rw34215) := by kernel_rfl
theorem br34215 (S : Sto) : f_l_braids_right [.lst rw34215] S = .ok (.bl true, S) := by kernel_rfl
def rw35214 : List PV := [.tup [.int 1, .int 2, .int 1, .int 4, .int 3, .int 2], .tup [.int 1, .int 2, .int 4, .int 1, .int 3, .int 2], .tup [.int 1, .int 2, .int 4, .int 3, .int 1, .int 2], .tup [.int 1, .int 4, .int 2, .int 1, .int 3, .int 2], .tup [.int 1, .int 4, .int 2, .int 3, .int 1, .int 2], .tup [.int 2, .int 1, .int 2, .int 4, .int 3, .int 2], .tup [.int 2, .int 1, .int 4, .int 2, .int 3, .int 2], .tup [.int 2, .int 1, .int 4, .int 3, .int 2, .int 3], .tup [.int 2, .int 4, .int 1, .int 2, .int 3, .int 2], .tup [.int 2, .int 4, .int 1, .int 3, .int 2, .int 3], .tup [.int 2, .int 4, .int 3, .int 1, .int 2, .int 3], .tup [.int 4, .int 1, .int 2, .int 1, .int 3, .int 2], .tup [.int 4, .int 1, .int 2, .int 3, .int 1, .int 2], .tup [.int 4, .int 2, .int 1, .int 2, .int 3, .int 2], .tup [.int 4, .int 2, .int 1, .int 3, .int 2, .int 3], .tup [.int 4, .int 2, .int 3, .int 1, .int 2, .int 3]]
theorem st35214 (S : Sto) : f_l_all_steps [.tup [.int 3, .int 5, .int 2, .int 1, .int 4]] S = .ok (.lst rw35214, S) := by kernel_rfl
theorem cn35214 (S : Sto) : f_count_of [.tup [.int 3, .int 5, .int 2, .int 1, .int 4]] S = .ok (.int 16, S) := by kernel_rfl
theorem ro35214 (S : Sto) : f_rows_of_order [.tup [.int 3, .int 5, .int 2, .int 1, .int 4]] S = .ok (.lst [.tup [.int 4, .int 1, .int 2, .int 3, .int 1, .int 2], .tup [.int 4, .int 1, .int 2, .int 1, .int 3, .int 2], .tup [.int 4, .int 2, .int 1, .int 2, .int 3, .int 2], .tup [.int 4, .int 2, .int 1, .int 3, .int 2, .int 3], .tup [.int 4, .int 2, .int 3, .int 1, .int 2, .int 3], .tup [.int 1, .int 4, .int 2, .int 3, .int 1, .int 2], .tup [.int 1, .int 4, .int 2, .int 1, .int 3, .int 2], .tup [.int 1, .int 2, .int 4, .int 3, .int 1, .int 2], .tup [.int 1, .int 2, .int 4, .int 1, .int 3, .int 2], .tup [.int 1, .int 2, .int 1, .int 4, .int 3, .int 2], .tup [.int 2, .int 4, .int 1, .int 2, .int 3, .int 2], .tup [.int 2, .int 4, .int 1, .int 3, .int 2, .int 3], .tup [.int 2, .int 4, .int 3, .int 1, .int 2, .int 3], .tup [.int 2, .int 1, .int 4, .int 2, .int 3, .int 2], .tup [.int 2, .int 1, .int 4, .int 3, .int 2, .int 3], .tup [.int 2, .int 1, .int 2, .int 4, .int 3, .int 2]], S) := by kernel_rfl
theorem so35214 : pSrt (.seq .int) (.lst [.tup [.int 4, .int 1, .int 2, .int 3, .int 1, .int 2], .tup [.int 4, .int 1, .int 2, .int 1, .int 3, .int 2], .tup [.int 4, .int 2, .int 1, .int 2, .int 3, .int 2], .tup [.int 4, .int 2, .int 1, .int 3, .int 2, .int 3], .tup [.int 4, .int 2, .int 3, .int 1, .int 2, .int 3], .tup [.int 1, .int 4, .int 2, .int 3, .int 1, .int 2], .tup [.int 1, .int 4, .int 2, .int 1, .int 3, .int 2], .tup [.int 1, .int 2, .int 4, .int 3, .int 1, .int 2], .tup [.int 1, .int 2, .int 4, .int 1, .int 3, .int 2], .tup [.int 1, .int 2, .int 1, .int 4, .int 3, .int 2], .tup [.int 2, .int 4, .int 1, .int 2, .int 3, .int 2], .tup [.int 2, .int 4, .int 1, .int 3, .int 2, .int 3], .tup [.int 2, .int 4, .int 3, .int 1, .int 2, .int 3], .tup [.int 2, .int 1, .int 4, .int 2, .int 3, .int 2], .tup [.int 2, .int 1, .int 4, .int 3, .int 2, .int 3], .tup [.int 2, .int 1, .int 2, .int 4, .int 3, .int 2]]) = some (.lst rw35214) := by kernel_rfl
theorem br35214 (S : Sto) : f_l_braids_right [.lst rw35214] S = .ok (.bl true, S) := by kernel_rfl
def rw4321 : List PV := [.tup [.int 1, .int 2, .int 1, .int 3, .int 2, .int 1], .tup [.int 1, .int 2, .int 3, .int 1, .int 2, .int 1], .tup [.int 1, .int 2, .int 3, .int 2, .int 1, .int 2], .tup [.int 1, .int 3, .int 2, .int 1, .int 3, .int 2], .tup [.int 1, .int 3, .int 2, .int 3, .int 1, .int 2], .tup [.int 2, .int 1, .int 2, .int 3, .int 2, .int 1], .tup [.int 2, .int 1, .int 3, .int 2, .int 1, .int 3], .tup [.int 2, .int 1, .int 3, .int 2, .int 3, .int 1], .tup [.int 2, .int 3, .int 1, .int 2, .int 1, .int 3], .tup [.int 2, .int 3, .int 1, .int 2, .int 3, .int 1], .tup [.int 2, .int 3, .int 2, .int 1, .int 2, .int 3], .tup [.int 3, .int 1, .int 2, .int 1, .int 3, .int 2], .tup [.int 3, .int 1, .int 2, .int 3, .int 1, .int 2], .tup [.int 3, .int 2, .int 1, .int 2, .int 3, .int 2], .tup [.int 3, .int 2, .int 1, .int 3, .int 2, .int 3], .tup [.int 3, .int 2, .int 3, .int 1, .int 2, .int 3]]
theorem st4321 (S : Sto) : f_l_all_steps [.tup [.int 4, .int 3, .int 2, .int 1]] S = .ok (.lst rw4321, S) := by kernel_rfl
theorem cn4321 (S : Sto) : f_count_of [.tup [.int 4, .int 3, .int 2, .int 1]] S = .ok (.int 16, S) := by kernel_rfl
theorem ro4321 (S : Sto) : f_rows_of_order [.tup [.int 4, .int 3, .int 2, .int 1]] S = .ok (.lst [.tup [.int 1, .int 2, .int 3, .int 1, .int 2, .int 1], .tup [.int 1, .int 2, .int 3, .int 2, .int 1, .int 2], .tup [.int 1, .int 2, .int 1, .int 3, .int 2, .int 1], .tup [.int 1, .int 3, .int 2, .int 3, .int 1, .int 2], .tup [.int 1, .int 3, .int 2, .int 1, .int 3, .int 2], .tup [.int 2, .int 1, .int 2, .int 3, .int 2, .int 1], .tup [.int 2, .int 1, .int 3, .int 2, .int 3, .int 1], .tup [.int 2, .int 1, .int 3, .int 2, .int 1, .int 3], .tup [.int 2, .int 3, .int 1, .int 2, .int 3, .int 1], .tup [.int 2, .int 3, .int 1, .int 2, .int 1, .int 3], .tup [.int 2, .int 3, .int 2, .int 1, .int 2, .int 3], .tup [.int 3, .int 1, .int 2, .int 3, .int 1, .int 2], .tup [.int 3, .int 1, .int 2, .int 1, .int 3, .int 2], .tup [.int 3, .int 2, .int 1, .int 2, .int 3, .int 2], .tup [.int 3, .int 2, .int 1, .int 3, .int 2, .int 3], .tup [.int 3, .int 2, .int 3, .int 1, .int 2, .int 3]], S) := by kernel_rfl
theorem so4321 : pSrt (.seq .int) (.lst [.tup [.int 1, .int 2, .int 3, .int 1, .int 2, .int 1], .tup [.int 1, .int 2, .int 3, .int 2, .int 1, .int 2], .tup [.int 1, .int 2, .int 1, .int 3, .int 2, .int 1], .tup [.int 1, .int 3, .int 2, .int 3, .int 1, .int 2], .tup [.int 1, .int 3, .int 2, .int 1, .int 3, .int 2], .tup [.int 2, .int 1, .int 2, .int 3, .int 2, .int 1], .tup [.int 2, .int 1, .int 3, .int 2, .int 3, .int 1], .tup [.int 2, .int 1, .int 3, .int 2, .int 1, .int 3], .tup [.int 2, .int 3, .int 1, .int 2, .int 3, .int 1], .tup [.int 2, .int 3, .int 1, .int 2, .int 1, .int 3], .tup [.int 2, .int 3, .int 2, .int 1, .int 2, .int 3], .tup [.int 3, .int 1, .int 2, .int 3, .int 1, .int 2], .tup [.int 3, .int 1, .int 2, .int 1, .int 3, .int 2], .tup [.int 3, .int 2, .int 1, .int 2, .int 3, .int 2], .tup [.int 3, .int 2, .int 1, .int 3, .int 2, .int 3], .tup [.int 3, .int 2, .int 3, .int 1, .int 2, .int 3]]) = some (.lst rw4321) := by kernel_rfl
theorem br4321 (S : Sto) : f_l_braids_right [.lst rw4321] S = .ok (.bl true, S) := by kernel_rfl
def rw51324 : List PV := [.tup [.int 2, .int 4, .int 3, .int 2, .int 1], .tup [.int 4, .int 2, .int 3, .int 2, .int 1], .tup [.int 4, .int 3, .int 2, .int 1, .int 3], .tup [.int 4, .int 3, .int 2, .int 3, .int 1]]
theorem st51324 (S : Sto) : f_l_all_steps [.tup [.int 5, .int 1, .int 3, .int 2, .int 4]] S = .ok (.lst rw51324, S) := by kernel_rfl
theorem cn51324 (S : Sto) : f_count_of [.tup [.int 5, .int 1, .int 3, .int 2, .int 4]] S = .ok (.int 4, S) := by kernel_rfl
theorem ro51324 (S : Sto) : f_rows_of_order [.tup [.int 5, .int 1, .int 3, .int 2, .int 4]] S = .ok (.lst [.tup [.int 4, .int 2, .int 3, .int 2, .int 1], .tup [.int 4, .int 3, .int 2, .int 3, .int 1], .tup [.int 4, .int 3, .int 2, .int 1, .int 3], .tup [.int 2, .int 4, .int 3, .int 2, .int 1]], S) := by kernel_rfl
theorem so51324 : pSrt (.seq .int) (.lst [.tup [.int 4, .int 2, .int 3, .int 2, .int 1], .tup [.int 4, .int 3, .int 2, .int 3, .int 1], .tup [.int 4, .int 3, .int 2, .int 1, .int 3], .tup [.int 2, .int 4, .int 3, .int 2, .int 1]]) = some (.lst rw51324) := by kernel_rfl
theorem br51324 (S : Sto) : f_l_braids_right [.lst rw51324] S = .ok (.bl true, S) := by kernel_rfl
def rw51423 : List PV := [.tup [.int 3, .int 2, .int 4, .int 3, .int 2, .int 1], .tup [.int 3, .int 4, .int 2, .int 3, .int 2, .int 1], .tup [.int 3, .int 4, .int 3, .int 2, .int 1, .int 3], .tup [.int 3, .int 4, .int 3, .int 2, .int 3, .int 1], .tup [.int 4, .int 3, .int 2, .int 1, .int 4, .int 3], .tup [.int 4, .int 3, .int 2, .int 4, .int 1, .int 3], .tup [.int 4, .int 3, .int 2, .int 4, .int 3, .int 1], .tup [.int 4, .int 3, .int 4, .int 2, .int 1, .int 3], .tup [.int 4, .int 3, .int 4, .int 2, .int 3, .int 1]]
theorem st51423 (S : Sto) : f_l_all_steps [.tup [.int 5, .int 1, .int 4, .int 2, .int 3]] S = .ok (.lst rw51423, S) := by kernel_rfl
theorem cn51423 (S : Sto) : f_count_of [.tup [.int 5, .int 1, .int 4, .int 2, .int 3]] S = .ok (.int 9, S) := by kernel_rfl
theorem ro51423 (S : Sto) : f_rows_of_order [.tup [.int 5, .int 1, .int 4, .int 2, .int 3]] S = .ok (.lst [.tup [.int 3, .int 4, .int 2, .int 3, .int 2, .int 1], .tup [.int 3, .int 4, .int 3, .int 2, .int 3, .int 1], .tup [.int 3, .int 4, .int 3, .int 2, .int 1, .int 3], .tup [.int 3, .int 2, .int 4, .int 3, .int 2, .int 1], .tup [.int 4, .int 3, .int 4, .int 2, .int 3, .int 1], .tup [.int 4, .int 3, .int 4, .int 2, .int 1, .int 3], .tup [.int 4, .int 3, .int 2, .int 4, .int 3, .int 1], .tup [.int 4, .int 3, .int 2, .int 4, .int 1, .int 3], .tup [.int 4, .int 3, .int 2, .int 1, .int 4, .int 3]], S) := by kernel_rfl
theorem so51423 : pSrt (.seq .int) (.lst [.tup [.int 3, .int 4, .int 2, .int 3, .int 2, .int 1], .tup [.int 3, .int 4, .int 3, .int 2, .int 3, .int 1], .tup [.int 3, .int 4, .int 3, .int 2, .int 1, .int 3], .tup [.int 3, .int 2, .int 4, .int 3, .int 2, .int 1], .tup [.int 4, .int 3, .int 4, .int 2, .int 3, .int 1], .tup [.int 4, .int 3, .int 4, .int 2, .int 1, .int 3], .tup [.int 4, .int 3, .int 2, .int 4, .int 3, .int 1], .tup [.int 4, .int 3, .int 2, .int 4, .int 1, .int 3], .tup [.int 4, .int 3, .int 2, .int 1, .int 4, .int 3]]) = some (.lst rw51423) := by kernel_rfl
theorem br51423 (S : Sto) : f_l_braids_right [.lst rw51423] S = .ok (.bl true, S) := by kernel_rfl
end K72
set_option Elab.async false
set_option maxRecDepth 100000
set_option maxHeartbeats 0
namespace K72
open PySem PySem.Spec PyProof.Rows L2 J
def rw123 : List PV := [.tup []]
theorem st123 (S : Sto) : f_l_all_steps [.tup [.int 1, .int 2, .int 3]] S = .ok (.lst rw123, S) := by kernel_rfl
theorem cn123 (S : Sto) : f_count_of [.tup [.int 1, .int 2, .int 3]] S = .ok (.int 1, S) := by kernel_rfl
theorem ro123 (S : Sto) : f_rows_of_order [.tup [.int 1, .int 2, .int 3]] S = .ok (.lst [.tup []], S) := by kernel_rfl
theorem so123 : pSrt (.seq .int) (.lst [.tup []]) = some (.lst rw123) := by kernel_rfl
theorem br123 (S : Sto) : f_l_braids_right [.lst rw123] S = .ok (.bl true, S) := by kernel_rfl
def rw1243 : List PV := [.tup [.int 3]]
theorem st1243 (S : Sto) : f_l_all_steps [.tup [.int 1, .int 2, .int 4, .int 3]] S = .ok (.lst rw1243, S) := by kernel_rfl
theorem cn1243 (S : Sto) : f_count_of [.tup [.int 1, .int 2, .int 4, .int 3]] S = .ok (.int 1, S) := by kernel_rfl
theorem ro1243 (S : Sto) : f_rows_of_order [.tup [.int 1, .int 2, .int 4, .int 3]] S = .ok (.lst [.tup [.int 3]], S) := by kernel_rfl
theorem so1243 : pSrt (.seq .int) (.lst [.tup [.int 3]]) = some (.lst rw1243) := by kernel_rfl
theorem br1243 (S : Sto) : f_l_braids_right [.lst rw1243] S = .ok (.bl true, S) := by kernel_rfl
def rw12453 : List PV := [.tup [.int 3, .int 4]]
theorem st12453 (S : Sto) : f_l_all_steps [.tup [.int 1, .int 2, .int 4, .int 5, .int 3]] S = .ok (.lst rw12453, S) := by kernel_rfl
theorem cn12453 (S : Sto) : f_count_of [.tup [.int 1, .int 2, .int 4, .int 5, .int 3]] S = .ok (.int 1, S) := by kernel_rfl
theorem ro12453 (S : Sto) : f_rows_of_order [.tup [.int 1, .int 2, .int 4, .int 5, .int 3]] S = .ok (.lst [.tup [.int 3, .int 4]], S) := by kernel_rfl
theorem so12453 : pSrt (.seq .int) (.lst [.tup [.int 3, .int 4]]) = some (.lst rw12453) := by kernel_rfl
theorem br12453 (S : Sto) : f_l_braids_right [.lst rw12453] S = .ok (.bl true, S) := by kernel_rfl
def rw13524 : List PV := [.tup [.int 2, .int 4, .int 3], .tup [.int 4, .int 2, .int 3]]
theorem st13524 (S : Sto) : f_l_all_steps [.tup [.int 1, .int 3, .int 5, .int 2, .int 4]] S = .ok (.lst rw13524, S) := by kernel_rfl
theorem cn13524 (S : Sto) : f_count_of [.tup [.int 1, .int 3, .int 5, .int 2, .int 4]] S = .ok (.int 2, S) := by kernel_rfl
theorem ro13524 (S : Sto) : f_rows_of_order [.tup [.int 1, .int 3, .int 5, .int 2, .int 4]] S = .ok (.lst [.tup [.int 4, .int 2, .int 3], .tup [.int 2, .int 4, .int 3]], S) := by kernel_rfl
theorem so13524 : pSrt (.seq .int) (.lst [.tup [.int 4, .int 2, .int 3], .tup [.int 2, .int 4, .int 3]]) = some (.lst rw13524) := by kernel_rfl
theorem br13524 (S : Sto) : f_l_braids_right [.lst rw13524] S = .ok (.bl true, S) := by kernel_rfl
def rw1432 : List PV := [.tup [.int 2, .int 3, .int 2], .tup [.int 3, .int 2, .int 3]]
theorem st1432 (S : Sto) : f_l_all_steps [.tup [.int 1, .int 4, .int 3, .int 2]] S = .ok (.lst rw1432, S) := by kernel_rfl
theorem cn1432 (S : Sto) : f_count_of [.tup [.int 1, .int 4, .int 3, .int 2]] S = .ok (.int 2, S) := by kernel_rfl
theorem ro1432 (S : Sto) : f_rows_of_order [.tup [.int 1, .int 4, .int 3, .int 2]] S = .ok (.lst [.tup [.int 2, .int 3, .int 2], .tup [.int 3, .int 2, .int 3]], S) := by kernel_rfl
theorem so1432 : pSrt (.seq .int) (.lst [.tup [.int 2, .int 3, .int 2], .tup [.int 3, .int 2, .int 3]]) = some (.lst rw1432) := by kernel_rfl
theorem br1432 (S : Sto) : f_l_braids_right [.lst rw1432] S = .ok (.bl true, S) := by kernel_rfl
def rw15234 : List PV := [.tup [.int 4, .int 3, .int 2]]
theorem st15234 (S : Sto) : f_l_all_steps [.tup [.int 1, .int 5, .int 2, .int 3, .int 4]] S = .ok (.lst rw15234, S) := by kernel_rfl
theorem cn15234 (S : Sto) : f_count_of [.tup [.int 1, .int 5, .int 2, .int 3, .int 4]] S = .ok (.int 1, S) := by kernel_rfl
theorem ro15234 (S : Sto) : f_rows_of_order [.tup [.int 1, .int 5, .int 2, .int 3, .int 4]] S = .ok (.lst [.tup [.int 4, .int 3, .int 2]], S) := by kernel_rfl
theorem so15234 : pSrt (.seq .int) (.lst [.tup [.int 4, .int 3, .int 2]]) = some (.lst rw15234) := by kernel_rfl
theorem br15234 (S : Sto) : f_l_braids_right [.lst rw15234] S = .ok (.bl true, S) := by kernel_rfl
def rw15423 : List PV := [.tup [.int 3, .int 2, .int 4, .int 3, .int 2], .tup [.int 3, .int 4, .int 2, .int 3, .int 2], .tup [.int 3, .int 4, .int 3, .int 2, .int 3], .tup [.int 4, .int 3, .int 2, .int 4, .int 3], .tup [.int 4, .int 3, .int 4, .int 2, .int 3]]
theorem st15423 (S : Sto) : f_l_all_steps [.tup [.int 1, .int 5, .int 4, .int 2, .int 3]] S = .ok (.lst rw15423, S) := by kernel_rfl
theorem cn15423 (S : Sto) : f_count_of [.tup [.int 1, .int 5, .int 4, .int 2, .int 3]] S = .ok (.int 5, S) := by kernel_rfl
theorem ro15423 (S : Sto) : f_rows_of_order [.tup [.int 1, .int 5, .int 4, .int 2, .int 3]] S = .ok (.lst [.tup [.int 3, .int 4, .int 2, .int 3, .int 2], .tup [.int 3, .int 4, .int 3, .int 2, .int 3], .tup [.int 3, .int 2, .int 4, .int 3, .int 2], .tup [.int 4, .int 3, .int 4, .int 2, .int 3], .tup [.int 4, .int 3, .int 2, .int 4, .int 3]], S) := by kernel_rfl
theorem so15423 : pSrt (.seq .int) (.lst [.tup [.int 3, .int 4, .int 2, .int 3, .int 2], .tup [.int 3, .int 4, .int 3, .int 2, .int 3], .tup [.int 3, .int 2, .int 4, .int 3, .int 2], .tup [.int 4, .int 3, .int 4, .int 2, .int 3], .tup [.int 4, .int 3, .int 2, .int 4, .int 3]]) = some (.lst rw15423) := by kernel_rfl
theorem br15423 (S : Sto) : f_l_braids_right [.lst rw15423] S = .ok (.bl true, S) := by kernel_rfl
def rw15432 : List PV := [.tup [.int 2, .int 3, .int 2, .int 4, .int 3, .int 2], .tup [.int 2, .int 3, .int 4, .int 2, .int 3, .int 2], .tup [.int 2, .int 3, .int 4, .int 3, .int 2, .int 3], .tup [.int 2, .int 4, .int 3, .int 2, .int 4, .int 3], .tup [.int 2, .int 4, .int 3, .int 4, .int 2, .int 3], .tup [.int 3, .int 2, .int 3, .int 4, .int 3, .int 2], .tup [.int 3, .int 2, .int 4, .int 3, .int 2, .int 4], .tup [.int 3, .int 2, .int 4, .int 3, .int 4, .int 2], .tup [.int 3, .int 4, .int 2, .int 3, .int 2, .int 4], .tup [.int 3, .int 4, .int 2, .int 3, .int 4, .int 2], .tup [.int 3, .int 4, .int 3, .int 2, .int 3, .int 4], .tup [.int 4, .int 2, .int 3, .int 2, .int 4, .int 3], .tup [.int 4, .int 2, .int 3, .int 4, .int 2, .int 3], .tup [.int 4, .int 3, .int 2, .int 3, .int 4, .int 3], .tup [.int 4, .int 3, .int 2, .int 4, .int 3, .int 4], .tup [.int 4, .int 3, .int 4, .int 2, .int 3, .int 4]]
theorem st15432 (S : Sto) : f_l_all_steps [.tup [.int 1, .int 5, .int 4, .int 3, .int 2]] S = .ok (.lst rw15432, S) := by kernel_rfl
theorem cn15432 (S : Sto) : f_count_of [.tup [.int 1, .int 5, .int 4, .int 3, .int 2]] S = .ok (.int 16, S) := by kernel_rfl
theorem ro15432 (S : Sto) : f_rows_of_order [.tup [.int 1, .int 5, .int 4, .int 3, .int 2]] S = .ok (.lst [.tup [.int 2, .int 3, .int 4, .int 2, .int 3, .int 2], .tup [.int 2, .int 3, .int 4, .int 3, .int 2, .int 3], .tup [.int 2, .int 3, .int 2, .int 4, .int 3, .int 2], .tup [.int 2, .int 4, .int 3, .int 4, .int 2, .int 3], .tup [.int 2, .int 4, .int 3, .int 2, .int 4, .int 3], .tup [.int 3, .int 2, .int 3, .int 4, .int 3, .int 2], .tup [.int 3, .int 2, .int 4, .int 3, .int 4, .int 2], .tup [.int 3, .int 2, .int 4, .int 3, .int 2, .int 4], .tup [.int 3, .int 4, .int 2, .int 3, .int 4, .int 2], .tup [.int 3, .int 4, .int 2, .int 3, .int 2, .int 4], .tup [.int 3, .int 4, .int 3, .int 2, .int 3, .int 4], .tup [.int 4, .int 2, .int 3, .int 4, .int 2, .int 3], .tup [.int 4, .int 2, .int 3, .int 2, .int 4, .int 3], .tup [.int 4, .int 3, .int 2, .int 3, .int 4, .int 3], .tup [.int 4, .int 3, .int 2, .int 4, .int 3, .int 4], .tup [.int 4, .int 3, .int 4, .int 2, .int 3, .int 4]], S) := by kernel_rfl
theorem so15432 : pSrt (.seq .int) (.lst [.tup [.int 2, .int 3, .int 4, .int 2, .int 3, .int 2], .tup [.int 2, .int 3, .int 4, .int 3, .int 2, .int 3], .tup [.int 2, .int 3, .int 2, .int 4, .int 3, .int 2], .tup [.int 2, .int 4, .int 3, .int 4, .int 2, .int 3], .tup [.int 2, .int 4, .int 3, .int 2, .int 4, .int 3], .tup [.int 3, .int 2, .int 3, .int 4, .int 3, .int 2], .tup [.int 3, .int 2, .int 4, .int 3, .int 4, .int 2], .tup [.int 3, .int 2, .int 4, .int 3, .int 2, .int 4], .tup [.int 3, .int 4, .int 2, .int 3, .int 4, .int 2], .tup [.int 3, .int 4, .int 2, .int 3, .int 2, .int 4], .tup [.int 3, .int 4, .int 3, .int 2, .int 3, .int 4], .tup [.int 4, .int 2, .int 3, .int 4, .int 2, .int 3], .tup [.int 4, .int 2, .int 3, .int 2, .int 4, .int 3], .tup [.int 4, .int 3, .int 2, .int 3, .int 4, .int 3], .tup [.int 4, .int 3, .int 2, .int 4, .int 3, .int 4], .tup [.int 4, .int 3, .int 4, .int 2, .int 3, .int 4]]) = some (.lst rw15432) := by kernel_rfl
theorem br15432 (S : Sto) : f_l_braids_right [.lst rw15432] S = .ok (.bl true, S) := by kernel_rfl
def rw21534 : List PV := [.tup [.int 1, .int 4, .int 3], .tup [.int 4, .int 1, .int 3], .tup [.int 4, .int 3, .int 1]]
theorem st21534 (S : Sto) : f_l_all_steps [.tup [.int 2, .int 1, .int 5, .int 3, .int 4]] S = .ok (.lst rw21534, S) := by kernel_rfl
theorem cn21534 (S : Sto) : f_count_of [.tup [.int 2, .int 1, .int 5, .int 3, .int 4]] S = .ok (.int 3, S) := by kernel_rfl
theorem ro21534 (S : Sto) : f_rows_of_order [.tup [.int 2, .int 1, .int 5, .int 3, .int 4]] S = .ok (.lst [.tup [.int 4, .int 3, .int 1], .tup [.int 4, .int 1, .int 3], .tup [.int 1, .int 4, .int 3]], S) := by kernel_rfl
theorem so21534 : pSrt (.seq .int) (.lst [.tup [.int 4, .int 3, .int 1], .tup [.int 4, .int 1, .int 3], .tup [.int 1, .int 4, .int 3]]) = some (.lst rw21534) := by kernel_rfl
theorem br21534 (S : Sto) : f_l_braids_right [.lst rw21534] S = .ok (.bl true, S) := by kernel_rfl
def rw2341 : List PV := [.tup [.int 1, .int 2, .int 3]]
theorem st2341 (S : Sto) : f_l_all_steps [.tup [.int 2, .int 3, .int 4, .int 1]] S = .ok (.lst rw2341, S) := by kernel_rfl
theorem cn2341 (S : Sto) : f_count_of [.tup [.int 2, .int 3, .int 4, .int 1]] S = .ok (.int 1, S) := by kernel_rfl
theorem ro2341 (S : Sto) : f_rows_of_order [.tup [.int 2, .int 3, .int 4, .int 1]] S = .ok (.lst [.tup [.int 1, .int 2, .int 3]], S) := by kernel_rfl
theorem so2341 : pSrt (.seq .int) (.lst [.tup [.int 1, .int 2, .int 3]]) = some (.lst rw2341) := by kernel_rfl
theorem br2341 (S : Sto) : f_l_braids_right [.lst rw2341] S = .ok (.bl true, S) := by kernel_rfl
def rw2413 : List PV := [.tup [.int 1, .int 3, .int 2], .tup [.int 3, .int 1, .int 2]]
theorem st2413 (S : Sto) : f_l_all_steps [.tup [.int 2, .int 4, .int 1, .int 3]] S = .ok (.lst rw2413, S) := by kernel_rfl
theorem cn2413 (S : Sto) : f_count_of [.tup [.int 2, .int 4, .int 1, .int 3]] S = .ok (.int 2, S) := by kernel_rfl
theorem ro2413 (S : Sto) : f_rows_of_order [.tup [.int 2, .int 4, .int 1, .int 3]] S = .ok (.lst [.tup [.int 3, .int 1, .int 2], .tup [.int 1, .int 3, .int 2]], S) := by kernel_rfl
theorem so2413 : pSrt (.seq .int) (.lst [.tup [.int 3, .int 1, .int 2], .tup [.int 1, .int 3, .int 2]]) = some (.lst rw2413) := by kernel_rfl
theorem br2413 (S : Sto) : f_l_braids_right [.lst rw2413] S = .ok (.bl true, S) := by kernel_rfl
def rw24135 : List PV := [.tup [.int 1, .int 3, .int 2], .tup [.int 3, .int 1, .int 2]]
theorem st24135 (S : Sto) : f_l_all_steps [.tup [.int 2, .int 4, .int 1, .int 3, .int 5]] S = .ok (.lst rw24135, S) := by kernel_rfl
theorem cn24135 (S : Sto) : f_count_of [.tup [.int 2, .int 4, .int 1, .int 3, .int 5]] S = .ok (.int 2, S) := by kernel_rfl
theorem ro24135 (S : Sto) : f_rows_of_order [.tup [.int 2, .int 4, .int 1, .int 3, .int 5]] S = .ok (.lst [.tup [.int 3, .int 1, .int 2], .tup [.int 1, .int 3, .int 2]], S) := by kernel_rfl
theorem so24135 : pSrt (.seq .int) (.lst [.tup [.int 3, .int 1, .int 2], .tup [.int 1, .int 3, .int 2]]) = some (.lst rw24135) := by kernel_rfl
theorem br24135 (S : Sto) : f_l_braids_right [.lst rw24135] S = .ok (.bl true, S) := by kernel_rfl
def rw24351 : List PV := [.tup [.int 1, .int 2, .int 3, .int 2, .int 4], .tup [.int 1, .int 2, .int 3, .int 4, .int 2], .tup [.int 1, .int 3, .int 2, .int 3, .int 4], .tup [.int 3, .int 1, .int 2, .int 3, .int 4]]
theorem st24351 (S : Sto) : f_l_all_steps [.tup [.int 2, .int 4, .int 3, .int 5, .int 1]] S = .ok (.lst rw24351, S) := by kernel_rfl
theorem cn24351 (S : Sto) : f_count_of [.tup [.int 2, .int 4, .int 3, .int 5, .int 1]] S = .ok (.int 4, S) := by kernel_rfl
theorem ro24351 (S : Sto) : f_rows_of_order [.tup [.int 2, .int 4, .int 3, .int 5, .int 1]] S = .ok (.lst [.tup [.int 1, .int 2, .int 3, .int 4, .int 2], .tup [.int 1, .int 2, .int 3, .int 2, .int 4], .tup [.int 1, .int 3, .int 2, .int 3, .int 4], .tup [.int 3, .int 1, .int 2, .int 3, .int 4]], S) := by kernel_rfl
theorem so24351 : pSrt (.seq .int) (.lst [.tup [.int 1, .int 2, .int 3, .int 4, .int 2], .tup [.int 1, .int 2, .int 3, .int 2, .int 4], .tup [.int 1, .int 3, .int 2, .int 3, .int 4], .tup [.int 3, .int 1, .int 2, .int 3, .int 4]]) = some (.lst rw24351) := by kernel_rfl
theorem br24351 (S : Sto) : f_l_braids_right [.lst rw24351] S = .ok (.bl true, S) := by kernel_rfl
def rw31452 : List PV := [.tup [.int 2, .int 1, .int 3, .int 4], .tup [.int 2, .int 3, .int 1, .int 4], .tup [.int 2, .int 3, .int 4, .int 1]]
theorem st31452 (S : Sto) : f_l_all_steps [.tup [.int 3, .int 1, .int 4, .int 5, .int 2]] S = .ok (.lst rw31452, S) := by kernel_rfl
theorem cn31452 (S : Sto) : f_count_of [.tup [.int 3, .int 1, .int 4, .int 5, .int 2]] S = .ok (.int 3, S) := by kernel_rfl
theorem ro31452 (S : Sto) : f_rows_of_order [.tup [.int 3, .int 1, .int 4, .int 5, .int 2]] S = .ok (.lst [.tup [.int 2, .int 3, .int 4, .int 1], .tup [.int 2, .int 3, .int 1, .int 4], .tup [.int 2, .int 1, .int 3, .int 4]], S) := by kernel_rfl
theorem so31452 : pSrt (.seq .int) (.lst [.tup [.int 2, .int 3, .int 4, .int 1], .tup [.int 2, .int 3, .int 1, .int 4], .tup [.int 2, .int 1, .int 3, .int 4]]) = some (.lst rw31452) := by kernel_rfl
theorem br31452 (S : Sto) : f_l_braids_right [.lst rw31452] S = .ok (.bl true, S) := by kernel_rfl
def rw34512 : List PV := [.tup [.int 2, .int 1, .int 3, .int 2, .int 4, .int 3], .tup [.int 2, .int 1, .int 3, .int 4, .int 2, .int 3], .tup [.int 2, .int 3, .int 1, .int 2, .int 4, .int 3], .tup [.int 2, .int 3, .int 1, .int 4, .int 2, .int 3], .tup [.int 2, .int 3, .int 4, .int 1, .int 2, .int 3]]
theorem st34512 (S : Sto) : f_l_all_steps [.tup [.int 3, .int 4, .int 5, .int 1, .int 2]] S = .ok (.lst rw34512, S) := by kernel_rfl
theorem cn34512 (S : Sto) : f_count_of [.tup [.int 3, .int 4, .int 5, .int 1, .int 2]] S = .ok (.int 5, S) := by kernel_rfl
theorem ro34512 (S : Sto) : f_rows_of_order [.tup [.int 3, .int 4, .int 5, .int 1, .int 2]] S = .ok (.lst [.tup [.int 2, .int 3, .int 4, .int 1, .int 2, .int 3], .tup [.int 2, .int 3, .int 1, .int 4, .int 2, .int 3], .tup [.int 2, .int 3, .int 1, .int 2, .int 4, .int 3], .tup [.int 2, .int 1, .int 3, .int 4, .int 2, .int 3], .tup [.int 2, .int 1, .int 3, .int 2, .int 4, .int 3]], S) := by kernel_rfl
theorem so34512 : pSrt (.seq .int) (.lst [.tup [.int 2, .int 3, .int 4, .int 1, .int 2, .int 3], .tup [.int 2, .int 3, .int 1, .int 4, .int 2, .int 3], .tup [.int 2, .int 3, .int 1, .int 2, .int 4, .int 3], .tup [.int 2, .int 1, .int 3, .int 4, .int 2, .int 3], .tup [.int 2, .int 1, .int 3, .int 2, .int 4, .int 3]]) = some (.lst rw34512) := by kernel_rfl
theorem br34512 (S : Sto) : f_l_braids_right [.lst rw34512] S = .ok (.bl true, S) := by kernel_rfl
def rw41235 : List PV := [.tup [.int 3, .int 2, .int 1]]
theorem st41235 (S : Sto) : f_l_all_steps [.tup [.int 4, .int 1, .int 2, .int 3, .int 5]] S = .ok (.lst rw41235, S) := by kernel_rfl
theorem cn41235 (S : Sto) : f_count_of [.tup [.int 4, .int 1, .int 2, .int 3, .int 5]] S = .ok (.int 1, S) := by kernel_rfl
theorem ro41235 (S : Sto) : f_rows_of_order [.tup [.int 4, .int 1, .int 2, .int 3, .int 5]] S = .ok (.lst [.tup [.int 3, .int 2, .int 1]], S) := by kernel_rfl
theorem so41235 : pSrt (.seq .int) (.lst [.tup [.int 3, .int 2, .int 1]]) = some (.lst rw41235) := by kernel_rfl
theorem br41235 (S : Sto) : f_l_braids_right [.lst rw41235] S = .ok (.bl true, S) := by kernel_rfl
def rw41352 : List PV := [.tup [.int 2, .int 3, .int 2, .int 1, .int 4], .tup [.int 2, .int 3, .int 2, .int 4, .int 1], .tup [.int 2, .int 3, .int 4, .int 2, .int 1], .tup [.int 3, .int 2, .int 1, .int 3, .int 4], .tup [.int 3, .int 2, .int 3, .int 1, .int 4], .tup [.int 3, .int 2, .int 3, .int 4, .int 1]]
theorem st41352 (S : Sto) : f_l_all_steps [.tup [.int 4, .int 1, .int 3, .int 5, .int 2]] S = .ok (.lst rw41352, S) := by kernel_rfl
theorem cn41352 (S : Sto) : f_count_of [.tup [.int 4, .int 1, .int 3, .int 5, .int 2]] S = .ok (.int 6, S) := by kernel_rfl
theorem ro41352 (S : Sto) : f_rows_of_order [.tup [.int 4, .int 1, .int 3, .int 5, .int 2]] S = .ok (.lst [.tup [.int 2, .int 3, .int 4, .int 2, .int 1], .tup [.int 2, .int 3, .int 2, .int 4, .int 1], .tup [.int 2, .int 3, .int 2, .int 1, .int 4], .tup [.int 3, .int 2, .int 3, .int 4, .int 1], .tup [.int 3, .int 2, .int 3, .int 1, .int 4], .tup [.int 3, .int 2, .int 1, .int 3, .int 4]], S) := by kernel_rfl
theorem so41352 : pSrt (.seq .int) (.lst [.tup [.int 2, .int 3, .int 4, .int 2, .int 1], .tup [.int 2, .int 3, .int 2, .int 4, .int 1], .tup [.int 2, .int 3, .int 2, .int 1, .int 4], .tup [.int 3, .int 2, .int 3, .int 4, .int 1], .tup [.int 3, .int 2, .int 3, .int 1, .int 4], .tup [.int 3, .int 2, .int 1, .int 3, .int 4]]) = some (.lst rw41352) := by kernel_rfl
theorem br41352 (S : Sto) : f_l_braids_right [.lst rw41352] S = .ok (.bl true, S) := by kernel_rfl
def rw41532 : List PV := [.tup [.int 2, .int 3, .int 2, .int 1, .int 4, .int 3], .tup [.int 2, .int 3, .int 2, .int 4, .int 1, .int 3], .tup [.int 2, .int 3, .int 2, .int 4, .int 3, .int 1], .tup [.int 2, .int 3, .int 4, .int 2, .int 1, .int 3], .tup [.int 2, .int 3, .int 4, .int 2, .int 3, .int 1], .tup [.int 3, .int 2, .int 1, .int 3, .int 4, .int 3], .tup [.int 3, .int 2, .int 1, .int 4, .int 3, .int 4], .tup [.int 3, .int 2, .int 3, .int 1, .int 4, .int 3], .tup [.int 3, .int 2, .int 3, .int 4, .int 1, .int 3], .tup [.int 3, .int 2, .int 3, .int 4, .int 3, .int 1], .tup [.int 3, .int 2, .int 4, .int 1, .int 3, .int 4], .tup [.int 3, .int 2, .int 4, .int 3, .int 1, .int 4], .tup [.int 3, .int 2, .int 4, .int 3, .int 4, .int 1], .tup [.int 3, .int 4, .int 2, .int 1, .int 3, .int 4], .tup [.int 3, .int 4, .int 2, .int 3, .int 1, .int 4], .tup [.int 3, .int 4, .int 2, .int 3, .int 4, .int 1]]
theorem st41532 (S : Sto) : f_l_all_steps [.tup [.int 4, .int 1, .int 5, .int 3, .int 2]] S = .ok (.lst rw41532, S) := by kernel_rfl
theorem cn41532 (S : Sto) : f_count_of [.tup [.int 4, .int 1, .int 5, .int 3, .int 2]] S = .ok (.int 16, S) := by kernel_rfl
theorem ro41532 (S : Sto) : f_rows_of_order [.tup [.int 4, .int 1, .int 5, .int 3, .int 2]] S = .ok (.lst [.tup [.int 2, .int 3, .int 4, .int 2, .int 3, .int 1], .tup [.int 2, .int 3, .int 4, .int 2, .int 1, .int 3], .tup [.int 2, .int 3, .int 2, .int 4, .int 3, .int 1], .tup [.int 2, .int 3, .int 2, .int 4, .int 1, .int 3], .tup [.int 2, .int 3, .int 2, .int 1, .int 4, .int 3], .tup [.int 3, .int 2, .int 3, .int 4, .int 3, .int 1], .tup [.int 3, .int 2, .int 3, .int 4, .int 1, .int 3], .tup [.int 3, .int 2, .int 3, .int 1, .int 4, .int 3], .tup [.int 3, .int 2, .int 4, .int 3, .int 4, .int 1], .tup [.int 3, .int 2, .int 4, .int 3, .int 1, .int 4], .tup [.int 3, .int 2, .int 4, .int 1, .int 3, .int 4], .tup [.int 3, .int 2, .int 1, .int 3, .int 4, .int 3], .tup [.int 3, .int 2, .int 1, .int 4, .int 3, .int 4], .tup [.int 3, .int 4, .int 2, .int 3, .int 4, .int 1], .tup [.int 3, .int 4, .int 2, .int 3, .int 1, .int 4], .tup [.int 3, .int 4, .int 2, .int 1, .int 3, .int 4]], S) := by kernel_rfl
theorem so41532 : pSrt (.seq .int) (.lst [.tup [.int 2, .int 3, .int 4, .int 2, .int 3, .int 1], .tup [.int 2, .int 3, .int 4, .int 2, .int 1, .int 3], .tup [.int 2, .int 3, .int 2, .int 4, .int 3, .int 1], .tup [.int 2, .int 3, .int 2, .int 4, .int 1, .int 3], .tup [.int 2, .int 3, .int 2, .int 1, .int 4, .int 3], .tup [.int 3, .int 2, .int 3, .int 4, .int 3, .int 1], .tup [.int 3, .int 2, .int 3, .int 4, .int 1, .int 3], .tup [.int 3, .int 2, .int 3, .int 1, .int 4, .int 3], .tup [.int 3, .int 2, .int 4, .int 3, .int 4, .int 1], .tup [.int 3, .int 2, .int 4, .int 3, .int 1, .int 4], .tup [.int 3, .int 2, .int 4, .int 1, .int 3, .int 4], .tup [.int 3, .int 2, .int 1, .int 3, .int 4, .int 3], .tup [.int 3, .int 2, .int 1, .int 4, .int 3, .int 4], .tup [.int 3, .int 4, .int 2, .int 3, .int 4, .int 1], .tup [.int 3, .int 4, .int 2, .int 3, .int 1, .int 4], .tup [.int 3, .int 4, .int 2, .int 1, .int 3, .int 4]]) = some (.lst rw41532) := by kernel_rfl
theorem br41532 (S : Sto) : f_l_braids_right [.lst rw41532] S = .ok (.bl true, S) := by kernel_rfl
def rw42153 : List PV := [.tup [.int 1, .int 3, .int 2, .int 1, .int 4], .tup [.int 1, .int 3, .int 2, .int 4, .int 1], .tup [.int 1, .int 3, .int 4, .int 2, .int 1], .tup [.int 3, .int 1, .int 2, .int 1, .int 4], .tup [.int 3, .int 1, .int 2, .int 4, .int 1], .tup [.int 3, .int 1, .int 4, .int 2, .int 1], .tup [.int 3, .int 2, .int 1, .int 2, .int 4], .tup [.int 3, .int 2, .int 1, .int 4, .int 2], .tup [.int 3, .int 2, .int 4, .int 1, .int 2], .tup [.int 3, .int 4, .int 1, .int 2, .int 1], .tup [.int 3, .int 4, .int 2, .int 1, .int 2]]
theorem st42153 (S : Sto) : f_l_all_steps [.tup [.int 4, .int 2, .int 1, .int 5, .int 3]] S = .ok (.lst rw42153, S) := by kernel_rfl
theorem cn42153 (S : Sto) : f_count_of [.tup [.int 4, .int 2, .int 1, .int 5, .int 3]] S = .ok (.int 11, S) := by kernel_rfl
theorem ro42153 (S : Sto) : f_rows_of_order [.tup [.int 4, .int 2, .int 1, .int 5, .int 3]] S = .ok (.lst [.tup [.int 3, .int 4, .int 1, .int 2, .int 1], .tup [.int 3, .int 4, .int 2, .int 1, .int 2], .tup [.int 3, .int 1, .int 4, .int 2, .int 1], .tup [.int 3, .int 1, .int 2, .int 4, .int 1], .tup [.int 3, .int 1, .int 2, .int 1, .int 4], .tup [.int 3, .int 2, .int 4, .int 1, .int 2], .tup [.int 3, .int 2, .int 1, .int 4, .int 2], .tup [.int 3, .int 2, .int 1, .int 2, .int 4], .tup [.int 1, .int 3, .int 4, .int 2, .int 1], .tup [.int 1, .int 3, .int 2, .int 4, .int 1], .tup [.int 1, .int 3, .int 2, .int 1, .int 4]], S) := by kernel_rfl
theorem so42153 : pSrt (.seq .int) (.lst [.tup [.int 3, .int 4, .int 1, .int 2, .int 1], .tup [.int 3, .int 4, .int 2, .int 1, .int 2], .tup [.int 3, .int 1, .int 4, .int 2, .int 1], .tup [.int 3, .int 1, .int 2, .int 4, .int 1], .tup [.int 3, .int 1, .int 2, .int 1, .int 4], .tup [.int 3, .int 2, .int 4, .int 1, .int 2], .tup [.int 3, .int 2, .int 1, .int 4, .int 2], .tup [.int 3, .int 2, .int 1, .int 2, .int 4], .tup [.int 1, .int 3, .int 4, .int 2, .int 1], .tup [.int 1, .int 3, .int 2, .int 4, .int 1], .tup [.int 1, .int 3, .int 2, .int 1, .int 4]]) = some (.lst rw42153) := by kernel_rfl
theorem br42153 (S : Sto) : f_l_braids_right [.lst rw42153] S = .ok (.bl true, S) := by kernel_rfl
def rw52134 : List PV := [.tup [.int 1, .int 4, .int 3, .int 2, .int 1], .tup [.int 4, .int 1, .int 3, .int 2, .int 1], .tup [.int 4, .int 3, .int 1, .int 2, .int 1], .tup [.int 4, .int 3, .int 2, .int 1, .int 2]]
theorem st52134 (S : Sto) : f_l_all_steps [.tup [.int 5, .int 2, .int 1, .int 3, .int 4]] S = .ok (.lst rw52134, S) := by kernel_rfl
theorem cn52134 (S : Sto) : f_count_of [.tup [.int 5, .int 2, .int 1, .int 3, .int 4]] S = .ok (.int 4, S) := by kernel_rfl
theorem ro52134 (S : Sto) : f_rows_of_order [.tup [.int 5, .int 2, .int 1, .int 3, .int 4]] S = .ok (.lst [.tup [.int 4, .int 3, .int 1, .int 2, .int 1], .tup [.int 4, .int 3, .int 2, .int 1, .int 2], .tup [.int 4, .int 1, .int 3, .int 2, .int 1], .tup [.int 1, .int 4, .int 3, .int 2, .int 1]], S) := by kernel_rfl
theorem so52134 : pSrt (.seq .int) (.lst [.tup [.int 4, .int 3, .int 1, .int 2, .int 1], .tup [.int 4, .int 3, .int 2, .int 1, .int 2], .tup [.int 4, .int 1, .int 3, .int 2, .int 1], .tup [.int 1, .int 4, .int 3, .int 2, .int 1]]) = some (.lst rw52134) := by kernel_rfl
theorem br52134 (S : Sto) : f_l_braids_right [.lst rw52134] S = .ok (.bl true, S) := by kernel_rfl
def rw53124 : List PV := [.tup [.int 2, .int 1, .int 4, .int 3, .int 2, .int 1], .tup [.int 2, .int 4, .int 1, .int 3, .int 2, .int 1], .tup [.int 2, .int 4, .int 3, .int 1, .int 2, .int 1], .tup [.int 2, .int 4, .int 3, .int 2, .int 1, .int 2], .tup [.int 4, .int 2, .int 1, .int 3, .int 2, .int 1], .tup [.int 4, .int 2, .int 3, .int 1, .int 2, .int 1], .tup [.int 4, .int 2, .int 3, .int 2, .int 1, .int 2], .tup [.int 4, .int 3, .int 2, .int 1, .int 3, .int 2], .tup [.int 4, .int 3, .int 2, .int 3, .int 1, .int 2]]
theorem st53124 (S : Sto) : f_l_all_steps [.tup [.int 5, .int 3, .int 1, .int 2, .int 4]] S = .ok (.lst rw53124, S) := by kernel_rfl
theorem cn53124 (S : Sto) : f_count_of [.tup [.int 5, .int 3, .int 1, .int 2, .int 4]] S = .ok (.int 9, S) := by kernel_rfl
theorem ro53124 (S : Sto) : f_rows_of_order [.tup [.int 5, .int 3, .int 1, .int 2, .int 4]] S = .ok (.lst [.tup [.int 4, .int 2, .int 3, .int 1, .int 2, .int 1], .tup [.int 4, .int 2, .int 3, .int 2, .int 1, .int 2], .tup [.int 4, .int 2, .int 1, .int 3, .int 2, .int 1], .tup [.int 4, .int 3, .int 2, .int 3, .int 1, .int 2], .tup [.int 4, .int 3, .int 2, .int 1, .int 3, .int 2], .tup [.int 2, .int 4, .int 3, .int 1, .int 2, .int 1], .tup [.int 2, .int 4, .int 3, .int 2, .int 1, .int 2], .tup [.int 2, .int 4, .int 1, .int 3, .int 2, .int 1], .tup [.int 2, .int 1, .int 4, .int 3, .int 2, .int 1]], S) := by kernel_rfl
theorem so53124 : pSrt (.seq .int) (.lst [.tup [.int 4, .int 2, .int 3, .int 1, .int 2, .int 1], .tup [.int 4, .int 2, .int 3, .int 2, .int 1, .int 2], .tup [.int 4, .int 2, .int 1, .int 3, .int 2, .int 1], .tup [.int 4, .int 3, .int 2, .int 3, .int 1, .int 2], .tup [.int 4, .int 3, .int 2, .int 1, .int 3, .int 2], .tup [.int 2, .int 4, .int 3, .int 1, .int 2, .int 1], .tup [.int 2, .int 4, .int 3, .int 2, .int 1, .int 2], .tup [.int 2, .int 4, .int 1, .int 3, .int 2, .int 1], .tup [.int 2, .int 1, .int 4, .int 3, .int 2, .int 1]]) = some (.lst rw53124) := by kernel_rfl
theorem br53124 (S : Sto) : f_l_braids_right [.lst rw53124] S = .ok (.bl true, S) := by kernel_rfl
end K72
set_option Elab.async false
set_option maxRecDepth 100000
set_option maxHeartbeats 0
namespace K72
open PySem PySem.Spec PyProof.Rows L2 J
def rw12534 : List PV := [.tup [.int 4, .int 3]]
theorem st12534 (S : Sto) : f_l_all_steps [.tup [.int 1, .int 2, .int 5, .int 3, .int 4]] S = .ok (.lst rw12534, S) := by kernel_rfl
theorem cn12534 (S : Sto) : f_count_of [.tup [.int 1, .int 2, .int 5, .int 3, .int 4]] S = .ok (.int 1, S) := by kernel_rfl
theorem ro12534 (S : Sto) : f_rows_of_order [.tup [.int 1, .int 2, .int 5, .int 3, .int 4]] S = .ok (.lst [.tup [.int 4, .int 3]], S) := by kernel_rfl
theorem so12534 : pSrt (.seq .int) (.lst [.tup [.int 4, .int 3]]) = some (.lst rw12534) := by kernel_rfl
theorem br12534 (S : Sto) : f_l_braids_right [.lst rw12534] S = .ok (.bl true, S) := by kernel_rfl
def rw132 : List PV := [.tup [.int 2]]
theorem st132 (S : Sto) : f_l_all_steps [.tup [.int 1, .int 3, .int 2]] S = .ok (.lst rw132, S) := by kernel_rfl
theorem cn132 (S : Sto) : f_count_of [.tup [.int 1, .int 3, .int 2]] S = .ok (.int 1, S) := by kernel_rfl
theorem ro132 (S : Sto) : f_rows_of_order [.tup [.int 1, .int 3, .int 2]] S = .ok (.lst [.tup [.int 2]], S) := by kernel_rfl
theorem so132 : pSrt (.seq .int) (.lst [.tup [.int 2]]) = some (.lst rw132) := by kernel_rfl
theorem br132 (S : Sto) : f_l_braids_right [.lst rw132] S = .ok (.bl true, S) := by kernel_rfl
def rw1324 : List PV := [.tup [.int 2]]
theorem st1324 (S : Sto) : f_l_all_steps [.tup [.int 1, .int 3, .int 2, .int 4]] S = .ok (.lst rw1324, S) := by kernel_rfl
theorem cn1324 (S : Sto) : f_count_of [.tup [.int 1, .int 3, .int 2, .int 4]] S = .ok (.int 1, S) := by kernel_rfl
theorem ro1324 (S : Sto) : f_rows_of_order [.tup [.int 1, .int 3, .int 2, .int 4]] S = .ok (.lst [.tup [.int 2]], S) := by kernel_rfl
theorem so1324 : pSrt (.seq .int) (.lst [.tup [.int 2]]) = some (.lst rw1324) := by kernel_rfl
theorem br1324 (S : Sto) : f_l_braids_right [.lst rw1324] S = .ok (.bl true, S) := by kernel_rfl
def rw13542 : List PV := [.tup [.int 2, .int 3, .int 4, .int 3], .tup [.int 2, .int 4, .int 3, .int 4], .tup [.int 4, .int 2, .int 3, .int 4]]
theorem st13542 (S : Sto) : f_l_all_steps [.tup [.int 1, .int 3, .int 5, .int 4, .int 2]] S = .ok (.lst rw13542, S) := by kernel_rfl
theorem cn13542 (S : Sto) : f_count_of [.tup [.int 1, .int 3, .int 5, .int 4, .int 2]] S = .ok (.int 3, S) := by kernel_rfl
theorem ro13542 (S : Sto) : f_rows_of_order [.tup [.int 1, .int 3, .int 5, .int 4, .int 2]] S = .ok (.lst [.tup [.int 2, .int 3, .int 4, .int 3], .tup [.int 2, .int 4, .int 3, .int 4], .tup [.int 4, .int 2, .int 3, .int 4]], S) := by kernel_rfl
theorem so13542 : pSrt (.seq .int) (.lst [.tup [.int 2, .int 3, .int 4, .int 3], .tup [.int 2, .int 4, .int 3, .int 4], .tup [.int 4, .int 2, .int 3, .int 4]]) = some (.lst rw13542) := by kernel_rfl
theorem br13542 (S : Sto) : f_l_braids_right [.lst rw13542] S = .ok (.bl true, S) := by kernel_rfl
def rw14253 : List PV := [.tup [.int 3, .int 2, .int 4], .tup [.int 3, .int 4, .int 2]]
theorem st14253 (S : Sto) : f_l_all_steps [.tup [.int 1, .int 4, .int 2, .int 5, .int 3]] S = .ok (.lst rw14253, S) := by kernel_rfl
theorem cn14253 (S : Sto) : f_count_of [.tup [.int 1, .int 4, .int 2, .int 5, .int 3]] S = .ok (.int 2, S) := by kernel_rfl
theorem ro14253 (S : Sto) : f_rows_of_order [.tup [.int 1, .int 4, .int 2, .int 5, .int 3]] S = .ok (.lst [.tup [.int 3, .int 4, .int 2], .tup [.int 3, .int 2, .int 4]], S) := by kernel_rfl
theorem so14253 : pSrt (.seq .int) (.lst [.tup [.int 3, .int 4, .int 2], .tup [.int 3, .int 2, .int 4]]) = some (.lst rw14253) := by kernel_rfl
theorem br14253 (S : Sto) : f_l_braids_right [.lst rw14253] S = .ok (.bl true, S) := by kernel_rfl
def rw21345 : List PV := [.tup [.int 1]]
theorem st21345 (S : Sto) : f_l_all_steps [.tup [.int 2, .int 1, .int 3, .int 4, .int 5]] S = .ok (.lst rw21345, S) := by kernel_rfl
theorem cn21345 (S : Sto) : f_count_of [.tup [.int 2, .int 1, .int 3, .int 4, .int 5]] S = .ok (.int 1, S) := by kernel_rfl
theorem ro21345 (S : Sto) : f_rows_of_order [.tup [.int 2, .int 1, .int 3, .int 4, .int 5]] S = .ok (.lst [.tup [.int 1]], S) := by kernel_rfl
theorem so21345 : pSrt (.seq .int) (.lst [.tup [.int 1]]) = some (.lst rw21345) := by kernel_rfl
theorem br21345 (S : Sto) : f_l_braids_right [.lst rw21345] S = .ok (.bl true, S) := by kernel_rfl
def rw23154 : List PV := [.tup [.int 1, .int 2, .int 4], .tup [.int 1, .int 4, .int 2], .tup [.int 4, .int 1, .int 2]]
theorem st23154 (S : Sto) : f_l_all_steps [.tup [.int 2, .int 3, .int 1, .int 5, .int 4]] S = .ok (.lst rw23154, S) := by kernel_rfl
theorem cn23154 (S : Sto) : f_count_of [.tup [.int 2, .int 3, .int 1, .int 5, .int 4]] S = .ok (.int 3, S) := by kernel_rfl
theorem ro23154 (S : Sto) : f_rows_of_order [.tup [.int 2, .int 3, .int 1, .int 5, .int 4]] S = .ok (.lst [.tup [.int 4, .int 1, .int 2], .tup [.int 1, .int 4, .int 2], .tup [.int 1, .int 2, .int 4]], S) := by kernel_rfl
theorem so23154 : pSrt (.seq .int) (.lst [.tup [.int 4, .int 1, .int 2], .tup [.int 1, .int 4, .int 2], .tup [.int 1, .int 2, .int 4]]) = some (.lst rw23154) := by kernel_rfl
theorem br23154 (S : Sto) : f_l_braids_right [.lst rw23154] S = .ok (.bl true, S) := by kernel_rfl
def rw2431 : List PV := [.tup [.int 1, .int 2, .int 3, .int 2], .tup [.int 1, .int 3, .int 2, .int 3], .tup [.int 3, .int 1, .int 2, .int 3]]
theorem st2431 (S : Sto) : f_l_all_steps [.tup [.int 2, .int 4, .int 3, .int 1]] S = .ok (.lst rw2431, S) := by kernel_rfl
theorem cn2431 (S : Sto) : f_count_of [.tup [.int 2, .int 4, .int 3, .int 1]] S = .ok (.int 3, S) := by kernel_rfl
theorem ro2431 (S : Sto) : f_rows_of_order [.tup [.int 2, .int 4, .int 3, .int 1]] S = .ok (.lst [.tup [.int 1, .int 2, .int 3, .int 2], .tup [.int 1, .int 3, .int 2, .int 3], .tup [.int 3, .int 1, .int 2, .int 3]], S) := by kernel_rfl
theorem so2431 : pSrt (.seq .int) (.lst [.tup [.int 1, .int 2, .int 3, .int 2], .tup [.int 1, .int 3, .int 2, .int 3], .tup [.int 3, .int 1, .int 2, .int 3]]) = some (.lst rw2431) := by kernel_rfl
theorem br2431 (S : Sto) : f_l_braids_right [.lst rw2431] S = .ok (.bl true, S) := by kernel_rfl
def rw24531 : List PV := [.tup [.int 1, .int 2, .int 3, .int 2, .int 4, .int 3], .tup [.int 1, .int 2, .int 3, .int 4, .int 2, .int 3], .tup [.int 1, .int 3, .int 2, .int 3, .int 4, .int 3], .tup [.int 1, .int 3, .int 2, .int 4, .int 3, .int 4], .tup [.int 1, .int 3, .int 4, .int 2, .int 3, .int 4], .tup [.int 3, .int 1, .int 2, .int 3, .int 4, .int 3], .tup [.int 3, .int 1, .int 2, .int 4, .int 3, .int 4], .tup [.int 3, .int 1, .int 4, .int 2, .int 3, .int 4], .tup [.int 3, .int 4, .int 1, .int 2, .int 3, .int 4]]
theorem st24531 (S : Sto) : f_l_all_steps [.tup [.int 2, .int 4, .int 5, .int 3, .int 1]] S = .ok (.lst rw24531, S) := by kernel_rfl
theorem cn24531 (S : Sto) : f_count_of [.tup [.int 2, .int 4, .int 5, .int 3, .int 1]] S = .ok (.int 9, S) := by kernel_rfl
theorem ro24531 (S : Sto) : f_rows_of_order [.tup [.int 2, .int 4, .int 5, .int 3, .int 1]] S = .ok (.lst [.tup [.int 1, .int 2, .int 3, .int 4, .int 2, .int 3], .tup [.int 1, .int 2, .int 3, .int 2, .int 4, .int 3], .tup [.int 1, .int 3, .int 2, .int 3, .int 4, .int 3], .tup [.int 1, .int 3, .int 2, .int 4, .int 3, .int 4], .tup [.int 1, .int 3, .int 4, .int 2, .int 3, .int 4], .tup [.int 3, .int 1, .int 2, .int 3, .int 4, .int 3], .tup [.int 3, .int 1, .int 2, .int 4, .int 3, .int 4], .tup [.int 3, .int 1, .int 4, .int 2, .int 3, .int 4], .tup [.int 3, .int 4, .int 1, .int 2, .int 3, .int 4]], S) := by kernel_rfl
theorem so24531 : pSrt (.seq .int) (.lst [.tup [.int 1, .int 2, .int 3, .int 4, .int 2, .int 3], .tup [.int 1, .int 2, .int 3, .int 2, .int 4, .int 3], .tup [.int 1, .int 3, .int 2, .int 3, .int 4, .int 3], .tup [.int 1, .int 3, .int 2, .int 4, .int 3, .int 4], .tup [.int 1, .int 3, .int 4, .int 2, .int 3, .int 4], .tup [.int 3, .int 1, .int 2, .int 3, .int 4, .int 3], .tup [.int 3, .int 1, .int 2, .int 4, .int 3, .int 4], .tup [.int 3, .int 1, .int 4, .int 2, .int 3, .int 4], .tup [.int 3, .int 4, .int 1, .int 2, .int 3, .int 4]]) = some (.lst rw24531) := by kernel_rfl
theorem br24531 (S : Sto) : f_l_braids_right [.lst rw24531] S = .ok (.bl true, S) := by kernel_rfl
def rw25341 : List PV := [.tup [.int 1, .int 2, .int 3, .int 4, .int 3, .int 2], .tup [.int 1, .int 2, .int 4, .int 3, .int 2, .int 4], .tup [.int 1, .int 2, .int 4, .int 3, .int 4, .int 2], .tup [.int 1, .int 4, .int 2, .int 3, .int 2, .int 4], .tup [.int 1, .int 4, .int 2, .int 3, .int 4, .int 2], .tup [.int 1, .int 4, .int 3, .int 2, .int 3, .int 4], .tup [.int 4, .int 1, .int 2, .int 3, .int 2, .int 4], .tup [.int 4, .int 1, .int 2, .int 3, .int 4, .int 2], .tup [.int 4, .int 1, .int 3, .int 2, .int 3, .int 4], .tup [.int 4, .int 3, .int 1, .int 2, .int 3, .int 4]]
theorem st25341 (S : Sto) : f_l_all_steps [.tup [.int 2, .int 5, .int 3, .int 4, .int 1]] S = .ok (.lst rw25341, S) := by kernel_rfl
theorem cn25341 (S : Sto) : f_count_of [.tup [.int 2, .int 5, .int 3, .int 4, .int 1]] S = .ok (.int 10, S) := by kernel_rfl
theorem ro25341 (S : Sto) : f_rows_of_order [.tup [.int 2, .int 5, .int 3, .int 4, .int 1]] S = .ok (.lst [.tup [.int 1, .int 2, .int 3, .int 4, .int 3, .int 2], .tup [.int 1, .int 2, .int 4, .int 3, .int 4, .int 2], .tup [.int 1, .int 2, .int 4, .int 3, .int 2, .int 4], .tup [.int 1, .int 4, .int 2, .int 3, .int 4, .int 2], .tup [.int 1, .int 4, .int 2, .int 3, .int 2, .int 4], .tup [.int 1, .int 4, .int 3, .int 2, .int 3, .int 4], .tup [.int 4, .int 1, .int 2, .int 3, .int 4, .int 2], .tup [.int 4, .int 1, .int 2, .int 3, .int 2, .int 4], .tup [.int 4, .int 1, .int 3, .int 2, .int 3, .int 4], .tup [.int 4, .int 3, .int 1, .int 2, .int 3, .int 4]], S) := by kernel_rfl
theorem so25341 : pSrt (.seq .int) (.lst [.tup [.int 1, .int 2, .int 3, .int 4, .int 3, .int 2], .tup [.int 1, .int 2, .int 4, .int 3, .int 4, .int 2], .tup [.int 1, .int 2, .int 4, .int 3, .int 2, .int 4], .tup [.int 1, .int 4, .int 2, .int 3, .int 4, .int 2], .tup [.int 1, .int 4, .int 2, .int 3, .int 2, .int 4], .tup [.int 1, .int 4, .int 3, .int 2, .int 3, .int 4], .tup [.int 4, .int 1, .int 2, .int 3, .int 4, .int 2], .tup [.int 4, .int 1, .int 2, .int 3, .int 2, .int 4], .tup [.int 4, .int 1, .int 3, .int 2, .int 3, .int 4], .tup [.int 4, .int 3, .int 1, .int 2, .int 3, .int 4]]) = some (.lst rw25341) := by kernel_rfl
theorem br25341 (S : Sto) : f_l_braids_right [.lst rw25341] S = .ok (.bl true, S) := by kernel_rfl
def rw25413 : List PV := [.tup [.int 1, .int 3, .int 2, .int 4, .int 3, .int 2], .tup [.int 1, .int 3, .int 4, .int 2, .int 3, .int 2], .tup [.int 1, .int 3, .int 4, .int 3, .int 2, .int 3], .tup [.int 1, .int 4, .int 3, .int 2, .int 4, .int 3], .tup [.int 1, .int 4, .int 3, .int 4, .int 2, .int 3], .tup [.int 3, .int 1, .int 2, .int 4, .int 3, .int 2], .tup [.int 3, .int 1, .int 4, .int 2, .int 3, .int 2], .tup [.int 3, .int 1, .int 4, .int 3, .int 2, .int 3], .tup [.int 3, .int 4, .int 1, .int 2, .int 3, .int 2], .tup [.int 3, .int 4, .int 1, .int 3, .int 2, .int 3], .tup [.int 3, .int 4, .int 3, .int 1, .int 2, .int 3], .tup [.int 4, .int 1, .int 3, .int 2, .int 4, .int 3], .tup [.int 4, .int 1, .int 3, .int 4, .int 2, .int 3], .tup [.int 4, .int 3, .int 1, .int 2, .int 4, .int 3], .tup [.int 4, .int 3, .int 1, .int 4, .int 2, .int 3], .tup [.int 4, .int 3, .int 4, .int 1, .int 2, .int 3]]
theorem st25413 (S : Sto) : f_l_all_steps [.tup [.int 2, .int 5, .int 4, .int 1, .int 3]] S = .ok (.lst rw25413, S) := by kernel_rfl
theorem cn25413 (S : Sto) : f_count_of [.tup [.int 2, .int 5, .int 4, .int 1, .int 3]] S = .ok (.int 16, S) := by kernel_rfl
theorem ro25413 (S : Sto) : f_rows_of_order [.tup [.int 2, .int 5, .int 4, .int 1, .int 3]] S = .ok (.lst [.tup [.int 3, .int 4, .int 1, .int 2, .int 3, .int 2], .tup [.int 3, .int 4, .int 1, .int 3, .int 2, .int 3], .tup [.int 3, .int 4, .int 3, .int 1, .int 2, .int 3], .tup [.int 3, .int 1, .int 4, .int 2, .int 3, .int 2], .tup [.int 3, .int 1, .int 4, .int 3, .int 2, .int 3], .tup [.int 3, .int 1, .int 2, .int 4, .int 3, .int 2], .tup [.int 1, .int 3, .int 4, .int 2, .int 3, .int 2], .tup [.int 1, .int 3, .int 4, .int 3, .int 2, .int 3], .tup [.int 1, .int 3, .int 2, .int 4, .int 3, .int 2], .tup [.int 1, .int 4, .int 3, .int 4, .int 2, .int 3], .tup [.int 1, .int 4, .int 3, .int 2, .int 4, .int 3], .tup [.int 4, .int 3, .int 4, .int 1, .int 2, .int 3], .tup [.int 4, .int 3, .int 1, .int 4, .int 2, .int 3], .tup [.int 4, .int 3, .int 1, .int 2, .int 4, .int 3], .tup [.int 4, .int 1, .int 3, .int 4, .int 2, .int 3], .tup [.int 4, .int 1, .int 3, .int 2, .int 4, .int 3]], S) := by kernel_rfl
theorem so25413 : pSrt (.seq .int) (.lst [.tup [.int 3, .int 4, .int 1, .int 2, .int 3, .int 2], .tup [.int 3, .int 4, .int 1, .int 3, .int 2, .int 3], .tup [.int 3, .int 4, .int 3, .int 1, .int 2, .int 3], .tup [.int 3, .int 1, .int 4, .int 2, .int 3, .int 2], .tup [.int 3, .int 1, .int 4, .int 3, .int 2, .int 3], .tup [.int 3, .int 1, .int 2, .int 4, .int 3, .int 2], .tup [.int 1, .int 3, .int 4, .int 2, .int 3, .int 2], .tup [.int 1, .int 3, .int 4, .int 3, .int 2, .int 3], .tup [.int 1, .int 3, .int 2, .int 4, .int 3, .int 2], .tup [.int 1, .int 4, .int 3, .int 4, .int 2, .int 3], .tup [.int 1, .int 4, .int 3, .int 2, .int 4, .int 3], .tup [.int 4, .int 3, .int 4, .int 1, .int 2, .int 3], .tup [.int 4, .int 3, .int 1, .int 4, .int 2, .int 3], .tup [.int 4, .int 3, .int 1, .int 2, .int 4, .int 3], .tup [.int 4, .int 1, .int 3, .int 4, .int 2, .int 3], .tup [.int 4, .int 1, .int 3, .int 2, .int 4, .int 3]]) = some (.lst rw25413) := by kernel_rfl
theorem br25413 (S : Sto) : f_l_braids_right [.lst rw25413] S = .ok (.bl true, S) := by kernel_rfl
def rw3124 : List PV := [.tup [.int 2, .int 1]]
theorem st3124 (S : Sto) : f_l_all_steps [.tup [.int 3, .int 1, .int 2, .int 4]] S = .ok (.lst rw3124, S) := by kernel_rfl
theorem cn3124 (S : Sto) : f_count_of [.tup [.int 3, .int 1, .int 2, .int 4]] S = .ok (.int 1, S) := by kernel_rfl
theorem ro3124 (S : Sto) : f_rows_of_order [.tup [.int 3, .int 1, .int 2, .int 4]] S = .ok (.lst [.tup [.int 2, .int 1]], S) := by kernel_rfl
theorem so3124 : pSrt (.seq .int) (.lst [.tup [.int 2, .int 1]]) = some (.lst rw3124) := by kernel_rfl
theorem br3124 (S : Sto) : f_l_braids_right [.lst rw3124] S = .ok (.bl true, S) := by kernel_rfl
def rw3142 : List PV := [.tup [.int 2, .int 1, .int 3], .tup [.int 2, .int 3, .int 1]]
theorem st3142 (S : Sto) : f_l_all_steps [.tup [.int 3, .int 1, .int 4, .int 2]] S = .ok (.lst rw3142, S) := by kernel_rfl
theorem cn3142 (S : Sto) : f_count_of [.tup [.int 3, .int 1, .int 4, .int 2]] S = .ok (.int 2, S) := by kernel_rfl
theorem ro3142 (S : Sto) : f_rows_of_order [.tup [.int 3, .int 1, .int 4, .int 2]] S = .ok (.lst [.tup [.int 2, .int 3, .int 1], .tup [.int 2, .int 1, .int 3]], S) := by kernel_rfl
theorem so3142 : pSrt (.seq .int) (.lst [.tup [.int 2, .int 3, .int 1], .tup [.int 2, .int 1, .int 3]]) = some (.lst rw3142) := by kernel_rfl
theorem br3142 (S : Sto) : f_l_braids_right [.lst rw3142] S = .ok (.bl true, S) := by kernel_rfl
def rw31425 : List PV := [.tup [.int 2, .int 1, .int 3], .tup [.int 2, .int 3, .int 1]]
theorem st31425 (S : Sto) : f_l_all_steps [.tup [.int 3, .int 1, .int 4, .int 2, .int 5]] S = .ok (.lst rw31425, S) := by kernel_rfl
theorem cn31425 (S : Sto) : f_count_of [.tup [.int 3, .int 1, .int 4, .int 2, .int 5]] S = .ok (.int 2, S) := by kernel_rfl
theorem ro31425 (S : Sto) : f_rows_of_order [.tup [.int 3, .int 1, .int 4, .int 2, .int 5]] S = .ok (.lst [.tup [.int 2, .int 3, .int 1], .tup [.int 2, .int 1, .int 3]], S) := by kernel_rfl
theorem so31425 : pSrt (.seq .int) (.lst [.tup [.int 2, .int 3, .int 1], .tup [.int 2, .int 1, .int 3]]) = some (.lst rw31425) := by kernel_rfl
theorem br31425 (S : Sto) : f_l_braids_right [.lst rw31425] S = .ok (.bl true, S) := by kernel_rfl
def rw31524 : List PV := [.tup [.int 2, .int 1, .int 4, .int 3], .tup [.int 2, .int 4, .int 1, .int 3], .tup [.int 2, .int 4, .int 3, .int 1], .tup [.int 4, .int 2, .int 1, .int 3], .tup [.int 4, .int 2, .int 3, .int 1]]
theorem st31524 (S : Sto) : f_l_all_steps [.tup [.int 3, .int 1, .int 5, .int 2, .int 4]] S = .ok (.lst rw31524, S) := by kernel_rfl
theorem cn31524 (S : Sto) : f_count_of [.tup [.int 3, .int 1, .int 5, .int 2, .int 4]] S = .ok (.int 5, S) := by kernel_rfl
theorem ro31524 (S : Sto) : f_rows_of_order [.tup [.int 3, .int 1, .int 5, .int 2, .int 4]] S = .ok (.lst [.tup [.int 4, .int 2, .int 3, .int 1], .tup [.int 4, .int 2, .int 1, .int 3], .tup [.int 2, .int 4, .int 3, .int 1], .tup [.int 2, .int 4, .int 1, .int 3], .tup [.int 2, .int 1, .int 4, .int 3]], S) := by kernel_rfl
theorem so31524 : pSrt (.seq .int) (.lst [.tup [.int 4, .int 2, .int 3, .int 1], .tup [.int 4, .int 2, .int 1, .int 3], .tup [.int 2, .int 4, .int 3, .int 1], .tup [.int 2, .int 4, .int 1, .int 3], .tup [.int 2, .int 1, .int 4, .int 3]]) = some (.lst rw31524) := by kernel_rfl
theorem br31524 (S : Sto) : f_l_braids_right [.lst rw31524] S = .ok (.bl true, S) := by kernel_rfl
def rw32415 : List PV := [.tup [.int 1, .int 2, .int 1, .int 3], .tup [.int 1, .int 2, .int 3, .int 1], .tup [.int 2, .int 1, .int 2, .int 3]]
theorem st32415 (S : Sto) : f_l_all_steps [.tup [.int 3, .int 2, .int 4, .int 1, .int 5]] S = .ok (.lst rw32415, S) := by kernel_rfl
theorem cn32415 (S : Sto) : f_count_of [.tup [.int 3, .int 2, .int 4, .int 1, .int 5]] S = .ok (.int 3, S) := by kernel_rfl
theorem ro32415 (S : Sto) : f_rows_of_order [.tup [.int 3, .int 2, .int 4, .int 1, .int 5]] S = .ok (.lst [.tup [.int 1, .int 2, .int 3, .int 1], .tup [.int 1, .int 2, .int 1, .int 3], .tup [.int 2, .int 1, .int 2, .int 3]], S) := by kernel_rfl
theorem so32415 : pSrt (.seq .int) (.lst [.tup [.int 1, .int 2, .int 3, .int 1], .tup [.int 1, .int 2, .int 1, .int 3], .tup [.int 2, .int 1, .int 2, .int 3]]) = some (.lst rw32415) := by kernel_rfl
theorem br32415 (S : Sto) : f_l_braids_right [.lst rw32415] S = .ok (.bl true, S) := by kernel_rfl
def rw3421 : List PV := [.tup [.int 1, .int 2, .int 1, .int 3, .int 2], .tup [.int 1, .int 2, .int 3, .int 1, .int 2], .tup [.int 2, .int 1, .int 2, .int 3, .int 2], .tup [.int 2, .int 1, .int 3, .int 2, .int 3], .tup [.int 2, .int 3, .int 1, .int 2, .int 3]]
theorem st3421 (S : Sto) : f_l_all_steps [.tup [.int 3, .int 4, .int 2, .int 1]] S = .ok (.lst rw3421, S) := by kernel_rfl
theorem cn3421 (S : Sto) : f_count_of [.tup [.int 3, .int 4, .int 2, .int 1]] S = .ok (.int 5, S) := by kernel_rfl
theorem ro3421 (S : Sto) : f_rows_of_order [.tup [.int 3, .int 4, .int 2, .int 1]] S = .ok (.lst [.tup [.int 1, .int 2, .int 3, .int 1, .int 2], .tup [.int 1, .int 2, .int 1, .int 3, .int 2], .tup [.int 2, .int 1, .int 2, .int 3, .int 2], .tup [.int 2, .int 1, .int 3, .int 2, .int 3], .tup [.int 2, .int 3, .int 1, .int 2, .int 3]], S) := by kernel_rfl
theorem so3421 : pSrt (.seq .int) (.lst [.tup [.int 1, .int 2, .int 3, .int 1, .int 2], .tup [.int 1, .int 2, .int 1, .int 3, .int 2], .tup [.int 2, .int 1, .int 2, .int 3, .int 2], .tup [.int 2, .int 1, .int 3, .int 2, .int 3], .tup [.int 2, .int 3, .int 1, .int 2, .int 3]]) = some (.lst rw3421) := by kernel_rfl
theorem br3421 (S : Sto) : f_l_braids_right [.lst rw3421] S = .ok (.bl true, S) := by kernel_rfl
def rw4231 : List PV := [.tup [.int 1, .int 2, .int 3, .int 2, .int 1], .tup [.int 1, .int 3, .int 2, .int 1, .int 3], .tup [.int 1, .int 3, .int 2, .int 3, .int 1], .tup [.int 3, .int 1, .int 2, .int 1, .int 3], .tup [.int 3, .int 1, .int 2, .int 3, .int 1], .tup [.int 3, .int 2, .int 1, .int 2, .int 3]]
theorem st4231 (S : Sto) : f_l_all_steps [.tup [.int 4, .int 2, .int 3, .int 1]] S = .ok (.lst rw4231, S) := by kernel_rfl
theorem cn4231 (S : Sto) : f_count_of [.tup [.int 4, .int 2, .int 3, .int 1]] S = .ok (.int 6, S) := by kernel_rfl
theorem ro4231 (S : Sto) : f_rows_of_order [.tup [.int 4, .int 2, .int 3, .int 1]] S = .ok (.lst [.tup [.int 1, .int 2, .int 3, .int 2, .int 1], .tup [.int 1, .int 3, .int 2, .int 3, .int 1], .tup [.int 1, .int 3, .int 2, .int 1, .int 3], .tup [.int 3, .int 1, .int 2, .int 3, .int 1], .tup [.int 3, .int 1, .int 2, .int 1, .int 3], .tup [.int 3, .int 2, .int 1, .int 2, .int 3]], S) := by kernel_rfl
theorem so4231 : pSrt (.seq .int) (.lst [.tup [.int 1, .int 2, .int 3, .int 2, .int 1], .tup [.int 1, .int 3, .int 2, .int 3, .int 1], .tup [.int 1, .int 3, .int 2, .int 1, .int 3], .tup [.int 3, .int 1, .int 2, .int 3, .int 1], .tup [.int 3, .int 1, .int 2, .int 1, .int 3], .tup [.int 3, .int 2, .int 1, .int 2, .int 3]]) = some (.lst rw4231) := by kernel_rfl
theorem br4231 (S : Sto) : f_l_braids_right [.lst rw4231] S = .ok (.bl true, S) := by kernel_rfl
def rw42513 : List PV := [.tup [.int 1, .int 3, .int 2, .int 1, .int 4, .int 3], .tup [.int 1, .int 3, .int 2, .int 4, .int 1, .int 3], .tup [.int 1, .int 3, .int 2, .int 4, .int 3, .int 1], .tup [.int 1, .int 3, .int 4, .int 2, .int 1, .int 3], .tup [.int 1, .int 3, .int 4, .int 2, .int 3, .int 1], .tup [.int 3, .int 1, .int 2, .int 1, .int 4, .int 3], .tup [.int 3, .int 1, .int 2, .int 4, .int 1, .int 3], .tup [.int 3, .int 1, .int 2, .int 4, .int 3, .int 1], .tup [.int 3, .int 1, .int 4, .int 2, .int 1, .int 3], .tup [.int 3, .int 1, .int 4, .int 2, .int 3, .int 1], .tup [.int 3, .int 2, .int 1, .int 2, .int 4, .int 3], .tup [.int 3, .int 2, .int 1, .int 4, .int 2, .int 3], .tup [.int 3, .int 2, .int 4, .int 1, .int 2, .int 3], .tup [.int 3, .int 4, .int 1, .int 2, .int 1, .int 3], .tup [.int 3, .int 4, .int 1, .int 2, .int 3, .int 1], .tup [.int 3, .int 4, .int 2, .int 1, .int 2, .int 3]]
theorem st42513 (S : Sto) : f_l_all_steps [.tup [.int 4, .int 2, .int 5, .int 1, .int 3]] S = .ok (.lst rw42513, S) := by kernel_rfl
theorem cn42513 (S : Sto) : f_count_of [.tup [.int 4, .int 2, .int 5, .int 1, .int 3]] S = .ok (.int 16, S) := by kernel_rfl
theorem ro42513 (S : Sto) : f_rows_of_order [.tup [.int 4, .int 2, .int 5, .int 1, .int 3]] S = .ok (.lst [.tup [.int 3, .int 4, .int 1, .int 2, .int 3, .int 1], .tup [.int 3, .int 4, .int 1, .int 2, .int 1, .int 3], .tup [.int 3, .int 4, .int 2, .int 1, .int 2, .int 3], .tup [.int 3, .int 1, .int 4, .int 2, .int 3, .int 1], .tup [.int 3, .int 1, .int 4, .int 2, .int 1, .int 3], .tup [.int 3, .int 1, .int 2, .int 4, .int 3, .int 1], .tup [.int 3, .int 1, .int 2, .int 4, .int 1, .int 3], .tup [.int 3, .int 1, .int 2, .int 1, .int 4, .int 3], .tup [.int 3, .int 2, .int 4, .int 1, .int 2, .int 3], .tup [.int 3, .int 2, .int 1, .int 4, .int 2, .int 3], .tup [.int 3, .int 2, .int 1, .int 2, .int 4, .int 3], .tup [.int 1, .int 3, .int 4, .int 2, .int 3, .int 1], .tup [.int 1, .int 3, .int 4, .int 2, .int 1, .int 3], .tup [.int 1, .int 3, .int 2, .int 4, .int 3, .int 1], .tup [.int 1, .int 3, .int 2, .int 4, .int 1, .int 3], .tup [.int 1, .int 3, .int 2, .int 1, .int 4, .int 3]], S) := by kernel_rfl
theorem so42513 : pSrt (.seq .int) (.lst [.tup [.int 3, .int 4, .int 1, .int 2, .int 3, .int 1], .tup [.int 3, .int 4, .int 1, .int 2, .int 1, .int 3], .tup [.int 3, .int 4, .int 2, .int 1, .int 2, .int 3], .tup [.int 3, .int 1, .int 4, .int 2, .int 3, .int 1], .tup [.int 3, .int 1, .int 4, .int 2, .int 1, .int 3], .tup [.int 3, .int 1, .int 2, .int 4, .int 3, .int 1], .tup [.int 3, .int 1, .int 2, .int 4, .int 1, .int 3], .tup [.int 3, .int 1, .int 2, .int 1, .int 4, .int 3], .tup [.int 3, .int 2, .int 4, .int 1, .int 2, .int 3], .tup [.int 3, .int 2, .int 1, .int 4, .int 2, .int 3], .tup [.int 3, .int 2, .int 1, .int 2, .int 4, .int 3], .tup [.int 1, .int 3, .int 4, .int 2, .int 3, .int 1], .tup [.int 1, .int 3, .int 4, .int 2, .int 1, .int 3], .tup [.int 1, .int 3, .int 2, .int 4, .int 3, .int 1], .tup [.int 1, .int 3, .int 2, .int 4, .int 1, .int 3], .tup [.int 1, .int 3, .int 2, .int 1, .int 4, .int 3]]) = some (.lst rw42513) := by kernel_rfl
theorem br42513 (S : Sto) : f_l_braids_right [.lst rw42513] S = .ok (.bl true, S) := by kernel_rfl
def rw43125 : List PV := [.tup [.int 2, .int 1, .int 3, .int 2, .int 1], .tup [.int 2, .int 3, .int 1, .int 2, .int 1], .tup [.int 2, .int 3, .int 2, .int 1, .int 2], .tup [.int 3, .int 2, .int 1, .int 3, .int 2], .tup [.int 3, .int 2, .int 3, .int 1, .int 2]]
theorem st43125 (S : Sto) : f_l_all_steps [.tup [.int 4, .int 3, .int 1, .int 2, .int 5]] S = .ok (.lst rw43125, S) := by kernel_rfl
theorem cn43125 (S : Sto) : f_count_of [.tup [.int 4, .int 3, .int 1, .int 2, .int 5]] S = .ok (.int 5, S) := by kernel_rfl
theorem ro43125 (S : Sto) : f_rows_of_order [.tup [.int 4, .int 3, .int 1, .int 2, .int 5]] S = .ok (.lst [.tup [.int 2, .int 3, .int 1, .int 2, .int 1], .tup [.int 2, .int 3, .int 2, .int 1, .int 2], .tup [.int 2, .int 1, .int 3, .int 2, .int 1], .tup [.int 3, .int 2, .int 3, .int 1, .int 2], .tup [.int 3, .int 2, .int 1, .int 3, .int 2]], S) := by kernel_rfl
theorem so43125 : pSrt (.seq .int) (.lst [.tup [.int 2, .int 3, .int 1, .int 2, .int 1], .tup [.int 2, .int 3, .int 2, .int 1, .int 2], .tup [.int 2, .int 1, .int 3, .int 2, .int 1], .tup [.int 3, .int 2, .int 3, .int 1, .int 2], .tup [.int 3, .int 2, .int 1, .int 3, .int 2]]) = some (.lst rw43125) := by kernel_rfl
theorem br43125 (S : Sto) : f_l_braids_right [.lst rw43125] S = .ok (.bl true, S) := by kernel_rfl
def rw51234 : List PV := [.tup [.int 4, .int 3, .int 2, .int 1]]
theorem st51234 (S : Sto) : f_l_all_steps [.tup [.int 5, .int 1, .int 2, .int 3, .int 4]] S = .ok (.lst rw51234, S) := by kernel_rfl
theorem cn51234 (S : Sto) : f_count_of [.tup [.int 5, .int 1, .int 2, .int 3, .int 4]] S = .ok (.int 1, S) := by kernel_rfl
theorem ro51234 (S : Sto) : f_rows_of_order [.tup [.int 5, .int 1, .int 2, .int 3, .int 4]] S = .ok (.lst [.tup [.int 4, .int 3, .int 2, .int 1]], S) := by kernel_rfl
theorem so51234 : pSrt (.seq .int) (.lst [.tup [.int 4, .int 3, .int 2, .int 1]]) = some (.lst rw51234) := by kernel_rfl
theorem br51234 (S : Sto) : f_l_braids_right [.lst rw51234] S = .ok (.bl true, S) := by kernel_rfl
end K72
set_option Elab.async false
set_option maxRecDepth 100000
set_option maxHeartbeats 0
namespace K72
open PySem PySem.Spec PyProof.Rows L2 J
def rw13245 : List PV := [.tup [.int 2]]
theorem st13245 (S : Sto) : f_l_all_steps [.tup [.int 1, .int 3, .int 2, .int 4, .int 5]] S = .ok (.lst rw13245, S) := by kernel_rfl
theorem cn13245 (S : Sto) : f_count_of [.tup [.int 1, .int 3, .int 2, .int 4, .int 5]] S = .ok (.int 1, S) := by kernel_rfl
theorem ro13245 (S : Sto) : f_rows_of_order [.tup [.int 1, .int 3, .int 2, .int 4, .int 5]] S = .ok (.lst [.tup [.int 2]], S) := by kernel_rfl
theorem so13245 : pSrt (.seq .int) (.lst [.tup [.int 2]]) = some (.lst rw13245) := by kernel_rfl
theorem br13245 (S : Sto) : f_l_braids_right [.lst rw13245] S = .ok (.bl true, S) := by kernel_rfl
def rw1342 : List PV := [.tup [.int 2, .int 3]]
theorem st1342 (S : Sto) : f_l_all_steps [.tup [.int 1, .int 3, .int 4, .int 2]] S = .ok (.lst rw1342, S) := by kernel_rfl
theorem cn1342 (S : Sto) : f_count_of [.tup [.int 1, .int 3, .int 4, .int 2]] S = .ok (.int 1, S) := by kernel_rfl
theorem ro1342 (S : Sto) : f_rows_of_order [.tup [.int 1, .int 3, .int 4, .int 2]] S = .ok (.lst [.tup [.int 2, .int 3]], S) := by kernel_rfl
theorem so1342 : pSrt (.seq .int) (.lst [.tup [.int 2, .int 3]]) = some (.lst rw1342) := by kernel_rfl
theorem br1342 (S : Sto) : f_l_braids_right [.lst rw1342] S = .ok (.bl true, S) := by kernel_rfl
def rw14325 : List PV := [.tup [.int 2, .int 3, .int 2], .tup [.int 3, .int 2, .int 3]]
theorem st14325 (S : Sto) : f_l_all_steps [.tup [.int 1, .int 4, .int 3, .int 2, .int 5]] S = .ok (.lst rw14325, S) := by kernel_rfl
theorem cn14325 (S : Sto) : f_count_of [.tup [.int 1, .int 4, .int 3, .int 2, .int 5]] S = .ok (.int 2, S) := by kernel_rfl
theorem ro14325 (S : Sto) : f_rows_of_order [.tup [.int 1, .int 4, .int 3, .int 2, .int 5]] S = .ok (.lst [.tup [.int 2, .int 3, .int 2], .tup [.int 3, .int 2, .int 3]], S) := by kernel_rfl
theorem so14325 : pSrt (.seq .int) (.lst [.tup [.int 2, .int 3, .int 2], .tup [.int 3, .int 2, .int 3]]) = some (.lst rw14325) := by kernel_rfl
theorem br14325 (S : Sto) : f_l_braids_right [.lst rw14325] S = .ok (.bl true, S) := by kernel_rfl
def rw14352 : List PV := [.tup [.int 2, .int 3, .int 2, .int 4], .tup [.int 2, .int 3, .int 4, .int 2], .tup [.int 3, .int 2, .int 3, .int 4]]
theorem st14352 (S : Sto) : f_l_all_steps [.tup [.int 1, .int 4, .int 3, .int 5, .int 2]] S = .ok (.lst rw14352, S) := by kernel_rfl
theorem cn14352 (S : Sto) : f_count_of [.tup [.int 1, .int 4, .int 3, .int 5, .int 2]] S = .ok (.int 3, S) := by kernel_rfl
theorem ro14352 (S : Sto) : f_rows_of_order [.tup [.int 1, .int 4, .int 3, .int 5, .int 2]] S = .ok (.lst [.tup [.int 2, .int 3, .int 4, .int 2], .tup [.int 2, .int 3, .int 2, .int 4], .tup [.int 3, .int 2, .int 3, .int 4]], S) := by kernel_rfl
theorem so14352 : pSrt (.seq .int) (.lst [.tup [.int 2, .int 3, .int 4, .int 2], .tup [.int 2, .int 3, .int 2, .int 4], .tup [.int 3, .int 2, .int 3, .int 4]]) = some (.lst rw14352) := by kernel_rfl
theorem br14352 (S : Sto) : f_l_braids_right [.lst rw14352] S = .ok (.bl true, S) := by kernel_rfl
def rw15342 : List PV := [.tup [.int 2, .int 3, .int 4, .int 3, .int 2], .tup [.int 2, .int 4, .int 3, .int 2, .int 4], .tup [.int 2, .int 4, .int 3, .int 4, .int 2], .tup [.int 4, .int 2, .int 3, .int 2, .int 4], .tup [.int 4, .int 2, .int 3, .int 4, .int 2], .tup [.int 4, .int 3, .int 2, .int 3, .int 4]]
theorem st15342 (S : Sto) : f_l_all_steps [.tup [.int 1, .int 5, .int 3, .int 4, .int 2]] S = .ok (.lst rw15342, S) := by kernel_rfl
theorem cn15342 (S : Sto) : f_count_of [.tup [.int 1, .int 5, .int 3, .int 4, .int 2]] S = .ok (.int 6, S) := by kernel_rfl
theorem ro15342 (S : Sto) : f_rows_of_order [.tup [.int 1, .int 5, .int 3, .int 4, .int 2]] S = .ok (.lst [.tup [.int 2, .int 3, .int 4, .int 3, .int 2], .tup [.int 2, .int 4, .int 3, .int 4, .int 2], .tup [.int 2, .int 4, .int 3, .int 2, .int 4], .tup [.int 4, .int 2, .int 3, .int 4, .int 2], .tup [.int 4, .int 2, .int 3, .int 2, .int 4], .tup [.int 4, .int 3, .int 2, .int 3, .int 4]], S) := by kernel_rfl
theorem so15342 : pSrt (.seq .int) (.lst [.tup [.int 2, .int 3, .int 4, .int 3, .int 2], .tup [.int 2, .int 4, .int 3, .int 4, .int 2], .tup [.int 2, .int 4, .int 3, .int 2, .int 4], .tup [.int 4, .int 2, .int 3, .int 4, .int 2], .tup [.int 4, .int 2, .int 3, .int 2, .int 4], .tup [.int 4, .int 3, .int 2, .int 3, .int 4]]) = some (.lst rw15342) := by kernel_rfl
theorem br15342 (S : Sto) : f_l_braids_right [.lst rw15342] S = .ok (.bl true, S) := by kernel_rfl
def rw213 : List PV := [.tup [.int 1]]
theorem st213 (S : Sto) : f_l_all_steps [.tup [.int 2, .int 1, .int 3]] S = .ok (.lst rw213, S) := by kernel_rfl
theorem cn213 (S : Sto) : f_count_of [.tup [.int 2, .int 1, .int 3]] S = .ok (.int 1, S) := by kernel_rfl
theorem ro213 (S : Sto) : f_rows_of_order [.tup [.int 2, .int 1, .int 3]] S = .ok (.lst [.tup [.int 1]], S) := by kernel_rfl
theorem so213 : pSrt (.seq .int) (.lst [.tup [.int 1]]) = some (.lst rw213) := by kernel_rfl
theorem br213 (S : Sto) : f_l_braids_right [.lst rw213] S = .ok (.bl true, S) := by kernel_rfl
def rw23145 : List PV := [.tup [.int 1, .int 2]]
theorem st23145 (S : Sto) : f_l_all_steps [.tup [.int 2, .int 3, .int 1, .int 4, .int 5]] S = .ok (.lst rw23145, S) := by kernel_rfl
theorem cn23145 (S : Sto) : f_count_of [.tup [.int 2, .int 3, .int 1, .int 4, .int 5]] S = .ok (.int 1, S) := by kernel_rfl
theorem ro23145 (S : Sto) : f_rows_of_order [.tup [.int 2, .int 3, .int 1, .int 4, .int 5]] S = .ok (.lst [.tup [.int 1, .int 2]], S) := by kernel_rfl
theorem so23145 : pSrt (.seq .int) (.lst [.tup [.int 1, .int 2]]) = some (.lst rw23145) := by kernel_rfl
theorem br23145 (S : Sto) : f_l_braids_right [.lst rw23145] S = .ok (.bl true, S) := by kernel_rfl
def rw23514 : List PV := [.tup [.int 1, .int 2, .int 4, .int 3], .tup [.int 1, .int 4, .int 2, .int 3], .tup [.int 4, .int 1, .int 2, .int 3]]
theorem st23514 (S : Sto) : f_l_all_steps [.tup [.int 2, .int 3, .int 5, .int 1, .int 4]] S = .ok (.lst rw23514, S) := by kernel_rfl
theorem cn23514 (S : Sto) : f_count_of [.tup [.int 2, .int 3, .int 5, .int 1, .int 4]] S = .ok (.int 3, S) := by kernel_rfl
theorem ro23514 (S : Sto) : f_rows_of_order [.tup [.int 2, .int 3, .int 5, .int 1, .int 4]] S = .ok (.lst [.tup [.int 4, .int 1, .int 2, .int 3], .tup [.int 1, .int 4, .int 2, .int 3], .tup [.int 1, .int 2, .int 4, .int 3]], S) := by kernel_rfl
theorem so23514 : pSrt (.seq .int) (.lst [.tup [.int 4, .int 1, .int 2, .int 3], .tup [.int 1, .int 4, .int 2, .int 3], .tup [.int 1, .int 2, .int 4, .int 3]]) = some (.lst rw23514) := by kernel_rfl
theorem br23514 (S : Sto) : f_l_braids_right [.lst rw23514] S = .ok (.bl true, S) := by kernel_rfl
def rw3214 : List PV := [.tup [.int 1, .int 2, .int 1], .tup [.int 2, .int 1, .int 2]]
theorem st3214 (S : Sto) : f_l_all_steps [.tup [.int 3, .int 2, .int 1, .int 4]] S = .ok (.lst rw3214, S) := by kernel_rfl
theorem cn3214 (S : Sto) : f_count_of [.tup [.int 3, .int 2, .int 1, .int 4]] S = .ok (.int 2, S) := by kernel_rfl
theorem ro3214 (S : Sto) : f_rows_of_order [.tup [.int 3, .int 2, .int 1, .int 4]] S = .ok (.lst [.tup [.int 1, .int 2, .int 1], .tup [.int 2, .int 1, .int 2]], S) := by kernel_rfl
theorem so3214 : pSrt (.seq .int) (.lst [.tup [.int 1, .int 2, .int 1], .tup [.int 2, .int 1, .int 2]]) = some (.lst rw3214) := by kernel_rfl
theorem br3214 (S : Sto) : f_l_braids_right [.lst rw3214] S = .ok (.bl true, S) := by kernel_rfl
def rw32145 : List PV := [.tup [.int 1, .int 2, .int 1], .tup [.int 2, .int 1, .int 2]]
theorem st32145 (S : Sto) : f_l_all_steps [.tup [.int 3, .int 2, .int 1, .int 4, .int 5]] S = .ok (.lst rw32145, S) := by kernel_rfl
theorem cn32145 (S : Sto) : f_count_of [.tup [.int 3, .int 2, .int 1, .int 4, .int 5]] S = .ok (.int 2, S) := by kernel_rfl
theorem ro32145 (S : Sto) : f_rows_of_order [.tup [.int 3, .int 2, .int 1, .int 4, .int 5]] S = .ok (.lst [.tup [.int 1, .int 2, .int 1], .tup [.int 2, .int 1, .int 2]], S) := by kernel_rfl
theorem so32145 : pSrt (.seq .int) (.lst [.tup [.int 1, .int 2, .int 1], .tup [.int 2, .int 1, .int 2]]) = some (.lst rw32145) := by kernel_rfl
theorem br32145 (S : Sto) : f_l_braids_right [.lst rw32145] S = .ok (.bl true, S) := by kernel_rfl
def rw3241 : List PV := [.tup [.int 1, .int 2, .int 1, .int 3], .tup [.int 1, .int 2, .int 3, .int 1], .tup [.int 2, .int 1, .int 2, .int 3]]
theorem st3241 (S : Sto) : f_l_all_steps [.tup [.int 3, .int 2, .int 4, .int 1]] S = .ok (.lst rw3241, S) := by kernel_rfl
theorem cn3241 (S : Sto) : f_count_of [.tup [.int 3, .int 2, .int 4, .int 1]] S = .ok (.int 3, S) := by kernel_rfl
theorem ro3241 (S : Sto) : f_rows_of_order [.tup [.int 3, .int 2, .int 4, .int 1]] S = .ok (.lst [.tup [.int 1, .int 2, .int 3, .int 1], .tup [.int 1, .int 2, .int 1, .int 3], .tup [.int 2, .int 1, .int 2, .int 3]], S) := by kernel_rfl
theorem so3241 : pSrt (.seq .int) (.lst [.tup [.int 1, .int 2, .int 3, .int 1], .tup [.int 1, .int 2, .int 1, .int 3], .tup [.int 2, .int 1, .int 2, .int 3]]) = some (.lst rw3241) := by kernel_rfl
theorem br3241 (S : Sto) : f_l_braids_right [.lst rw3241] S = .ok (.bl true, S) := by kernel_rfl
def rw34152 : List PV := [.tup [.int 2, .int 1, .int 3, .int 2, .int 4], .tup [.int 2, .int 1, .int 3, .int 4, .int 2], .tup [.int 2, .int 3, .int 1, .int 2, .int 4], .tup [.int 2, .int 3, .int 1, .int 4, .int 2], .tup [.int 2, .int 3, .int 4, .int 1, .int 2]]
theorem st34152 (S : Sto) : f_l_all_steps [.tup [.int 3, .int 4, .int 1, .int 5, .int 2]] S = .ok (.lst rw34152, S) := by kernel_rfl
theorem cn34152 (S : Sto) : f_count_of [.tup [.int 3, .int 4, .int 1, .int 5, .int 2]] S = .ok (.int 5, S) := by kernel_rfl
theorem ro34152 (S : Sto) : f_rows_of_order [.tup [.int 3, .int 4, .int 1, .int 5, .int 2]] S = .ok (.lst [.tup [.int 2, .int 3, .int 4, .int 1, .int 2], .tup [.int 2, .int 3, .int 1, .int 4, .int 2], .tup [.int 2, .int 3, .int 1, .int 2, .int 4], .tup [.int 2, .int 1, .int 3, .int 4, .int 2], .tup [.int 2, .int 1, .int 3, .int 2, .int 4]], S) := by kernel_rfl
theorem so34152 : pSrt (.seq .int) (.lst [.tup [.int 2, .int 3, .int 4, .int 1, .int 2], .tup [.int 2, .int 3, .int 1, .int 4, .int 2], .tup [.int 2, .int 3, .int 1, .int 2, .int 4], .tup [.int 2, .int 1, .int 3, .int 4, .int 2], .tup [.int 2, .int 1, .int 3, .int 2, .int 4]]) = some (.lst rw34152) := by kernel_rfl
theorem br34152 (S : Sto) : f_l_braids_right [.lst rw34152] S = .ok (.bl true, S) := by kernel_rfl
def rw34251 : List PV := [.tup [.int 1, .int 2, .int 1, .int 3, .int 2, .int 4], .tup [.int 1, .int 2, .int 1, .int 3, .int 4, .int 2], .tup [.int 1, .int 2, .int 3, .int 1, .int 2, .int 4], .tup [.int 1, .int 2, .int 3, .int 1, .int 4, .int 2], .tup [.int 1, .int 2, .int 3, .int 4, .int 1, .int 2], .tup [.int 2, .int 1, .int 2, .int 3, .int 2, .int 4], .tup [.int 2, .int 1, .int 2, .int 3, .int 4, .int 2], .tup [.int 2, .int 1, .int 3, .int 2, .int 3, .int 4], .tup [.int 2, .int 3, .int 1, .int 2, .int 3, .int 4]]
theorem st34251 (S : Sto) : f_l_all_steps [.tup [.int 3, .int 4, .int 2, .int 5, .int 1]] S = .ok (.lst rw34251, S) := by kernel_rfl
theorem cn34251 (S : Sto) : f_count_of [.tup [.int 3, .int 4, .int 2, .int 5, .int 1]] S = .ok (.int 9, S) := by kernel_rfl
theorem ro34251 (S : Sto) : f_rows_of_order [.tup [.int 3, .int 4, .int 2, .int 5, .int 1]] S = .ok (.lst [.tup [.int 1, .int 2, .int 3, .int 4, .int 1, .int 2], .tup [.int 1, .int 2, .int 3, .int 1, .int 4, .int 2], .tup [.int 1, .int 2, .int 3, .int 1, .int 2, .int 4], .tup [.int 1, .int 2, .int 1, .int 3, .int 4, .int 2], .tup [.int 1, .int 2, .int 1, .int 3, .int 2, .int 4], .tup [.int 2, .int 1, .int 2, .int 3, .int 4, .int 2], .tup [.int 2, .int 1, .int 2, .int 3, .int 2, .int 4], .tup [.int 2, .int 1, .int 3, .int 2, .int 3, .int 4], .tup [.int 2, .int 3, .int 1, .int 2, .int 3, .int 4]], S) := by kernel_rfl
theorem so34251 : pSrt (.seq .int) (.lst [.tup [.int 1, .int 2, .int 3, .int 4, .int 1, .int 2], .tup [.int 1, .int 2, .int 3, .int 1, .int 4, .int 2], .tup [.int 1, .int 2, .int 3, .int 1, .int 2, .int 4], .tup [.int 1, .int 2, .int 1, .int 3, .int 4, .int 2], .tup [.int 1, .int 2, .int 1, .int 3, .int 2, .int 4], .tup [.int 2, .int 1, .int 2, .int 3, .int 4, .int 2], .tup [.int 2, .int 1, .int 2, .int 3, .int 2, .int 4], .tup [.int 2, .int 1, .int 3, .int 2, .int 3, .int 4], .tup [.int 2, .int 3, .int 1, .int 2, .int 3, .int 4]]) = some (.lst rw34251) := by kernel_rfl
theorem br34251 (S : Sto) : f_l_braids_right [.lst rw34251] S = .ok (.bl true, S) := by kernel_rfl
def rw35142 : List PV := [.tup [.int 2, .int 1, .int 3, .int 4, .int 3, .int 2], .tup [.int 2, .int 1, .int 4, .int 3, .int 2, .int 4], .tup [.int 2, .int 1, .int 4, .int 3, .int 4, .int 2], .tup [.int 2, .int 3, .int 1, .int 4, .int 3, .int 2], .tup [.int 2, .int 3, .int 4, .int 1, .int 3, .int 2], .tup [.int 2, .int 3, .int 4, .int 3, .int 1, .int 2], .tup [.int 2, .int 4, .int 1, .int 3, .int 2, .int 4], .tup [.int 2, .int 4, .int 1, .int 3, .int 4, .int 2], .tup [.int 2, .int 4, .int 3, .int 1, .int 2, .int 4], .tup [.int 2, .int 4, .int 3, .int 1, .int 4, .int 2], .tup [.int 2, .int 4, .int 3, .int 4, .int 1, .int 2], .tup [.int 4, .int 2, .int 1, .int 3, .int 2, .int 4], .tup [.int 4, .int 2, .int 1, .int 3, .int 4, .int 2], .tup [.int 4, .int 2, .int 3, .int 1, .int 2, .int 4], .tup [.int 4, .int 2, .int 3, .int 1, .int 4, .int 2], .tup [.int 4, .int 2, .int 3, .int 4, .int 1, .int 2]]
theorem st35142 (S : Sto) : f_l_all_steps [.tup [.int 3, .int 5, .int 1, .int 4, .int 2]] S = .ok (.lst rw35142, S) := by kernel_rfl
theorem cn35142 (S : Sto) : f_count_of [.tup [.int 3, .int 5, .int 1, .int 4, .int 2]] S = .ok (.int 16, S) := by kernel_rfl
theorem ro35142 (S : Sto) : f_rows_of_order [.tup [.int 3, .int 5, .int 1, .int 4, .int 2]] S = .ok (.lst [.tup [.int 2, .int 3, .int 4, .int 3, .int 1, .int 2], .tup [.int 2, .int 3, .int 4, .int 1, .int 3, .int 2], .tup [.int 2, .int 3, .int 1, .int 4, .int 3, .int 2], .tup [.int 2, .int 4, .int 3, .int 4, .int 1, .int 2], .tup [.int 2, .int 4, .int 3, .int 1, .int 4, .int 2], .tup [.int 2, .int 4, .int 3, .int 1, .int 2, .int 4], .tup [.int 2, .int 4, .int 1, .int 3, .int 4, .int 2], .tup [.int 2, .int 4, .int 1, .int 3, .int 2, .int 4], .tup [.int 2, .int 1, .int 3, .int 4, .int 3, .int 2], .tup [.int 2, .int 1, .int 4, .int 3, .int 4, .int 2], .tup [.int 2, .int 1, .int 4, .int 3, .int 2, .int 4], .tup [.int 4, .int 2, .int 3, .int 4, .int 1, .int 2], .tup [.int 4, .int 2, .int 3, .int 1, .int 4, .int 2], .tup [.int 4, .int 2, .int 3, .int 1, .int 2, .int 4], .tup [.int 4, .int 2, .int 1, .int 3, .int 4, .int 2], .tup [.int 4, .int 2, .int 1, .int 3, .int 2, .int 4]], S) := by kernel_rfl
theorem so35142 : pSrt (.seq .int) (.lst [.tup [.int 2, .int 3, .int 4, .int 3, .int 1, .int 2], .tup [.int 2, .int 3, .int 4, .int 1, .int 3, .int 2], .tup [.int 2, .int 3, .int 1, .int 4, .int 3, .int 2], .tup [.int 2, .int 4, .int 3, .int 4, .int 1, .int 2], .tup [.int 2, .int 4, .int 3, .int 1, .int 4, .int 2], .tup [.int 2, .int 4, .int 3, .int 1, .int 2, .int 4], .tup [.int 2, .int 4, .int 1, .int 3, .int 4, .int 2], .tup [.int 2, .int 4, .int 1, .int 3, .int 2, .int 4], .tup [.int 2, .int 1, .int 3, .int 4, .int 3, .int 2], .tup [.int 2, .int 1, .int 4, .int 3, .int 4, .int 2], .tup [.int 2, .int 1, .int 4, .int 3, .int 2, .int 4], .tup [.int 4, .int 2, .int 3, .int 4, .int 1, .int 2], .tup [.int 4, .int 2, .int 3, .int 1, .int 4, .int 2], .tup [.int 4, .int 2, .int 3, .int 1, .int 2, .int 4], .tup [.int 4, .int 2, .int 1, .int 3, .int 4, .int 2], .tup [.int 4, .int 2, .int 1, .int 3, .int 2, .int 4]]) = some (.lst rw35142) := by kernel_rfl
theorem br35142 (S : Sto) : f_l_braids_right [.lst rw35142] S = .ok (.bl true, S) := by kernel_rfl
def rw4123 : List PV := [.tup [.int 3, .int 2, .int 1]]
theorem st4123 (S : Sto) : f_l_all_steps [.tup [.int 4, .int 1, .int 2, .int 3]] S = .ok (.lst rw4123, S) := by kernel_rfl
theorem cn4123 (S : Sto) : f_count_of [.tup [.int 4, .int 1, .int 2, .int 3]] S = .ok (.int 1, S) := by kernel_rfl
theorem ro4123 (S : Sto) : f_rows_of_order [.tup [.int 4, .int 1, .int 2, .int 3]] S = .ok (.lst [.tup [.int 3, .int 2, .int 1]], S) := by kernel_rfl
theorem so4123 : pSrt (.seq .int) (.lst [.tup [.int 3, .int 2, .int 1]]) = some (.lst rw4123) := by kernel_rfl
theorem br4123 (S : Sto) : f_l_braids_right [.lst rw4123] S = .ok (.bl true, S) := by kernel_rfl
def rw41253 : List PV := [.tup [.int 3, .int 2, .int 1, .int 4], .tup [.int 3, .int 2, .int 4, .int 1], .tup [.int 3, .int 4, .int 2, .int 1]]
theorem st41253 (S : Sto) : f_l_all_steps [.tup [.int 4, .int 1, .int 2, .int 5, .int 3]] S = .ok (.lst rw41253, S) := by kernel_rfl
theorem cn41253 (S : Sto) : f_count_of [.tup [.int 4, .int 1, .int 2, .int 5, .int 3]] S = .ok (.int 3, S) := by kernel_rfl
theorem ro41253 (S : Sto) : f_rows_of_order [.tup [.int 4, .int 1, .int 2, .int 5, .int 3]] S = .ok (.lst [.tup [.int 3, .int 4, .int 2, .int 1], .tup [.int 3, .int 2, .int 4, .int 1], .tup [.int 3, .int 2, .int 1, .int 4]], S) := by kernel_rfl
theorem so41253 : pSrt (.seq .int) (.lst [.tup [.int 3, .int 4, .int 2, .int 1], .tup [.int 3, .int 2, .int 4, .int 1], .tup [.int 3, .int 2, .int 1, .int 4]]) = some (.lst rw41253) := by kernel_rfl
theorem br41253 (S : Sto) : f_l_braids_right [.lst rw41253] S = .ok (.bl true, S) := by kernel_rfl
def rw42351 : List PV := [.tup [.int 1, .int 2, .int 3, .int 2, .int 1, .int 4], .tup [.int 1, .int 2, .int 3, .int 2, .int 4, .int 1], .tup [.int 1, .int 2, .int 3, .int 4, .int 2, .int 1], .tup [.int 1, .int 3, .int 2, .int 1, .int 3, .int 4], .tup [.int 1, .int 3, .int 2, .int 3, .int 1, .int 4], .tup [.int 1, .int 3, .int 2, .int 3, .int 4, .int 1], .tup [.int 3, .int 1, .int 2, .int 1, .int 3, .int 4], .tup [.int 3, .int 1, .int 2, .int 3, .int 1, .int 4], .tup [.int 3, .int 1, .int 2, .int 3, .int 4, .int 1], .tup [.int 3, .int 2, .int 1, .int 2, .int 3, .int 4]]
theorem st42351 (S : Sto) : f_l_all_steps [.tup [.int 4, .int 2, .int 3, .int 5, .int 1]] S = .ok (.lst rw42351, S) := by kernel_rfl
theorem cn42351 (S : Sto) : f_count_of [.tup [.int 4, .int 2, .int 3, .int 5, .int 1]] S = .ok (.int 10, S) := by kernel_rfl
theorem ro42351 (S : Sto) : f_rows_of_order [.tup [.int 4, .int 2, .int 3, .int 5, .int 1]] S = .ok (.lst [.tup [.int 1, .int 2, .int 3, .int 4, .int 2, .int 1], .tup [.int 1, .int 2, .int 3, .int 2, .int 4, .int 1], .tup [.int 1, .int 2, .int 3, .int 2, .int 1, .int 4], .tup [.int 1, .int 3, .int 2, .int 3, .int 4, .int 1], .tup [.int 1, .int 3, .int 2, .int 3, .int 1, .int 4], .tup [.int 1, .int 3, .int 2, .int 1, .int 3, .int 4], .tup [.int 3, .int 1, .int 2, .int 3, .int 4, .int 1], .tup [.int 3, .int 1, .int 2, .int 3, .int 1, .int 4], .tup [.int 3, .int 1, .int 2, .int 1, .int 3, .int 4], .tup [.int 3, .int 2, .int 1, .int 2, .int 3, .int 4]], S) := by kernel_rfl
theorem so42351 : pSrt (.seq .int) (.lst [.tup [.int 1, .int 2, .int 3, .int 4, .int 2, .int 1], .tup [.int 1, .int 2, .int 3, .int 2, .int 4, .int 1], .tup [.int 1, .int 2, .int 3, .int 2, .int 1, .int 4], .tup [.int 1, .int 3, .int 2, .int 3, .int 4, .int 1], .tup [.int 1, .int 3, .int 2, .int 3, .int 1, .int 4], .tup [.int 1, .int 3, .int 2, .int 1, .int 3, .int 4], .tup [.int 3, .int 1, .int 2, .int 3, .int 4, .int 1], .tup [.int 3, .int 1, .int 2, .int 3, .int 1, .int 4], .tup [.int 3, .int 1, .int 2, .int 1, .int 3, .int 4], .tup [.int 3, .int 2, .int 1, .int 2, .int 3, .int 4]]) = some (.lst rw42351) := by kernel_rfl
theorem br42351 (S : Sto) : f_l_braids_right [.lst rw42351] S = .ok (.bl true, S) := by kernel_rfl
def rw4312 : List PV := [.tup [.int 2, .int 1, .int 3, .int 2, .int 1], .tup [.int 2, .int 3, .int 1, .int 2, .int 1], .tup [.int 2, .int 3, .int 2, .int 1, .int 2], .tup [.int 3, .int 2, .int 1, .int 3, .int 2], .tup [.int 3, .int 2, .int 3, .int 1, .int 2]]
theorem st4312 (S : Sto) : f_l_all_steps [.tup [.int 4, .int 3, .int 1, .int 2]] S = .ok (.lst rw4312, S) := by kernel_rfl
theorem cn4312 (S : Sto) : f_count_of [.tup [.int 4, .int 3, .int 1, .int 2]] S = .ok (.int 5, S) := by kernel_rfl
theorem ro4312 (S : Sto) : f_rows_of_order [.tup [.int 4, .int 3, .int 1, .int 2]] S = .ok (.lst [.tup [.int 2, .int 3, .int 1, .int 2, .int 1], .tup [.int 2, .int 3, .int 2, .int 1, .int 2], .tup [.int 2, .int 1, .int 3, .int 2, .int 1], .tup [.int 3, .int 2, .int 3, .int 1, .int 2], .tup [.int 3, .int 2, .int 1, .int 3, .int 2]], S) := by kernel_rfl
theorem so4312 : pSrt (.seq .int) (.lst [.tup [.int 2, .int 3, .int 1, .int 2, .int 1], .tup [.int 2, .int 3, .int 2, .int 1, .int 2], .tup [.int 2, .int 1, .int 3, .int 2, .int 1], .tup [.int 3, .int 2, .int 3, .int 1, .int 2], .tup [.int 3, .int 2, .int 1, .int 3, .int 2]]) = some (.lst rw4312) := by kernel_rfl
theorem br4312 (S : Sto) : f_l_braids_right [.lst rw4312] S = .ok (.bl true, S) := by kernel_rfl
def rw43152 : List PV := [.tup [.int 2, .int 1, .int 3, .int 2, .int 1, .int 4], .tup [.int 2, .int 1, .int 3, .int 2, .int 4, .int 1], .tup [.int 2, .int 1, .int 3, .int 4, .int 2, .int 1], .tup [.int 2, .int 3, .int 1, .int 2, .int 1, .int 4], .tup [.int 2, .int 3, .int 1, .int 2, .int 4, .int 1], .tup [.int 2, .int 3, .int 1, .int 4, .int 2, .int 1], .tup [.int 2, .int 3, .int 2, .int 1, .int 2, .int 4], .tup [.int 2, .int 3, .int 2, .int 1, .int 4, .int 2], .tup [.int 2, .int 3, .int 2, .int 4, .int 1, .int 2], .tup [.int 2, .int 3, .int 4, .int 1, .int 2, .int 1], .tup [.int 2, .int 3, .int 4, .int 2, .int 1, .int 2], .tup [.int 3, .int 2, .int 1, .int 3, .int 2, .int 4], .tup [.int 3, .int 2, .int 1, .int 3, .int 4, .int 2], .tup [.int 3, .int 2, .int 3, .int 1, .int 2, .int 4], .tup [.int 3, .int 2, .int 3, .int 1, .int 4, .int 2], .tup [.int 3, .int 2, .int 3, .int 4, .int 1, .int 2]]
theorem st43152 (S : Sto) : f_l_all_steps [.tup [.int 4, .int 3, .int 1, .int 5, .int 2]] S = .ok (.lst rw43152, S) := by kernel_rfl
theorem cn43152 (S : Sto) : f_count_of [.tup [.int 4, .int 3, .int 1, .int 5, .int 2]] S = .ok (.int 16, S) := by kernel_rfl
theorem ro43152 (S : Sto) : f_rows_of_order [.tup [.int 4, .int 3, .int 1, .int 5, .int 2]] S = .ok (.lst [.tup [.int 2, .int 3, .int 4, .int 1, .int 2, .int 1], .tup [.int 2, .int 3, .int 4, .int 2, .int 1, .int 2], .tup [.int 2, .int 3, .int 1, .int 4, .int 2, .int 1], .tup [.int 2, .int 3, .int 1, .int 2, .int 4, .int 1], .tup [.int 2, .int 3, .int 1, .int 2, .int 1, .int 4], .tup [.int 2, .int 3, .int 2, .int 4, .int 1, .int 2], .tup [.int 2, .int 3, .int 2, .int 1, .int 4, .int 2], .tup [.int 2, .int 3, .int 2, .int 1, .int 2, .int 4], .tup [.int 2, .int 1, .int 3, .int 4, .int 2, .int 1], .tup [.int 2, .int 1, .int 3, .int 2, .int 4, .int 1], .tup [.int 2, .int 1, .int 3, .int 2, .int 1, .int 4], .tup [.int 3, .int 2, .int 3, .int 4, .int 1, .int 2], .tup [.int 3, .int 2, .int 3, .int 1, .int 4, .int 2], .tup [.int 3, .int 2, .int 3, .int 1, .int 2, .int 4], .tup [.int 3, .int 2, .int 1, .int 3, .int 4, .int 2], .tup [.int 3, .int 2, .int 1, .int 3, .int 2, .int 4]], S) := by kernel_rfl
theorem so43152 : pSrt (.seq .int) (.lst [.tup [.int 2, .int 3, .int 4, .int 1, .int 2, .int 1], .tup [.int 2, .int 3, .int 4, .int 2, .int 1, .int 2], .tup [.int 2, .int 3, .int 1, .int 4, .int 2, .int 1], .tup [.int 2, .int 3, .int 1, .int 2, .int 4, .int 1], .tup [.int 2, .int 3, .int 1, .int 2, .int 1, .int 4], .tup [.int 2, .int 3, .int 2, .int 4, .int 1, .int 2], .tup [.int 2, .int 3, .int 2, .int 1, .int 4, .int 2], .tup [.int 2, .int 3, .int 2, .int 1, .int 2, .int 4], .tup [.int 2, .int 1, .int 3, .int 4, .int 2, .int 1], .tup [.int 2, .int 1, .int 3, .int 2, .int 4, .int 1], .tup [.int 2, .int 1, .int 3, .int 2, .int 1, .int 4], .tup [.int 3, .int 2, .int 3, .int 4, .int 1, .int 2], .tup [.int 3, .int 2, .int 3, .int 1, .int 4, .int 2], .tup [.int 3, .int 2, .int 3, .int 1, .int 2, .int 4], .tup [.int 3, .int 2, .int 1, .int 3, .int 4, .int 2], .tup [.int 3, .int 2, .int 1, .int 3, .int 2, .int 4]]) = some (.lst rw43152) := by kernel_rfl
theorem br43152 (S : Sto) : f_l_braids_right [.lst rw43152] S = .ok (.bl true, S) := by kernel_rfl
def rw45123 : List PV := [.tup [.int 3, .int 2, .int 1, .int 4, .int 3, .int 2], .tup [.int 3, .int 2, .int 4, .int 1, .int 3, .int 2], .tup [.int 3, .int 2, .int 4, .int 3, .int 1, .int 2], .tup [.int 3, .int 4, .int 2, .int 1, .int 3, .int 2], .tup [.int 3, .int 4, .int 2, .int 3, .int 1, .int 2]]
theorem st45123 (S : Sto) : f_l_all_steps [.tup [.int 4, .int 5, .int 1, .int 2, .int 3]] S = .ok (.lst rw45123, S) := by kernel_rfl
theorem cn45123 (S : Sto) : f_count_of [.tup [.int 4, .int 5, .int 1, .int 2, .int 3]] S = .ok (.int 5, S) := by kernel_rfl
theorem ro45123 (S : Sto) : f_rows_of_order [.tup [.int 4, .int 5, .int 1, .int 2, .int 3]] S = .ok (.lst [.tup [.int 3, .int 4, .int 2, .int 3, .int 1, .int 2], .tup [.int 3, .int 4, .int 2, .int 1, .int 3, .int 2], .tup [.int 3, .int 2, .int 4, .int 3, .int 1, .int 2], .tup [.int 3, .int 2, .int 4, .int 1, .int 3, .int 2], .tup [.int 3, .int 2, .int 1, .int 4, .int 3, .int 2]], S) := by kernel_rfl
theorem so45123 : pSrt (.seq .int) (.lst [.tup [.int 3, .int 4, .int 2, .int 3, .int 1, .int 2], .tup [.int 3, .int 4, .int 2, .int 1, .int 3, .int 2], .tup [.int 3, .int 2, .int 4, .int 3, .int 1, .int 2], .tup [.int 3, .int 2, .int 4, .int 1, .int 3, .int 2], .tup [.int 3, .int 2, .int 1, .int 4, .int 3, .int 2]]) = some (.lst rw45123) := by kernel_rfl
theorem br45123 (S : Sto) : f_l_braids_right [.lst rw45123] S = .ok (.bl true, S) := by kernel_rfl
end K72
set_option Elab.async false
set_option maxRecDepth 100000
set_option maxHeartbeats 0
namespace K72
open PySem PySem.Spec PyProof.Rows L2 J
def ordB (w : List Nat) : Bool := decide (w.length ≤ 12) && (w.all (fun q => decide (1 ≤ q) && decide (q ≤ 12)) && decide (nsort w = List.range' 1 w.length))
theorem ord_of {w : List Nat} (h : ordB w = true) : Ord w := by
  simp only [ordB, Bool.and_eq_true, decide_eq_true_eq, List.all_eq_true] at h
  exact ⟨⟨h.1, h.2.1⟩, h.2.2⟩
def midB (w : List Nat) (R : List (List Nat)) : Bool := ordB w && (decide (0 < R.length) && (decide (R.length ≤ 2000) && (decide (inv w ≤ 12) &&
  (R.all (fun r => decide (r.length ≤ 8) && (r.all (fun q => decide (1 ≤ q) && decide (q < w.length)) && (red r && decide (wlk w.length r = w)))) &&
  (List.range' 1 (w.length - 1)).all fun k => ordB (swp w (k - 1)) && (decide (inv (swp w (k - 1)) = inv w + 1) || decide (inv (swp w (k - 1)) + 1 = inv w))))))
theorem Mid.of {w : List Nat} {R : List (List Nat)} {v : PV} {Rv L : List PV} {N : Int} (ev : tI w = v) (eR : R.map tI = Rv) (eN : (R.length : Int) = N) (h : midB w R = true) (st : ∀ S : Sto, f_l_all_steps [v] S = .ok (.lst Rv, S)) (cn : ∀ S : Sto, f_count_of [v] S = .ok (.int N, S)) (ro : ∀ S : Sto, f_rows_of_order [v] S = .ok (.lst L, S)) (so : pSrt (.seq .int) (.lst L) = some (.lst Rv)) (br : ∀ S : Sto, f_l_braids_right [.lst Rv] S = .ok (.bl true, S)) : Mid w R := by
  subst ev eR eN
  simp only [midB, Bool.and_eq_true, Bool.or_eq_true, decide_eq_true_eq, List.all_eq_true] at h
  obtain ⟨h1, h2, h3, h4, h5, h6⟩ := h
  exact ⟨ord_of h1, h2, h3, h4, st, cn, ⟨L, ro, so⟩, br, fun r hr => ⟨(h5 r hr).1, (h5 r hr).2.1, (h5 r hr).2.2.1, (h5 r hr).2.2.2⟩, fun k k1 k2 => ⟨ord_of (h6 k (List.mem_range'_1.mpr (by omega))).1, (h6 k (List.mem_range'_1.mpr (by omega))).2⟩⟩
theorem mid1 : ∃ R, Mid [1] R := ⟨[[]], Mid.of rfl (Rv := rw1) rfl rfl (by decide +kernel) st1 cn1 ro1 so1 br1⟩
theorem mid12 : ∃ R, Mid [1, 2] R := ⟨[[]], Mid.of rfl (Rv := rw12) rfl rfl (by decide +kernel) st12 cn12 ro12 so12 br12⟩
theorem mid21 : ∃ R, Mid [2, 1] R := ⟨[[1]], Mid.of rfl (Rv := rw21) rfl rfl (by decide +kernel) st21 cn21 ro21 so21 br21⟩
theorem mid123 : ∃ R, Mid [1, 2, 3] R := ⟨[[]], Mid.of rfl (Rv := rw123) rfl rfl (by decide +kernel) st123 cn123 ro123 so123 br123⟩
theorem mid132 : ∃ R, Mid [1, 3, 2] R := ⟨[[2]], Mid.of rfl (Rv := rw132) rfl rfl (by decide +kernel) st132 cn132 ro132 so132 br132⟩
theorem mid213 : ∃ R, Mid [2, 1, 3] R := ⟨[[1]], Mid.of rfl (Rv := rw213) rfl rfl (by decide +kernel) st213 cn213 ro213 so213 br213⟩
theorem mid231 : ∃ R, Mid [2, 3, 1] R := ⟨[[1, 2]], Mid.of rfl (Rv := rw231) rfl rfl (by decide +kernel) st231 cn231 ro231 so231 br231⟩
theorem mid312 : ∃ R, Mid [3, 1, 2] R := ⟨[[2, 1]], Mid.of rfl (Rv := rw312) rfl rfl (by decide +kernel) st312 cn312 ro312 so312 br312⟩
theorem mid321 : ∃ R, Mid [3, 2, 1] R := ⟨[[1, 2, 1], [2, 1, 2]], Mid.of rfl (Rv := rw321) rfl rfl (by decide +kernel) st321 cn321 ro321 so321 br321⟩
theorem mid1234 : ∃ R, Mid [1, 2, 3, 4] R := ⟨[[]], Mid.of rfl (Rv := rw1234) rfl rfl (by decide +kernel) st1234 cn1234 ro1234 so1234 br1234⟩
theorem mid1243 : ∃ R, Mid [1, 2, 4, 3] R := ⟨[[3]], Mid.of rfl (Rv := rw1243) rfl rfl (by decide +kernel) st1243 cn1243 ro1243 so1243 br1243⟩
theorem mid1324 : ∃ R, Mid [1, 3, 2, 4] R := ⟨[[2]], Mid.of rfl (Rv := rw1324) rfl rfl (by decide +kernel) st1324 cn1324 ro1324 so1324 br1324⟩
theorem mid1342 : ∃ R, Mid [1, 3, 4, 2] R := ⟨[[2, 3]], Mid.of rfl (Rv := rw1342) rfl rfl (by decide +kernel) st1342 cn1342 ro1342 so1342 br1342⟩
theorem mid1423 : ∃ R, Mid [1, 4, 2, 3] R := ⟨[[3, 2]], Mid.of rfl (Rv := rw1423) rfl rfl (by decide +kernel) st1423 cn1423 ro1423 so1423 br1423⟩
theorem mid1432 : ∃ R, Mid [1, 4, 3, 2] R := ⟨[[2, 3, 2], [3, 2, 3]], Mid.of rfl (Rv := rw1432) rfl rfl (by decide +kernel) st1432 cn1432 ro1432 so1432 br1432⟩
theorem mid2134 : ∃ R, Mid [2, 1, 3, 4] R := ⟨[[1]], Mid.of rfl (Rv := rw2134) rfl rfl (by decide +kernel) st2134 cn2134 ro2134 so2134 br2134⟩
theorem mid2143 : ∃ R, Mid [2, 1, 4, 3] R := ⟨[[1, 3], [3, 1]], Mid.of rfl (Rv := rw2143) rfl rfl (by decide +kernel) st2143 cn2143 ro2143 so2143 br2143⟩
theorem mid2314 : ∃ R, Mid [2, 3, 1, 4] R := ⟨[[1, 2]], Mid.of rfl (Rv := rw2314) rfl rfl (by decide +kernel) st2314 cn2314 ro2314 so2314 br2314⟩
theorem mid2341 : ∃ R, Mid [2, 3, 4, 1] R := ⟨[[1, 2, 3]], Mid.of rfl (Rv := rw2341) rfl rfl (by decide +kernel) st2341 cn2341 ro2341 so2341 br2341⟩
theorem mid2413 : ∃ R, Mid [2, 4, 1, 3] R := ⟨[[1, 3, 2], [3, 1, 2]], Mid.of rfl (Rv := rw2413) rfl rfl (by decide +kernel) st2413 cn2413 ro2413 so2413 br2413⟩
theorem mid2431 : ∃ R, Mid [2, 4, 3, 1] R := ⟨[[1, 2, 3, 2], [1, 3, 2, 3], [3, 1, 2, 3]], Mid.of rfl (Rv := rw2431) rfl rfl (by decide +kernel) st2431 cn2431 ro2431 so2431 br2431⟩
theorem mid3124 : ∃ R, Mid [3, 1, 2, 4] R := ⟨[[2, 1]], Mid.of rfl (Rv := rw3124) rfl rfl (by decide +kernel) st3124 cn3124 ro3124 so3124 br3124⟩
theorem mid3142 : ∃ R, Mid [3, 1, 4, 2] R := ⟨[[2, 1, 3], [2, 3, 1]], Mid.of rfl (Rv := rw3142) rfl rfl (by decide +kernel) st3142 cn3142 ro3142 so3142 br3142⟩
theorem mid3214 : ∃ R, Mid [3, 2, 1, 4] R := ⟨[[1, 2, 1], [2, 1, 2]], Mid.of rfl (Rv := rw3214) rfl rfl (by decide +kernel) st3214 cn3214 ro3214 so3214 br3214⟩
theorem mid3241 : ∃ R, Mid [3, 2, 4, 1] R := ⟨[[1, 2, 1, 3], [1, 2, 3, 1], [2, 1, 2, 3]], Mid.of rfl (Rv := rw3241) rfl rfl (by decide +kernel) st3241 cn3241 ro3241 so3241 br3241⟩
theorem mid3412 : ∃ R, Mid [3, 4, 1, 2] R := ⟨[[2, 1, 3, 2], [2, 3, 1, 2]], Mid.of rfl (Rv := rw3412) rfl rfl (by decide +kernel) st3412 cn3412 ro3412 so3412 br3412⟩
theorem mid3421 : ∃ R, Mid [3, 4, 2, 1] R := ⟨[[1, 2, 1, 3, 2], [1, 2, 3, 1, 2], [2, 1, 2, 3, 2], [2, 1, 3, 2, 3], [2, 3, 1, 2, 3]], Mid.of rfl (Rv := rw3421) rfl rfl (by decide +kernel) st3421 cn3421 ro3421 so3421 br3421⟩
theorem mid4123 : ∃ R, Mid [4, 1, 2, 3] R := ⟨[[3, 2, 1]], Mid.of rfl (Rv := rw4123) rfl rfl (by decide +kernel) st4123 cn4123 ro4123 so4123 br4123⟩
theorem mid4132 : ∃ R, Mid [4, 1, 3, 2] R := ⟨[[2, 3, 2, 1], [3, 2, 1, 3], [3, 2, 3, 1]], Mid.of rfl (Rv := rw4132) rfl rfl (by decide +kernel) st4132 cn4132 ro4132 so4132 br4132⟩
theorem mid4213 : ∃ R, Mid [4, 2, 1, 3] R := ⟨[[1, 3, 2, 1], [3, 1, 2, 1], [3, 2, 1, 2]], Mid.of rfl (Rv := rw4213) rfl rfl (by decide +kernel) st4213 cn4213 ro4213 so4213 br4213⟩
theorem mid4231 : ∃ R, Mid [4, 2, 3, 1] R := ⟨[[1, 2, 3, 2, 1], [1, 3, 2, 1, 3], [1, 3, 2, 3, 1], [3, 1, 2, 1, 3], [3, 1, 2, 3, 1], [3, 2, 1, 2, 3]], Mid.of rfl (Rv := rw4231) rfl rfl (by decide +kernel) st4231 cn4231 ro4231 so4231 br4231⟩
theorem mid4312 : ∃ R, Mid [4, 3, 1, 2] R := ⟨[[2, 1, 3, 2, 1], [2, 3, 1, 2, 1], [2, 3, 2, 1, 2], [3, 2, 1, 3, 2], [3, 2, 3, 1, 2]], Mid.of rfl (Rv := rw4312) rfl rfl (by decide +kernel) st4312 cn4312 ro4312 so4312 br4312⟩
theorem mid4321 : ∃ R, Mid [4, 3, 2, 1] R := ⟨[[1, 2, 1, 3, 2, 1], [1, 2, 3, 1, 2, 1], [1, 2, 3, 2, 1, 2], [1, 3, 2, 1, 3, 2], [1, 3, 2, 3, 1, 2], [2, 1, 2, 3, 2, 1], [2, 1, 3, 2, 1, 3], [2, 1, 3, 2, 3, 1], [2, 3, 1, 2, 1, 3], [2, 3, 1, 2, 3, 1], [2, 3, 2, 1, 2, 3], [3, 1, 2, 1, 3, 2], [3, 1, 2, 3, 1, 2], [3, 2, 1, 2, 3, 2], [3, 2, 1, 3, 2, 3], [3, 2, 3, 1, 2, 3]], Mid.of rfl (Rv := rw4321) rfl rfl (by decide +kernel) st4321 cn4321 ro4321 so4321 br4321⟩
theorem mid12345 : ∃ R, Mid [1, 2, 3, 4, 5] R := ⟨[[]], Mid.of rfl (Rv := rw12345) rfl rfl (by decide +kernel) st12345 cn12345 ro12345 so12345 br12345⟩
theorem mid12354 : ∃ R, Mid [1, 2, 3, 5, 4] R := ⟨[[4]], Mid.of rfl (Rv := rw12354) rfl rfl (by decide +kernel) st12354 cn12354 ro12354 so12354 br12354⟩
theorem mid12435 : ∃ R, Mid [1, 2, 4, 3, 5] R := ⟨[[3]], Mid.of rfl (Rv := rw12435) rfl rfl (by decide +kernel) st12435 cn12435 ro12435 so12435 br12435⟩
theorem mid12453 : ∃ R, Mid [1, 2, 4, 5, 3] R := ⟨[[3, 4]], Mid.of rfl (Rv := rw12453) rfl rfl (by decide +kernel) st12453 cn12453 ro12453 so12453 br12453⟩
theorem mid12534 : ∃ R, Mid [1, 2, 5, 3, 4] R := ⟨[[4, 3]], Mid.of rfl (Rv := rw12534) rfl rfl (by decide +kernel) st12534 cn12534 ro12534 so12534 br12534⟩
theorem mid12543 : ∃ R, Mid [1, 2, 5, 4, 3] R := ⟨[[3, 4, 3], [4, 3, 4]], Mid.of rfl (Rv := rw12543) rfl rfl (by decide +kernel) st12543 cn12543 ro12543 so12543 br12543⟩
theorem mid13245 : ∃ R, Mid [1, 3, 2, 4, 5] R := ⟨[[2]], Mid.of rfl (Rv := rw13245) rfl rfl (by decide +kernel) st13245 cn13245 ro13245 so13245 br13245⟩
theorem mid13254 : ∃ R, Mid [1, 3, 2, 5, 4] R := ⟨[[2, 4], [4, 2]], Mid.of rfl (Rv := rw13254) rfl rfl (by decide +kernel) st13254 cn13254 ro13254 so13254 br13254⟩
theorem mid13425 : ∃ R, Mid [1, 3, 4, 2, 5] R := ⟨[[2, 3]], Mid.of rfl (Rv := rw13425) rfl rfl (by decide +kernel) st13425 cn13425 ro13425 so13425 br13425⟩
theorem mid13452 : ∃ R, Mid [1, 3, 4, 5, 2] R := ⟨[[2, 3, 4]], Mid.of rfl (Rv := rw13452) rfl rfl (by decide +kernel) st13452 cn13452 ro13452 so13452 br13452⟩
theorem mid13524 : ∃ R, Mid [1, 3, 5, 2, 4] R := ⟨[[2, 4, 3], [4, 2, 3]], Mid.of rfl (Rv := rw13524) rfl rfl (by decide +kernel) st13524 cn13524 ro13524 so13524 br13524⟩
theorem mid13542 : ∃ R, Mid [1, 3, 5, 4, 2] R := ⟨[[2, 3, 4, 3], [2, 4, 3, 4], [4, 2, 3, 4]], Mid.of rfl (Rv := rw13542) rfl rfl (by decide +kernel) st13542 cn13542 ro13542 so13542 br13542⟩
theorem mid14235 : ∃ R, Mid [1, 4, 2, 3, 5] R := ⟨[[3, 2]], Mid.of rfl (Rv := rw14235) rfl rfl (by decide +kernel) st14235 cn14235 ro14235 so14235 br14235⟩
theorem mid14253 : ∃ R, Mid [1, 4, 2, 5, 3] R := ⟨[[3, 2, 4], [3, 4, 2]], Mid.of rfl (Rv := rw14253) rfl rfl (by decide +kernel) st14253 cn14253 ro14253 so14253 br14253⟩
theorem mid14325 : ∃ R, Mid [1, 4, 3, 2, 5] R := ⟨[[2, 3, 2], [3, 2, 3]], Mid.of rfl (Rv := rw14325) rfl rfl (by decide +kernel) st14325 cn14325 ro14325 so14325 br14325⟩
theorem mid14352 : ∃ R, Mid [1, 4, 3, 5, 2] R := ⟨[[2, 3, 2, 4], [2, 3, 4, 2], [3, 2, 3, 4]], Mid.of rfl (Rv := rw14352) rfl rfl (by decide +kernel) st14352 cn14352 ro14352 so14352 br14352⟩
theorem mid14523 : ∃ R, Mid [1, 4, 5, 2, 3] R := ⟨[[3, 2, 4, 3], [3, 4, 2, 3]], Mid.of rfl (Rv := rw14523) rfl rfl (by decide +kernel) st14523 cn14523 ro14523 so14523 br14523⟩
theorem mid14532 : ∃ R, Mid [1, 4, 5, 3, 2] R := ⟨[[2, 3, 2, 4, 3], [2, 3, 4, 2, 3], [3, 2, 3, 4, 3], [3, 2, 4, 3, 4], [3, 4, 2, 3, 4]], Mid.of rfl (Rv := rw14532) rfl rfl (by decide +kernel) st14532 cn14532 ro14532 so14532 br14532⟩
theorem mid15234 : ∃ R, Mid [1, 5, 2, 3, 4] R := ⟨[[4, 3, 2]], Mid.of rfl (Rv := rw15234) rfl rfl (by decide +kernel) st15234 cn15234 ro15234 so15234 br15234⟩
theorem mid15243 : ∃ R, Mid [1, 5, 2, 4, 3] R := ⟨[[3, 4, 3, 2], [4, 3, 2, 4], [4, 3, 4, 2]], Mid.of rfl (Rv := rw15243) rfl rfl (by decide +kernel) st15243 cn15243 ro15243 so15243 br15243⟩
theorem mid15324 : ∃ R, Mid [1, 5, 3, 2, 4] R := ⟨[[2, 4, 3, 2], [4, 2, 3, 2], [4, 3, 2, 3]], Mid.of rfl (Rv := rw15324) rfl rfl (by decide +kernel) st15324 cn15324 ro15324 so15324 br15324⟩
theorem mid15342 : ∃ R, Mid [1, 5, 3, 4, 2] R := ⟨[[2, 3, 4, 3, 2], [2, 4, 3, 2, 4], [2, 4, 3, 4, 2], [4, 2, 3, 2, 4], [4, 2, 3, 4, 2], [4, 3, 2, 3, 4]], Mid.of rfl (Rv := rw15342) rfl rfl (by decide +kernel) st15342 cn15342 ro15342 so15342 br15342⟩
theorem mid15423 : ∃ R, Mid [1, 5, 4, 2, 3] R := ⟨[[3, 2, 4, 3, 2], [3, 4, 2, 3, 2], [3, 4, 3, 2, 3], [4, 3, 2, 4, 3], [4, 3, 4, 2, 3]], Mid.of rfl (Rv := rw15423) rfl rfl (by decide +kernel) st15423 cn15423 ro15423 so15423 br15423⟩
theorem mid15432 : ∃ R, Mid [1, 5, 4, 3, 2] R := ⟨[[2, 3, 2, 4, 3, 2], [2, 3, 4, 2, 3, 2], [2, 3, 4, 3, 2, 3], [2, 4, 3, 2, 4, 3], [2, 4, 3, 4, 2, 3], [3, 2, 3, 4, 3, 2], [3, 2, 4, 3, 2, 4], [3, 2, 4, 3, 4, 2], [3, 4, 2, 3, 2, 4], [3, 4, 2, 3, 4, 2], [3, 4, 3, 2, 3, 4], [4, 2, 3, 2, 4, 3], [4, 2, 3, 4, 2, 3], [4, 3, 2, 3, 4, 3], [4, 3, 2, 4, 3, 4], [4, 3, 4, 2, 3, 4]], Mid.of rfl (Rv := rw15432) rfl rfl (by decide +kernel) st15432 cn15432 ro15432 so15432 br15432⟩
theorem mid21345 : ∃ R, Mid [2, 1, 3, 4, 5] R := ⟨[[1]], Mid.of rfl (Rv := rw21345) rfl rfl (by decide +kernel) st21345 cn21345 ro21345 so21345 br21345⟩
theorem mid21354 : ∃ R, Mid [2, 1, 3, 5, 4] R := ⟨[[1, 4], [4, 1]], Mid.of rfl (Rv := rw21354) rfl rfl (by decide +kernel) st21354 cn21354 ro21354 so21354 br21354⟩
theorem mid21435 : ∃ R, Mid [2, 1, 4, 3, 5] R := ⟨[[1, 3], [3, 1]], Mid.of rfl (Rv := rw21435) rfl rfl (by decide +kernel) st21435 cn21435 ro21435 so21435 br21435⟩
theorem mid21453 : ∃ R, Mid [2, 1, 4, 5, 3] R := ⟨[[1, 3, 4], [3, 1, 4], [3, 4, 1]], Mid.of rfl (Rv := rw21453) rfl rfl (by decide +kernel) st21453 cn21453 ro21453 so21453 br21453⟩
theorem mid21534 : ∃ R, Mid [2, 1, 5, 3, 4] R := ⟨[[1, 4, 3], [4, 1, 3], [4, 3, 1]], Mid.of rfl (Rv := rw21534) rfl rfl (by decide +kernel) st21534 cn21534 ro21534 so21534 br21534⟩
theorem mid21543 : ∃ R, Mid [2, 1, 5, 4, 3] R := ⟨[[1, 3, 4, 3], [1, 4, 3, 4], [3, 1, 4, 3], [3, 4, 1, 3], [3, 4, 3, 1], [4, 1, 3, 4], [4, 3, 1, 4], [4, 3, 4, 1]], Mid.of rfl (Rv := rw21543) rfl rfl (by decide +kernel) st21543 cn21543 ro21543 so21543 br21543⟩
theorem mid23145 : ∃ R, Mid [2, 3, 1, 4, 5] R := ⟨[[1, 2]], Mid.of rfl (Rv := rw23145) rfl rfl (by decide +kernel) st23145 cn23145 ro23145 so23145 br23145⟩
theorem mid23154 : ∃ R, Mid [2, 3, 1, 5, 4] R := ⟨[[1, 2, 4], [1, 4, 2], [4, 1, 2]], Mid.of rfl (Rv := rw23154) rfl rfl (by decide +kernel) st23154 cn23154 ro23154 so23154 br23154⟩
theorem mid23415 : ∃ R, Mid [2, 3, 4, 1, 5] R := ⟨[[1, 2, 3]], Mid.of rfl (Rv := rw23415) rfl rfl (by decide +kernel) st23415 cn23415 ro23415 so23415 br23415⟩
theorem mid23451 : ∃ R, Mid [2, 3, 4, 5, 1] R := ⟨[[1, 2, 3, 4]], Mid.of rfl (Rv := rw23451) rfl rfl (by decide +kernel) st23451 cn23451 ro23451 so23451 br23451⟩
theorem mid23514 : ∃ R, Mid [2, 3, 5, 1, 4] R := ⟨[[1, 2, 4, 3], [1, 4, 2, 3], [4, 1, 2, 3]], Mid.of rfl (Rv := rw23514) rfl rfl (by decide +kernel) st23514 cn23514 ro23514 so23514 br23514⟩
theorem mid23541 : ∃ R, Mid [2, 3, 5, 4, 1] R := ⟨[[1, 2, 3, 4, 3], [1, 2, 4, 3, 4], [1, 4, 2, 3, 4], [4, 1, 2, 3, 4]], Mid.of rfl (Rv := rw23541) rfl rfl (by decide +kernel) st23541 cn23541 ro23541 so23541 br23541⟩
theorem mid24135 : ∃ R, Mid [2, 4, 1, 3, 5] R := ⟨[[1, 3, 2], [3, 1, 2]], Mid.of rfl (Rv := rw24135) rfl rfl (by decide +kernel) st24135 cn24135 ro24135 so24135 br24135⟩
theorem mid24153 : ∃ R, Mid [2, 4, 1, 5, 3] R := ⟨[[1, 3, 2, 4], [1, 3, 4, 2], [3, 1, 2, 4], [3, 1, 4, 2], [3, 4, 1, 2]], Mid.of rfl (Rv := rw24153) rfl rfl (by decide +kernel) st24153 cn24153 ro24153 so24153 br24153⟩
theorem mid24315 : ∃ R, Mid [2, 4, 3, 1, 5] R := ⟨[[1, 2, 3, 2], [1, 3, 2, 3], [3, 1, 2, 3]], Mid.of rfl (Rv := rw24315) rfl rfl (by decide +kernel) st24315 cn24315 ro24315 so24315 br24315⟩
theorem mid24351 : ∃ R, Mid [2, 4, 3, 5, 1] R := ⟨[[1, 2, 3, 2, 4], [1, 2, 3, 4, 2], [1, 3, 2, 3, 4], [3, 1, 2, 3, 4]], Mid.of rfl (Rv := rw24351) rfl rfl (by decide +kernel) st24351 cn24351 ro24351 so24351 br24351⟩
theorem mid24513 : ∃ R, Mid [2, 4, 5, 1, 3] R := ⟨[[1, 3, 2, 4, 3], [1, 3, 4, 2, 3], [3, 1, 2, 4, 3], [3, 1, 4, 2, 3], [3, 4, 1, 2, 3]], Mid.of rfl (Rv := rw24513) rfl rfl (by decide +kernel) st24513 cn24513 ro24513 so24513 br24513⟩
theorem mid24531 : ∃ R, Mid [2, 4, 5, 3, 1] R := ⟨[[1, 2, 3, 2, 4, 3], [1, 2, 3, 4, 2, 3], [1, 3, 2, 3, 4, 3], [1, 3, 2, 4, 3, 4], [1, 3, 4, 2, 3, 4], [3, 1, 2, 3, 4, 3], [3, 1, 2, 4, 3, 4], [3, 1, 4, 2, 3, 4], [3, 4, 1, 2, 3, 4]], Mid.of rfl (Rv := rw24531) rfl rfl (by decide +kernel) st24531 cn24531 ro24531 so24531 br24531⟩
theorem mid25134 : ∃ R, Mid [2, 5, 1, 3, 4] R := ⟨[[1, 4, 3, 2], [4, 1, 3, 2], [4, 3, 1, 2]], Mid.of rfl (Rv := rw25134) rfl rfl (by decide +kernel) st25134 cn25134 ro25134 so25134 br25134⟩
theorem mid25143 : ∃ R, Mid [2, 5, 1, 4, 3] R := ⟨[[1, 3, 4, 3, 2], [1, 4, 3, 2, 4], [1, 4, 3, 4, 2], [3, 1, 4, 3, 2], [3, 4, 1, 3, 2], [3, 4, 3, 1, 2], [4, 1, 3, 2, 4], [4, 1, 3, 4, 2], [4, 3, 1, 2, 4], [4, 3, 1, 4, 2], [4, 3, 4, 1, 2]], Mid.of rfl (Rv := rw25143) rfl rfl (by decide +kernel) st25143 cn25143 ro25143 so25143 br25143⟩
theorem mid25314 : ∃ R, Mid [2, 5, 3, 1, 4] R := ⟨[[1, 2, 4, 3, 2], [1, 4, 2, 3, 2], [1, 4, 3, 2, 3], [4, 1, 2, 3, 2], [4, 1, 3, 2, 3], [4, 3, 1, 2, 3]], Mid.of rfl (Rv := rw25314) rfl rfl (by decide +kernel) st25314 cn25314 ro25314 so25314 br25314⟩
theorem mid25341 : ∃ R, Mid [2, 5, 3, 4, 1] R := ⟨[[1, 2, 3, 4, 3, 2], [1, 2, 4, 3, 2, 4], [1, 2, 4, 3, 4, 2], [1, 4, 2, 3, 2, 4], [1, 4, 2, 3, 4, 2], [1, 4, 3, 2, 3, 4], [4, 1, 2, 3, 2, 4], [4, 1, 2, 3, 4, 2], [4, 1, 3, 2, 3, 4], [4, 3, 1, 2, 3, 4]], Mid.of rfl (Rv := rw25341) rfl rfl (by decide +kernel) st25341 cn25341 ro25341 so25341 br25341⟩
theorem mid25413 : ∃ R, Mid [2, 5, 4, 1, 3] R := ⟨[[1, 3, 2, 4, 3, 2], [1, 3, 4, 2, 3, 2], [1, 3, 4, 3, 2, 3], [1, 4, 3, 2, 4, 3], [1, 4, 3, 4, 2, 3], [3, 1, 2, 4, 3, 2], [3, 1, 4, 2, 3, 2], [3, 1, 4, 3, 2, 3], [3, 4, 1, 2, 3, 2], [3, 4, 1, 3, 2, 3], [3, 4, 3, 1, 2, 3], [4, 1, 3, 2, 4, 3], [4, 1, 3, 4, 2, 3], [4, 3, 1, 2, 4, 3], [4, 3, 1, 4, 2, 3], [4, 3, 4, 1, 2, 3]], Mid.of rfl (Rv := rw25413) rfl rfl (by decide +kernel) st25413 cn25413 ro25413 so25413 br25413⟩
theorem mid31245 : ∃ R, Mid [3, 1, 2, 4, 5] R := ⟨[[2, 1]], Mid.of rfl (Rv := rw31245) rfl rfl (by decide +kernel) st31245 cn31245 ro31245 so31245 br31245⟩
theorem mid31254 : ∃ R, Mid [3, 1, 2, 5, 4] R := ⟨[[2, 1, 4], [2, 4, 1], [4, 2, 1]], Mid.of rfl (Rv := rw31254) rfl rfl (by decide +kernel) st31254 cn31254 ro31254 so31254 br31254⟩
theorem mid31425 : ∃ R, Mid [3, 1, 4, 2, 5] R := ⟨[[2, 1, 3], [2, 3, 1]], Mid.of rfl (Rv := rw31425) rfl rfl (by decide +kernel) st31425 cn31425 ro31425 so31425 br31425⟩
theorem mid31452 : ∃ R, Mid [3, 1, 4, 5, 2] R := ⟨[[2, 1, 3, 4], [2, 3, 1, 4], [2, 3, 4, 1]], Mid.of rfl (Rv := rw31452) rfl rfl (by decide +kernel) st31452 cn31452 ro31452 so31452 br31452⟩
theorem mid31524 : ∃ R, Mid [3, 1, 5, 2, 4] R := ⟨[[2, 1, 4, 3], [2, 4, 1, 3], [2, 4, 3, 1], [4, 2, 1, 3], [4, 2, 3, 1]], Mid.of rfl (Rv := rw31524) rfl rfl (by decide +kernel) st31524 cn31524 ro31524 so31524 br31524⟩
theorem mid31542 : ∃ R, Mid [3, 1, 5, 4, 2] R := ⟨[[2, 1, 3, 4, 3], [2, 1, 4, 3, 4], [2, 3, 1, 4, 3], [2, 3, 4, 1, 3], [2, 3, 4, 3, 1], [2, 4, 1, 3, 4], [2, 4, 3, 1, 4], [2, 4, 3, 4, 1], [4, 2, 1, 3, 4], [4, 2, 3, 1, 4], [4, 2, 3, 4, 1]], Mid.of rfl (Rv := rw31542) rfl rfl (by decide +kernel) st31542 cn31542 ro31542 so31542 br31542⟩
theorem mid32145 : ∃ R, Mid [3, 2, 1, 4, 5] R := ⟨[[1, 2, 1], [2, 1, 2]], Mid.of rfl (Rv := rw32145) rfl rfl (by decide +kernel) st32145 cn32145 ro32145 so32145 br32145⟩
theorem mid32154 : ∃ R, Mid [3, 2, 1, 5, 4] R := ⟨[[1, 2, 1, 4], [1, 2, 4, 1], [1, 4, 2, 1], [2, 1, 2, 4], [2, 1, 4, 2], [2, 4, 1, 2], [4, 1, 2, 1], [4, 2, 1, 2]], Mid.of rfl (Rv := rw32154) rfl rfl (by decide +kernel) st32154 cn32154 ro32154 so32154 br32154⟩
theorem mid32415 : ∃ R, Mid [3, 2, 4, 1, 5] R := ⟨[[1, 2, 1, 3], [1, 2, 3, 1], [2, 1, 2, 3]], Mid.of rfl (Rv := rw32415) rfl rfl (by decide +kernel) st32415 cn32415 ro32415 so32415 br32415⟩
theorem mid32451 : ∃ R, Mid [3, 2, 4, 5, 1] R := ⟨[[1, 2, 1, 3, 4], [1, 2, 3, 1, 4], [1, 2, 3, 4, 1], [2, 1, 2, 3, 4]], Mid.of rfl (Rv := rw32451) rfl rfl (by decide +kernel) st32451 cn32451 ro32451 so32451 br32451⟩
theorem mid32514 : ∃ R, Mid [3, 2, 5, 1, 4] R := ⟨[[1, 2, 1, 4, 3], [1, 2, 4, 1, 3], [1, 2, 4, 3, 1], [1, 4, 2, 1, 3], [1, 4, 2, 3, 1], [2, 1, 2, 4, 3], [2, 1, 4, 2, 3], [2, 4, 1, 2, 3], [4, 1, 2, 1, 3], [4, 1, 2, 3, 1], [4, 2, 1, 2, 3]], Mid.of rfl (Rv := rw32514) rfl rfl (by decide +kernel) st32514 cn32514 ro32514 so32514 br32514⟩
theorem mid32541 : ∃ R, Mid [3, 2, 5, 4, 1] R := ⟨[[1, 2, 1, 3, 4, 3], [1, 2, 1, 4, 3, 4], [1, 2, 3, 1, 4, 3], [1, 2, 3, 4, 1, 3], [1, 2, 3, 4, 3, 1], [1, 2, 4, 1, 3, 4], [1, 2, 4, 3, 1, 4], [1, 2, 4, 3, 4, 1], [1, 4, 2, 1, 3, 4], [1, 4, 2, 3, 1, 4], [1, 4, 2, 3, 4, 1], [2, 1, 2, 3, 4, 3], [2, 1, 2, 4, 3, 4], [2, 1, 4, 2, 3, 4], [2, 4, 1, 2, 3, 4], [4, 1, 2, 1, 3, 4], [4, 1, 2, 3, 1, 4], [4, 1, 2, 3, 4, 1], [4, 2, 1, 2, 3, 4]], Mid.of rfl (Rv := rw32541) rfl rfl (by decide +kernel) st32541 cn32541 ro32541 so32541 br32541⟩
theorem mid34125 : ∃ R, Mid [3, 4, 1, 2, 5] R := ⟨[[2, 1, 3, 2], [2, 3, 1, 2]], Mid.of rfl (Rv := rw34125) rfl rfl (by decide +kernel) st34125 cn34125 ro34125 so34125 br34125⟩
theorem mid34152 : ∃ R, Mid [3, 4, 1, 5, 2] R := ⟨[[2, 1, 3, 2, 4], [2, 1, 3, 4, 2], [2, 3, 1, 2, 4], [2, 3, 1, 4, 2], [2, 3, 4, 1, 2]], Mid.of rfl (Rv := rw34152) rfl rfl (by decide +kernel) st34152 cn34152 ro34152 so34152 br34152⟩
theorem mid34215 : ∃ R, Mid [3, 4, 2, 1, 5] R := ⟨[[1, 2, 1, 3, 2], [1, 2, 3, 1, 2], [2, 1, 2, 3, 2], [2, 1, 3, 2, 3], [2, 3, 1, 2, 3]], Mid.of rfl (Rv := rw34215) rfl rfl (by decide +kernel) st34215 cn34215 ro34215 so34215 br34215⟩
theorem mid34251 : ∃ R, Mid [3, 4, 2, 5, 1] R := ⟨[[1, 2, 1, 3, 2, 4], [1, 2, 1, 3, 4, 2], [1, 2, 3, 1, 2, 4], [1, 2, 3, 1, 4, 2], [1, 2, 3, 4, 1, 2], [2, 1, 2, 3, 2, 4], [2, 1, 2, 3, 4, 2], [2, 1, 3, 2, 3, 4], [2, 3, 1, 2, 3, 4]], Mid.of rfl (Rv := rw34251) rfl rfl (by decide +kernel) st34251 cn34251 ro34251 so34251 br34251⟩
theorem mid34512 : ∃ R, Mid [3, 4, 5, 1, 2] R := ⟨[[2, 1, 3, 2, 4, 3], [2, 1, 3, 4, 2, 3], [2, 3, 1, 2, 4, 3], [2, 3, 1, 4, 2, 3], [2, 3, 4, 1, 2, 3]], Mid.of rfl (Rv := rw34512) rfl rfl (by decide +kernel) st34512 cn34512 ro34512 so34512 br34512⟩
theorem mid35124 : ∃ R, Mid [3, 5, 1, 2, 4] R := ⟨[[2, 1, 4, 3, 2], [2, 4, 1, 3, 2], [2, 4, 3, 1, 2], [4, 2, 1, 3, 2], [4, 2, 3, 1, 2]], Mid.of rfl (Rv := rw35124) rfl rfl (by decide +kernel) st35124 cn35124 ro35124 so35124 br35124⟩
theorem mid35142 : ∃ R, Mid [3, 5, 1, 4, 2] R := ⟨[[2, 1, 3, 4, 3, 2], [2, 1, 4, 3, 2, 4], [2, 1, 4, 3, 4, 2], [2, 3, 1, 4, 3, 2], [2, 3, 4, 1, 3, 2], [2, 3, 4, 3, 1, 2], [2, 4, 1, 3, 2, 4], [2, 4, 1, 3, 4, 2], [2, 4, 3, 1, 2, 4], [2, 4, 3, 1, 4, 2], [2, 4, 3, 4, 1, 2], [4, 2, 1, 3, 2, 4], [4, 2, 1, 3, 4, 2], [4, 2, 3, 1, 2, 4], [4, 2, 3, 1, 4, 2], [4, 2, 3, 4, 1, 2]], Mid.of rfl (Rv := rw35142) rfl rfl (by decide +kernel) st35142 cn35142 ro35142 so35142 br35142⟩
theorem mid35214 : ∃ R, Mid [3, 5, 2, 1, 4] R := ⟨[[1, 2, 1, 4, 3, 2], [1, 2, 4, 1, 3, 2], [1, 2, 4, 3, 1, 2], [1, 4, 2, 1, 3, 2], [1, 4, 2, 3, 1, 2], [2, 1, 2, 4, 3, 2], [2, 1, 4, 2, 3, 2], [2, 1, 4, 3, 2, 3], [2, 4, 1, 2, 3, 2], [2, 4, 1, 3, 2, 3], [2, 4, 3, 1, 2, 3], [4, 1, 2, 1, 3, 2], [4, 1, 2, 3, 1, 2], [4, 2, 1, 2, 3, 2], [4, 2, 1, 3, 2, 3], [4, 2, 3, 1, 2, 3]], Mid.of rfl (Rv := rw35214) rfl rfl (by decide +kernel) st35214 cn35214 ro35214 so35214 br35214⟩
theorem mid41235 : ∃ R, Mid [4, 1, 2, 3, 5] R := ⟨[[3, 2, 1]], Mid.of rfl (Rv := rw41235) rfl rfl (by decide +kernel) st41235 cn41235 ro41235 so41235 br41235⟩
theorem mid41253 : ∃ R, Mid [4, 1, 2, 5, 3] R := ⟨[[3, 2, 1, 4], [3, 2, 4, 1], [3, 4, 2, 1]], Mid.of rfl (Rv := rw41253) rfl rfl (by decide +kernel) st41253 cn41253 ro41253 so41253 br41253⟩
theorem mid41325 : ∃ R, Mid [4, 1, 3, 2, 5] R := ⟨[[2, 3, 2, 1], [3, 2, 1, 3], [3, 2, 3, 1]], Mid.of rfl (Rv := rw41325) rfl rfl (by decide +kernel) st41325 cn41325 ro41325 so41325 br41325⟩
theorem mid41352 : ∃ R, Mid [4, 1, 3, 5, 2] R := ⟨[[2, 3, 2, 1, 4], [2, 3, 2, 4, 1], [2, 3, 4, 2, 1], [3, 2, 1, 3, 4], [3, 2, 3, 1, 4], [3, 2, 3, 4, 1]], Mid.of rfl (Rv := rw41352) rfl rfl (by decide +kernel) st41352 cn41352 ro41352 so41352 br41352⟩
theorem mid41523 : ∃ R, Mid [4, 1, 5, 2, 3] R := ⟨[[3, 2, 1, 4, 3], [3, 2, 4, 1, 3], [3, 2, 4, 3, 1], [3, 4, 2, 1, 3], [3, 4, 2, 3, 1]], Mid.of rfl (Rv := rw41523) rfl rfl (by decide +kernel) st41523 cn41523 ro41523 so41523 br41523⟩
theorem mid41532 : ∃ R, Mid [4, 1, 5, 3, 2] R := ⟨[[2, 3, 2, 1, 4, 3], [2, 3, 2, 4, 1, 3], [2, 3, 2, 4, 3, 1], [2, 3, 4, 2, 1, 3], [2, 3, 4, 2, 3, 1], [3, 2, 1, 3, 4, 3], [3, 2, 1, 4, 3, 4], [3, 2, 3, 1, 4, 3], [3, 2, 3, 4, 1, 3], [3, 2, 3, 4, 3, 1], [3, 2, 4, 1, 3, 4], [3, 2, 4, 3, 1, 4], [3, 2, 4, 3, 4, 1], [3, 4, 2, 1, 3, 4], [3, 4, 2, 3, 1, 4], [3, 4, 2, 3, 4, 1]], Mid.of rfl (Rv := rw41532) rfl rfl (by decide +kernel) st41532 cn41532 ro41532 so41532 br41532⟩
theorem mid42135 : ∃ R, Mid [4, 2, 1, 3, 5] R := ⟨[[1, 3, 2, 1], [3, 1, 2, 1], [3, 2, 1, 2]], Mid.of rfl (Rv := rw42135) rfl rfl (by decide +kernel) st42135 cn42135 ro42135 so42135 br42135⟩
theorem mid42153 : ∃ R, Mid [4, 2, 1, 5, 3] R := ⟨[[1, 3, 2, 1, 4], [1, 3, 2, 4, 1], [1, 3, 4, 2, 1], [3, 1, 2, 1, 4], [3, 1, 2, 4, 1], [3, 1, 4, 2, 1], [3, 2, 1, 2, 4], [3, 2, 1, 4, 2], [3, 2, 4, 1, 2], [3, 4, 1, 2, 1], [3, 4, 2, 1, 2]], Mid.of rfl (Rv := rw42153) rfl rfl (by decide +kernel) st42153 cn42153 ro42153 so42153 br42153⟩
theorem mid42315 : ∃ R, Mid [4, 2, 3, 1, 5] R := ⟨[[1, 2, 3, 2, 1], [1, 3, 2, 1, 3], [1, 3, 2, 3, 1], [3, 1, 2, 1, 3], [3, 1, 2, 3, 1], [3, 2, 1, 2, 3]], Mid.of rfl (Rv := rw42315) rfl rfl (by decide +kernel) st42315 cn42315 ro42315 so42315 br42315⟩
theorem mid42351 : ∃ R, Mid [4, 2, 3, 5, 1] R := ⟨[[1, 2, 3, 2, 1, 4], [1, 2, 3, 2, 4, 1], [1, 2, 3, 4, 2, 1], [1, 3, 2, 1, 3, 4], [1, 3, 2, 3, 1, 4], [1, 3, 2, 3, 4, 1], [3, 1, 2, 1, 3, 4], [3, 1, 2, 3, 1, 4], [3, 1, 2, 3, 4, 1], [3, 2, 1, 2, 3, 4]], Mid.of rfl (Rv := rw42351) rfl rfl (by decide +kernel) st42351 cn42351 ro42351 so42351 br42351⟩
theorem mid42513 : ∃ R, Mid [4, 2, 5, 1, 3] R := ⟨[[1, 3, 2, 1, 4, 3], [1, 3, 2, 4, 1, 3], [1, 3, 2, 4, 3, 1], [1, 3, 4, 2, 1, 3], [1, 3, 4, 2, 3, 1], [3, 1, 2, 1, 4, 3], [3, 1, 2, 4, 1, 3], [3, 1, 2, 4, 3, 1], [3, 1, 4, 2, 1, 3], [3, 1, 4, 2, 3, 1], [3, 2, 1, 2, 4, 3], [3, 2, 1, 4, 2, 3], [3, 2, 4, 1, 2, 3], [3, 4, 1, 2, 1, 3], [3, 4, 1, 2, 3, 1], [3, 4, 2, 1, 2, 3]], Mid.of rfl (Rv := rw42513) rfl rfl (by decide +kernel) st42513 cn42513 ro42513 so42513 br42513⟩
theorem mid43125 : ∃ R, Mid [4, 3, 1, 2, 5] R := ⟨[[2, 1, 3, 2, 1], [2, 3, 1, 2, 1], [2, 3, 2, 1, 2], [3, 2, 1, 3, 2], [3, 2, 3, 1, 2]], Mid.of rfl (Rv := rw43125) rfl rfl (by decide +kernel) st43125 cn43125 ro43125 so43125 br43125⟩
theorem mid43152 : ∃ R, Mid [4, 3, 1, 5, 2] R := ⟨[[2, 1, 3, 2, 1, 4], [2, 1, 3, 2, 4, 1], [2, 1, 3, 4, 2, 1], [2, 3, 1, 2, 1, 4], [2, 3, 1, 2, 4, 1], [2, 3, 1, 4, 2, 1], [2, 3, 2, 1, 2, 4], [2, 3, 2, 1, 4, 2], [2, 3, 2, 4, 1, 2], [2, 3, 4, 1, 2, 1], [2, 3, 4, 2, 1, 2], [3, 2, 1, 3, 2, 4], [3, 2, 1, 3, 4, 2], [3, 2, 3, 1, 2, 4], [3, 2, 3, 1, 4, 2], [3, 2, 3, 4, 1, 2]], Mid.of rfl (Rv := rw43152) rfl rfl (by decide +kernel) st43152 cn43152 ro43152 so43152 br43152⟩
theorem mid43215 : ∃ R, Mid [4, 3, 2, 1, 5] R := ⟨[[1, 2, 1, 3, 2, 1], [1, 2, 3, 1, 2, 1], [1, 2, 3, 2, 1, 2], [1, 3, 2, 1, 3, 2], [1, 3, 2, 3, 1, 2], [2, 1, 2, 3, 2, 1], [2, 1, 3, 2, 1, 3], [2, 1, 3, 2, 3, 1], [2, 3, 1, 2, 1, 3], [2, 3, 1, 2, 3, 1], [2, 3, 2, 1, 2, 3], [3, 1, 2, 1, 3, 2], [3, 1, 2, 3, 1, 2], [3, 2, 1, 2, 3, 2], [3, 2, 1, 3, 2, 3], [3, 2, 3, 1, 2, 3]], Mid.of rfl (Rv := rw43215) rfl rfl (by decide +kernel) st43215 cn43215 ro43215 so43215 br43215⟩
theorem mid45123 : ∃ R, Mid [4, 5, 1, 2, 3] R := ⟨[[3, 2, 1, 4, 3, 2], [3, 2, 4, 1, 3, 2], [3, 2, 4, 3, 1, 2], [3, 4, 2, 1, 3, 2], [3, 4, 2, 3, 1, 2]], Mid.of rfl (Rv := rw45123) rfl rfl (by decide +kernel) st45123 cn45123 ro45123 so45123 br45123⟩
theorem mid51234 : ∃ R, Mid [5, 1, 2, 3, 4] R := ⟨[[4, 3, 2, 1]], Mid.of rfl (Rv := rw51234) rfl rfl (by decide +kernel) st51234 cn51234 ro51234 so51234 br51234⟩
theorem mid51243 : ∃ R, Mid [5, 1, 2, 4, 3] R := ⟨[[3, 4, 3, 2, 1], [4, 3, 2, 1, 4], [4, 3, 2, 4, 1], [4, 3, 4, 2, 1]], Mid.of rfl (Rv := rw51243) rfl rfl (by decide +kernel) st51243 cn51243 ro51243 so51243 br51243⟩
theorem mid51324 : ∃ R, Mid [5, 1, 3, 2, 4] R := ⟨[[2, 4, 3, 2, 1], [4, 2, 3, 2, 1], [4, 3, 2, 1, 3], [4, 3, 2, 3, 1]], Mid.of rfl (Rv := rw51324) rfl rfl (by decide +kernel) st51324 cn51324 ro51324 so51324 br51324⟩
theorem mid51342 : ∃ R, Mid [5, 1, 3, 4, 2] R := ⟨[[2, 3, 4, 3, 2, 1], [2, 4, 3, 2, 1, 4], [2, 4, 3, 2, 4, 1], [2, 4, 3, 4, 2, 1], [4, 2, 3, 2, 1, 4], [4, 2, 3, 2, 4, 1], [4, 2, 3, 4, 2, 1], [4, 3, 2, 1, 3, 4], [4, 3, 2, 3, 1, 4], [4, 3, 2, 3, 4, 1]], Mid.of rfl (Rv := rw51342) rfl rfl (by decide +kernel) st51342 cn51342 ro51342 so51342 br51342⟩
theorem mid51423 : ∃ R, Mid [5, 1, 4, 2, 3] R := ⟨[[3, 2, 4, 3, 2, 1], [3, 4, 2, 3, 2, 1], [3, 4, 3, 2, 1, 3], [3, 4, 3, 2, 3, 1], [4, 3, 2, 1, 4, 3], [4, 3, 2, 4, 1, 3], [4, 3, 2, 4, 3, 1], [4, 3, 4, 2, 1, 3], [4, 3, 4, 2, 3, 1]], Mid.of rfl (Rv := rw51423) rfl rfl (by decide +kernel) st51423 cn51423 ro51423 so51423 br51423⟩
theorem mid52134 : ∃ R, Mid [5, 2, 1, 3, 4] R := ⟨[[1, 4, 3, 2, 1], [4, 1, 3, 2, 1], [4, 3, 1, 2, 1], [4, 3, 2, 1, 2]], Mid.of rfl (Rv := rw52134) rfl rfl (by decide +kernel) st52134 cn52134 ro52134 so52134 br52134⟩
theorem mid52143 : ∃ R, Mid [5, 2, 1, 4, 3] R := ⟨[[1, 3, 4, 3, 2, 1], [1, 4, 3, 2, 1, 4], [1, 4, 3, 2, 4, 1], [1, 4, 3, 4, 2, 1], [3, 1, 4, 3, 2, 1], [3, 4, 1, 3, 2, 1], [3, 4, 3, 1, 2, 1], [3, 4, 3, 2, 1, 2], [4, 1, 3, 2, 1, 4], [4, 1, 3, 2, 4, 1], [4, 1, 3, 4, 2, 1], [4, 3, 1, 2, 1, 4], [4, 3, 1, 2, 4, 1], [4, 3, 1, 4, 2, 1], [4, 3, 2, 1, 2, 4], [4, 3, 2, 1, 4, 2], [4, 3, 2, 4, 1, 2], [4, 3, 4, 1, 2, 1], [4, 3, 4, 2, 1, 2]], Mid.of rfl (Rv := rw52143) rfl rfl (by decide +kernel) st52143 cn52143 ro52143 so52143 br52143⟩
theorem mid52314 : ∃ R, Mid [5, 2, 3, 1, 4] R := ⟨[[1, 2, 4, 3, 2, 1], [1, 4, 2, 3, 2, 1], [1, 4, 3, 2, 1, 3], [1, 4, 3, 2, 3, 1], [4, 1, 2, 3, 2, 1], [4, 1, 3, 2, 1, 3], [4, 1, 3, 2, 3, 1], [4, 3, 1, 2, 1, 3], [4, 3, 1, 2, 3, 1], [4, 3, 2, 1, 2, 3]], Mid.of rfl (Rv := rw52314) rfl rfl (by decide +kernel) st52314 cn52314 ro52314 so52314 br52314⟩
theorem mid53124 : ∃ R, Mid [5, 3, 1, 2, 4] R := ⟨[[2, 1, 4, 3, 2, 1], [2, 4, 1, 3, 2, 1], [2, 4, 3, 1, 2, 1], [2, 4, 3, 2, 1, 2], [4, 2, 1, 3, 2, 1], [4, 2, 3, 1, 2, 1], [4, 2, 3, 2, 1, 2], [4, 3, 2, 1, 3, 2], [4, 3, 2, 3, 1, 2]], Mid.of rfl (Rv := rw53124) rfl rfl (by decide +kernel) st53124 cn53124 ro53124 so53124 br53124⟩
def AllW : List (List Nat) := [[1], [1, 2], [2, 1], [1, 2, 3], [1, 3, 2], [2, 1, 3], [2, 3, 1], [3, 1, 2], [3, 2, 1], [1, 2, 3, 4], [1, 2, 4, 3], [1, 3, 2, 4], [1, 3, 4, 2], [1, 4, 2, 3], [1, 4, 3, 2], [2, 1, 3, 4], [2, 1, 4, 3], [2, 3, 1, 4], [2, 3, 4, 1], [2, 4, 1, 3], [2, 4, 3, 1], [3, 1, 2, 4], [3, 1, 4, 2], [3, 2, 1, 4], [3, 2, 4, 1], [3, 4, 1, 2], [3, 4, 2, 1], [4, 1, 2, 3], [4, 1, 3, 2], [4, 2, 1, 3], [4, 2, 3, 1], [4, 3, 1, 2], [4, 3, 2, 1], [1, 2, 3, 4, 5], [1, 2, 3, 5, 4], [1, 2, 4, 3, 5], [1, 2, 4, 5, 3], [1, 2, 5, 3, 4], [1, 2, 5, 4, 3], [1, 3, 2, 4, 5], [1, 3, 2, 5, 4], [1, 3, 4, 2, 5], [1, 3, 4, 5, 2], [1, 3, 5, 2, 4], [1, 3, 5, 4, 2], [1, 4, 2, 3, 5], [1, 4, 2, 5, 3], [1, 4, 3, 2, 5], [1, 4, 3, 5, 2], [1, 4, 5, 2, 3], [1, 4, 5, 3, 2], [1, 5, 2, 3, 4], [1, 5, 2, 4, 3], [1, 5, 3, 2, 4], [1, 5, 3, 4, 2], [1, 5, 4, 2, 3], [1, 5, 4, 3, 2], [2, 1, 3, 4, 5], [2, 1, 3, 5, 4], [2, 1, 4, 3, 5], [2, 1, 4, 5, 3], [2, 1, 5, 3, 4], [2, 1, 5, 4, 3], [2, 3, 1, 4, 5], [2, 3, 1, 5, 4], [2, 3, 4, 1, 5], [2, 3, 4, 5, 1], [2, 3, 5, 1, 4], [2, 3, 5, 4, 1], [2, 4, 1, 3, 5], [2, 4, 1, 5, 3], [2, 4, 3, 1, 5], [2, 4, 3, 5, 1], [2, 4, 5, 1, 3], [2, 4, 5, 3, 1], [2, 5, 1, 3, 4], [2, 5, 1, 4, 3], [2, 5, 3, 1, 4], [2, 5, 3, 4, 1], [2, 5, 4, 1, 3], [3, 1, 2, 4, 5], [3, 1, 2, 5, 4], [3, 1, 4, 2, 5], [3, 1, 4, 5, 2], [3, 1, 5, 2, 4], [3, 1, 5, 4, 2], [3, 2, 1, 4, 5], [3, 2, 1, 5, 4], [3, 2, 4, 1, 5], [3, 2, 4, 5, 1], [3, 2, 5, 1, 4], [3, 2, 5, 4, 1], [3, 4, 1, 2, 5], [3, 4, 1, 5, 2], [3, 4, 2, 1, 5], [3, 4, 2, 5, 1], [3, 4, 5, 1, 2], [3, 5, 1, 2, 4], [3, 5, 1, 4, 2], [3, 5, 2, 1, 4], [4, 1, 2, 3, 5], [4, 1, 2, 5, 3], [4, 1, 3, 2, 5], [4, 1, 3, 5, 2], [4, 1, 5, 2, 3], [4, 1, 5, 3, 2], [4, 2, 1, 3, 5], [4, 2, 1, 5, 3], [4, 2, 3, 1, 5], [4, 2, 3, 5, 1], [4, 2, 5, 1, 3], [4, 3, 1, 2, 5], [4, 3, 1, 5, 2], [4, 3, 2, 1, 5], [4, 5, 1, 2, 3], [5, 1, 2, 3, 4], [5, 1, 2, 4, 3], [5, 1, 3, 2, 4], [5, 1, 3, 4, 2], [5, 1, 4, 2, 3], [5, 2, 1, 3, 4], [5, 2, 1, 4, 3], [5, 2, 3, 1, 4], [5, 3, 1, 2, 4]]
theorem mids : ∀ w ∈ AllW, ∃ R, Mid w R := List.forall_mem_cons.mpr ⟨mid1, List.forall_mem_cons.mpr ⟨mid12, List.forall_mem_cons.mpr ⟨mid21, List.forall_mem_cons.mpr ⟨mid123, List.forall_mem_cons.mpr ⟨mid132, List.forall_mem_cons.mpr ⟨mid213, List.forall_mem_cons.mpr ⟨mid231, List.forall_mem_cons.mpr ⟨mid312, List.forall_mem_cons.mpr ⟨mid321, List.forall_mem_cons.mpr ⟨mid1234, List.forall_mem_cons.mpr ⟨mid1243, List.forall_mem_cons.mpr ⟨mid1324, List.forall_mem_cons.mpr ⟨mid1342, List.forall_mem_cons.mpr ⟨mid1423, List.forall_mem_cons.mpr ⟨mid1432, List.forall_mem_cons.mpr ⟨mid2134, List.forall_mem_cons.mpr ⟨mid2143, List.forall_mem_cons.mpr ⟨mid2314, List.forall_mem_cons.mpr ⟨mid2341, List.forall_mem_cons.mpr ⟨mid2413, List.forall_mem_cons.mpr ⟨mid2431, List.forall_mem_cons.mpr ⟨mid3124, List.forall_mem_cons.mpr ⟨mid3142, List.forall_mem_cons.mpr ⟨mid3214, List.forall_mem_cons.mpr ⟨mid3241, List.forall_mem_cons.mpr ⟨mid3412, List.forall_mem_cons.mpr ⟨mid3421, List.forall_mem_cons.mpr ⟨mid4123, List.forall_mem_cons.mpr ⟨mid4132, List.forall_mem_cons.mpr ⟨mid4213, List.forall_mem_cons.mpr ⟨mid4231, List.forall_mem_cons.mpr ⟨mid4312, List.forall_mem_cons.mpr ⟨mid4321, List.forall_mem_cons.mpr ⟨mid12345, List.forall_mem_cons.mpr ⟨mid12354, List.forall_mem_cons.mpr ⟨mid12435, List.forall_mem_cons.mpr ⟨mid12453, List.forall_mem_cons.mpr ⟨mid12534, List.forall_mem_cons.mpr ⟨mid12543, List.forall_mem_cons.mpr ⟨mid13245, List.forall_mem_cons.mpr ⟨mid13254, List.forall_mem_cons.mpr ⟨mid13425, List.forall_mem_cons.mpr ⟨mid13452, List.forall_mem_cons.mpr ⟨mid13524, List.forall_mem_cons.mpr ⟨mid13542, List.forall_mem_cons.mpr ⟨mid14235, List.forall_mem_cons.mpr ⟨mid14253, List.forall_mem_cons.mpr ⟨mid14325, List.forall_mem_cons.mpr ⟨mid14352, List.forall_mem_cons.mpr ⟨mid14523, List.forall_mem_cons.mpr ⟨mid14532, List.forall_mem_cons.mpr ⟨mid15234, List.forall_mem_cons.mpr ⟨mid15243, List.forall_mem_cons.mpr ⟨mid15324, List.forall_mem_cons.mpr ⟨mid15342, List.forall_mem_cons.mpr ⟨mid15423, List.forall_mem_cons.mpr ⟨mid15432, List.forall_mem_cons.mpr ⟨mid21345, List.forall_mem_cons.mpr ⟨mid21354, List.forall_mem_cons.mpr ⟨mid21435, List.forall_mem_cons.mpr ⟨mid21453, List.forall_mem_cons.mpr ⟨mid21534, List.forall_mem_cons.mpr ⟨mid21543, List.forall_mem_cons.mpr ⟨mid23145, List.forall_mem_cons.mpr ⟨mid23154, List.forall_mem_cons.mpr ⟨mid23415, List.forall_mem_cons.mpr ⟨mid23451, List.forall_mem_cons.mpr ⟨mid23514, List.forall_mem_cons.mpr ⟨mid23541, List.forall_mem_cons.mpr ⟨mid24135, List.forall_mem_cons.mpr ⟨mid24153, List.forall_mem_cons.mpr ⟨mid24315, List.forall_mem_cons.mpr ⟨mid24351, List.forall_mem_cons.mpr ⟨mid24513, List.forall_mem_cons.mpr ⟨mid24531, List.forall_mem_cons.mpr ⟨mid25134, List.forall_mem_cons.mpr ⟨mid25143, List.forall_mem_cons.mpr ⟨mid25314, List.forall_mem_cons.mpr ⟨mid25341, List.forall_mem_cons.mpr ⟨mid25413, List.forall_mem_cons.mpr ⟨mid31245, List.forall_mem_cons.mpr ⟨mid31254, List.forall_mem_cons.mpr ⟨mid31425, List.forall_mem_cons.mpr ⟨mid31452, List.forall_mem_cons.mpr ⟨mid31524, List.forall_mem_cons.mpr ⟨mid31542, List.forall_mem_cons.mpr ⟨mid32145, List.forall_mem_cons.mpr ⟨mid32154, List.forall_mem_cons.mpr ⟨mid32415, List.forall_mem_cons.mpr ⟨mid32451, List.forall_mem_cons.mpr ⟨mid32514, List.forall_mem_cons.mpr ⟨mid32541, List.forall_mem_cons.mpr ⟨mid34125, List.forall_mem_cons.mpr ⟨mid34152, List.forall_mem_cons.mpr ⟨mid34215, List.forall_mem_cons.mpr ⟨mid34251, List.forall_mem_cons.mpr ⟨mid34512, List.forall_mem_cons.mpr ⟨mid35124, List.forall_mem_cons.mpr ⟨mid35142, List.forall_mem_cons.mpr ⟨mid35214, List.forall_mem_cons.mpr ⟨mid41235, List.forall_mem_cons.mpr ⟨mid41253, List.forall_mem_cons.mpr ⟨mid41325, List.forall_mem_cons.mpr ⟨mid41352, List.forall_mem_cons.mpr ⟨mid41523, List.forall_mem_cons.mpr ⟨mid41532, List.forall_mem_cons.mpr ⟨mid42135, List.forall_mem_cons.mpr ⟨mid42153, List.forall_mem_cons.mpr ⟨mid42315, List.forall_mem_cons.mpr ⟨mid42351, List.forall_mem_cons.mpr ⟨mid42513, List.forall_mem_cons.mpr ⟨mid43125, List.forall_mem_cons.mpr ⟨mid43152, List.forall_mem_cons.mpr ⟨mid43215, List.forall_mem_cons.mpr ⟨mid45123, List.forall_mem_cons.mpr ⟨mid51234, List.forall_mem_cons.mpr ⟨mid51243, List.forall_mem_cons.mpr ⟨mid51324, List.forall_mem_cons.mpr ⟨mid51342, List.forall_mem_cons.mpr ⟨mid51423, List.forall_mem_cons.mpr ⟨mid52134, List.forall_mem_cons.mpr ⟨mid52143, List.forall_mem_cons.mpr ⟨mid52314, List.forall_mem_cons.mpr ⟨mid53124, fun _ h => nomatch h⟩⟩⟩⟩⟩⟩⟩⟩⟩⟩⟩⟩⟩⟩⟩⟩⟩⟩⟩⟩⟩⟩⟩⟩⟩⟩⟩⟩⟩⟩⟩⟩⟩⟩⟩⟩⟩⟩⟩⟩⟩⟩⟩⟩⟩⟩⟩⟩⟩⟩⟩⟩⟩⟩⟩⟩⟩⟩⟩⟩⟩⟩⟩⟩⟩⟩⟩⟩⟩⟩⟩⟩⟩⟩⟩⟩⟩⟩⟩⟩⟩⟩⟩⟩⟩⟩⟩⟩⟩⟩⟩⟩⟩⟩⟩⟩⟩⟩⟩⟩⟩⟩⟩⟩⟩⟩⟩⟩⟩⟩⟩⟩⟩⟩⟩⟩⟩⟩⟩⟩⟩⟩⟩⟩
theorem clB : (AllW.all fun w => decide (w.length ≤ 5) && (decide (1 ≤ w.length) && (free w).all fun k => !decide (inv w ≤ 5) || (AllW.contains (swp w (k - 1)) && decide (inv (swp w (k - 1)) ≤ inv w + 1)))) = true := by decide +kernel
theorem cl : Cl AllW where
  len := fun w hw => by
    have h := List.all_eq_true.mp clB w hw
    (simp only [Bool.and_eq_true, decide_eq_true_eq] at h)
    exact h.1
  ids := fun n h1 h2 => by
    have hc : n = 1 ∨ n = 2 ∨ n = 3 ∨ n = 4 ∨ n = 5 := by omega
    rcases hc with rfl | rfl | rfl | rfl | rfl <;> decide +kernel
  step := fun w hw k hk h5 => by
    have h := List.all_eq_true.mp clB w hw
    simp only [Bool.and_eq_true, decide_eq_true_eq, List.all_eq_true] at h
    have g := h.2.2 k hk
    rw [decide_eq_true h5] at g
    simp only [Bool.not_true, Bool.false_or, Bool.and_eq_true, decide_eq_true_eq, List.contains_iff_mem] at g
    exact g
theorem posW : ∀ w ∈ AllW, 1 ≤ w.length := fun w hw => by
  have h := List.all_eq_true.mp clB w hw
  (simp only [Bool.and_eq_true, decide_eq_true_eq] at h)
  exact h.2.1
theorem law_ok (ns : List Int) : ∃ S', f_law [.scr ns] [] = .ok (.bl true, S') := law_of cl posW mids ns
end K72
set_option Elab.async false
set_option linter.all false
set_option maxRecDepth 100000
set_option maxHeartbeats 0
open PySem.W PySem PySem.Calls PyProof.Rows
theorem PySem.Challenge.cw_wordshapes_k72_whole_reduced_rows_holds : PySem.Challenge.rw_wordshapes_k72_whole_reduced_rows.Holds := by
  w_on; o_law
  refine HandSHeadRun.head_any (r := OpenLaw.row PySem.Challenge.rw_wordshapes_k72_whole_reduced_rows) (q := view (OpenLaw.row PySem.Challenge.rw_wordshapes_k72_whole_reduced_rows).prog [53]) (H := K72.hk) (ob := K72.ob) (M := 9000) (loose := K72.loose) (d := HandSHeadRun.topDef (OpenLaw.row PySem.Challenge.rw_wordshapes_k72_whole_reduced_rows).prog 53) (kwd := []) K72.ob_eq
    (by kernel_rfl) (fun s => by kernel_rfl) K72.run (by kernel_rfl) (by kernel_rfl) (by kernel_rfl) (by rfl) (by first | assumption | decide +kernel) (by decide +kernel) ⟨rfl, rfl, rfl, rfl, rfl, by decide +kernel⟩ ?hw ?hc
  case hw => w_witness2
  case hc =>
    refine J.walk_ofG (l := PySem.Challenge.rw_wordshapes_k72_whole_reduced_rows) (n := 63) (k := 12) (x := "_law_script") (ct := fun _ => K72.ct0) (f := K72.f_law) rfl (by decide) (by kernel_rfl) ⟨rfl, by decide, by decide⟩ (fun ns _ => K72.law_ok ns) ?F
    intro w mg fa h Y G hmg0
    obtain ⟨K, KX, c⟩ := Y
    have named : mg ("law" : PySem.Str) = some (.ref fa) := by
      have e : (HandSHeadRun.topDef (OpenLaw.row PySem.Challenge.rw_wordshapes_k72_whole_reduced_rows).prog 53).name = ("law" : PySem.Str) := by kernel_rfl
      rw [← e]
      exact hmg0
    have Z := K72.facts KX G c
    obtain ⟨fa', fd, FD, hm, FG⟩ := K72.ok_law (P := (PySem.Challenge.rw_wordshapes_k72_whole_reduced_rows).prog) (w := w) (base := h) Z
    have e := named.symm.trans hm
    cases e
    have b := L2.FunD.bindsA (ps := ["_law_script"]) FD fun _ _ _ _ _ _ us hl => match us, hl with | [_], _ => rfl
    refine ⟨K, fd, KX, fun s v => b s [v] rfl, fun base _ _ => ?_⟩
    obtain ⟨fa2, fd2, FD2, hm2, FG2⟩ := K72.ok_law (P := (PySem.Challenge.rw_wordshapes_k72_whole_reduced_rows).prog) (w := w) (base := base) Z
    have e2 := hm.symm.trans hm2
    cases e2
    have e3 := J.funD_same FD FD2
    subst e3
    exact FG2
