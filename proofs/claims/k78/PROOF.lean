import PyProof.Rows.All
import Wide.All
import OpenK.AllK
import Wide.FinOn
import KE.KStateDown
import HandS.ForMost
import HandS.Exc
import HandS.ExcOwn
import HandS.WordsExc
import HandS.Defaults
import HandS.Wide
import HandS.WideMore
import HandS.NoneIn
import HandS.TupAny
import HandS.Deep
import HandS.Head0
import HandS.Head1
import HandS.Head2
import HandS.HeadEnd
import HandS.HeadHook1
import HandS.HeadHook2
import HandS.HeadHook3
import HandS.More
import HandS.Style
import HandS.IsInst
import HandS.Conv
import HandS.DictTup
import HandS.TupMul
import HandS.Zip
import HandS.SortInts
import HandS.Iter
import KE.GoesEnum
import KE.GoesMore
import KE.GoesZip
import KE.KTupSum
import HandS.Small
import PyProof.DictTable
import HandS.HeadHook4
import PySem.Challenge.RW_hivesums_k78_claims_and_papers_of_any_ki
set_option Elab.async false
set_option linter.all false
set_option maxRecDepth 100000
set_option maxHeartbeats 4000000
/-! IL1: data, how data lies in the abstract heap, the state and its extension. -/
namespace IL
open PySem L2

inductive D where
  | non | bl (b : Bool) | int (i : Int) | str (x : Str)
  | tup (xs : List D) | lst (xs : List D) | fl (xs : List D) | kt (xs : List D)
  | dK (ks : List Key) (vs : List D) | dT (ks : List (List Key)) (vs : List D)
  | ins (c : Nat) (vs : List D) | ref (n : Nat) | kd (ks : List Str) (vs : List Int) | dF (ks : List (List Key)) (vs : List D)

/-- what stands in a slot: a value, or a list (dict) of which no one else knows -/
inductive B where
  | fro (d : D) | own (d : D)
/-- a mutable object -/
inductive AO where
  | ls (ds : List D)
structure Xn where
  c : Nat
  fs : List D
structure SS where
  env : List (Option B)
  A : List AO
inductive R (α : Type) where
  | stuck | exc (x : Xn) (st : SS) | ok (a : α) (st : SS)
def R.bind {α β : Type} : R α → (α → SS → R β) → R β
  | .stuck, _ => .stuck
  | .exc x st, _ => .exc x st
  | .ok a st, f => f a st

/-- what is static in a program: the written part, the classes with their fields -/
structure Sta where
  K : PySem.W.Frag
  w : World
  cls : Nat → Option (Addr × List Str)

abbrev Ms := List Addr
def findS : List Str → List Int → Str → Option Int
  | k :: ks, v :: vs, x => if k = x then some v else findS ks vs x
  | _, _, _ => none
/-- at a: a written dict of these text keys -/
structure KTb (K : PySem.W.Frag) (w : World) (a : Addr) (ks : List Str) (vs : List Int) : Prop where
  dic : ∃ es n, KDict K w a es n
  at_ : ∀ z : Str, match findS ks vs z with
    | some i => ∃ u, PySem.W.nsIn K a z = some (some u) ∧ RelV (.int i) u
    | none => PySem.W.nsIn K a z = some none

mutual
inductive Rep (T : Sta) (M : Ms) (S : Hp) : D → V → Prop
  | non : Rep T M S .non .non
  | bl (b : Bool) : Rep T M S (.bl b) (.bl b)
  | int (i : Int) : Rep T M S (.int i) (.int i)
  | str (x : Str) : Rep T M S (.str x) (.str x)
  | tup {a : Addr} {ds : List D} {vs : List V} : S a = some (.tup vs) → Reps T M S ds vs → Rep T M S (.tup ds) (.ref a)
  | kt {a : Addr} {ds : List D} {vs : List V} : SqT T.K S a vs → Reps T M S ds vs → Rep T M S (.kt ds) (.ref a)
  | lst {a : Addr} {ds : List D} {vs : List V} : S a = some (.lst vs) → Reps T M S ds vs → Rep T M S (.lst ds) (.ref a)
  | fl {a : Addr} {ds : List D} {vs : List V} : SqL T.K S a vs → Reps T M S ds vs → Rep T M S (.fl ds) (.ref a)
  | dK {a : Addr} {ks : List Key} {ds : List D} {vs : List V} : S a = some (.dK (ks.zip vs)) → ks.length = vs.length → Reps T M S ds vs → Rep T M S (.dK ks ds) (.ref a)
  | dT {a : Addr} {ks : List (List Key)} {ds : List D} {vs : List V} : Rd S a (.dT (ks.zip vs)) → ks.length = vs.length → Reps T M S ds vs → Rep T M S (.dT ks ds) (.ref a)
  | dF {a : Addr} {o : Obj} {ks : List (List Key)} {ds : List D} {vs : List V} : S a = some (.frz o (.dT (ks.zip vs))) → ks.length = vs.length → Reps T M S ds vs → Rep T M S (.dF ks ds) (.ref a)
  | ins {a C dx : Addr} {c : Nat} {fs : List Str} {ds : List D} {vs : List V} : T.cls c = some (C, fs) → S a = some (.ins C dx (fs.zip vs)) → fs.length = vs.length → Reps T M S ds vs → Rep T M S (.ins c ds) (.ref a)
  | obj {a : Addr} {n : Nat} : M[n]? = some a → Rep T M S (.ref n) (.ref a)
  | kd {a : Addr} {ks : List Str} {vs : List Int} : KTb T.K T.w a ks vs → Rep T M S (.kd ks vs) (.ref a)
inductive Reps (T : Sta) (M : Ms) (S : Hp) : List D → List V → Prop
  | nil : Reps T M S [] []
  | cons {d : D} {ds : List D} {v : V} {vs : List V} : Rep T M S d v → Reps T M S ds vs → Reps T M S (d :: ds) (v :: vs)
end

variable {T : Sta}

theorem Same.tup {K : PySem.W.Frag} {H H' : Hp} {a : Addr} {xs : List V} (e : Same H H') (h : SqT K H a xs) : SqT K H' a xs := by
  rcases h with (h | ⟨o, h⟩) | h
  · exact .inl (.inl (e _ _ h))
  · exact .inl (.inr ⟨o, e _ _ h⟩)
  · exact .inr h
theorem Same.rd {H H' : Hp} {a : Addr} {u : HO} (e : Same H H') (h : Rd H a u) : Rd H' a u := h.elim (fun h => .inl (e _ _ h)) fun ⟨o, h⟩ => .inr ⟨o, e _ _ h⟩
theorem Same.lst {K : PySem.W.Frag} {H H' : Hp} {a : Addr} {xs : List V} (e : Same H H') (h : SqL K H a xs) : SqL K H' a xs := e.seq h

def Pre (M M' : Ms) : Prop := ∃ t, M' = M ++ t
theorem Pre.refl (M : Ms) : Pre M M := ⟨[], by simp⟩
theorem Pre.trans {M M1 M2 : Ms} (a : Pre M M1) (b : Pre M1 M2) : Pre M M2 := by
  obtain ⟨t, rfl⟩ := a
  obtain ⟨u, rfl⟩ := b
  exact ⟨t ++ u, by simp⟩
theorem Pre.get {M M' : Ms} (p : Pre M M') {n : Nat} {a : Addr} (h : M[n]? = some a) : M'[n]? = some a := by
  obtain ⟨t, rfl⟩ := p
  rw [List.getElem?_append_left (by have := (List.getElem?_eq_some_iff.mp h).1; exact this)]
  exact h
theorem Pre.mem {M M' : Ms} (p : Pre M M') {a : Addr} (h : a ∈ M) : a ∈ M' := by
  obtain ⟨t, rfl⟩ := p
  exact List.mem_append_left _ h

mutual
theorem Rep.mono {M M' : Ms} {S S' : Hp} (e : Same S S') (p : Pre M M') : ∀ {d : D} {v : V}, Rep T M S d v → Rep T M' S' d v
  | _, _, .non => .non
  | _, _, .bl b => .bl b
  | _, _, .int i => .int i
  | _, _, .str x => .str x
  | _, _, .tup h r => .tup (e _ _ h) (Reps.mono e p r)
  | _, _, .kt h r => .kt (Same.tup e h) (Reps.mono e p r)
  | _, _, .lst h r => .lst (e _ _ h) (Reps.mono e p r)
  | _, _, .fl h r => .fl (Same.lst e h) (Reps.mono e p r)
  | _, _, .dK h l r => .dK (e _ _ h) l (Reps.mono e p r)
  | _, _, .dT h l r => .dT (Same.rd e h) l (Reps.mono e p r)
  | _, _, .dF h l r => .dF (e _ _ h) l (Reps.mono e p r)
  | _, _, .ins c h l r => .ins c (e _ _ h) l (Reps.mono e p r)
  | _, _, .obj h => .obj (p.get h)
  | _, _, .kd h => .kd h
theorem Reps.mono {M M' : Ms} {S S' : Hp} (e : Same S S') (p : Pre M M') : ∀ {ds : List D} {vs : List V}, Reps T M S ds vs → Reps T M' S' ds vs
  | _, _, .nil => .nil
  | _, _, .cons h r => .cons (Rep.mono e p h) (Reps.mono e p r)
end
theorem Reps.length {M : Ms} {S : Hp} : ∀ {ds : List D} {vs : List V}, Reps T M S ds vs → ds.length = vs.length
  | _, _, .nil => rfl
  | _, _, .cons _ r => by simp [Reps.length r]
theorem Reps.get {M : Ms} {S : Hp} : ∀ {ds : List D} {vs : List V} {i : Nat} {d : D}, Reps T M S ds vs → ds[i]? = some d → ∃ v, vs[i]? = some v ∧ Rep T M S d v
  | _, _, _, _, .nil, h => by simp at h
  | _, _, 0, _, .cons q _, h => by
    simp at h
    subst h
    exact ⟨_, rfl, q⟩
  | _, _, i + 1, _, .cons _ r, h => by
    obtain ⟨v, h1, h2⟩ := Reps.get (i := i) r (by simpa using h)
    exact ⟨v, by simpa using h1, h2⟩
theorem Reps.append {M : Ms} {S : Hp} : ∀ {ds es : List D} {vs us : List V}, Reps T M S ds vs → Reps T M S es us → Reps T M S (ds ++ es) (vs ++ us)
  | _, _, _, _, .nil, s => s
  | _, _, _, _, .cons q r, s => .cons q (Reps.append r s)
theorem Reps.take {M : Ms} {S : Hp} : ∀ {ds : List D} {vs : List V} (n : Nat), Reps T M S ds vs → Reps T M S (ds.take n) (vs.take n)
  | _, _, 0, _ => .nil
  | _, _, _ + 1, .nil => .nil
  | _, _, n + 1, .cons q r => .cons q (Reps.take n r)
theorem Reps.drop {M : Ms} {S : Hp} : ∀ {ds : List D} {vs : List V} (n : Nat), Reps T M S ds vs → Reps T M S (ds.drop n) (vs.drop n)
  | _, _, 0, r => r
  | _, _, _ + 1, .nil => .nil
  | _, _, n + 1, .cons _ r => Reps.drop n r
theorem Reps.set {M : Ms} {S : Hp} {d : D} {v : V} (h : Rep T M S d v) : ∀ {ds : List D} {vs : List V} (i : Nat), Reps T M S ds vs → Reps T M S (ds.set i d) (vs.set i v)
  | _, _, _, .nil => .nil
  | _, _, 0, .cons _ r => .cons h r
  | _, _, i + 1, .cons q r => .cons q (Reps.set h i r)
theorem Reps.reverse {M : Ms} {S : Hp} : ∀ {ds : List D} {vs : List V}, Reps T M S ds vs → Reps T M S ds.reverse vs.reverse
  | _, _, .nil => .nil
  | _, _, .cons q r => by
    rw [List.reverse_cons, List.reverse_cons]
    exact Reps.append (Reps.reverse r) (.cons q .nil)
theorem Reps.of_get {M : Ms} {S : Hp} : ∀ {ds : List D} {vs : List V}, ds.length = vs.length → (∀ (i : Nat) (d : D) (v : V), ds[i]? = some d → vs[i]? = some v → Rep T M S d v) → Reps T M S ds vs
  | [], [], _, _ => .nil
  | [], _ :: _, h, _ => by simp at h
  | _ :: _, [], h, _ => by simp at h
  | d :: ds, v :: vs, h, k => .cons (k 0 d v rfl rfl) (Reps.of_get (by simpa using h) fun i d' v' h1 h2 => k (i + 1) d' v' (by simpa using h1) (by simpa using h2))

/-! ### no lists within: tuples, texts, numbers -/
mutual
def plain : D → Bool
  | .non | .bl _ | .int _ | .str _ | .kd _ _ => true
  | .tup ds => plains ds
  | .kt ds => plains ds
  | .ins _ ds => plains ds
  | .lst _ | .fl _ | .dK _ _ | .dT _ _ | .dF _ _ | .ref _ => false
def plains : List D → Bool
  | [] => true
  | d :: ds => plain d && plains ds
end
/-- what a heap holds of lists and dicts -/
def isCell : Option HO → Prop
  | some (.lst _) => True
  | some (.dK _) => True
  | some (.dT _) => True
  | _ => False
mutual
/-- plain data does not lean on lists -/
theorem Rep.cut {M : Ms} {S S' : Hp} (h : ∀ a o, S a = some o → ¬ isCell (some o) → S' a = some o) : ∀ {d : D} {v : V}, plain d = true → Rep T M S d v → Rep T M S' d v
  | _, _, _, .non => .non
  | _, _, _, .bl b => .bl b
  | _, _, _, .int i => .int i
  | _, _, _, .str x => .str x
  | _, _, p, .tup q r => .tup (h _ _ q fun z => z) (Reps.cut h (by simpa [plain] using p) r)
  | _, _, p, .kt q r => .kt (by
      rcases q with (q | ⟨o, q⟩) | q
      · exact .inl (.inl (h _ _ q fun z => z))
      · exact .inl (.inr ⟨o, h _ _ q fun z => z⟩)
      · exact .inr q) (Reps.cut h (by simpa [plain] using p) r)
  | _, _, p, .lst _ _ => by simp [plain] at p
  | _, _, p, .fl _ _ => by simp [plain] at p
  | _, _, p, .dK _ _ _ => by simp [plain] at p
  | _, _, p, .dT _ _ _ => by simp [plain] at p
  | _, _, p, .dF _ _ _ => by simp [plain] at p
  | _, _, p, .ins c q l r => .ins c (h _ _ q fun z => z) l (Reps.cut h (by simpa [plain] using p) r)
  | _, _, p, .obj _ => by simp [plain] at p
  | _, _, p, .kd h => .kd h
theorem Reps.cut {M : Ms} {S S' : Hp} (h : ∀ a o, S a = some o → ¬ isCell (some o) → S' a = some o) : ∀ {ds : List D} {vs : List V}, plains ds = true → Reps T M S ds vs → Reps T M S' ds vs
  | _, _, _, .nil => .nil
  | _, _, p, .cons q r => by
    simp only [plains, Bool.and_eq_true] at p
    exact .cons (Rep.cut h p.1 q) (Reps.cut h p.2 r)
end
mutual
def noref : D → Bool
  | .non | .bl _ | .int _ | .str _ | .kd _ _ => true
  | .tup ds | .kt ds | .lst ds | .fl ds | .dK _ ds | .dT _ ds | .dF _ ds | .ins _ ds => norefs ds
  | .ref _ => false
def norefs : List D → Bool
  | [] => true
  | d :: ds => noref d && norefs ds
end
mutual
theorem Rep.unref {M M' : Ms} {S : Hp} : ∀ {d : D} {v : V}, noref d = true → Rep T M S d v → Rep T M' S d v
  | _, _, _, .non => .non
  | _, _, _, .bl b => .bl b
  | _, _, _, .int i => .int i
  | _, _, _, .str x => .str x
  | _, _, p, .tup q r => .tup q (Reps.unref (by simpa [noref] using p) r)
  | _, _, p, .kt q r => .kt q (Reps.unref (by simpa [noref] using p) r)
  | _, _, p, .lst q r => .lst q (Reps.unref (by simpa [noref] using p) r)
  | _, _, p, .fl q r => .fl q (Reps.unref (by simpa [noref] using p) r)
  | _, _, p, .dK q l r => .dK q l (Reps.unref (by simpa [noref] using p) r)
  | _, _, p, .dT q l r => .dT q l (Reps.unref (by simpa [noref] using p) r)
  | _, _, p, .dF q l r => .dF q l (Reps.unref (by simpa [noref] using p) r)
  | _, _, p, .ins c q l r => .ins c q l (Reps.unref (by simpa [noref] using p) r)
  | _, _, p, .obj _ => by simp [noref] at p
  | _, _, p, .kd h => .kd h
theorem Reps.unref {M M' : Ms} {S : Hp} : ∀ {ds : List D} {vs : List V}, norefs ds = true → Reps T M S ds vs → Reps T M' S ds vs
  | _, _, _, .nil => .nil
  | _, _, p, .cons q r => by
    simp only [norefs, Bool.and_eq_true] at p
    exact .cons (Rep.unref p.1 q) (Reps.unref p.2 r)
end
mutual
/-- with no objects at all there is no reference -/
theorem Rep.noref_of {S : Hp} : ∀ {d : D} {v : V}, Rep T [] S d v → noref d = true
  | _, _, .non => rfl
  | _, _, .bl b => rfl
  | _, _, .int i => rfl
  | _, _, .str x => rfl
  | _, _, .tup q r => by simpa [noref] using Reps.noref_of r
  | _, _, .kt q r => by simpa [noref] using Reps.noref_of r
  | _, _, .lst q r => by simpa [noref] using Reps.noref_of r
  | _, _, .fl q r => by simpa [noref] using Reps.noref_of r
  | _, _, .dK q l r => by simpa [noref] using Reps.noref_of r
  | _, _, .dT q l r => by simpa [noref] using Reps.noref_of r
  | _, _, .dF q l r => by simpa [noref] using Reps.noref_of r
  | _, _, .ins c q l r => by simpa [noref] using Reps.noref_of r
  | _, _, .obj h => by simp at h
  | _, _, .kd h => rfl
theorem Reps.noref_of {S : Hp} : ∀ {ds : List D} {vs : List V}, Reps T [] S ds vs → norefs ds = true
  | _, _, .nil => rfl
  | _, _, .cons q r => by simp [norefs, Rep.noref_of q, Reps.noref_of r]
end

/-! ### cells, slots, objects -/
/-- what stands at an own cell -/
inductive CellO (T : Sta) (M : Ms) (S : Hp) : D → HO → Prop
  | lst {ds : List D} {vs : List V} : Reps T M S ds vs → CellO T M S (.lst ds) (.lst vs)
  | dK {ks : List Key} {ds : List D} {vs : List V} : ks.length = vs.length → Reps T M S ds vs → CellO T M S (.dK ks ds) (.dK (ks.zip vs))
  | dT {ks : List (List Key)} {ds : List D} {vs : List V} : ks.length = vs.length → Reps T M S ds vs → CellO T M S (.dT ks ds) (.dT (ks.zip vs))
theorem CellO.mono {M M' : Ms} {S S' : Hp} (e : Same S S') (p : Pre M M') {d : D} {o : HO} (h : CellO T M S d o) : CellO T M' S' d o := by
  cases h with
  | lst r => exact .lst (r.mono e p)
  | dK l r => exact .dK l (r.mono e p)
  | dT l r => exact .dT l (r.mono e p)
theorem CellO.nt {M : Ms} {S : Hp} {d : D} {o : HO} (h : CellO T M S d o) (xs : List V) : o ≠ .tup xs := by
  cases h <;> exact fun z => nomatch z
theorem CellO.isCell {M : Ms} {S : Hp} {d : D} {o : HO} (h : CellO T M S d o) : isCell (some o) := by
  cases h <;> trivial
/-- a cell that is given to all -/
theorem CellO.rep {M : Ms} {S : Hp} {d : D} {o : HO} {a : Addr} (h : CellO T M S d o) (e : S a = some o) : Rep T M S d (.ref a) := by
  cases h with
  | lst r => exact .lst e r
  | dK l r => exact .dK e l r
  | dT l r => exact .dT (.inl e) l r
inductive AOR (T : Sta) (M : Ms) (S : Hp) : AO → HO → Prop
  | ls {ds : List D} {vs : List V} : Reps T M S ds vs → AOR T M S (.ls ds) (.lst vs)
theorem AOR.mono {M M' : Ms} {S S' : Hp} (e : Same S S') (p : Pre M M') {d : AO} {o : HO} (h : AOR T M S d o) : AOR T M' S' d o := by
  cases h with
  | ls r => exact .ls (r.mono e p)

abbrev Env' := List (Option B)
/-- slot i holds its own cell at a -/
def Own (env : Env') (σ : L2.St) (a : Addr) : Prop := ∃ (i : Nat) (d : D), env[i]? = some (some (.own d)) ∧ σ[i]? = some (some (.ref a))

structure RI (T : Sta) (st : SS) (σ : L2.St) (H S : Hp) (M : Ms) : Prop where
  sub : Same S H
  fro : ∀ (i : Nat) (d : D), st.env[i]? = some (some (.fro d)) → ∃ v, σ[i]? = some (some v) ∧ Rep T M S d v
  own : ∀ (i : Nat) (d : D), st.env[i]? = some (some (.own d)) → ∃ a o, σ[i]? = some (some (.ref a)) ∧ H a = some o ∧ CellO T M S d o ∧ S a = none ∧ a ∉ M
  sep : ∀ (i j : Nat) (d e : D) (a : Addr), st.env[i]? = some (some (.own d)) → st.env[j]? = some (some (.own e)) → σ[i]? = some (some (.ref a)) → σ[j]? = some (some (.ref a)) → i = j
  obj : ∀ (n : Nat) (ao : AO), st.A[n]? = some ao → ∃ a o, M[n]? = some a ∧ H a = some o ∧ AOR T M S ao o ∧ S a = none
  mlen : M.length = st.A.length
  mnd : M.Nodup
  tp : ∀ (a : Addr) (xs : List V), H a = some (.tup xs) → S a = some (.tup xs)
  elen : st.env.length = σ.length

theorem RI.mem {st : SS} {σ : L2.St} {H S : Hp} {M : Ms} (I : RI T st σ H S M) {a : Addr} (h : a ∈ M) : (∃ o, H a = some o) ∧ S a = none := by
  obtain ⟨n, hn, e⟩ := List.mem_iff_getElem.mp h
  have hn' : n < st.A.length := by rw [← I.mlen]; exact hn
  obtain ⟨b, o, e1, e2, _, e4⟩ := I.obj n st.A[n] (by simp [hn'])
  rw [List.getElem?_eq_getElem hn, e] at e1
  cases e1
  exact ⟨⟨o, e2⟩, e4⟩
theorem RI.ownH {st : SS} {σ : L2.St} {H S : Hp} {M : Ms} (I : RI T st σ H S M) {a : Addr} (h : Own st.env σ a) : (∃ o, H a = some o ∧ isCell (some o)) ∧ S a = none ∧ a ∉ M := by
  obtain ⟨i, d, e1, e2⟩ := h
  obtain ⟨b, o, q1, q2, q3, q4, q5⟩ := I.own i d e1
  rw [e2] at q1
  cases q1
  exact ⟨⟨o, q2, q3.isCell⟩, q4, q5⟩

/-- from a state to a later one -/
structure Ext (env : Env') (σ : L2.St) (H S : Hp) (M : Ms) (env' : Env') (σ' : L2.St) (H' S' : Hp) (M' : Ms) : Prop where
  ss : Same S S'
  sn : ∀ a, S' a ≠ none → S a ≠ none ∨ H a = none ∨ Own env σ a
  fr : ∀ a o, H a = some o → a ∉ M → ¬ Own env σ a → H' a = some o
  ow : ∀ a, Own env' σ' a → Own env σ a ∨ H a = none
  mm : ∃ t, M' = M ++ t ∧ ∀ a ∈ t, H a = none
  kp : ∀ a, H a ≠ none → H' a ≠ none
theorem Ext.pre {env : Env'} {σ : L2.St} {H S : Hp} {M : Ms} {env' : Env'} {σ' : L2.St} {H' S' : Hp} {M' : Ms} (x : Ext env σ H S M env' σ' H' S' M') : Pre M M' := by
  obtain ⟨t, e, _⟩ := x.mm
  exact ⟨t, e⟩
theorem Ext.refl {env : Env'} {σ : L2.St} {H S : Hp} {M : Ms} : Ext env σ H S M env σ H S M :=
  ⟨Same.refl _, fun _ h => .inl h, fun _ _ h _ _ => h, fun _ h => .inl h, ⟨[], by simp, fun _ h => by simp at h⟩, fun _ h => h⟩
/-- behind: an address that is nothing was nothing ahead too -/
theorem Ext.none_of {env env' : Env'} {σ σ1 : L2.St} {H S H1 S1 : Hp} {M M1 : Ms} (x : Ext env σ H S M env' σ1 H1 S1 M1) {a : Addr} (h : H1 a = none) : H a = none := by
  cases e : H a with
  | none => rfl
  | some o => exact absurd h (x.kp a (by rw [e]; exact fun z => nomatch z))
theorem Ext.trans {env1 : Env'} {env env2 : Env'} {σ σ1 σ2 : L2.St} {H S H1 S1 H2 S2 : Hp} {M M1 M2 : Ms} (x : Ext env σ H S M env1 σ1 H1 S1 M1) (y : Ext env1 σ1 H1 S1 M1 env2 σ2 H2 S2 M2) :
    Ext env σ H S M env2 σ2 H2 S2 M2 := by
  refine ⟨x.ss.trans y.ss, fun a h => ?_, fun a o h hm ho => ?_, fun a h => ?_, ?_, fun a h => y.kp a (x.kp a h)⟩
  · rcases y.sn a h with h | h | h
    · exact x.sn a h
    · exact .inr (.inl (x.none_of h))
    · rcases x.ow a h with h | h
      · exact .inr (.inr h)
      · exact .inr (.inl h)
  · have q := x.fr a o h hm ho
    refine y.fr a o q (fun z => ?_) fun z => ?_
    · obtain ⟨t, e, ht⟩ := x.mm
      rw [e] at z
      rcases List.mem_append.mp z with z | z
      · exact hm z
      · rw [ht a z] at h
        cases h
    · rcases x.ow a z with z | z
      · exact ho z
      · rw [z] at h
        cases h
  · rcases y.ow a h with h | h
    · exact x.ow a h
    · exact .inr (x.none_of h)
  · obtain ⟨t, e, ht⟩ := x.mm
    obtain ⟨u, e2, hu⟩ := y.mm
    refine ⟨t ++ u, by rw [e2, e, List.append_assoc], fun a h => ?_⟩
    rcases List.mem_append.mp h with h | h
    · exact ht a h
    · exact x.none_of (hu a h)
end IL

set_option Elab.async false
set_option linter.all false
set_option maxRecDepth 100000
set_option maxHeartbeats 4000000
/-! IL2: the small language and what it reckons. -/
namespace IL
open PySem L2

inductive Op2 where
  | add | sub | mul | fdiv | mod | pow
inductive Cm where
  | eq | ne | lt | le | gt | ge | is_ | isn | inn | notin
inductive Ty where
  | tup | lst | int | bool | str | dict
inductive BI where
  | len | sum | all | any | abs | int | list | tuple | sorted | min1 | max1 | min2 | max2 | divmod | dictT | dictK | dictC | repr | str | isi (t : Ty)
inductive Mt where
  | index | get | count | items
mutual
inductive Tg where
  | nm (i : Nat) | tu (ts : Tgs)
inductive Tgs where
  | nil | cons (t : Tg) (ts : Tgs)
end
mutual
inductive IE where
  | stuck
  | con (d : D) | var (i : Nat) | bin (o : Op2) (a b : IE) | neg (a : IE) | nt (a : IE)
  | cmp (o : Cm) (a b : IE) | chain (o p : Cm) (a b c : IE) | and (a b : IE) | or (a b : IE) | ite (c a b : IE)
  | tup (es : IEs) | lst (es : IEs) | dic0 (tk : Bool) | dic (tk : Bool) (ks vs : IEs)
  | sub (a i : IE) | sli (a : IE) (lo hi : IO) | rev (a : IE)
  | pcall (f : Nat) (es : IEs) | call (f : Nat) (es : IEs) | callP (f : Nat) (pm : List Nat) (es : IEs) | mk (c : Nat) (es : IEs) | obj (e : IE) | dic1 (k : Str) (e : IE) | dicT (k e : IE)
  | bi (b : BI) (es : IEs) | mt (m : Mt) (a : IE) (es : IEs) | fld (a : IE) (c j : Nat)
  | comp (vs : List Nat) (t : Tg) (it : II) (ifs : IEs) (elt : IE)
  | comp2 (vs vs1 : List Nat) (t : Tg) (it : II) (t1 : Tg) (it1 : II) (elt : IE)
inductive IEs where
  | nil | cons (e : IE) (es : IEs)
inductive IO where
  | no | yes (e : IE)
inductive II where
  | seq (e : IE) | rng1 (a : IE) | rng2 (a b : IE) | rng3 (a b : IE) | enum (e : IE) | zip (a b : IE)
end
mutual
inductive IS where
  | stuck
  | ex (e : IE) | ret (e : IE) | retN | asg (t : Tg) (e : IE) | asgF (i : Nat) (e : IE) | asgS (x : Nat) (i e : IE)
  | par2 (i j : Nat) (a b : IE) | par3 (i j l : Nat) (a b c : IE) | tgS (x : Nat) (i : IE) (j : Nat) (e : IE) | aug (i : Nat) (o : Op2) (e : IE) | augS (x : Nat) (i : IE) (o : Op2) (e : IE)
  | app (x : Nat) (e : IE) | ins (x : Nat) (i e : IE) | ifS (c : IE) (a b : ISs) | forS (t : Tg) (it : II) (body : ISs)
  | whileS (c : IE) (body : ISs) | brk | cont | pass | raise (c : Nat) (es : IEs)
inductive ISs where
  | nil | cons (s : IS) (ss : ISs)
end

/-! ### values -/
mutual
def toPy : D → Option PyData
  | .non => some .none
  | .bl b => some (.bool b)
  | .int i => some (.int i)
  | .str x => some (.str x)
  | .tup ds => (toPys ds).map .tuple
  | .kt ds => (toPys ds).map .tuple
  | .lst ds => (toPys ds).map .list
  | _ => none
def toPys : List D → Option (List PyData)
  | [] => some []
  | d :: ds => match toPy d with
    | some x => (match toPys ds with
      | some xs => some (x :: xs)
      | none => none)
    | none => none
end
def eqD (a b : D) : Option Bool := match a, b with
  | .int i, .int j => some (decide (i = j))
  | .str x, .str y => some (decide (x = y))
  | .bl x, .bl y => some (decide (x = y))
  | _, _ => match toPy a, toPy b with
    | some x, some y => if (SeqAt.shaped x && SeqAt.shaped y) = true then some (PyData.eqv x y) else none
    | _, _ => none
def smallI (i : Int) : Bool := decide (-(2 ^ 64) < i) && decide (i < 2 ^ 64)
def mulOk (i j : Int) : Bool := smallI i || (smallI j || decide (i.natAbs.log2 + j.natAbs.log2 < 1000000))
def binD : Op2 → D → D → Option D
  | .add, .int i, .int j => some (.int (i + j))
  | .add, .str x, .str y => if x.length + y.length ≤ sizeLine then some (.str (x ++ y)) else none
  | .add, .tup xs, .tup ys => if xs.length + ys.length ≤ sizeLine then some (.tup (xs ++ ys)) else none
  | .add, .lst xs, .lst ys => if xs.length + ys.length ≤ sizeLine then some (.lst (xs ++ ys)) else none
  | .sub, .int i, .int j => some (.int (i - j))
  | .mul, .int i, .int j => if mulOk i j = true then some (.int (i * j)) else none
  | .mul, .tup xs, .int k => if xs ≠ [] ∧ 2 ≤ k ∧ k ≤ 1000 ∧ xs.length ≤ 1000 then some (.tup (List.replicate k.toNat xs).flatten) else none
  | .mul, .lst xs, .int k => if -(2 ^ 63) ≤ k ∧ k < 2 ^ 63 ∧ xs.length * k.toNat ≤ sizeLine then some (.lst (List.replicate k.toNat xs).flatten) else none
  | .fdiv, .int i, .int j => if 0 < j ∧ j.natAbs.log2 < 9000 then some (.int (i / j)) else none
  | .mod, .int i, .int j => if 0 < j then some (.int (i % j)) else none
  | .pow, .int i, .int j => if 0 ≤ j ∧ j ≤ 1000000 ∧ i.natAbs < 2 ^ 64 then some (.int (i ^ j.toNat)) else none
  | _, _, _ => none
def keyD : D → Option Key
  | .int i => some (.inl i)
  | .str x => some (.inr x)
  | _ => none
def keysD : List D → Option (List Key)
  | [] => some []
  | d :: ds => match keyD d with
    | some k => (match keysD ds with
      | some ks => some (k :: ks)
      | none => none)
    | none => none
def tkeyD : D → Option (List Key)
  | .tup ds => keysD ds
  | _ => none
/-- the value of a key -/
def findK {κ : Type} [DecidableEq κ] : List κ → List D → κ → Option D
  | k :: ks, d :: ds, x => if k = x then some d else findK ks ds x
  | _, _, _ => none
def updK {κ : Type} [DecidableEq κ] : List κ → List D → κ → D → List D
  | k :: ks, d :: ds, x, e => (if k = x then e else d) :: updK ks ds x e
  | _, _, _, _ => []
/-- in its place, or at the end -/
def putK {κ : Type} [DecidableEq κ] (ks : List κ) (ds : List D) (x : κ) (e : D) : List κ × List D := if (ks.any fun k => decide (k = x)) = true then (ks, updK ks ds x e) else (ks ++ [x], ds ++ [e])
/-- x in a list (a tuple) of data -/
def inPy (mk : List PyData → PyData) (x : D) (ds : List D) : Option Bool := match toPy x, toPys ds with
  | some p, some ps => if (SeqAt.shaped p && SeqAt.shaped (mk ps)) = true then some (ps.any fun z => PyData.eqv z p) else none
  | _, _ => none
def isNonD : D → Bool
  | .non => true
  | _ => false
def cmpD : Cm → D → D → Option Bool
  | .eq, a, b => eqD a b
  | .ne, a, b => (eqD a b).map (!·)
  | .lt, .int i, .int j => some (decide (i < j))
  | .le, .int i, .int j => some (decide (i ≤ j))
  | .gt, .int i, .int j => some (decide (j < i))
  | .ge, .int i, .int j => some (decide (j ≤ i))
  | .is_, a, .non => some (isNonD a)
  | .isn, a, .non => some (!isNonD a)
  | .is_, .bl a, .bl b => some (decide (a = b))
  | .isn, .bl a, .bl b => some (!decide (a = b))
  | .inn, x, .lst ds => inPy .list x ds
  | .inn, x, .tup ds => inPy .tuple x ds
  | .inn, x, .kt ds => inPy .tuple x ds
  | .inn, x, .dT ks ds => (tkeyD x).map fun k => (findK ks ds k).isSome
  | .inn, x, .dK ks ds => (keyD x).map fun k => (findK ks ds k).isSome
  | .inn, x, .dF ks ds => (tkeyD x).map fun k => (findK ks ds k).isSome
  | .inn, .str x, .kd ks vs => some (findS ks vs x).isSome
  | .notin, x, .lst ds => (inPy .list x ds).map (!·)
  | .notin, x, .tup ds => (inPy .tuple x ds).map (!·)
  | .notin, x, .kt ds => (inPy .tuple x ds).map (!·)
  | .notin, x, .dT ks ds => (tkeyD x).map fun k => !(findK ks ds k).isSome
  | .notin, x, .dK ks ds => (keyD x).map fun k => !(findK ks ds k).isSome
  | .notin, x, .dF ks ds => (tkeyD x).map fun k => !(findK ks ds k).isSome
  | .notin, .str x, .kd ks vs => some !(findS ks vs x).isSome
  | _, _, _ => none
def atD {α : Type} (xs : List α) (i : Int) : Option α := (ixN xs.length i).bind fun j => xs[j]?
def subD : D → D → Option D
  | .lst ds, .int i => atD ds i
  | .tup ds, .int i => atD ds i
  | .kt ds, .int i => atD ds i
  | .fl ds, .int i => atD ds i
  | .dT ks ds, x => match tkeyD x with
    | some k => findK ks ds k
    | none => none
  | .dF ks ds, x => match tkeyD x with
    | some k => findK ks ds k
    | none => none
  | .dK ks ds, x => match keyD x with
    | some k => findK ks ds k
    | none => none
  | .kd ks vs, .str x => (findS ks vs x).map .int
  | _, _ => none
def cutL {α : Type} (xs : List α) (lo hi : Option Int) : List α := (xs.drop (HT.sIx xs.length 0 lo)).take (HT.sIx xs.length xs.length hi - HT.sIx xs.length 0 lo)
def sliD : D → Option Int → Option Int → Option D
  | .lst ds, lo, hi => some (.lst (cutL ds lo hi))
  | .fl ds, lo, hi => some (.lst (cutL ds lo hi))
  | .tup ds, lo, hi => some (.tup (cutL ds lo hi))
  | _, _, _ => none
def revD : D → Option D
  | .lst ds => some (.lst ds.reverse)
  | _ => none
def intsD : List D → Option (List Int)
  | [] => some []
  | .int i :: ds => match intsD ds with
    | some is => some (i :: is)
    | none => none
  | _ => none
def blsD : List D → Option (List Bool)
  | [] => some []
  | .bl i :: ds => match blsD ds with
    | some is => some (i :: is)
    | none => none
  | _ => none
def insI (x : Int) : List Int → List Int
  | [] => [x]
  | y :: ys => if x ≤ y then x :: y :: ys else y :: insI x ys
def sortI : List Int → List Int
  | [] => []
  | x :: xs => insI x (sortI xs)
def maxI : Int → List Int → Int
  | m, [] => m
  | m, x :: xs => maxI (if m < x then x else m) xs
def minI : Int → List Int → Int
  | m, [] => m
  | m, x :: xs => minI (if x < m then x else m) xs
/-- pairs (key, value) put one after the other -/
def putAllK {κ : Type} [DecidableEq κ] (key : D → Option κ) : List D → List κ × List D → Option (List κ × List D)
  | [], acc => some acc
  | .tup [k, v] :: r, acc => match key k with
    | some x => putAllK key r (putK acc.1 acc.2 x v)
    | none => none
  | _, _ => none
def isiD : Ty → D → Option Bool
  | .tup, .tup _ => some true
  | .tup, .kt _ => some true
  | .lst, .lst _ => some true
  | .int, .int _ => some true
  | .int, .bl _ => some true
  | .bool, .bl _ => some true
  | .str, .str _ => some true
  | .dict, .dK _ _ => some true
  | .dict, .dT _ _ => some true
  | _, .ref _ => none
  | _, .ins _ _ => none
  | _, .fl _ => none
  | _, .kd _ _ => none
  | _, .dF _ _ => none
  | _, _ => some false
def lenD : List D → Option D
  | [.str x] => if x.length ≤ sizeLine then some (.int x.length) else none
  | [.tup xs] => some (.int xs.length)
  | [.kt xs] => some (.int xs.length)
  | [.lst xs] => some (.int xs.length)
  | [.fl xs] => some (.int xs.length)
  | [.dK ks _] => some (.int ks.length)
  | _ => none
def sumD : List D → Option D
  | [.lst ds] => (intsD ds).map fun is => .int is.sum
  | [.tup ds] => (intsD ds).map fun is => .int is.sum
  | _ => none
def allD : List D → Option D
  | [.lst ds] => (blsD ds).map fun bs => .bl (bs.all id)
  | _ => none
def anyD : List D → Option D
  | [.lst ds] => (blsD ds).map fun bs => .bl (bs.any id)
  | _ => none
def intD : List D → Option D
  | [.int i] => some (.int i)
  | [.bl b] => some (.int (if b then 1 else 0))
  | _ => none
def listD : List D → Option D
  | [.lst ds] => some (.lst ds)
  | [.tup ds] => some (.lst ds)
  | _ => none
def tupleD : List D → Option D
  | [.lst ds] => some (.tup ds)
  | [.tup ds] => some (.tup ds)
  | _ => none
def sortedD : List D → Option D
  | [.lst ds] => (intsD ds).map fun is => .lst ((sortI is).map .int)
  | _ => none
def max1D : List D → Option D
  | [.lst ds] => match intsD ds with
    | some (i :: is) => some (.int (maxI i is))
    | _ => none
  | _ => none
def min1D : List D → Option D
  | [.lst ds] => match intsD ds with
    | some (i :: is) => some (.int (minI i is))
    | _ => none
  | _ => none
def divmodD : List D → Option D
  | [.int i, .int j] => if 0 < j ∧ j < 1073741824 then some (.tup [.int (i / j), .int (i % j)]) else none
  | _ => none
def dictTD : List D → Option D
  | [.lst ds] => if ds.length < sizeLine then (putAllK tkeyD ds ([], [])).map fun p => .dT p.1 p.2 else none
  | _ => none
def biD : BI → List D → Option D
  | .len, ds => lenD ds
  | .sum, ds => sumD ds
  | .all, ds => allD ds
  | .any, ds => anyD ds
  | .abs, [.int i] => some (.int (if i < 0 then -i else i))
  | .int, ds => intD ds
  | .list, ds => listD ds
  | .tuple, ds => tupleD ds
  | .sorted, ds => sortedD ds
  | .max1, ds => max1D ds
  | .min1, ds => min1D ds
  | .max2, [.int i, .int j] => some (.int (if j > i then j else i))
  | .min2, [.int i, .int j] => some (.int (if j < i then j else i))
  | .divmod, ds => divmodD ds
  | .dictT, ds => dictTD ds
  | .isi t, [d] => (isiD t d).map .bl
  | _, _ => none
/-- the first place of an equal one -/
def indexPy (p : PyData) : List PyData → Nat → Option Nat
  | [], _ => none
  | z :: zs, n => if PyData.eqv z p = true then some n else indexPy p zs (n + 1)
def mtD : Mt → D → List D → Option D
  | .index, .lst ds, [x] => match toPy x, toPys ds with
    | some p, some ps => if (SeqAt.shaped p && SeqAt.shaped (.list ps)) = true then (indexPy p ps 0).map fun n => .int (n : Int) else none
    | _, _ => none
  | .get, .dT ks ds, [x, y] => (tkeyD x).map fun k => (findK ks ds k).getD y
  | .get, .dK ks ds, [x, y] => (keyD x).map fun k => (findK ks ds k).getD y
  | _, _, _ => none
def isCellD : D → Bool
  | .lst _ | .dK _ _ | .dT _ _ => true
  | _ => false
def insAt {α : Type} (xs : List α) (i : Nat) (x : α) : List α := xs.take i ++ x :: xs.drop i

/-! ### targets -/
mutual
def asgT : Tg → D → Env' → Option Env'
  | .nm i, d, env => if i < env.length then some (env.set i (some (.fro d))) else none
  | .tu ts, .tup ds, env => asgTs ts ds env
  | .tu ts, .lst ds, env => asgTs ts ds env
  | _, _, _ => none
def asgTs : Tgs → List D → Env' → Option Env'
  | .nil, [], env => some env
  | .cons t ts, d :: ds, env => match asgT t d env with
    | some env' => asgTs ts ds env'
    | none => none
  | _, _, _ => none
end
def wipeE (env : Env') : List Nat → Env'
  | [] => env
  | v :: vs => (wipeE env vs).set v none
/-- behind a block: the block's own slots as they were -/
def backE (env env' : Env') : List Nat → Env'
  | [] => env'
  | v :: vs => (backE env env' vs).set v (env[v]?.getD none)

/-! ### what is reckoned -/
inductive Out where
  | stuck | exc (x : Xn) (A : List AO) | ok (d : D) (A : List AO)
structure ECx where
  call : Nat → List D → List AO → Out
  /-- how many fields a class has -/
  flds : Nat → Option Nat
def pickD (ds : List D) : List Nat → Option (List D)
  | [] => some []
  | i :: r => match ds[i]? with
    | some d => (match pickD ds r with
      | some as => some (d :: as)
      | none => none)
    | none => none
def ofOpt {α : Type} (o : Option α) (st : SS) : R α := match o with
  | some a => .ok a st
  | none => .stuck
/-- an object as it stands -/
def derefD (A : List AO) : D → D
  | .ref n => match A[n]? with
    | some (.ls ds) => .lst ds
    | none => .ref n
  | d => d
def froE (env : Env') (i : Nat) : Env' := match env[i]? with
  | some (some (.own d)) => env.set i (some (.fro d))
  | _ => env
def compLoop (f : D → SS → R (Option D)) : List D → List D → SS → R (List D)
  | [], acc, st => .ok acc st
  | x :: xs, acc, st => (f x st).bind fun o st => match o with
    | some d => if acc.length < sizeLine then compLoop f xs (acc ++ [d]) st else .stuck
    | none => compLoop f xs acc st
/-- an error within is not told -/
def noexc {α : Type} : R α → R α
  | .ok a st => .ok a st
  | _ => .stuck
def compLoop2 (f : D → List D → SS → R (List D)) : List D → List D → SS → R (List D)
  | [], acc, st => .ok acc st
  | x :: xs, acc, st => (f x acc st).bind fun acc st => compLoop2 f xs acc st
def rngD (lo : Int) : Nat → List D
  | 0 => []
  | n + 1 => .int lo :: rngD (lo + 1) n
def rngU (lo : Int) : Nat → List D
  | 0 => []
  | n + 1 => .int lo :: rngU (lo - 1) n
def enumD (k : Nat) : List D → List D
  | [] => []
  | d :: ds => .tup [.int k, d] :: enumD (k + 1) ds
def zipD : List D → List D → List D
  | a :: as, b :: bs => .tup [a, b] :: zipD as bs
  | _, _ => []
def keyOf : Key → D
  | .inl i => .int i
  | .inr x => .str x
/-- what a slot's own cell is when it is given to all: a dict of tuple keys is closed -/
def giveD : D → D
  | .dT ks ds => .dF ks ds
  | d => d
def itemsS : D → Option (List D)
  | .lst ds => some ds
  | .tup ds => some ds
  | .kt ds => some ds
  | _ => none
def itemsD : D → Option (List D)
  | .dF ks _ => some (ks.map fun k => .tup (k.map keyOf))
  | .lst ds => some ds
  | .tup ds => some ds
  | .kt ds => some ds
  | _ => none
def inR (i : Int) : Bool := decide (-(2 ^ 62) ≤ i) && decide (i < 2 ^ 62)
variable (cx : ECx)
mutual
/-- b: the value is only looked at (a slot's own cell stays its own) -/
def ev (b : Bool) : IE → SS → R D
  | .stuck, _ => .stuck
  | .con d, st => .ok d st
  | .var i, st => match st.env[i]? with
    | some (some (.fro d)) => .ok d st
    | some (some (.own d)) => if b = true then .ok d st else .ok (giveD d) { st with env := st.env.set i (some (.fro (giveD d))) }
    | _ => .stuck
  | .bin o x y, st => (ev true x st).bind fun dx st => (ev true y st).bind fun dy st => ofOpt (binD o dx dy) st
  | .neg x, st => (ev true x st).bind fun dx st => match dx with
    | .int i => .ok (.int (-i)) st
    | _ => .stuck
  | .nt x, st => (ev true x st).bind fun dx st => match dx with
    | .bl c => .ok (.bl (!c)) st
    | _ => .stuck
  | .cmp o x y, st => (ev true x st).bind fun dx st => (ev true y st).bind fun dy st => ofOpt ((cmpD o dx dy).map .bl) st
  | .chain o p x y z, st => (ev true x st).bind fun dx st => (ev true y st).bind fun dy st => match cmpD o dx dy with
    | some true => (ev true z st).bind fun dz st => ofOpt ((cmpD p dy dz).map .bl) st
    | some false => .ok (.bl false) st
    | none => .stuck
  | .and x y, st => (ev true x st).bind fun dx st => match dx with
    | .bl true => ev b y st
    | .bl false => .ok (.bl false) st
    | _ => .stuck
  | .or x y, st => (ev true x st).bind fun dx st => match dx with
    | .bl false => ev b y st
    | .bl true => .ok (.bl true) st
    | _ => .stuck
  | .ite c x y, st => (ev true c st).bind fun dc st => match dc with
    | .bl true => ev b x st
    | .bl false => ev b y st
    | _ => .stuck
  | .tup es, st => (evs false es st).bind fun ds st => if ds.length ≤ sizeLine then .ok (.tup ds) st else .stuck
  | .lst es, st => (evs false es st).bind fun ds st => if ds.length ≤ sizeLine then .ok (.lst ds) st else .stuck
  | .dic0 tk, st => .ok (if tk = true then .dT [] [] else .dK [] []) st
  | .dic _ _ _, _ => .stuck
  | .sub x i, st => (ev true x st).bind fun dx st => (ev true i st).bind fun di st => ofOpt (subD (derefD st.A dx) di) st
  | .sli x lo hi, st => (ev true x st).bind fun dx st => (evO lo st).bind fun l st => (evO hi st).bind fun h st => ofOpt (sliD dx l h) st
  | .rev x, st => (ev true x st).bind fun dx st => ofOpt (revD dx) st
  | .pcall f es, st => (evs true es st).bind fun ds st1 => match cx.call f ds [] with
    | .ok d _ => if plain d = true then .ok d st1 else (evs false es st).bind fun ds2 st2 => .ok d st2
    | .exc x _ => .exc x st1
    | .stuck => .stuck
  | .call f es, st => (evs false es st).bind fun ds st => match cx.call f ds st.A with
    | .ok d A => .ok d { st with A := A }
    | .exc x A => .exc x { st with A := A }
    | .stuck => .stuck
  | .callP f pm es, st => (evs false es st).bind fun ds st => match pickD ds pm with
    | some as => (match cx.call f as st.A with
      | .ok d A => .ok d { st with A := A }
      | .exc x A => .exc x { st with A := A }
      | .stuck => .stuck)
    | none => .stuck
  | .obj e, st => (ev false e st).bind fun d st => match d with
    | .lst ds => .ok (.ref st.A.length) { st with A := st.A ++ [.ls ds] }
    | _ => .stuck
  | .dic1 k e, st => (ev false e st).bind fun d st => .ok (.dK [.inr k] [d]) st
  | .dicT k e, st => (ev true k st).bind fun dk st => (ev false e st).bind fun d st => match tkeyD dk with
    | some ks => .ok (.dT [ks] [d]) st
    | none => .stuck
  | .mk c es, st => (evs false es st).bind fun ds st => match cx.flds c with
    | some n => if ds.length = n then .ok (.ins c ds) st else .stuck
    | none => .stuck
  | .bi o es, st => (evs true es st).bind fun ds st => ofOpt (biD o ds) st
  | .mt m x es, st => (ev true x st).bind fun dx st => (evs false es st).bind fun ds st => ofOpt (mtD m dx ds) st
  | .fld x c j, st => (ev true x st).bind fun dx st => match dx with
    | .ins c' ds => if c' = c then ofOpt ds[j]? st else .stuck
    | _ => .stuck
  | .comp vs t it ifs elt, st => (evI it st).bind fun xs st => (noexc (compLoop (fun x st => match asgT t x st.env with
      | some env => (evT ifs { st with env := env }).bind fun c st => match c with
        | true => (ev false elt st).bind fun d st => .ok (some d) { st with env := wipeE st.env vs }
        | false => .ok none { st with env := wipeE st.env vs }
      | none => .stuck) xs [] { st with env := wipeE st.env vs })).bind fun ds st' => .ok (.lst ds) { st' with env := backE st.env st'.env vs }
  | .comp2 vs vs1 t it t1 it1 elt, st => (evI it st).bind fun xs st => (noexc (compLoop2 (fun x acc st => match asgT t x st.env with
      | some env => (evI it1 { st with env := env }).bind fun ys st1 => (compLoop (fun y st => match asgT t1 y st.env with
          | some env => (ev false elt { st with env := env }).bind fun d st => .ok (some d) { st with env := wipeE st.env vs1 }
          | none => .stuck) ys acc { st1 with env := wipeE st1.env vs1 }).bind fun ds st2 => .ok ds { st2 with env := wipeE st2.env vs }
      | none => .stuck) xs [] { st with env := wipeE st.env vs })).bind fun ds st' => .ok (.lst ds) { st' with env := backE st.env st'.env vs }
def evs (b : Bool) : IEs → SS → R (List D)
  | .nil, st => .ok [] st
  | .cons e es, st => (ev b e st).bind fun d st => (evs b es st).bind fun ds st => .ok (d :: ds) st
def evO : IO → SS → R (Option Int)
  | .no, st => .ok none st
  | .yes e, st => (ev true e st).bind fun d st => match d with
    | .int i => .ok (some i) st
    | _ => .stuck
/-- tests, one after another -/
def evT : IEs → SS → R Bool
  | .nil, st => .ok true st
  | .cons e es, st => (ev true e st).bind fun d st => match d with
    | .bl true => evT es st
    | .bl false => .ok false st
    | _ => .stuck
/-- what is walked -/
def evI : II → SS → R (List D)
  | .seq e, st => (ev false e st).bind fun d st => ofOpt (itemsD d) st
  | .rng1 a, st => (ev true a st).bind fun d st => match d with
    | .int j => if inR j = true then .ok (rngD 0 j.toNat) st else .stuck
    | _ => .stuck
  | .rng2 a b, st => (ev true a st).bind fun da st => (ev true b st).bind fun db st => match da, db with
    | .int i, .int j => if (inR i && inR j) = true then .ok (rngD i (j - i).toNat) st else .stuck
    | _, _ => .stuck
  | .rng3 a b, st => (ev true a st).bind fun da st => (ev true b st).bind fun db st => match da, db with
    | .int i, .int j => if (inR i && inR j) = true then .ok (rngU i (i - j).toNat) st else .stuck
    | _, _ => .stuck
  | .enum e, st => (ev false e st).bind fun d st => ofOpt ((itemsS d).map (enumD 0)) st
  | .zip a b, st => (ev false a st).bind fun da st => (ev false b st).bind fun db st => match itemsD da, itemsD db with
    | some xs, some ys => .ok (zipD xs ys) st
    | _, _ => .stuck
end

inductive Fl where
  | nx | bk | ct | rt (d : D)
def forLoop (f : D → SS → R Fl) : List D → SS → R Fl
  | [], st => .ok .nx st
  | x :: xs, st => (f x st).bind fun fl st => match fl with
    | .nx => forLoop f xs st
    | .ct => forLoop f xs st
    | .bk => .ok .nx st
    | .rt d => .ok (.rt d) st
def whileLoop (c : SS → R Bool) (f : SS → R Fl) : Nat → SS → R Fl
  | 0, _ => .stuck
  | n + 1, st => (c st).bind fun b st => match b with
    | false => .ok .nx st
    | true => (f st).bind fun fl st => match fl with
      | .nx => whileLoop c f n st
      | .ct => whileLoop c f n st
      | .bk => .ok .nx st
      | .rt d => .ok (.rt d) st
/-- o[i] = d -/
def setD : D → D → D → Option D
  | .lst ds, .int i, d => (ixN ds.length i).map fun j => .lst (ds.set j d)
  | .dT ks ds, x, d => match tkeyD x with
    | some k => if ks.length < sizeLine then some (.dT (putK ks ds k d).1 (putK ks ds k d).2) else none
    | none => none
  | .dK ks ds, x, d => match keyD x with
    | some k => if ks.length < sizeLine then some (.dK (putK ks ds k d).1 (putK ks ds k d).2) else none
    | none => none
  | _, _, _ => none
/-- the cell that slot x holds: its own, or an object; what is made of it -/
def upCell (x : Nat) (f : D → Option D) (st : SS) : R Unit := match st.env[x]? with
  | some (some (.own d)) => (match f d with
    | some d' => .ok () { st with env := st.env.set x (some (.own d')) }
    | none => .stuck)
  | some (some (.fro (.ref n))) => (match st.A[n]? with
    | some (.ls ds) => (match f (.lst ds) with
      | some (.lst ds') => .ok () { st with A := st.A.set n (.ls ds') }
      | _ => .stuck)
    | none => .stuck)
  | _ => .stuck
/-- what the cell at slot x holds -/
def lookCell (x : Nat) (st : SS) : Option D := match st.env[x]? with
  | some (some (.own d)) => some d
  | some (some (.fro (.ref n))) => (match st.A[n]? with
    | some (.ls ds) => some (.lst ds)
    | none => none)
  | _ => none
def appD (d : D) : D → Option D
  | .lst ds => if ds.length < sizeLine then some (.lst (ds ++ [d])) else none
  | _ => none
def insD (i : Int) (d : D) : D → Option D
  | .lst ds => if 0 ≤ i ∧ i ≤ ds.length ∧ ds.length < sizeLine then some (.lst (insAt ds i.toNat d)) else none
  | _ => none
/-- a op= b of numbers -/
def augD : Op2 → D → D → Option D
  | .add, .int i, .int j => some (.int (i + j))
  | .sub, .int i, .int j => some (.int (i - j))
  | .mul, .int i, .int j => if (smallI i || smallI j) = true then some (.int (i * j)) else none
  | _, _, _ => none
def whileFuel : Nat := 100000
mutual
def evS : IS → SS → R Fl
  | .stuck, _ => .stuck
  | .ex e, st => (ev cx true e st).bind fun _ st => .ok .nx st
  | .ret e, st => (ev cx false e st).bind fun d st => .ok (.rt d) st
  | .retN, st => .ok (.rt .non) st
  | .asg t e, st => (ev cx false e st).bind fun d st => match asgT t d st.env with
    | some env => .ok .nx { st with env := env }
    | none => .stuck
  | .asgF i e, st => (ev cx false e st).bind fun d st => if isCellD d = true ∧ i < st.env.length then .ok .nx { st with env := st.env.set i (some (.own d)) } else .stuck
  | .asgS x i e, st => (ev cx false e st).bind fun d st => match lookCell x st with
    | some _ => (ev cx true i st).bind fun di st => (upCell x (fun c => setD c di d) st).bind fun _ st => .ok .nx st
    | none => .stuck
  | .par2 i j a b, st => (ev cx false a st).bind fun da st => (ev cx false b st).bind fun db st => if i < st.env.length ∧ j < st.env.length then .ok .nx { st with env := (st.env.set i (some (.fro da))).set j (some (.fro db)) } else .stuck
  | .par3 i j l a b c, st => (ev cx false a st).bind fun da st => (ev cx false b st).bind fun db st => (ev cx false c st).bind fun dc st => if i < st.env.length ∧ j < st.env.length ∧ l < st.env.length then .ok .nx { st with env := ((st.env.set i (some (.fro da))).set j (some (.fro db))).set l (some (.fro dc)) } else .stuck
  | .tgS x i j e, st => (ev cx false e st).bind fun d st => match d with
    | .tup [a, b] => (match lookCell x st with
      | some _ => (ev cx true i st).bind fun di st => (upCell x (fun c => setD c di a) st).bind fun _ st => if j < st.env.length then .ok .nx { st with env := st.env.set j (some (.fro b)) } else .stuck
      | none => .stuck)
    | _ => .stuck
  | .aug i o e, st => match st.env[i]? with
    | some (some (.fro d)) => (ev cx true e st).bind fun de st => ofOpt ((augD o d de).map fun _ => Fl.nx) { st with env := st.env.set i ((augD o d de).map .fro) }
    | _ => .stuck
  | .augS x i o e, st => match lookCell x st with
    | some _ => (ev cx true i st).bind fun di st => (match (lookCell x st).bind fun c => if isCellD c = true then subD c di else none with
      | some old => (ev cx true e st).bind fun de st => (match augD o old de with
        | some d => (upCell x (fun c => setD c di d) st).bind fun _ st => .ok .nx st
        | none => .stuck)
      | none => .stuck)
    | none => .stuck
  | .app x e, st => match lookCell x st with
    | some (.lst _) => (ev cx false e st).bind fun d st => (upCell x (appD d) st).bind fun _ st => .ok .nx st
    | _ => .stuck
  | .ins x i e, st => match lookCell x st with
    | some (.lst _) => (ev cx false i st).bind fun di st => (ev cx false e st).bind fun d st => (match di with
      | .int k => (upCell x (insD k d) st).bind fun _ st => .ok .nx st
      | _ => .stuck)
    | _ => .stuck
  | .ifS c a b, st => (ev cx true c st).bind fun dc st => match dc with
    | .bl true => evSs a st
    | .bl false => evSs b st
    | _ => .stuck
  | .forS t it body, st => (evI cx it st).bind fun xs st => forLoop (fun x st => match asgT t x st.env with
      | some env => evSs body { st with env := env }
      | none => .stuck) xs st
  | .whileS c body, st => whileLoop (fun st => (ev cx true c st).bind fun dc st => match dc with
      | .bl v => .ok v st
      | _ => .stuck) (fun st => evSs body st) whileFuel st
  | .brk, st => .ok .bk st
  | .cont, st => .ok .ct st
  | .pass, st => .ok .nx st
  | .raise _ _, _ => .stuck
def evSs : ISs → SS → R Fl
  | .nil, st => .ok .nx st
  | .cons s ss, st => (evS s st).bind fun fl st => match fl with
    | .nx => evSs ss st
    | _ => .ok fl st
end

/-! ### defs -/
structure IDef where
  slots : Nat
  pars : Nat
  body : ISs
def startE (n : Nat) (ds : List D) : Env' := ds.map (fun d => some (.fro d)) ++ List.replicate (n - ds.length) none
def runDef (cx : ECx) (d : IDef) (ds : List D) (A : List AO) : Out := match evSs cx d.body ⟨startE d.slots ds, A⟩ with
  | .ok (.rt v) st => .ok v st.A
  | .ok .nx st => .ok .non st.A
  | .exc x st => .exc x st.A
  | _ => .stuck
/-- the defs of a program, the classes' numbers of fields -/
structure Tab where
  def_ : Nat → Option IDef
  flds : Nat → Option Nat
def callN (t : Tab) : Nat → Nat → List D → List AO → Out
  | 0, _, _, _ => .stuck
  | k + 1, f, ds, A => match t.def_ f with
    | some d => if ds.length = d.pars then runDef ⟨callN t k, t.flds⟩ d ds A else .stuck
    | none => .stuck
end IL

set_option Elab.async false
set_option linter.all false
set_option maxRecDepth 100000
set_option maxHeartbeats 4000000
/-! IL3: readings of the small language, how they are put together. -/
namespace IL
open PySem L2

/-- what is static: the written part, classes, exceptions' classes -/
structure Sta' extends Sta where
  exc : Nat → Option (Addr × List Str)
variable {T : Sta'}

/-- an exception as it flies: its class, its own dict -/
def XRel (T : Sta') (M : Ms) (S : Hp) (x : Xn) (cls : Value) (dd : Option Addr) (H : Hp) : Prop :=
  ∃ C fs vs, T.exc x.c = some (C, fs) ∧ cls = .ref C ∧ fs.length = vs.length ∧ Reps T.toSta M S x.fs vs ∧ ((fs = [] ∧ dd = none) ∨ ∃ a, dd = some a ∧ H a = some (.xd (fs.zip vs)))

/-- as Ext, for an expression: nothing of the frame is written, own cells are at most given away -/
structure ExtE (env : Env') (σ : L2.St) (H S : Hp) (M : Ms) (env' : Env') (H' S' : Hp) (M' : Ms) : Prop where
  x : Ext env σ H S M env' σ H' S' M'
  fr : ∀ a o, H a = some o → a ∉ M → (¬ Own env σ a ∨ Own env' σ a) → H' a = some o
  le : ∀ i : Nat, env'[i]? = env[i]? ∨ ∃ d : D, env[i]? = some (some (.own d)) ∧ env'[i]? = some (some (.fro (giveD d)))
theorem ExtE.refl {env : Env'} {σ : L2.St} {H S : Hp} {M : Ms} : ExtE env σ H S M env H S M := ⟨Ext.refl, fun _ _ h _ _ => h, fun _ => .inl rfl⟩
theorem ExtE.trans {env env1 env2 : Env'} {σ : L2.St} {H S H1 S1 H2 S2 : Hp} {M M1 M2 : Ms} (a : ExtE env σ H S M env1 H1 S1 M1) (b : ExtE env1 σ H1 S1 M1 env2 H2 S2 M2) : ExtE env σ H S M env2 H2 S2 M2 := by
  refine ⟨a.x.trans b.x, fun x o h hm ho => ?_, fun i => ?_⟩
  · have ho1 : ¬ Own env σ x ∨ Own env1 σ x := ho.imp id fun z => (b.x.ow x z).elim id fun z => absurd z (a.x.kp x (by rw [h]; exact fun z => nomatch z))
    have ho2 : ¬ Own env1 σ x ∨ Own env2 σ x := ho.imp (fun z y => (a.x.ow x y).elim z fun y => by rw [y] at h; cases h) id
    refine b.fr x o (a.fr x o h hm ho1) (fun z => ?_) ho2
    obtain ⟨t, e, ht⟩ := a.x.mm
    rw [e] at z
    rcases List.mem_append.mp z with z | z
    · exact hm z
    · rw [ht x z] at h
      cases h
  · rcases b.le i with h | ⟨d, h1, h2⟩
    · rcases a.le i with h' | ⟨d, h1, h2⟩
      · exact .inl (h.trans h')
      · exact .inr ⟨d, h1, h.trans h2⟩
    · rcases a.le i with h' | ⟨d', h1', h2'⟩
      · exact .inr ⟨d, h'.symm.trans h1, h2⟩
      · rw [h1] at h2'
        cases h2'

/-- a value that was reckoned: known for good, or a slot's own cell that is only looked at -/
def VR (T : Sta') (b : Bool) (env : Env') (σ : L2.St) (M : Ms) (S : Hp) (d : D) (v : V) : Prop :=
  Rep T.toSta M S d v ∨ (b = true ∧ ∃ (i : Nat) (a : Addr), env[i]? = some (some (.own d)) ∧ σ[i]? = some (some (.ref a)) ∧ v = .ref a)
theorem VR.rep {env : Env'} {σ : L2.St} {M : Ms} {S : Hp} {d : D} {v : V} (h : VR T false env σ M S d v) : Rep T.toSta M S d v := by
  rcases h with h | ⟨h, _⟩
  · exact h
  · cases h
theorem rep_give {M : Ms} {S : Hp} {d : D} {v : V} (h : Rep T.toSta M S (giveD d) v) : Rep T.toSta M S d v := by
  cases d with
  | dT ks ds =>
    cases h with
    | dF h l r => exact .dT (.inr ⟨_, h⟩) l r
  | _ => exact h
theorem VR.mono {b : Bool} {st1 st2 : SS} {σ : L2.St} {H1 S1 H2 S2 : Hp} {M1 M2 : Ms} {d : D} {v : V} (h : VR T b st1.env σ M1 S1 d v) (x : ExtE st1.env σ H1 S1 M1 st2.env H2 S2 M2) (I : RI T.toSta st2 σ H2 S2 M2) : VR T b st2.env σ M2 S2 d v := by
  rcases h with h | ⟨hb, i, a, h1, h2, h3⟩
  · exact .inl (h.mono x.x.ss x.x.pre)
  · rcases x.le i with q | ⟨e, q1, q2⟩
    · exact .inr ⟨hb, i, a, q.trans h1, h2, h3⟩
    · rw [h1] at q1
      cases q1
      obtain ⟨w, e1, e2⟩ := I.fro i _ q2
      rw [h2] at e1
      cases e1
      rw [h3]
      exact .inl (rep_give e2)
abbrev VRs (T : Sta') (b : Bool) (env : Env') (σ : L2.St) (M : Ms) (S : Hp) : List D → List V → Prop := Paired (VR T b env σ M S)
theorem VRs.mono {b : Bool} {st1 st2 : SS} {σ : L2.St} {H1 S1 H2 S2 : Hp} {M1 M2 : Ms} {ds : List D} {vs : List V} (h : VRs T b st1.env σ M1 S1 ds vs) (x : ExtE st1.env σ H1 S1 M1 st2.env H2 S2 M2) (I : RI T.toSta st2 σ H2 S2 M2) : VRs T b st2.env σ M2 S2 ds vs :=
  Paired.mapP h fun _ _ q => VR.mono q x I
theorem VRs.reps {env : Env'} {σ : L2.St} {M : Ms} {S : Hp} : ∀ {ds : List D} {vs : List V}, VRs T false env σ M S ds vs → Reps T.toSta M S ds vs
  | _, _, .nil => .nil
  | _, _, .cons h r => .cons h.rep (VRs.reps r)

/-! ### behind -/
section
variable (T) (W : WX) (σ : L2.St) (env : Env') (H S : Hp) (M : Ms)
/-- behind an expression -/
def Post {α : Type} (r : R α) (P : α → SS → Hp → Hp → Ms → Prop) : Prop := match r with
  | .ok a st' => ∀ H' S' M', RI T.toSta st' σ H' S' M' → ExtE env σ H S M st'.env H' S' M' → P a st' H' S' M'
  | .exc x st' => ∀ cls dd H' S' M', RI T.toSta st' σ H' S' M' → ExtE env σ H S M st'.env H' S' M' → XRel T M' S' x cls dd H' → W cls dd σ H'
  | .stuck => False
/-- behind a statement -/
def PostS {α : Type} (r : R α) (P : α → SS → L2.St → Hp → Hp → Ms → Prop) : Prop := match r with
  | .ok a st' => ∀ σ' H' S' M', RI T.toSta st' σ' H' S' M' → Ext env σ H S M st'.env σ' H' S' M' → P a st' σ' H' S' M'
  | .exc x st' => ∀ cls dd σ' H' S' M', RI T.toSta st' σ' H' S' M' → Ext env σ H S M st'.env σ' H' S' M' → XRel T M' S' x cls dd H' → W cls dd σ' H'
  | .stuck => False
end
section
variable {W : WX} {σ : L2.St} {env : Env'} {H S : Hp} {M : Ms} {α β : Type}
theorem Post.mono {r : R α} {P P' : α → SS → Hp → Hp → Ms → Prop} (h : Post T W σ env H S M r P) (k : ∀ a st' H' S' M', RI T.toSta st' σ H' S' M' → ExtE env σ H S M st'.env H' S' M' → P a st' H' S' M' → P' a st' H' S' M') : Post T W σ env H S M r P' := by
  cases r with
  | ok a st' => exact fun H' S' M' I x => k _ _ _ _ _ I x (h H' S' M' I x)
  | exc x st' => exact h
  | stuck => exact h
theorem Post.bind {r : R α} {f : α → SS → R β} {P : β → SS → Hp → Hp → Ms → Prop} (h : Post T W σ env H S M (r.bind f) P) : Post T W σ env H S M r fun a st1 H1 S1 M1 => Post T W σ st1.env H1 S1 M1 (f a st1) P := by
  cases r with
  | ok a st1 =>
    intro H1 S1 M1 I1 x1
    have h' : Post T W σ env H S M (f a st1) P := h
    show Post T W σ st1.env H1 S1 M1 (f a st1) P
    generalize f a st1 = g at h'
    cases g with
    | ok b st2 => exact fun H2 S2 M2 I2 x2 => h' H2 S2 M2 I2 (x1.trans x2)
    | exc x st2 => exact fun cls dd H2 S2 M2 I2 x2 => h' cls dd H2 S2 M2 I2 (x1.trans x2)
    | stuck => exact h'
  | exc x st1 => exact h
  | stuck => exact h
theorem PostS.mono {r : R α} {P P' : α → SS → L2.St → Hp → Hp → Ms → Prop} (h : PostS T W σ env H S M r P) (k : ∀ a st' σ' H' S' M', RI T.toSta st' σ' H' S' M' → Ext env σ H S M st'.env σ' H' S' M' → P a st' σ' H' S' M' → P' a st' σ' H' S' M') : PostS T W σ env H S M r P' := by
  cases r with
  | ok a st' => exact fun σ' H' S' M' I x => k _ _ _ _ _ _ I x (h σ' H' S' M' I x)
  | exc x st' => exact h
  | stuck => exact h
theorem PostS.bind {r : R α} {f : α → SS → R β} {P : β → SS → L2.St → Hp → Hp → Ms → Prop} (h : PostS T W σ env H S M (r.bind f) P) : PostS T W σ env H S M r fun a st1 σ1 H1 S1 M1 => PostS T W σ1 st1.env H1 S1 M1 (f a st1) P := by
  cases r with
  | ok a st1 =>
    intro σ1 H1 S1 M1 I1 x1
    have h' : PostS T W σ env H S M (f a st1) P := h
    show PostS T W σ1 st1.env H1 S1 M1 (f a st1) P
    generalize f a st1 = g at h'
    cases g with
    | ok b st2 => exact fun σ2 H2 S2 M2 I2 x2 => h' σ2 H2 S2 M2 I2 (x1.trans x2)
    | exc x st2 => exact fun cls dd σ2 H2 S2 M2 I2 x2 => h' cls dd σ2 H2 S2 M2 I2 (x1.trans x2)
    | stuck => exact h'
  | exc x st1 => exact h
  | stuck => exact h
/-- an expression within a statement -/
theorem PostS.bindE {r : R α} {f : α → SS → R β} {P : β → SS → L2.St → Hp → Hp → Ms → Prop} (h : PostS T W σ env H S M (r.bind f) P) : Post T W σ env H S M r fun a st1 H1 S1 M1 => PostS T W σ st1.env H1 S1 M1 (f a st1) P := by
  cases r with
  | ok a st1 =>
    intro H1 S1 M1 I1 x1
    have h' : PostS T W σ env H S M (f a st1) P := h
    show PostS T W σ st1.env H1 S1 M1 (f a st1) P
    generalize f a st1 = g at h'
    cases g with
    | ok b st2 => exact fun σ2 H2 S2 M2 I2 x2 => h' σ2 H2 S2 M2 I2 (x1.x.trans x2)
    | exc x st2 => exact fun cls dd σ2 H2 S2 M2 I2 x2 => h' cls dd σ2 H2 S2 M2 I2 (x1.x.trans x2)
    | stuck => exact h'
  | exc x st1 => exact fun cls dd H' S' M' I x => h cls dd σ H' S' M' I x.x
  | stuck => exact h
end

/-! ### the readings -/
section
variable (T) (W : WX) (cx : ECx)
def tI (b : Bool) (e : IE) : TE := fun σ H Q => ∃ st S M, RI T.toSta st σ H S M ∧ Post T W σ st.env H S M (ev cx b e st) fun d st' H' S' M' => ∀ v, VR T b st'.env σ M' S' d v → Q v H'
def tTs (e : IE) : TT := fun σ H Q => ∃ st S M, RI T.toSta st σ H S M ∧ Post T W σ st.env H S M (ev cx true e st) fun d st' H' S' M' => ∃ c, d = .bl c ∧ Q c H'
def tAs (b : Bool) (es : IEs) : TA := fun σ H Q => ∃ st S M, RI T.toSta st σ H S M ∧ Post T W σ st.env H S M (evs cx b es st) fun ds st' H' S' M' => ∀ vs, VRs T b st'.env σ M' S' ds vs → Q vs H'
def tSt (s : IS) : TS := fun D σ H => ∃ st S M, RI T.toSta st σ H S M ∧ PostS T W σ st.env H S M (evS cx s st) fun fl st' σ' H' S' M' => match fl with
  | .nx => D.nx σ' H'
  | .bk => D.bk σ' H'
  | .ct => D.ct σ' H'
  | .rt d => ∀ v, Rep T.toSta M' S' d v → D.rt v H'
def tSs (s : ISs) : TS := fun D σ H => ∃ st S M, RI T.toSta st σ H S M ∧ PostS T W σ st.env H S M (evSs cx s st) fun fl st' σ' H' S' M' => match fl with
  | .nx => D.nx σ' H'
  | .bk => D.bk σ' H'
  | .ct => D.ct σ' H'
  | .rt d => ∀ v, Rep T.toSta M' S' d v → D.rt v H'
end
/-- a cell of no one's: at an address that was nothing ahead -/
def Fresh (T : Sta') (H H' S' : Hp) (M' : Ms) (d : D) (v : V) : Prop := ∃ a o, v = .ref a ∧ H a = none ∧ H' a = some o ∧ S' a = none ∧ a ∉ M' ∧ CellO T.toSta M' S' d o
/-- a list or a dict is a new cell, any other value is known for good -/
def FR (T : Sta') (H H' S' : Hp) (M' : Ms) (d : D) (v : V) : Prop := (isCellD d = true ∧ Fresh T H H' S' M' d v) ∨ (isCellD d = false ∧ Rep T.toSta M' S' d v)
/-- a reading whose value is no one's -/
def tF (T : Sta') (W : WX) (cx : ECx) (e : IE) : TE := fun σ H Q => ∃ st S M, RI T.toSta st σ H S M ∧ Post T W σ st.env H S M (ev cx false e st) fun d st' H' S' M' => ∀ v, FR T H H' S' M' d v → Q v H'

theorem FR.back {H H1 H' S' : Hp} {M' : Ms} {d : D} {v : V} (k : ∀ a, H1 a = none → H a = none) (h : FR T H1 H' S' M' d v) : FR T H H' S' M' d v := by
  rcases h with ⟨h1, a, o, e1, e2, e3⟩ | h
  · exact .inl ⟨h1, a, o, e1, k a e2, e3⟩
  · exact .inr h
theorem PE.of {X : Cx} {e : Expr} {t t' : TE} (h : PE X e t) (k : ∀ σ H Q, t' σ H Q → t σ H Q) : PE X e t' := ⟨fun pins s σ H Q I q => h.run pins s σ H Q I (k σ H Q q)⟩
theorem PT.of {X : Cx} {e : Expr} {t t' : TT} (h : PT X e t) (k : ∀ σ H Q, t' σ H Q → t σ H Q) : PT X e t' := ⟨fun pins s σ H Q I q => h.run pins s σ H Q I (k σ H Q q)⟩
theorem PW.of {X : Cx} {e : Expr} {t t' : TT} (h : PW X e t) (k : ∀ σ H Q, t' σ H Q → t σ H Q) : PW X e t' := ⟨fun wh pins s σ H Q I q => h.run wh pins s σ H Q I (k σ H Q q)⟩
theorem PA.of {X : Cx} {e : List Expr} {t t' : TA} (h : PA X e t) (k : ∀ σ H Q, t' σ H Q → t σ H Q) : PA X e t' := ⟨fun pos pins s σ H Q I q => h.run pos pins s σ H Q I (k σ H Q q)⟩
theorem PS.of {X : Cx} {e : Stmt} {t t' : TS} (h : PS X e t) (k : ∀ D σ H, t' D σ H → t D σ H) : PS X e t' := ⟨fun pins s σ H D I q => h.run pins s σ H D I (k D σ H q)⟩
theorem PSs.of {X : Cx} {e : List Stmt} {t t' : TS} (h : PSs X e t) (k : ∀ D σ H, t' D σ H → t D σ H) : PSs X e t' := ⟨fun pins s σ H D I q => h.run pins s σ H D I (k D σ H q)⟩

/-! ### new objects -/
theorem same_upd {H : Hp} {p : Addr} {o : HO} (h : H p = none) : Same H (upd H p o) := fun b x e => by
  rw [upd_ne (ne_of_none e h)]
  exact e
theorem upd_sub {S H : Hp} {p : Addr} {o : HO} (e : Same S H) : Same (upd S p o) (upd H p o) := fun b x h => by
  by_cases hb : b = p
  · subst hb
    rw [upd_same] at h ⊢
    exact h
  · rw [upd_ne hb] at h ⊢
    exact e b x h
section
variable {st : SS} {σ : L2.St} {H S : Hp} {M : Ms} {p : Addr} {o : HO}
theorem RI.noM (I : RI T.toSta st σ H S M) (hp : H p = none) : p ∉ M := fun z => by
  obtain ⟨⟨o, e⟩, _⟩ := I.mem z
  rw [e] at hp
  cases hp
theorem RI.noS (I : RI T.toSta st σ H S M) (hp : H p = none) : S p = none := by
  cases e : S p with
  | none => rfl
  | some o =>
    have := I.sub p o e
    rw [this] at hp
    cases hp
/-- a new object, known for good -/
theorem RI.laid (I : RI T.toSta st σ H S M) (hp : H p = none) : RI T.toSta st σ (upd H p o) (upd S p o) M := by
  have hS := I.noS hp
  have sS : Same S (upd S p o) := same_upd hS
  have sH : Same H (upd H p o) := same_upd hp
  refine ⟨upd_sub I.sub, fun i d e => ?_, fun i d e => ?_, I.sep, fun n ao e => ?_, I.mlen, I.mnd, fun b xs e => (by
    by_cases hb : b = p
    · rw [hb, upd_same] at e ⊢
      exact e
    · rw [upd_ne hb] at e ⊢
      exact I.tp b xs e), I.elen⟩
  · obtain ⟨v, h1, h2⟩ := I.fro i d e
    exact ⟨v, h1, h2.mono sS (Pre.refl M)⟩
  · obtain ⟨a, u, h1, h2, h3, h4, h5⟩ := I.own i d e
    exact ⟨a, u, h1, sH _ _ h2, h3.mono sS (Pre.refl M), by rw [upd_ne (ne_of_none h2 hp)]; exact h4, h5⟩
  · obtain ⟨a, u, h1, h2, h3, h4⟩ := I.obj n ao e
    exact ⟨a, u, h1, sH _ _ h2, h3.mono sS (Pre.refl M), by rw [upd_ne (ne_of_none h2 hp)]; exact h4⟩
/-- a new object that no one knows -/
theorem RI.fresh (I : RI T.toSta st σ H S M) (hp : H p = none) (nt : ∀ xs, o ≠ .tup xs := by intro _ z; cases z) : RI T.toSta st σ (upd H p o) S M := by
  have sH : Same H (upd H p o) := same_upd hp
  refine ⟨I.sub.trans sH, I.fro, fun i d e => ?_, I.sep, fun n ao e => ?_, I.mlen, I.mnd, fun b xs e => (by
    by_cases hb : b = p
    · rw [hb, upd_same] at e
      exact absurd (Option.some.inj e) (nt xs)
    · rw [upd_ne hb] at e
      exact I.tp b xs e), I.elen⟩
  · obtain ⟨a, u, h1, h2, h3, h4, h5⟩ := I.own i d e
    exact ⟨a, u, h1, sH _ _ h2, h3, h4, h5⟩
  · obtain ⟨a, u, h1, h2, h3, h4⟩ := I.obj n ao e
    exact ⟨a, u, h1, sH _ _ h2, h3, h4⟩
theorem ExtE.laid (I : RI T.toSta st σ H S M) (hp : H p = none) : ExtE st.env σ H S M st.env (upd H p o) (upd S p o) M := by
  have hS := I.noS hp
  refine ⟨⟨same_upd hS, fun a h => ?_, fun a u h _ _ => same_upd hp _ _ h, fun a h => .inl h, ⟨[], by simp, fun _ h => by simp at h⟩, fun a h => ?_⟩, fun a u h _ _ => same_upd hp _ _ h, fun i => .inl rfl⟩
  · by_cases ha : a = p
    · exact .inr (.inl (by rw [ha]; exact hp))
    · rw [upd_ne ha] at h
      exact .inl h
  · by_cases ha : a = p
    · rw [ha, upd_same]
      exact fun z => nomatch z
    · rw [upd_ne ha]
      exact h
theorem ExtE.fresh (I : RI T.toSta st σ H S M) (hp : H p = none) : ExtE st.env σ H S M st.env (upd H p o) S M := by
  refine ⟨⟨Same.refl S, fun a h => .inl h, fun a u h _ _ => same_upd hp _ _ h, fun a h => .inl h, ⟨[], by simp, fun _ h => by simp at h⟩, fun a h => ?_⟩, fun a u h _ _ => same_upd hp _ _ h, fun i => .inl rfl⟩
  by_cases ha : a = p
  · rw [ha, upd_same]
    exact fun z => nomatch z
  · rw [upd_ne ha]
    exact h
/-- a new cell becomes known for good -/
theorem RI.settle (I : RI T.toSta st σ H S M) {a : Addr} (ha : H a = some o) (hS : S a = none) (hM : a ∉ M) (ho : ¬ Own st.env σ a) : RI T.toSta st σ H (upd S a o) M := by
  have sS : Same S (upd S a o) := same_upd hS
  refine ⟨fun b u e => ?_, fun i d e => ?_, fun i d e => ?_, I.sep, fun n ao e => ?_, I.mlen, I.mnd, fun b xs e => sS _ _ (I.tp b xs e), I.elen⟩
  · by_cases hb : b = a
    · subst hb
      rw [upd_same] at e
      cases e
      exact ha
    · rw [upd_ne hb] at e
      exact I.sub b u e
  · obtain ⟨v, h1, h2⟩ := I.fro i d e
    exact ⟨v, h1, h2.mono sS (Pre.refl M)⟩
  · obtain ⟨b, u, h1, h2, h3, h4, h5⟩ := I.own i d e
    refine ⟨b, u, h1, h2, h3.mono sS (Pre.refl M), ?_, h5⟩
    rw [upd_ne fun z => ho ⟨i, d, e, by rw [← z]; exact h1⟩]
    exact h4
  · obtain ⟨b, u, h1, h2, h3, h4⟩ := I.obj n ao e
    refine ⟨b, u, h1, h2, h3.mono sS (Pre.refl M), ?_⟩
    rw [upd_ne fun z => hM (by rw [← z]; exact List.mem_of_getElem? h1)]
    exact h4
end
/-- a reading with a new cell serves where any value does -/
theorem ofF_imp {W : WX} {cx : ECx} {il : IE} {b : Bool} (hb : ∀ st, ev cx b il st = ev cx false il st) {σ : L2.St} {H : Hp} {Q : VK} (h : tI T W cx b il σ H Q) : tF T W cx il σ H Q := by
  obtain ⟨st, S, M, I, q⟩ := h
  refine ⟨st, S, M, I, ?_⟩
  rw [hb] at q
  cases r : ev cx false il st with
  | stuck =>
    rw [r] at q
    exact q
  | exc x st' =>
    rw [r] at q
    exact q
  | ok d st' =>
    rw [r] at q
    intro H' S' M' I' x' v hv
    rcases hv with ⟨_, a, o, e1, e2, e3, e4, e5, e6⟩ | ⟨_, hv⟩
    case inr => exact q H' S' M' I' x' v (.inl hv)
    have no : ¬ Own st'.env σ a := fun z => by
      rcases x'.x.ow a z with z | z
      · obtain ⟨⟨o', z', _⟩, _⟩ := I.ownH z
        rw [e2] at z'
        cases z'
      · obtain ⟨i, d', z1, z2⟩ := id ‹Own st'.env σ a›
        rcases x'.le i with q1 | ⟨d2, q1, q2⟩
        · have : Own st.env σ a := ⟨i, d', q1.symm.trans z1, z2⟩
          obtain ⟨⟨o', z', _⟩, _⟩ := I.ownH this
          rw [e2] at z'
          cases z'
        · rw [z1] at q2
          cases q2
    have I2 := I'.settle e3 e4 e5 no
    refine q H' (upd S' a o) M' I2 ⟨⟨x'.x.ss.trans (same_upd e4), fun b hb => ?_, x'.x.fr, x'.x.ow, x'.x.mm, x'.x.kp⟩, x'.fr, x'.le⟩ v (.inl ?_)
    · by_cases hba : b = a
      · exact .inr (.inl (by rw [hba]; exact e2))
      · rw [upd_ne hba] at hb
        exact x'.x.sn b hb
    · rw [e1]
      exact (e6.mono (same_upd e4) (Pre.refl M')).rep upd_same
theorem PE.ofF {X : Cx} {W : WX} {cx : ECx} {e : Expr} {il : IE} {b : Bool} (hb : ∀ st, ev cx b il st = ev cx false il st) (h : PE X e (tF T W cx il)) : PE X e (tI T W cx b il) :=
  IL.PE.of h fun σ H Q q => ofF_imp hb q
end IL

set_option Elab.async false
set_option linter.all false
set_option maxRecDepth 100000
set_option maxHeartbeats 4000000
/-! IL4: values seen at a heap; operators. -/
namespace IL
open PySem L2
variable {T : Sta'} {X : Cx} {W : WX} {cx : ECx}
section
variable {b : Bool} {st : SS} {σ : L2.St} {H S : Hp} {M : Ms} {v : V}
theorem VR.look (I : RI T.toSta st σ H S M) {d : D} (h : VR T b st.env σ M S d v) : Rep T.toSta M S d v ∨ ∃ a o, v = .ref a ∧ H a = some o ∧ CellO T.toSta M S d o := by
  rcases h with h | ⟨_, i, a, h1, h2, h3⟩
  · exact .inl h
  · obtain ⟨a', o, e1, e2, e3, _⟩ := I.own i d h1
    rw [h2] at e1
    cases e1
    exact .inr ⟨a, o, h3, e2, e3⟩
theorem VR.rep_of (I : RI T.toSta st σ H S M) {d : D} (h : VR T b st.env σ M S d v) (hd : isCellD d = false) : Rep T.toSta M S d v := by
  rcases h.look I with h | ⟨a, o, _, _, h⟩
  · exact h
  · cases h <;> simp [isCellD] at hd
theorem VR.non (I : RI T.toSta st σ H S M) (h : VR T b st.env σ M S .non v) : v = .non := by
  cases h.rep_of I rfl
  rfl
theorem VR.bl (I : RI T.toSta st σ H S M) {c : Bool} (h : VR T b st.env σ M S (.bl c) v) : v = .bl c := by
  cases h.rep_of I rfl
  rfl
theorem VR.int (I : RI T.toSta st σ H S M) {i : Int} (h : VR T b st.env σ M S (.int i) v) : v = .int i := by
  cases h.rep_of I rfl
  rfl
theorem VR.str (I : RI T.toSta st σ H S M) {x : Str} (h : VR T b st.env σ M S (.str x) v) : v = .str x := by
  cases h.rep_of I rfl
  rfl
theorem VR.tup (I : RI T.toSta st σ H S M) {ds : List D} (h : VR T b st.env σ M S (.tup ds) v) : ∃ a vs, v = .ref a ∧ S a = some (.tup vs) ∧ H a = some (.tup vs) ∧ Reps T.toSta M S ds vs := by
  cases h.rep_of I rfl with
  | tup h2 r => exact ⟨_, _, rfl, h2, I.sub _ _ h2, r⟩
theorem VR.kt (I : RI T.toSta st σ H S M) {ds : List D} (h : VR T b st.env σ M S (.kt ds) v) : ∃ a vs, v = .ref a ∧ SqT T.K H a vs ∧ Reps T.toSta M S ds vs := by
  cases h.rep_of I rfl with
  | kt h2 r => exact ⟨_, _, rfl, Same.tup I.sub h2, r⟩
theorem VR.kd (I : RI T.toSta st σ H S M) {ks : List Str} {ds : List Int} (h : VR T b st.env σ M S (.kd ks ds) v) : ∃ a, v = .ref a ∧ KTb T.K T.w a ks ds := by
  cases h.rep_of I rfl with
  | kd h2 => exact ⟨_, rfl, h2⟩
theorem VR.fl (I : RI T.toSta st σ H S M) {ds : List D} (h : VR T b st.env σ M S (.fl ds) v) : ∃ a vs, v = .ref a ∧ SqL T.K H a vs ∧ Reps T.toSta M S ds vs := by
  cases h.rep_of I rfl with
  | fl h2 r => exact ⟨_, _, rfl, Same.lst I.sub h2, r⟩
theorem VR.lst (I : RI T.toSta st σ H S M) {ds : List D} (h : VR T b st.env σ M S (.lst ds) v) : ∃ a vs, v = .ref a ∧ H a = some (.lst vs) ∧ Reps T.toSta M S ds vs := by
  rcases h.look I with h | ⟨a, o, h1, h2, h3⟩
  · cases h with
    | lst h2 r => exact ⟨_, _, rfl, I.sub _ _ h2, r⟩
  · cases h3 with
    | lst r => exact ⟨a, _, h1, h2, r⟩
theorem VR.dK (I : RI T.toSta st σ H S M) {ks : List Key} {ds : List D} (h : VR T b st.env σ M S (.dK ks ds) v) : ∃ a vs, v = .ref a ∧ H a = some (.dK (ks.zip vs)) ∧ ks.length = vs.length ∧ Reps T.toSta M S ds vs := by
  rcases h.look I with h | ⟨a, o, h1, h2, h3⟩
  · cases h with
    | dK h2 l r => exact ⟨_, _, rfl, I.sub _ _ h2, l, r⟩
  · cases h3 with
    | dK l r => exact ⟨a, _, h1, h2, l, r⟩
theorem VR.dT (I : RI T.toSta st σ H S M) {ks : List (List Key)} {ds : List D} (h : VR T b st.env σ M S (.dT ks ds) v) : ∃ a vs, v = .ref a ∧ Rd H a (.dT (ks.zip vs)) ∧ ks.length = vs.length ∧ Reps T.toSta M S ds vs := by
  rcases h.look I with h | ⟨a, o, h1, h2, h3⟩
  · cases h with
    | dT h2 l r => exact ⟨_, _, rfl, Same.rd I.sub h2, l, r⟩
  · cases h3 with
    | dT l r => exact ⟨a, _, h1, .inl h2, l, r⟩
theorem VR.dF (I : RI T.toSta st σ H S M) {ks : List (List Key)} {ds : List D} (h : VR T b st.env σ M S (.dF ks ds) v) : ∃ a o vs, v = .ref a ∧ H a = some (.frz o (.dT (ks.zip vs))) ∧ ks.length = vs.length ∧ Reps T.toSta M S ds vs := by
  cases h.rep_of I rfl with
  | dF h2 l r => exact ⟨_, _, _, rfl, I.sub _ _ h2, l, r⟩
theorem VR.insV (I : RI T.toSta st σ H S M) {c : Nat} {ds : List D} (h : VR T b st.env σ M S (.ins c ds) v) : ∃ a C dx fs vs, v = .ref a ∧ T.cls c = some (C, fs) ∧ H a = some (.ins C dx (fs.zip vs)) ∧ fs.length = vs.length ∧ Reps T.toSta M S ds vs := by
  cases h.rep_of I rfl with
  | ins c h2 l r => exact ⟨_, _, _, _, _, rfl, c, I.sub _ _ h2, l, r⟩
/-- what is wanted behind a value that is a new list -/
theorem FR.newL (I : RI T.toSta st σ H S M) {p : Addr} (hp : H p = none) {ds : List D} {vs : List V} (r : Reps T.toSta M S ds vs) : FR T H (upd H p (.lst vs)) S M (.lst ds) (.ref p) :=
  .inl ⟨rfl, p, _, rfl, hp, upd_same, I.noS hp, I.noM hp, .lst r⟩
theorem Rep.newT (I : RI T.toSta st σ H S M) {p : Addr} (hp : H p = none) {ds : List D} {vs : List V} (r : Reps T.toSta M S ds vs) : Rep T.toSta M (upd S p (.tup vs)) (.tup ds) (.ref p) :=
  .tup upd_same (r.mono (same_upd (I.noS hp)) (Pre.refl M))
end

/-! ### two-place operators -/
def pyOp : Op2 → Operator
  | .add => .Add
  | .sub => .Sub
  | .mul => .Mult
  | .fdiv => .FloorDiv
  | .mod => .Mod
  | .pow => .Pow
def rB (K : PySem.W.Frag) : Op2 → R2
  | .add => fun x y H Q => rI0 (fun i j => .int (i + j)) x y H Q ∨ (∃ i j, x = .str i ∧ y = .str j ∧ i.length + j.length ≤ sizeLine ∧ Q (.str (i ++ j)) H) ∨ rCatA K x y H Q ∨ rCat x y H Q
  | .sub => rI0 fun i j => .int (i - j)
  | .mul => fun x y H Q => rI CMul (fun i j => .int (i * j)) x y H Q ∨ rI CMulW (fun i j => .int (i * j)) x y H Q ∨ rRep x y H Q ∨ rRepT K x y H Q
  | .fdiv => rI CDivW fun i j => .int (i / j)
  | .mod => rI (fun _ j => 0 < j) fun i j => .int (i % j)
  | .pow => rI CPow fun i j => .int (i ^ j.toNat)
theorem op_rB : ∀ o : Op2, OpR X (binaryOp (pyOp o)) (rB X.K o)
  | .add => op_add.or (op_add_str.or (op_catA.or op_cat))
  | .sub => op_sub
  | .mul => op_mul.or (op_mulW.or (op_rep.or op_repT))
  | .fdiv => op_fdivW
  | .mod => op_mod
  | .pow => op_pow
theorem flat_reps {M : Ms} {S : Hp} {ds : List D} {vs : List V} (r : Reps T.toSta M S ds vs) : ∀ n, Reps T.toSta M S (List.replicate n ds).flatten (List.replicate n vs).flatten
  | 0 => .nil
  | n + 1 => by
    rw [List.replicate_succ, List.replicate_succ, List.flatten_cons, List.flatten_cons]
    exact r.append (flat_reps r n)
theorem bin_ok {b b' : Bool} {st : SS} {σ : L2.St} {H S : Hp} {M : Ms} {x y : V} {o : Op2} {dx dy d : D} {Q : VK} (I : RI T.toSta st σ H S M) (vx : VR T b st.env σ M S dx x) (vy : VR T b' st.env σ M S dy y) (e : binD o dx dy = some d)
    (q : ∀ H' S' M', RI T.toSta st σ H' S' M' → ExtE st.env σ H S M st.env H' S' M' → ∀ v, FR T H H' S' M' d v → Q v H') : rB T.K o x y H Q := by
  have here : ∀ v, isCellD d = false → Rep T.toSta M S d v → Q v H := fun v h r => q H S M I ExtE.refl v (.inr ⟨h, r⟩)
  unfold binD at e
  split at e
  · cases e
    exact .inl ⟨_, _, vx.int I, vy.int I, here _ rfl (.int _)⟩
  · split at e
    · cases e
      exact .inr (.inl ⟨_, _, vx.str I, vy.str I, by assumption, here _ rfl (.str _)⟩)
    · cases e
  · split at e
    · cases e
      obtain ⟨a, vs, ea, sa, ha, ra⟩ := vx.tup I
      obtain ⟨c, us, ec, sc, hc, rc⟩ := vy.tup I
      refine .inr (.inr (.inl ⟨a, c, vs, us, ea, ec, .of ha, .of hc, by rw [← ra.length, ← rc.length]; assumption, fun z => ?_, fun z z2 => ?_, fun _ _ p hp => ?_⟩))
      · subst z
        cases ra
        exact here _ rfl (.tup sc rc)
      · subst z2
        cases rc
        rw [List.append_nil] at here
        exact here _ rfl (.tup sa ra)
      · exact q _ _ _ (I.laid hp) (ExtE.laid I hp) _ (.inr ⟨rfl, Rep.newT I hp (ra.append rc)⟩)
    · cases e
  · split at e
    · cases e
      obtain ⟨a, vs, ea, ha, ra⟩ := vx.lst I
      obtain ⟨c, us, ec, hc, rc⟩ := vy.lst I
      exact .inr (.inr (.inr ⟨a, c, vs, us, ea, ec, ha, hc, by rw [← ra.length, ← rc.length]; assumption, fun p hp => q _ _ _ (I.fresh hp) (ExtE.fresh I hp) _ (FR.newL I hp (ra.append rc))⟩))
    · cases e
  · cases e
    exact ⟨_, _, vx.int I, vy.int I, here _ rfl (.int _)⟩
  · split at e
    · rename_i hm
      cases e
      unfold mulOk smallI at hm
      simp only [Bool.or_eq_true, Bool.and_eq_true, decide_eq_true_eq] at hm
      rcases hm with hm | hm | hm
      · exact .inl ⟨_, _, vx.int I, vy.int I, .inl hm, here _ rfl (.int _)⟩
      · exact .inl ⟨_, _, vx.int I, vy.int I, .inr hm, here _ rfl (.int _)⟩
      · exact .inr (.inl ⟨_, _, vx.int I, vy.int I, hm, here _ rfl (.int _)⟩)
    · cases e
  · split at e
    · rename_i hm
      cases e
      obtain ⟨a, vs, ea, sa, ha, ra⟩ := vx.tup I
      refine .inr (.inr (.inr ⟨a, _, vs, ea, vy.int I, .of ha, fun z => ?_, hm.2.1, hm.2.2.1, by rw [← ra.length]; exact hm.2.2.2, fun p hp => q _ _ _ (I.laid hp) (ExtE.laid I hp) _ (.inr ⟨rfl, Rep.newT I hp (flat_reps ra _)⟩)⟩))
      subst z
      cases ra
      exact hm.1 rfl
    · cases e
  · split at e
    · rename_i hm
      cases e
      obtain ⟨a, vs, ea, ha, ra⟩ := vx.lst I
      exact .inr (.inr (.inl ⟨a, _, vs, ea, vy.int I, ha, hm.1, hm.2.1, by rw [← ra.length]; exact hm.2.2, fun p hp => q _ _ _ (I.fresh hp) (ExtE.fresh I hp) _ (FR.newL I hp (flat_reps ra _))⟩))
    · cases e
  · split at e
    · rename_i hm
      cases e
      exact ⟨_, _, vx.int I, vy.int I, hm, here _ rfl (.int _)⟩
    · cases e
  · split at e
    · rename_i hm
      cases e
      exact ⟨_, _, vx.int I, vy.int I, hm, here _ rfl (.int _)⟩
    · cases e
  · split at e
    · rename_i hm
      cases e
      refine ⟨_, _, vx.int I, vy.int I, ?_, here _ rfl (.int _)⟩
      exact hm
    · cases e
  · cases e
theorem s_binF {a c : Expr} {o : Op2} {ia ib : IE} {pos : Pos} (hK : X.K = T.K) (ha : PE X a (tI T W cx true ia)) (hb : PE X c (tI T W cx true ib)) : PE X (.BinOp a (pyOp o) c pos) (tF T W cx (.bin o ia ib)) := by
  have r := op_rB (X := X) o
  rw [hK] at r
  refine IL.PE.of (pe_op r ha hb) fun σ H Q ⟨st, S, M, I, q⟩ => ?_
  simp only [ev] at q
  refine ⟨st, S, M, I, q.bind.mono fun dx st1 H1 S1 M1 I1 x1 q1 x vx => ?_⟩
  refine ⟨st1, S1, M1, I1, q1.bind.mono fun dy st2 H2 S2 M2 I2 x2 q2 y vy => ?_⟩
  have vx2 := vx.mono x2 I2
  cases e : binD o dx dy with
  | none =>
    rw [e] at q2
    exact q2.elim
  | some d =>
    rw [e] at q2
    exact bin_ok I2 vx2 vy e fun H' S' M' I' x' v f => q2 H' S' M' I' x' v (f.back fun a h => x1.x.none_of (x2.x.none_of h))
end IL

set_option Elab.async false
set_option linter.all false
set_option maxRecDepth 100000
set_option maxHeartbeats 4000000
/-! IL5: comparisons, subscripts, slices. -/
namespace IL
open PySem L2
variable {T : Sta'} {X : Cx} {W : WX} {cx : ECx}
mutual
theorem Rep.dp {M : Ms} {S : Hp} : ∀ {d : D} {v : V} {p : PyData}, Rep T.toSta M S d v → toPy d = some p → Dp T.K S v p
  | _, _, _, .non, e => by
    cases e
    exact .non
  | _, _, _, .bl b, e => by
    cases e
    exact .bl b
  | _, _, _, .int i, e => by
    cases e
    exact .int i
  | _, _, _, .str x, e => by
    cases e
    exact .str x
  | _, _, _, .tup h r, e => by
    simp only [toPy] at e
    obtain ⟨ps, e1, rfl⟩ := Option.map_eq_some_iff.mp e
    exact .tup (.of h) (Reps.dps r e1)
  | _, _, _, .kt h r, e => by
    simp only [toPy] at e
    obtain ⟨ps, e1, rfl⟩ := Option.map_eq_some_iff.mp e
    exact .tup h (Reps.dps r e1)
  | _, _, _, .lst h r, e => by
    simp only [toPy] at e
    obtain ⟨ps, e1, rfl⟩ := Option.map_eq_some_iff.mp e
    exact .lst (.of h) (Reps.dps r e1)
  | _, _, _, .fl _ _, e => by simp [toPy] at e
  | _, _, _, .dK _ _ _, e => by simp [toPy] at e
  | _, _, _, .dT _ _ _, e => by simp [toPy] at e
  | _, _, _, .dF _ _ _, e => by simp [toPy] at e
  | _, _, _, .ins _ _ _ _, e => by simp [toPy] at e
  | _, _, _, .obj _, e => by simp [toPy] at e
theorem Reps.dps {M : Ms} {S : Hp} : ∀ {ds : List D} {vs : List V} {ps : List PyData}, Reps T.toSta M S ds vs → toPys ds = some ps → DpAll T.K S vs ps
  | _, _, _, .nil, e => by
    cases e
    exact .nil
  | _, _, _, .cons h r, e => by
    simp only [toPys] at e
    split at e
    · split at e
      · cases e
        exact .cons (Rep.dp h (by assumption)) (Reps.dps r (by assumption))
      · cases e
    · cases e
end
mutual
theorem Dp.mono {K : PySem.W.Frag} {S H : Hp} (k : Same S H) : ∀ {v : V} {p : PyData}, Dp K S v p → Dp K H v p
  | _, _, .non => .non
  | _, _, .bl b => .bl b
  | _, _, .int i => .int i
  | _, _, .str x => .str x
  | _, _, .lst h r => .lst (Same.lst k h) (DpAll.mono k r)
  | _, _, .tup h r => .tup (Same.tup k h) (DpAll.mono k r)
theorem DpAll.mono {K : PySem.W.Frag} {S H : Hp} (k : Same S H) : ∀ {vs : List V} {ps : List PyData}, DpAll K S vs ps → DpAll K H vs ps
  | _, _, .nil => .nil
  | _, _, .cons h r => .cons (Dp.mono k h) (DpAll.mono k r)
end
theorem VR.dp {b : Bool} {st : SS} {σ : L2.St} {H S : Hp} {M : Ms} {v : V} (I : RI T.toSta st σ H S M) {d : D} {p : PyData} (h : VR T b st.env σ M S d v) (e : toPy d = some p) : Dp T.K H v p := by
  rcases h.look I with h | ⟨a, o, h1, h2, h3⟩
  · exact Dp.mono I.sub (h.dp e)
  · cases h3 with
    | lst r =>
      simp only [toPy] at e
      obtain ⟨ps, e1, rfl⟩ := Option.map_eq_some_iff.mp e
      rw [h1]
      exact .lst (.of h2) (DpAll.mono I.sub (Reps.dps r e1))
    | dK l r => simp [toPy] at e
    | dT l r => simp [toPy] at e

/-! ### dicts -/
section
variable {κ : Type} [DecidableEq κ] {M : Ms} {S : Hp}
theorem findK_ok : ∀ {ks : List κ} {ds : List D} {vs : List V} {k : κ}, Reps T.toSta M S ds vs → ks.length = vs.length → (findK ks ds k = none ∧ valV (ks.zip vs) k = none) ∨ ∃ d v, findK ks ds k = some d ∧ valV (ks.zip vs) k = some v ∧ Rep T.toSta M S d v
  | [], ds, vs, k, r, l => by
    refine .inl ⟨?_, rfl⟩
    cases ds <;> rfl
  | k' :: ks, [], vs, k, r, l => by
    cases r
    simp at l
  | k' :: ks, d :: ds, _, k, .cons h r, l => by
    by_cases e : k' = k
    · refine .inr ⟨d, _, ?_, ?_, h⟩
      · simp [findK, e]
      · rw [List.zip_cons_cons]
        exact valV_pos e
    · have ih := findK_ok (k := k) r (by simpa using l)
      rw [List.zip_cons_cons, valV_neg e]
      simpa [findK, e] using ih
theorem updK_ok {e : D} {u : V} (he : Rep T.toSta M S e u) (k : κ) : ∀ {ks : List κ} {ds : List D} {vs : List V}, Reps T.toSta M S ds vs → ks.length = vs.length →
    ∃ us, (ks.zip vs).map (fun kv => if kv.1 = k then (kv.1, u) else kv) = ks.zip us ∧ ks.length = us.length ∧ Reps T.toSta M S (updK ks ds k e) us
  | [], ds, vs, r, l => by
    refine ⟨[], rfl, rfl, ?_⟩
    cases ds <;> exact .nil
  | k' :: ks, [], vs, r, l => by
    cases r
    simp at l
  | k' :: ks, d :: ds, v :: vs, .cons h r, l => by
    obtain ⟨us, e1, e2, e3⟩ := updK_ok he k r (by simpa using l)
    by_cases z : k' = k
    · refine ⟨u :: us, ?_, by simp [e2], ?_⟩
      · rw [List.zip_cons_cons, List.map_cons, e1, List.zip_cons_cons, if_pos z]
      · simp only [updK, if_pos z]
        exact .cons he e3
    · refine ⟨v :: us, ?_, by simp [e2], ?_⟩
      · rw [List.zip_cons_cons, List.map_cons, e1, List.zip_cons_cons, if_neg z]
      · simp only [updK, if_neg z]
        exact .cons h e3
theorem putK_ok {e : D} {u : V} (he : Rep T.toSta M S e u) {k : κ} {ks : List κ} {ds : List D} {vs : List V} (r : Reps T.toSta M S ds vs) (l : ks.length = vs.length) :
    ∃ us, L2.putK (ks.zip vs) k u = (putK ks ds k e).1.zip us ∧ (putK ks ds k e).1.length = us.length ∧ Reps T.toSta M S (putK ks ds k e).2 us := by
  have ea : ((ks.zip vs).any fun kv => decide (kv.1 = k)) = ks.any fun x => decide (x = k) := by
    have : ks = (ks.zip vs).map (·.1) := (List.map_fst_zip (by omega)).symm
    conv => rhs; rw [this]
    rw [List.any_map]
    rfl
  unfold L2.putK putK
  rw [ea]
  by_cases z : (ks.any fun x => decide (x = k)) = true
  · rw [if_pos z, if_pos z]
    exact updK_ok he k r l
  · rw [if_neg z, if_neg z]
    refine ⟨vs ++ [u], ?_, by simp [l], r.append (.cons he .nil)⟩
    rw [List.zip_append l]
    rfl
end
theorem keyD_ok {M : Ms} {S : Hp} {d : D} {v : V} {k : Key} (h : Rep T.toSta M S d v) (e : keyD d = some k) : v = kV k := by
  cases h <;> simp [keyD] at e <;> subst e <;> rfl
theorem keysD_ok {M : Ms} {S : Hp} : ∀ {ds : List D} {vs : List V} {ks : List Key}, Reps T.toSta M S ds vs → keysD ds = some ks → vs = ks.map kV
  | _, _, _, .nil, e => by
    cases e
    rfl
  | _, _, _, .cons h r, e => by
    simp only [keysD] at e
    split at e
    · split at e
      · cases e
        rw [List.map_cons, keyD_ok h (by assumption), keysD_ok r (by assumption)]
      · cases e
    · cases e

/-! ### comparisons -/
def pyCm : Cm → CmpOp
  | .eq => .Eq
  | .ne => .NotEq
  | .lt => .Lt
  | .le => .LtE
  | .gt => .Gt
  | .ge => .GtE
  | .is_ => .Is
  | .isn => .IsNot
  | .inn => .In
  | .notin => .NotIn
def rInT (K : PySem.W.Frag) (neg : Bool) : R2 := fun x y H Q => ∃ d ds, Dp K H x d ∧ Dp K H y (.tuple ds) ∧ SeqAt.shaped d = true ∧ SeqAt.shaped (.tuple ds) = true ∧ Q (.bl (if neg = true then !ds.any fun z => PyData.eqv z d else ds.any fun z => PyData.eqv z d)) H
theorem op_inT (hu : X.A.units + 65 < cLine) : OpR X (compareOp .In) (rInT X.K false) := by
  intro pins s σ H x y v u Q I rx ry h
  obtain ⟨d, ds, hd, he, sd, se, q⟩ := h
  obtain ⟨as, r1⟩ := Dp.reads I d x v hd rx
  obtain ⟨bs, r2⟩ := Dp.reads I (.tuple ds) y u he ry
  exact SeqAt.in_tuple_reads r2 r1 (SeqAt.canLay_of_shaped se) (SeqAt.canLay_of_shaped sd) (PyProof.Rows.room_in_shaped sd hu) ⟨.bl _, H, I, rfl, q⟩
theorem op_notInT (hu : X.A.units + 65 < cLine) : OpR X (compareOp .NotIn) (rInT X.K true) := by
  intro pins s σ H x y v u Q I rx ry h
  obtain ⟨d, ds, hd, he, sd, se, q⟩ := h
  obtain ⟨as, r1⟩ := Dp.reads I d x v hd rx
  obtain ⟨bs, r2⟩ := Dp.reads I (.tuple ds) y u he ry
  exact SeqAt.notIn_tuple_reads r2 r1 (SeqAt.canLay_of_shaped se) (SeqAt.canLay_of_shaped sd) (PyProof.Rows.room_in_shaped sd hu) ⟨.bl _, H, I, rfl, q⟩
def rInDict (neg : Bool) : R2 := fun x y H Q => ∃ a o, y = .ref a ∧ DGet H a x o ∧ Q (.bl (if neg = true then !o.isSome else o.isSome)) H
theorem op_inDict (hu : X.A.units + 1 < cLine) : OpR X (compareOp .In) (rInDict false) := by
  intro pins s σ H x y v u Q I rx ry h
  obtain ⟨a, o, rfl, g, q⟩ := h
  cases ry
  exact d_in hu I g rx fun s' I' => ⟨.bl _, H, I', rfl, q⟩
theorem op_notInDict (hu : X.A.units + 1 < cLine) : OpR X (compareOp .NotIn) (rInDict true) := by
  intro pins s σ H x y v u Q I rx ry h
  obtain ⟨a, o, rfl, g, q⟩ := h
  cases ry
  exact d_notIn hu I g rx fun s' I' => ⟨.bl _, H, I', rfl, q⟩
def rInKd (K : PySem.W.Frag) (w : World) (neg : Bool) : R2 := fun x y H Q => ∃ d z r, (∃ es n, KDict K w d es n) ∧ x = .str z ∧ y = .ref d ∧ PySem.W.nsIn K d z = some r ∧ Q (.bl (if neg = true then !r.isSome else r.isSome)) H
theorem op_inKd : OpR X (compareOp .In) (rInKd X.K X.w false) := by
  intro pins s σ H x y v u Q I rx ry h
  obtain ⟨d, z, r, ⟨es, n, D⟩, e1, e2, e3, q⟩ := h
  exact op_in_kd D pins s σ H x y v u Q I rx ry ⟨z, r, e1, e2, e3, q⟩
theorem op_notInKd : OpR X (compareOp .NotIn) (rInKd X.K X.w true) := by
  intro pins s σ H x y v u Q I rx ry h
  obtain ⟨d, z, r, ⟨es, n, D⟩, e1, e2, e3, q⟩ := h
  exact op_notIn_kd D pins s σ H x y v u Q I rx ry ⟨z, r, e1, e2, e3, q⟩
def rC (K : PySem.W.Frag) (w : World) : Cm → R2
  | .eq => fun x y H Q => rEq x y H Q ∨ rEqD K x y H Q
  | .ne => fun x y H Q => rNe x y H Q ∨ rNeD K x y H Q
  | .lt => rI0 fun i j => .bl (decide (i < j))
  | .le => rI0 fun i j => .bl (decide (i ≤ j))
  | .gt => rI0 fun i j => .bl (decide (j < i))
  | .ge => rI0 fun i j => .bl (decide (j ≤ i))
  | .is_ => fun x y H Q => (y = .non ∧ Q (.bl (decide (x = .non))) H) ∨ rIsB x y H Q
  | .isn => fun x y H Q => (y = .non ∧ Q (.bl (!decide (x = .non))) H) ∨ rNotB x y H Q
  | .inn => fun x y H Q => rInD K x y H Q ∨ rInT K false x y H Q ∨ rInDict false x y H Q ∨ rInKd K w false x y H Q
  | .notin => fun x y H Q => rNotInD K x y H Q ∨ rInT K true x y H Q ∨ rInDict true x y H Q ∨ rInKd K w true x y H Q
theorem op_rC (hu : X.A.units + 65 < cLine) : ∀ o : Cm, OpR X (compareOp (pyCm o)) (rC X.K X.w o)
  | .eq => op_eq.or (op_eqD (by omega))
  | .ne => op_ne.or (op_neD (by omega))
  | .lt => op_lt
  | .le => op_le
  | .gt => op_gt
  | .ge => op_ge
  | .is_ => op_isN.or op_isBl
  | .isn => op_notN.or op_notBl
  | .inn => (op_inD hu).or ((op_inT hu).or ((op_inDict (by omega)).or op_inKd))
  | .notin => (op_notInD hu).or ((op_notInT hu).or ((op_notInDict (by omega)).or op_notInKd))
section
variable {b b' : Bool} {st : SS} {σ : L2.St} {H S : Hp} {M : Ms} {x y : V}
theorem eq_ok (I : RI T.toSta st σ H S M) {dx dy : D} {c : Bool} (vx : VR T b st.env σ M S dx x) (vy : VR T b' st.env σ M S dy y) (e : eqD dx dy = some c) :
    (scal x y = true ∧ c = decide (x = y)) ∨ ∃ d e', Dp T.K H x d ∧ Dp T.K H y e' ∧ SeqAt.shaped d = true ∧ SeqAt.shaped e' = true ∧ c = PyData.eqv d e' := by
  unfold eqD at e
  split at e
  · cases e
    rw [vx.int I, vy.int I]
    exact .inl ⟨rfl, by simp⟩
  · cases e
    rw [vx.str I, vy.str I]
    exact .inl ⟨rfl, by simp⟩
  · cases e
    rw [vx.bl I, vy.bl I]
    exact .inl ⟨rfl, by simp⟩
  · split at e
    · split at e
      · rename_i z
        cases e
        simp only [Bool.and_eq_true] at z
        exact .inr ⟨_, _, vx.dp I (by assumption), vy.dp I (by assumption), z.1, z.2, rfl⟩
      · cases e
    · cases e
theorem inPy_ok (I : RI T.toSta st σ H S M) {mk : List PyData → PyData} {dx : D} {ds : List D} {c : Bool} (vx : VR T b st.env σ M S dx x) (hy : ∀ ps, toPys ds = some ps → Dp T.K H y (mk ps)) (e : inPy mk dx ds = some c) :
    ∃ d ps, Dp T.K H x d ∧ Dp T.K H y (mk ps) ∧ SeqAt.shaped d = true ∧ SeqAt.shaped (mk ps) = true ∧ c = ps.any fun z => PyData.eqv z d := by
  unfold inPy at e
  split at e
  · split at e
    · rename_i z
      cases e
      simp only [Bool.and_eq_true] at z
      exact ⟨_, _, vx.dp I (by assumption), hy _ (by assumption), z.1, z.2, rfl⟩
    · cases e
  · cases e
theorem inDT_ok (I : RI T.toSta st σ H S M) {dx : D} {ks : List (List Key)} {ds : List D} {k : List Key} (vx : VR T b st.env σ M S dx x) (vy : VR T b' st.env σ M S (.dT ks ds) y) (e : tkeyD dx = some k) :
    ∃ a, y = .ref a ∧ ((findK ks ds k = none ∧ DGet H a x none) ∨ ∃ d v, findK ks ds k = some d ∧ DGet H a x (some v) ∧ Rep T.toSta M S d v) := by
  cases dx with
  | tup es =>
    simp only [tkeyD] at e
    obtain ⟨a, vs, ea, sa, ha, ra⟩ := vx.tup I
    obtain ⟨c, us, ec, hc, lc, rc⟩ := vy.dT I
    have ev := keysD_ok ra e
    subst ev
    have g : DGet H c (.ref a) (valV (ks.zip us) k) := .inr ⟨_, k, a, hc, rfl, ha, rfl⟩
    rw [← ea] at g
    refine ⟨c, ec, ?_⟩
    rcases findK_ok (k := k) rc lc with ⟨z1, z2⟩ | ⟨d, v, z1, z2, z3⟩
    · rw [z2] at g
      exact .inl ⟨z1, g⟩
    · rw [z2] at g
      exact .inr ⟨d, v, z1, g, z3⟩
  | _ => simp [tkeyD] at e
theorem inDF_ok (I : RI T.toSta st σ H S M) {dx : D} {ks : List (List Key)} {ds : List D} {k : List Key} (vx : VR T b st.env σ M S dx x) (vy : VR T b' st.env σ M S (.dF ks ds) y) (e : tkeyD dx = some k) :
    ∃ a, y = .ref a ∧ ((findK ks ds k = none ∧ DGet H a x none) ∨ ∃ d v, findK ks ds k = some d ∧ DGet H a x (some v) ∧ Rep T.toSta M S d v) := by
  cases dx with
  | tup es =>
    simp only [tkeyD] at e
    obtain ⟨a, vs, ea, sa, ha, ra⟩ := vx.tup I
    obtain ⟨c, o, us, ec, hc, lc, rc⟩ := vy.dF I
    have ev := keysD_ok ra e
    subst ev
    have g : DGet H c (.ref a) (valV (ks.zip us) k) := .inr ⟨_, k, a, .inr ⟨o, hc⟩, rfl, ha, rfl⟩
    rw [← ea] at g
    refine ⟨c, ec, ?_⟩
    rcases findK_ok (k := k) rc lc with ⟨z1, z2⟩ | ⟨d, v, z1, z2, z3⟩
    · rw [z2] at g
      exact .inl ⟨z1, g⟩
    · rw [z2] at g
      exact .inr ⟨d, v, z1, g, z3⟩
  | _ => simp [tkeyD] at e
theorem inDK_ok (I : RI T.toSta st σ H S M) {dx : D} {ks : List Key} {ds : List D} {k : Key} (vx : VR T b st.env σ M S dx x) (vy : VR T b' st.env σ M S (.dK ks ds) y) (e : keyD dx = some k) :
    ∃ a, y = .ref a ∧ ((findK ks ds k = none ∧ DGet H a x none) ∨ ∃ d v, findK ks ds k = some d ∧ DGet H a x (some v) ∧ Rep T.toSta M S d v) := by
  obtain ⟨c, us, ec, hc, lc, rc⟩ := vy.dK I
  have hd : isCellD dx = false := by cases dx <;> first | rfl | simp [keyD] at e
  have ex := keyD_ok (vx.rep_of I hd) e
  have g := DGet.k (k := k) hc
  rw [← ex] at g
  refine ⟨c, ec, ?_⟩
  rcases findK_ok (k := k) rc lc with ⟨z1, z2⟩ | ⟨d, v, z1, z2, z3⟩
  · rw [z2] at g
    exact .inl ⟨z1, g⟩
  · rw [z2] at g
    exact .inr ⟨d, v, z1, g, z3⟩
theorem kd_find {K : PySem.W.Frag} {w : World} {a : Addr} {ks : List Str} {vs : List Int} {z : Str} (h : KTb K w a ks vs) : (findS ks vs z = none ∧ PySem.W.nsIn K a z = some none) ∨ ∃ i u, findS ks vs z = some i ∧ PySem.W.nsIn K a z = some (some u) ∧ RelV (.int i) u := by
  have := h.at_ z
  cases e : findS ks vs z with
  | none =>
    rw [e] at this
    exact .inl ⟨rfl, this⟩
  | some i =>
    rw [e] at this
    obtain ⟨u, h1, h2⟩ := this
    exact .inr ⟨i, u, rfl, h1, h2⟩
theorem isnon {d : D} (I : RI T.toSta st σ H S M) (vx : VR T b st.env σ M S d x) : decide (x = .non) = isNonD d := by
  rcases vx.look I with h | ⟨a, o, h1, h2, h3⟩
  · cases h <;> rfl
  · rw [h1]
    cases h3 <;> rfl
theorem cmp_ok {o : Cm} {dx dy : D} {c : Bool} {Q : VK} (I : RI T.toSta st σ H S M) (vx : VR T b st.env σ M S dx x) (vy : VR T b' st.env σ M S dy y) (e : cmpD o dx dy = some c) (q : Q (.bl c) H) : rC T.K T.w o x y H Q := by
  unfold cmpD at e
  split at e
  · rcases eq_ok I vx vy e with ⟨h1, h2⟩ | ⟨d, e', h1, h2, h3, h4, h5⟩
    · exact .inl ⟨h1, by rw [← h2]; exact q⟩
    · exact .inr ⟨d, e', h1, h2, h3, h4, by rw [← h5]; exact q⟩
  · obtain ⟨c', e1, rfl⟩ := Option.map_eq_some_iff.mp e
    rcases eq_ok I vx vy e1 with ⟨h1, h2⟩ | ⟨d, e', h1, h2, h3, h4, h5⟩
    · exact .inl ⟨h1, by rw [← h2]; exact q⟩
    · exact .inr ⟨d, e', h1, h2, h3, h4, by rw [← h5]; exact q⟩
  · cases e
    exact ⟨_, _, vx.int I, vy.int I, q⟩
  · cases e
    exact ⟨_, _, vx.int I, vy.int I, q⟩
  · cases e
    exact ⟨_, _, vx.int I, vy.int I, q⟩
  · cases e
    exact ⟨_, _, vx.int I, vy.int I, q⟩
  · cases e
    refine .inl ⟨vy.non I, ?_⟩
    rw [isnon I vx]
    exact q
  · cases e
    refine .inl ⟨vy.non I, ?_⟩
    rw [isnon I vx]
    exact q
  · cases e
    exact .inr ⟨_, _, vx.bl I, vy.bl I, q⟩
  · cases e
    exact .inr ⟨_, _, vx.bl I, vy.bl I, q⟩
  · obtain ⟨d, ps, h1, h2, h3, h4, h5⟩ := inPy_ok I vx (fun ps e => vy.dp I (by simp only [toPy, e]; rfl)) e
    exact .inl ⟨d, ps, h1, h2, h3, h4, by rw [← h5]; exact q⟩
  · obtain ⟨d, ps, h1, h2, h3, h4, h5⟩ := inPy_ok I vx (fun ps e => vy.dp I (by simp only [toPy, e]; rfl)) e
    exact .inr (.inl ⟨d, ps, h1, h2, h3, h4, by rw [h5] at q; exact q⟩)
  · obtain ⟨d, ps, h1, h2, h3, h4, h5⟩ := inPy_ok I vx (fun ps e => vy.dp I (by simp only [toPy, e]; rfl)) e
    exact .inr (.inl ⟨d, ps, h1, h2, h3, h4, by rw [h5] at q; exact q⟩)
  · obtain ⟨k, e1, rfl⟩ := Option.map_eq_some_iff.mp e
    obtain ⟨a, ea, z⟩ := inDT_ok I vx vy e1
    rcases z with ⟨z1, z2⟩ | ⟨d, v, z1, z2, _⟩
    · exact .inr (.inr (.inl ⟨a, none, ea, z2, by rw [z1] at q; exact q⟩))
    · exact .inr (.inr (.inl ⟨a, some v, ea, z2, by rw [z1] at q; exact q⟩))
  · obtain ⟨k, e1, rfl⟩ := Option.map_eq_some_iff.mp e
    obtain ⟨a, ea, z⟩ := inDK_ok I vx vy e1
    rcases z with ⟨z1, z2⟩ | ⟨d, v, z1, z2, _⟩
    · exact .inr (.inr (.inl ⟨a, none, ea, z2, by rw [z1] at q; exact q⟩))
    · exact .inr (.inr (.inl ⟨a, some v, ea, z2, by rw [z1] at q; exact q⟩))
  · obtain ⟨k, e1, rfl⟩ := Option.map_eq_some_iff.mp e
    obtain ⟨a, ea, z⟩ := inDF_ok I vx vy e1
    rcases z with ⟨z1, z2⟩ | ⟨d, v, z1, z2, _⟩
    · exact .inr (.inr (.inl ⟨a, none, ea, z2, by rw [z1] at q; exact q⟩))
    · exact .inr (.inr (.inl ⟨a, some v, ea, z2, by rw [z1] at q; exact q⟩))
  · cases e
    obtain ⟨a, ea, k⟩ := vy.kd I
    rw [vx.str I]
    rcases kd_find k with ⟨h1, h2⟩ | ⟨i, u, h1, h2, h3⟩
    · exact .inr (.inr (.inr ⟨a, _, _, k.dic, rfl, ea, h2, by rw [h1] at q; exact q⟩))
    · exact .inr (.inr (.inr ⟨a, _, _, k.dic, rfl, ea, h2, by rw [h1] at q; exact q⟩))
  · obtain ⟨c', e1, rfl⟩ := Option.map_eq_some_iff.mp e
    obtain ⟨d, ps, h1, h2, h3, h4, h5⟩ := inPy_ok I vx (fun ps e => vy.dp I (by simp only [toPy, e]; rfl)) e1
    exact .inl ⟨d, ps, h1, h2, h3, h4, by rw [← h5]; exact q⟩
  · obtain ⟨c', e1, rfl⟩ := Option.map_eq_some_iff.mp e
    obtain ⟨d, ps, h1, h2, h3, h4, h5⟩ := inPy_ok I vx (fun ps e => vy.dp I (by simp only [toPy, e]; rfl)) e1
    exact .inr (.inl ⟨d, ps, h1, h2, h3, h4, by rw [h5] at q; exact q⟩)
  · obtain ⟨c', e1, rfl⟩ := Option.map_eq_some_iff.mp e
    obtain ⟨d, ps, h1, h2, h3, h4, h5⟩ := inPy_ok I vx (fun ps e => vy.dp I (by simp only [toPy, e]; rfl)) e1
    exact .inr (.inl ⟨d, ps, h1, h2, h3, h4, by rw [h5] at q; exact q⟩)
  · obtain ⟨k, e1, rfl⟩ := Option.map_eq_some_iff.mp e
    obtain ⟨a, ea, z⟩ := inDT_ok I vx vy e1
    rcases z with ⟨z1, z2⟩ | ⟨d, v, z1, z2, _⟩
    · exact .inr (.inr (.inl ⟨a, none, ea, z2, by rw [z1] at q; exact q⟩))
    · exact .inr (.inr (.inl ⟨a, some v, ea, z2, by rw [z1] at q; exact q⟩))
  · obtain ⟨k, e1, rfl⟩ := Option.map_eq_some_iff.mp e
    obtain ⟨a, ea, z⟩ := inDK_ok I vx vy e1
    rcases z with ⟨z1, z2⟩ | ⟨d, v, z1, z2, _⟩
    · exact .inr (.inr (.inl ⟨a, none, ea, z2, by rw [z1] at q; exact q⟩))
    · exact .inr (.inr (.inl ⟨a, some v, ea, z2, by rw [z1] at q; exact q⟩))
  · obtain ⟨k, e1, rfl⟩ := Option.map_eq_some_iff.mp e
    obtain ⟨a, ea, z⟩ := inDF_ok I vx vy e1
    rcases z with ⟨z1, z2⟩ | ⟨d, v, z1, z2, _⟩
    · exact .inr (.inr (.inl ⟨a, none, ea, z2, by rw [z1] at q; exact q⟩))
    · exact .inr (.inr (.inl ⟨a, some v, ea, z2, by rw [z1] at q; exact q⟩))
  · cases e
    obtain ⟨a, ea, k⟩ := vy.kd I
    rw [vx.str I]
    rcases kd_find k with ⟨h1, h2⟩ | ⟨i, u, h1, h2, h3⟩
    · exact .inr (.inr (.inr ⟨a, _, _, k.dic, rfl, ea, h2, by rw [h1] at q; exact q⟩))
    · exact .inr (.inr (.inr ⟨a, _, _, k.dic, rfl, ea, h2, by rw [h1] at q; exact q⟩))
  · cases e
end
theorem s_cmp {a c : Expr} {o : Cm} {ia ib : IE} {b : Bool} {pos : Pos} (hK : X.K = T.K) (hw : X.w = T.w) (hu : X.A.units + 65 < cLine) (hm : behindInMarks (pyCm o) c = false) (ha : PE X a (tI T W cx true ia)) (hb : PE X c (tI T W cx true ib)) :
    PE X (.Compare a [pyCm o] [c] pos) (tI T W cx b (.cmp o ia ib)) := by
  have r := op_rC hu o
  rw [hK, hw] at r
  refine IL.PE.of (pe_cmpR r ha hb hm) fun σ H Q ⟨st, S, M, I, q⟩ => ?_
  simp only [ev] at q
  refine ⟨st, S, M, I, q.bind.mono fun dx st1 H1 S1 M1 I1 x1 q1 x vx => ⟨st1, S1, M1, I1, q1.bind.mono fun dy st2 H2 S2 M2 I2 x2 q2 y vy => ?_⟩⟩
  have vx2 := vx.mono x2 I2
  cases e : cmpD o dx dy with
  | none =>
    rw [e] at q2
    exact q2.elim
  | some d =>
    rw [e] at q2
    exact cmp_ok I2 vx2 vy e (q2 H2 S2 M2 I2 ExtE.refl _ (.inl (.bl d)))
theorem s_cmpT {a c : Expr} {o : Cm} {ia ib : IE} {pos : Pos} (hK : X.K = T.K) (hw : X.w = T.w) (hu : X.A.units + 65 < cLine) (hm : behindInMarks (pyCm o) c = false) (ha : PE X a (tI T W cx true ia)) (hb : PE X c (tI T W cx true ib)) :
    PT X (.Compare a [pyCm o] [c] pos) (tTs T W cx (.cmp o ia ib)) := by
  have r := op_rC hu o
  rw [hK, hw] at r
  refine IL.PT.of (pt_cmpR r ha hb hm) fun σ H Q ⟨st, S, M, I, q⟩ => ?_
  simp only [ev] at q
  refine ⟨st, S, M, I, q.bind.mono fun dx st1 H1 S1 M1 I1 x1 q1 x vx => ⟨st1, S1, M1, I1, q1.bind.mono fun dy st2 H2 S2 M2 I2 x2 q2 y vy => ?_⟩⟩
  have vx2 := vx.mono x2 I2
  cases e : cmpD o dx dy with
  | none =>
    rw [e] at q2
    exact q2.elim
  | some d =>
    rw [e] at q2
    obtain ⟨c', hc, qc⟩ := q2 H2 S2 M2 I2 ExtE.refl
    cases hc
    exact cmp_ok I2 vx2 vy e ⟨d, rfl, qc⟩
theorem chain_ok {o p : Cm} {ia ib ic : IE} {b : Bool} {σ : L2.St} {H : Hp} {Q : VK} (h : tI T W cx b (.chain o p ia ib ic) σ H Q) :
    tChain (rC T.K T.w o) (rC T.K T.w p) (tI T W cx true ia) (tI T W cx true ib) (tI T W cx true ic) σ H Q := by
  obtain ⟨st, S, M, I, q⟩ := h
  simp only [ev] at q
  refine ⟨st, S, M, I, q.bind.mono fun dx st1 H1 S1 M1 I1 x1 q1 x vx => ⟨st1, S1, M1, I1, q1.bind.mono fun dy st2 H2 S2 M2 I2 x2 q2 y vy => ?_⟩⟩
  have vx2 := vx.mono x2 I2
  cases e : cmpD o dx dy with
  | none =>
    rw [e] at q2
    exact q2.elim
  | some d =>
    rw [e] at q2
    cases d with
    | false => exact cmp_ok I2 vx2 vy e ⟨false, rfl, q2 H2 S2 M2 I2 ExtE.refl _ (.inl (.bl _))⟩
    | true =>
      refine cmp_ok I2 vx2 vy e ⟨true, rfl, ?_⟩
      rw [if_pos rfl]
      refine ⟨st2, S2, M2, I2, Post.mono (Post.bind q2) fun dz st3 H3 S3 M3 I3 x3 q3 z vz => ?_⟩
      have vy3 := vy.mono x3 I3
      cases e3 : cmpD p dy dz with
      | none =>
        rw [e3] at q3
        exact q3.elim
      | some d =>
        rw [e3] at q3
        exact cmp_ok I3 vy3 vz e3 (q3 H3 S3 M3 I3 ExtE.refl _ (.inl (.bl d)))
theorem s_chain {a c e : Expr} {o p : Cm} {ia ib ic : IE} {b : Bool} {pos : Pos} (hK : X.K = T.K) (hw : X.w = T.w) (hu : X.A.units + 65 < cLine) (hm : lastMarks [pyCm o, pyCm p] [c, e] = false) (ha : PE X a (tI T W cx true ia)) (hb : PE X c (tI T W cx true ib)) (hc : PE X e (tI T W cx true ic)) :
    PE X (.Compare a [pyCm o, pyCm p] [c, e] pos) (tI T W cx b (.chain o p ia ib ic)) := by
  have r := op_rC hu o
  have r' := op_rC hu p
  rw [hK, hw] at r r'
  exact IL.PE.of (pe_chain r r' ha hb hc hm) fun σ H Q h => chain_ok h
/-- a test whose value is a truth value: from the value's reading -/
theorem tTs_of {e : IE} {σ : L2.St} {H : Hp} {Q : Bool → Hp → Prop} (h : tTs T W cx e σ H Q) : tTest (tI T W cx true e) σ H Q := by
  obtain ⟨st, S, M, I, q⟩ := h
  refine ⟨st, S, M, I, q.mono fun d st' H' S' M' I' x' ⟨c, e, q'⟩ v hv => ⟨c, ?_, q'⟩⟩
  subst e
  exact hv.bl I'
theorem tTs_b {e : IE} {σ : L2.St} {H : Hp} {Q : Bool → Hp → Prop} (h : tTs T W cx e σ H Q) : tB (tI T W cx true e) σ H Q := tTs_of h
theorem s_chainT {a c e : Expr} {o p : Cm} {ia ib ic : IE} {pos : Pos} (hK : X.K = T.K) (hw : X.w = T.w) (hu : X.A.units + 65 < cLine) (hm : lastMarks [pyCm o, pyCm p] [c, e] = false) (ha : PE X a (tI T W cx true ia)) (hb : PE X c (tI T W cx true ib)) (hc : PE X e (tI T W cx true ic)) :
    PT X (.Compare a [pyCm o, pyCm p] [c, e] pos) (tTs T W cx (.chain o p ia ib ic)) := by
  have r := op_rC hu o
  have r' := op_rC hu p
  rw [hK, hw] at r r'
  refine IL.PT.of (pt_chain r r' ha hb hc hm) fun σ H Q h => ?_
  exact chain_ok (b := true) (tTs_of h)
end IL

set_option Elab.async false
set_option linter.all false
set_option maxRecDepth 100000
set_option maxHeartbeats 4000000
/-! IL6: names, constants, truth, displays, subscripts, slices, fields. -/
namespace IL
open PySem L2
variable {T : Sta'} {X : Cx} {W : WX} {cx : ECx}
theorem giveD_id {d : D} (h : ∀ ks ds, d ≠ .dT ks ds) : giveD d = d := by
  cases d with
  | dT ks ds => exact absurd rfl (h ks ds)
  | _ => rfl
section
variable {st : SS} {σ : L2.St} {H S : Hp} {M : Ms}
/-- a slot's own cell is given to all -/
theorem RI.give (I : RI T.toSta st σ H S M) {i : Nat} {d : D} (nd : ∀ ks ds, d ≠ .dT ks ds) (e : st.env[i]? = some (some (.own d))) :
    ∃ a o, σ[i]? = some (some (.ref a)) ∧ RI T.toSta { st with env := st.env.set i (some (.fro d)) } σ H (upd S a o) M ∧ ExtE st.env σ H S M (st.env.set i (some (.fro d))) H (upd S a o) M ∧ Rep T.toSta M (upd S a o) d (.ref a) := by
  obtain ⟨a, o, e1, e2, e3, e4, e5⟩ := I.own i d e
  have hi : i < st.env.length := (List.getElem?_eq_some_iff.mp e).1
  have sS : Same S (upd S a o) := same_upd e4
  have rp : Rep T.toSta M (upd S a o) d (.ref a) := (e3.mono sS (Pre.refl M)).rep upd_same
  have old : ∀ (j : Nat) (x : Option B), j ≠ i → (st.env.set i (some (.fro d)))[j]? = some x → st.env[j]? = some x := fun j x hj h => by
    rw [List.getElem?_set_ne (Ne.symm hj)] at h
    exact h
  have now : (st.env.set i (some (.fro d)))[i]? = some (some (.fro d)) := List.getElem?_set_self hi
  refine ⟨a, o, e1, ⟨fun b u h => ?_, fun j f h => ?_, fun j f h => ?_, fun j k f g b h1 h2 h3 h4 => ?_, fun n ao h => ?_, I.mlen, I.mnd, fun b xs h => sS _ _ (I.tp b xs h), by simpa using I.elen⟩, ⟨⟨sS, fun b hb => ?_, fun b u h _ _ => h, fun b hb => ?_, ⟨[], by simp, fun _ z => by simp at z⟩, fun b hb => hb⟩, fun b u h _ _ => h, fun j => ?_⟩, rp⟩
  · by_cases hb : b = a
    · subst hb
      rw [upd_same] at h
      cases h
      exact e2
    · rw [upd_ne hb] at h
      exact I.sub b u h
  · by_cases hj : j = i
    · subst hj
      rw [show (st.env.set j (some (B.fro d)))[j]? = some (some (.fro d)) from now] at h
      cases h
      exact ⟨_, e1, rp⟩
    · obtain ⟨v, h1, h2⟩ := I.fro j f (old j _ hj h)
      exact ⟨v, h1, h2.mono sS (Pre.refl M)⟩
  · by_cases hj : j = i
    · subst hj
      rw [show (st.env.set j (some (B.fro d)))[j]? = some (some (.fro d)) from now] at h
      cases h
    · have h' := old j _ hj h
      obtain ⟨b, u, q1, q2, q3, q4, q5⟩ := I.own j f h'
      refine ⟨b, u, q1, q2, q3.mono sS (Pre.refl M), ?_, q5⟩
      rw [upd_ne fun z => hj (I.sep j i f d a h' e (by rw [← z]; exact q1) e1)]
      exact q4
  · by_cases hj : j = i
    · subst hj
      rw [show (st.env.set j (some (B.fro d)))[j]? = some (some (.fro d)) from now] at h1
      cases h1
    · by_cases hk : k = i
      · subst hk
        rw [show (st.env.set k (some (B.fro d)))[k]? = some (some (.fro d)) from now] at h2
        cases h2
      · exact I.sep j k f g b (old j _ hj h1) (old k _ hk h2) h3 h4
  · obtain ⟨b, u, q1, q2, q3, q4⟩ := I.obj n ao h
    refine ⟨b, u, q1, q2, q3.mono sS (Pre.refl M), ?_⟩
    rw [upd_ne fun z => e5 (by rw [← z]; exact List.mem_of_getElem? q1)]
    exact q4
  · by_cases hba : b = a
    · exact .inr (.inr ⟨i, d, e, by rw [hba]; exact e1⟩)
    · rw [upd_ne hba] at hb
      exact .inl hb
  · obtain ⟨j, f, h1, h2⟩ := hb
    by_cases hj : j = i
    · subst hj
      rw [show (st.env.set j (some (B.fro d)))[j]? = some (some (.fro d)) from now] at h1
      cases h1
    · exact .inl ⟨j, f, old j _ hj h1, h2⟩
  · by_cases hj : j = i
    · subst hj
      exact .inr ⟨d, e, by rw [giveD_id nd]; exact now⟩
    · exact .inl (List.getElem?_set_ne (Ne.symm hj))
end
section
variable {st : SS} {σ : L2.St} {H S : Hp} {M : Ms}
/-- a dict of tuple keys is given to all: it is closed -/
theorem RI.giveT (I : RI T.toSta st σ H S M) {i : Nat} {ks : List (List Key)} {ds : List D} (e : st.env[i]? = some (some (.own (.dT ks ds)))) :
    ∃ a vs, σ[i]? = some (some (.ref a)) ∧ H a = some (.dT (ks.zip vs)) ∧ ∀ od, RI T.toSta { st with env := st.env.set i (some (.fro (.dF ks ds))) } σ (upd H a (.frz od (.dT (ks.zip vs)))) (upd S a (.frz od (.dT (ks.zip vs)))) M ∧
      ExtE st.env σ H S M (st.env.set i (some (.fro (.dF ks ds)))) (upd H a (.frz od (.dT (ks.zip vs)))) (upd S a (.frz od (.dT (ks.zip vs)))) M ∧ Rep T.toSta M (upd S a (.frz od (.dT (ks.zip vs)))) (.dF ks ds) (.ref a) := by
  obtain ⟨a, o, e1, e2, e3, e4, e5⟩ := I.own i _ e
  cases e3 with
  | dT hl rp =>
    rename_i vs
    refine ⟨a, vs, e1, e2, fun od => ?_⟩
    have hi : i < st.env.length := (List.getElem?_eq_some_iff.mp e).1
    have sS : Same S (upd S a (.frz od (.dT (ks.zip vs)))) := same_upd e4
    have rp' : Rep T.toSta M (upd S a (.frz od (.dT (ks.zip vs)))) (.dF ks ds) (.ref a) := .dF upd_same hl (rp.mono sS (Pre.refl M))
    have old : ∀ (j : Nat) (x : Option B), j ≠ i → (st.env.set i (some (.fro (.dF ks ds))))[j]? = some x → st.env[j]? = some x := fun j x hj h => by
      rw [List.getElem?_set_ne (Ne.symm hj)] at h
      exact h
    have now : (st.env.set i (some (B.fro (.dF ks ds))))[i]? = some (some (.fro (.dF ks ds))) := List.getElem?_set_self hi
    have own' : ∀ b, Own (st.env.set i (some (B.fro (.dF ks ds)))) σ b → Own st.env σ b ∧ b ≠ a := fun b hb => by
      obtain ⟨j, f, h1, h2⟩ := hb
      by_cases hj : j = i
      · subst hj
        rw [show (st.env.set j (some (B.fro (.dF ks ds))))[j]? = some (some (.fro (.dF ks ds))) from now] at h1
        cases h1
      · have h' := old j _ hj h1
        exact ⟨⟨j, f, h', h2⟩, fun z => hj (I.sep j i f _ a h' e (by rw [← z]; exact h2) e1)⟩
    refine ⟨⟨fun b u h => ?_, fun j f h => ?_, fun j f h => ?_, fun j k f g b h1 h2 h3 h4 => ?_, fun n ao h => ?_, I.mlen, I.mnd, fun b xs h => ?_, by simpa using I.elen⟩, ⟨⟨sS, fun b hb => ?_, fun b u h hm ho => ?_, fun b hb => .inl (own' b hb).1, ⟨[], by simp, fun _ z => by simp at z⟩, fun b hb => ?_⟩, fun b u h hm ho => ?_, fun j => ?_⟩, rp'⟩
    · by_cases hb : b = a
      · subst hb
        rw [upd_same] at h ⊢
        exact h
      · rw [upd_ne hb] at h ⊢
        exact I.sub b u h
    · by_cases hj : j = i
      · subst hj
        rw [show (st.env.set j (some (B.fro (.dF ks ds))))[j]? = some (some (.fro (.dF ks ds))) from now] at h
        cases h
        exact ⟨_, e1, rp'⟩
      · obtain ⟨v, h1, h2⟩ := I.fro j f (old j _ hj h)
        exact ⟨v, h1, h2.mono sS (Pre.refl M)⟩
    · by_cases hj : j = i
      · subst hj
        rw [show (st.env.set j (some (B.fro (.dF ks ds))))[j]? = some (some (.fro (.dF ks ds))) from now] at h
        cases h
      · have h' := old j _ hj h
        obtain ⟨b, u, q1, q2, q3, q4, q5⟩ := I.own j f h'
        have hba : b ≠ a := fun z => hj (I.sep j i f _ a h' e (by rw [← z]; exact q1) e1)
        exact ⟨b, u, q1, by rw [upd_ne hba]; exact q2, q3.mono sS (Pre.refl M), by rw [upd_ne hba]; exact q4, q5⟩
    · by_cases hj : j = i
      · subst hj
        rw [show (st.env.set j (some (B.fro (.dF ks ds))))[j]? = some (some (.fro (.dF ks ds))) from now] at h1
        cases h1
      · by_cases hk : k = i
        · subst hk
          rw [show (st.env.set k (some (B.fro (.dF ks ds))))[k]? = some (some (.fro (.dF ks ds))) from now] at h2
          cases h2
        · exact I.sep j k f g b (old j _ hj h1) (old k _ hk h2) h3 h4
    · obtain ⟨b, u, q1, q2, q3, q4⟩ := I.obj n ao h
      have hba : b ≠ a := fun z => e5 (by rw [← z]; exact List.mem_of_getElem? q1)
      exact ⟨b, u, q1, by rw [upd_ne hba]; exact q2, q3.mono sS (Pre.refl M), by rw [upd_ne hba]; exact q4⟩
    · by_cases hb : b = a
      · subst hb
        rw [upd_same] at h
        cases h
      · rw [upd_ne hb] at h
        rw [upd_ne hb]
        exact I.tp b xs h
    · by_cases hba : b = a
      · exact .inr (.inr ⟨i, _, e, by rw [hba]; exact e1⟩)
      · rw [upd_ne hba] at hb
        exact .inl hb
    · rw [upd_ne fun z => ho ⟨i, _, e, by rw [z]; exact e1⟩]
      exact h
    · by_cases hba : b = a
      · rw [hba, upd_same]
        exact fun z => nomatch z
      · rw [upd_ne hba]
        exact hb
    · have hba : b ≠ a := by
        rcases ho with ho | ho
        · exact fun z => ho ⟨i, _, e, by rw [z]; exact e1⟩
        · exact (own' b ho).2
      rw [upd_ne hba]
      exact h
    · by_cases hj : j = i
      · subst hj
        exact .inr ⟨_, e, now⟩
      · exact .inl (List.getElem?_set_ne (Ne.symm hj))
end
/-- a name's value; the thing there may be closed -/
def tVarL (i : Nat) : TE := fun σ H Q => ∃ v, σ[i]? = some (some v) ∧ (Q v H ∨ ∃ a u, v = .ref a ∧ H a = some u ∧ Mut (some u) ∧ ∀ od, Q v (upd H a (.frz od u)))
theorem pe_varL {i : Nat} {x : Str} {pos : Pos} (hN : X.N[i]? = some x) (hv : Vis X.env.scope x) (hd : (x == ("__debug__" : Str)) = false) (hcd : (x == ("__classdict__" : Str)) = false) : PE X (.Name x pos) (tVarL i) := by
  refine ⟨fun pins s σ H Q I h => ?_⟩
  obtain ⟨v, e, q⟩ := h
  rcases q with q | ⟨a, u, ev', hu, mu, q⟩
  · exact (pe_var hN hv hd hcd).run pins s σ H Q I ⟨v, e, q⟩
  · subst ev'
    refine thn ((pe_var hN hv hd hcd).run pins s σ H (fun x H1 => x = .ref a ∧ H1 = H) I ⟨_, e, rfl, rfl⟩) fun v s1 ⟨x, H1, I1, r, ex, eH⟩ => ?_
    subst ex eH
    obtain ⟨od, I2⟩ := I1.lock hu mu
    exact ⟨.ref a, _, I2, r, q od⟩
theorem s_var {i : Nat} {x : Str} {b : Bool} {pos : Pos} (hN : X.N[i]? = some x) (hv : Vis X.env.scope x) (hd : (x == ("__debug__" : Str)) = false) (hcd : (x == ("__classdict__" : Str)) = false) : PE X (.Name x pos) (tI T W cx b (.var i)) := by
  refine IL.PE.of (pe_varL hN hv hd hcd) fun σ H Q ⟨st, S, M, I, q⟩ => ?_
  simp only [ev] at q
  split at q
  · rename_i d e
    obtain ⟨v, h1, h2⟩ := I.fro i d e
    exact ⟨v, h1, .inl (q H S M I ExtE.refl v (.inl h2))⟩
  · rename_i d e
    split at q
    · rename_i hb
      obtain ⟨a, o, e1, e2, e3, e4, e5⟩ := I.own i d e
      exact ⟨.ref a, e1, .inl (q H S M I ExtE.refl _ (.inr ⟨hb, i, a, e, e1, rfl⟩))⟩
    · by_cases hd' : ∃ ks ds, d = .dT ks ds
      · obtain ⟨ks, ds, ed⟩ := hd'
        subst ed
        obtain ⟨a, vs, e1, e2, k⟩ := I.giveT e
        refine ⟨.ref a, e1, .inr ⟨a, _, rfl, e2, trivial, fun od => ?_⟩⟩
        obtain ⟨I', x', rp⟩ := k od
        exact q _ _ M I' x' _ (.inl rp)
      · have hg := giveD_id fun ks ds z => hd' ⟨ks, ds, z⟩
        rw [hg] at q
        obtain ⟨a, o, e1, I', x', rp⟩ := I.give (fun ks ds z => hd' ⟨ks, ds, z⟩) e
        exact ⟨.ref a, e1, .inl (q H _ M I' x' _ (.inl rp))⟩
  · exact q.elim
theorem s_con {e : Expr} {v : V} {d : D} {b : Bool} (h : PE X e (tC v)) (hr : ∀ M S, Rep T.toSta M S d v) : PE X e (tI T W cx b (.con d)) :=
  IL.PE.of h fun σ H Q ⟨st, S, M, I, q⟩ => q H S M I ExtE.refl v (.inl (hr M S))
theorem s_int {i : Int} {j : Nat} {b : Bool} {pos : Pos} : PE X (.Constant (.int i) j pos) (tI T W cx b (.con (.int i))) := s_con pe_int fun _ _ => .int i
theorem s_bl {i : Bool} {j : Nat} {b : Bool} {pos : Pos} : PE X (.Constant (.bool i) j pos) (tI T W cx b (.con (.bl i))) := s_con pe_bl fun _ _ => .bl i
theorem s_str {i : Str} {j : Nat} {b : Bool} {pos : Pos} : PE X (.Constant (.str i) j pos) (tI T W cx b (.con (.str i))) := s_con pe_str fun _ _ => .str i
theorem s_non {j : Nat} {b : Bool} {pos : Pos} : PE X (.Constant .none j pos) (tI T W cx b (.con .non)) := s_con pe_non fun _ _ => .non
theorem s_stuck {e : Expr} {b : Bool} : PE X e (tI T W cx b .stuck) := ⟨fun _ _ _ _ _ _ ⟨_, _, _, _, q⟩ => False.elim q⟩
theorem s_neg {a : Expr} {ia : IE} {b : Bool} {pos : Pos} (ha : PE X a (tI T W cx true ia)) : PE X (.UnaryOp .USub a pos) (tI T W cx b (.neg ia)) := by
  refine IL.PE.of (pe_un un_neg ha) fun σ H Q ⟨st, S, M, I, q⟩ => ?_
  simp only [ev] at q
  refine ⟨st, S, M, I, q.bind.mono fun dx st1 H1 S1 M1 I1 x1 q1 x vx => ?_⟩
  cases dx with
  | int i => exact ⟨i, vx.int I1, q1 H1 S1 M1 I1 ExtE.refl _ (.inl (.int _))⟩
  | _ => exact q1.elim
/-- a truth value out of a reading -/
theorem to_bl {ia : IE} {σ : L2.St} {H : Hp} {k : Bool → SS → Hp → Hp → Ms → Prop} {f : D → SS → R D} {P : D → SS → Hp → Hp → Ms → Prop} {st : SS} {S : Hp} {M : Ms} {Q : V → Hp → Prop} (I : RI T.toSta st σ H S M)
    (q : Post T W σ st.env H S M ((ev cx true ia st).bind f) P) (h : ∀ d st1 H1 S1 M1, RI T.toSta st1 σ H1 S1 M1 → ExtE st.env σ H S M st1.env H1 S1 M1 → Post T W σ st1.env H1 S1 M1 (f d st1) P → ∃ c, d = .bl c ∧ Q (.bl c) H1) : tI T W cx true ia σ H Q := by
  refine ⟨st, S, M, I, q.bind.mono fun dx st1 H1 S1 M1 I1 x1 q1 x vx => ?_⟩
  obtain ⟨c, e, q2⟩ := h dx st1 H1 S1 M1 I1 x1 q1
  subst e
  rw [vx.bl I1]
  exact q2
theorem s_not {a : Expr} {ia : IE} {b : Bool} {pos : Pos} (ha : PE X a (tI T W cx true ia)) : PE X (.UnaryOp .Not a pos) (tI T W cx b (.nt ia)) := by
  refine IL.PE.of (pe_not ha) fun σ H Q ⟨st, S, M, I, q⟩ => ?_
  simp only [ev] at q
  refine to_bl (k := fun _ _ _ _ _ => True) I q fun d st1 H1 S1 M1 I1 x1 q1 => ?_
  cases d with
  | bl c => exact ⟨c, rfl, c, rfl, q1 H1 S1 M1 I1 ExtE.refl _ (.inl (.bl _))⟩
  | _ => exact q1.elim
theorem s_notT {a : Expr} {ia : IE} {pos : Pos} (ha : PT X a (tTs T W cx ia)) : PT X (.UnaryOp .Not a pos) (tTs T W cx (.nt ia)) := by
  refine IL.PT.of (pt_not ha) fun σ H Q ⟨st, S, M, I, q⟩ => ?_
  simp only [ev] at q
  refine ⟨st, S, M, I, q.bind.mono fun d st1 H1 S1 M1 I1 x1 q1 => ?_⟩
  cases d with
  | bl c =>
    obtain ⟨c', hc, q2⟩ := q1 H1 S1 M1 I1 ExtE.refl
    cases hc
    exact ⟨c, rfl, q2⟩
  | _ => exact q1.elim
theorem VR.falseT {env : Env'} {σ : L2.St} {M : Ms} {S : Hp} {d : D} {v : V} {b : Bool} (h : Rep T.toSta M S d v) : VR T b env σ M S d v := .inl h
theorem s_and {a c : Expr} {rest : List Expr} {ia ib : IE} {b : Bool} {pos : Pos} (ha : PE X a (tI T W cx true ia)) (hb : PE X (.BoolOp .And (c :: rest) pos) (tI T W cx b ib)) : PE X (.BoolOp .And (a :: c :: rest) pos) (tI T W cx b (.and ia ib)) := by
  refine IL.PE.of (pe_and ha hb) fun σ H Q ⟨st, S, M, I, q⟩ => ?_
  simp only [ev] at q
  refine to_bl (k := fun _ _ _ _ _ => True) I q fun d st1 H1 S1 M1 I1 x1 q1 => ?_
  cases d with
  | bl c' =>
    refine ⟨c', rfl, c', rfl, ?_⟩
    cases c' with
    | true => exact ⟨st1, S1, M1, I1, q1⟩
    | false => exact q1 H1 S1 M1 I1 ExtE.refl _ (.inl (.bl _))
  | _ => exact q1.elim
theorem s_or {a c : Expr} {rest : List Expr} {ia ib : IE} {b : Bool} {pos : Pos} (ha : PE X a (tI T W cx true ia)) (hb : PE X (.BoolOp .Or (c :: rest) pos) (tI T W cx b ib)) : PE X (.BoolOp .Or (a :: c :: rest) pos) (tI T W cx b (.or ia ib)) := by
  refine IL.PE.of (pe_or ha hb) fun σ H Q ⟨st, S, M, I, q⟩ => ?_
  simp only [ev] at q
  refine to_bl (k := fun _ _ _ _ _ => True) I q fun d st1 H1 S1 M1 I1 x1 q1 => ?_
  cases d with
  | bl c' =>
    refine ⟨c', rfl, c', rfl, ?_⟩
    cases c' with
    | false => exact ⟨st1, S1, M1, I1, q1⟩
    | true => exact q1 H1 S1 M1 I1 ExtE.refl _ (.inl (.bl _))
  | _ => exact q1.elim
theorem s_one {op : BoolOp} {a : Expr} {ia : IE} {b : Bool} {pos : Pos} (ha : PE X a (tI T W cx b ia)) : PE X (.BoolOp op [a] pos) (tI T W cx b ia) := pe_one ha
theorem w_and {a c : Expr} {rest : List Expr} {ia ib : IE} {pos : Pos} (ha : PT X a (tTs T W cx ia)) (hb : PW X (.BoolOp .And (c :: rest) pos) (tTs T W cx ib)) : PW X (.BoolOp .And (a :: c :: rest) pos) (tTs T W cx (.and ia ib)) := by
  refine IL.PW.of (pw_and ha hb) fun σ H Q ⟨st, S, M, I, q⟩ => ?_
  simp only [ev] at q
  refine ⟨st, S, M, I, q.bind.mono fun d st1 H1 S1 M1 I1 x1 q1 => ?_⟩
  cases d with
  | bl c' =>
    refine ⟨c', rfl, ?_⟩
    cases c' with
    | true => exact ⟨st1, S1, M1, I1, q1⟩
    | false =>
      obtain ⟨c2, e2, q2⟩ := q1 H1 S1 M1 I1 ExtE.refl
      cases e2
      exact q2
  | _ => exact q1.elim
theorem w_or {a c : Expr} {rest : List Expr} {ia ib : IE} {pos : Pos} (ha : PT X a (tTs T W cx ia)) (hb : PW X (.BoolOp .Or (c :: rest) pos) (tTs T W cx ib)) : PW X (.BoolOp .Or (a :: c :: rest) pos) (tTs T W cx (.or ia ib)) := by
  refine IL.PW.of (pw_or ha hb) fun σ H Q ⟨st, S, M, I, q⟩ => ?_
  simp only [ev] at q
  refine ⟨st, S, M, I, q.bind.mono fun d st1 H1 S1 M1 I1 x1 q1 => ?_⟩
  cases d with
  | bl c' =>
    refine ⟨c', rfl, ?_⟩
    cases c' with
    | false => exact ⟨st1, S1, M1, I1, q1⟩
    | true =>
      obtain ⟨c2, e2, q2⟩ := q1 H1 S1 M1 I1 ExtE.refl
      cases e2
      exact q2
  | _ => exact q1.elim
theorem w_and1 {a : Expr} {ia : IE} {pos : Pos} (ha : PT X a (tTs T W cx ia)) : PW X (.BoolOp .And [a] pos) (tTs T W cx ia) := pw_and1 ha
theorem w_or1 {a : Expr} {ia : IE} {pos : Pos} (ha : PT X a (tTs T W cx ia)) : PW X (.BoolOp .Or [a] pos) (tTs T W cx ia) := pw_or1 ha
/-- an expression that is no comparison, no and, or, not, if: as a test -/
theorem s_val {e : Expr} {ie : IE} (he : ∀ whole, isTrue e X.env whole = (do let v ← whole; standAt e.pos; holding [v] (truthy v))) (h : PE X e (tI T W cx true ie)) : PT X e (tTs T W cx ie) :=
  IL.PT.of (pt_val h he) fun _ _ _ q => tTs_of q
theorem s_ite {c a d : Expr} {ic ia ib : IE} {b : Bool} {pos : Pos} (hc : PT X c (tTs T W cx ic)) (ha : PE X a (tI T W cx b ia)) (hb : PE X d (tI T W cx b ib)) : PE X (.IfExp c a d pos) (tI T W cx b (.ite ic ia ib)) := by
  refine IL.PE.of (pe_ifExp hc ha hb) fun σ H Q ⟨st, S, M, I, q⟩ => ?_
  simp only [ev] at q
  refine ⟨st, S, M, I, q.bind.mono fun d st1 H1 S1 M1 I1 x1 q1 => ?_⟩
  cases d with
  | bl c' =>
    refine ⟨c', rfl, ?_⟩
    cases c' with
    | true => exact ⟨st1, S1, M1, I1, q1⟩
    | false => exact ⟨st1, S1, M1, I1, q1⟩
  | _ => exact q1.elim

/-! ### argument lists, displays -/
def notStar : Expr → Bool
  | .Starred .. => false
  | _ => true
theorem starEach_cons {e : Expr} (h : notStar e = true) (es : List Expr) (env : Env) : starEach (e :: es) env = (false, eval e env) :: starEach es env := by
  cases e <;> first | rfl | cases h
theorem plain_args : ∀ (es : List Expr) (pos : Pos) (env : Env), es.all notStar = true → (backTo pos (starEach es env)).any (·.1) = false
  | [], _, _, _ => rfl
  | e :: es, pos, env, h => by
    rw [List.all_cons, Bool.and_eq_true] at h
    rw [starEach_cons h.1]
    show (false || (backTo pos (starEach es env)).any (·.1)) = false
    rw [Bool.false_or]
    exact plain_args es pos env h.2
theorem s_nil {b : Bool} : PA X [] (tAs T W cx b .nil) :=
  IL.PA.of pa_nil fun σ H Q ⟨st, S, M, I, q⟩ => by
    simp only [evs] at q
    exact q H S M I ExtE.refl [] .nil
theorem s_cons {e : Expr} {es : List Expr} {ie : IE} {ies : IEs} {b : Bool} (hs : notStar e = true) (he : PE X e (tI T W cx b ie)) (hes : PA X es (tAs T W cx b ies)) : PA X (e :: es) (tAs T W cx b (.cons ie ies)) := by
  refine IL.PA.of (pa_cons he hes (starEach_cons hs es X.env)) fun σ H Q ⟨st, S, M, I, q⟩ => ?_
  simp only [evs] at q
  refine ⟨st, S, M, I, q.bind.mono fun d st1 H1 S1 M1 I1 x1 q1 v vv => ⟨st1, S1, M1, I1, q1.bind.mono fun ds st2 H2 S2 M2 I2 x2 q2 vs vvs => ?_⟩⟩
  exact q2 H2 S2 M2 I2 ExtE.refl (v :: vs) (.cons (vv.mono x2 I2) vvs)
theorem s_tup {es : List Expr} {ies : IEs} {b : Bool} {k : Nat} {pos : Pos} (h : PA X es (tAs T W cx false ies)) : PE X (.Tuple es k pos) (tI T W cx b (.tup ies)) := by
  refine IL.PE.of (pe_tup h) fun σ H Q ⟨st, S, M, I, q⟩ => ?_
  simp only [ev] at q
  refine ⟨st, S, M, I, q.bind.mono fun ds st1 H1 S1 M1 I1 x1 q1 vs vvs => ?_⟩
  split at q1
  · rename_i hz
    have r := VRs.reps vvs
    exact ⟨by rw [← r.length]; exact hz, fun p hp => q1 _ _ _ (I1.laid hp) (ExtE.laid I1 hp) _ (.inl (Rep.newT I1 hp r))⟩
  · exact q1.elim
theorem s_lstF {es : List Expr} {ies : IEs} {pos : Pos} (h : PA X es (tAs T W cx false ies)) : PE X (.List es pos) (tF T W cx (.lst ies)) := by
  refine IL.PE.of (pe_lst h) fun σ H Q ⟨st, S, M, I, q⟩ => ?_
  simp only [ev] at q
  refine ⟨st, S, M, I, q.bind.mono fun ds st1 H1 S1 M1 I1 x1 q1 vs vvs => ?_⟩
  split at q1
  · rename_i hz
    have r := VRs.reps vvs
    exact ⟨by rw [← r.length]; exact hz, fun p hp => q1 _ _ _ (I1.fresh hp) (ExtE.fresh I1 hp) _ ((FR.newL I1 hp r).back fun _ z => x1.x.none_of z)⟩
  · exact q1.elim
theorem s_dic0T {pos : Pos} : PE X (.Dict [] [] pos) (tF T W cx (.dic0 true)) := by
  refine IL.PE.of pe_dnewT fun σ H Q ⟨st, S, M, I, q⟩ p hp => ?_
  simp only [ev] at q
  exact q _ _ _ (I.fresh hp) (ExtE.fresh I hp) _ (.inl ⟨rfl, p, _, rfl, hp, upd_same, I.noS hp, I.noM hp, CellO.dT (ks := []) (vs := []) rfl .nil⟩)
theorem s_dic0K {pos : Pos} : PE X (.Dict [] [] pos) (tF T W cx (.dic0 false)) := by
  refine IL.PE.of pe_dnewK fun σ H Q ⟨st, S, M, I, q⟩ p hp => ?_
  simp only [ev] at q
  exact q _ _ _ (I.fresh hp) (ExtE.fresh I hp) _ (.inl ⟨rfl, p, _, rfl, hp, upd_same, I.noS hp, I.noM hp, CellO.dK (ks := []) (vs := []) rfl .nil⟩)

/-! ### subscripts -/
theorem plainIx {b : Expr} (h : (match b with | .Slice .. => false | _ => true) = true) : PlainIx b := fun o i => by
  cases b <;> first | rfl | cases h
def rIxDict : R2 := fun x y H Q => ∃ a v, x = .ref a ∧ DGet H a y (some v) ∧ Q v H
theorem ix_dict (hu : X.A.units + 1 < cLine) : IxR X rIxDict := by
  intro value slice pins s σ H x y v u Q I rx ry h hs
  obtain ⟨a, r, rfl, g, q⟩ := h
  obtain rfl : v = Value.ref a := rx
  exact PyProof.Rows.tail_any (dict_typeIs I g) PySem.F.slot_dict_getitem.lookup (d_getItem hu I g ry fun w' s' I' rw' => ⟨r, H, I', rw', q⟩) hs
theorem atD_ok {M : Ms} {S : Hp} {ds : List D} {vs : List V} {i : Int} {d : D} (r : Reps T.toSta M S ds vs) (e : atD ds i = some d) : ∃ v, atI vs i = some v ∧ Rep T.toSta M S d v := by
  unfold atD at e
  obtain ⟨j, e1, e2⟩ := Option.bind_eq_some_iff.mp e
  obtain ⟨v, h1, h2⟩ := r.get e2
  refine ⟨v, ?_, h2⟩
  unfold atI
  rw [← r.length, e1]
  exact h1
section
variable {b b' : Bool} {st : SS} {σ : L2.St} {H S : Hp} {M : Ms} {x y : V}
theorem sub_ok {dx dy d : D} {Q : VK} (I : RI T.toSta st σ H S M) (vx : VR T b st.env σ M S dx x) (vy : VR T b' st.env σ M S dy y) (e : subD dx dy = some d) (q : ∀ v, Rep T.toSta M S d v → Q v H) : rIx T.K x y H Q ∨ rIxDict x y H Q ∨ rIxD T.K T.w x y H Q := by
  unfold subD at e
  split at e
  · obtain ⟨a, vs, ea, ha, ra⟩ := vx.lst I
    obtain ⟨v, h1, h2⟩ := atD_ok ra e
    exact .inl (.inl ⟨a, vs, _, v, ea, vy.int I, .of ha, h1, q v h2⟩)
  · obtain ⟨a, vs, ea, sa, ha, ra⟩ := vx.tup I
    obtain ⟨v, h1, h2⟩ := atD_ok ra e
    exact .inl (.inr (.inl ⟨a, vs, _, v, ea, vy.int I, .of ha, h1, q v h2⟩))
  · obtain ⟨a, vs, ea, ha, ra⟩ := vx.kt I
    obtain ⟨v, h1, h2⟩ := atD_ok ra e
    exact .inl (.inr (.inl ⟨a, vs, _, v, ea, vy.int I, ha, h1, q v h2⟩))
  · obtain ⟨a, vs, ea, ha, ra⟩ := vx.fl I
    obtain ⟨v, h1, h2⟩ := atD_ok ra e
    exact .inl (.inl ⟨a, vs, _, v, ea, vy.int I, ha, h1, q v h2⟩)
  · split at e
    · rename_i k hk
      obtain ⟨a, ea, z⟩ := inDT_ok I vy vx hk
      rcases z with ⟨z1, _⟩ | ⟨d', v, z1, z2, z3⟩
      · rw [z1] at e
        cases e
      · rw [z1] at e
        cases e
        exact .inr (.inl ⟨a, v, ea, z2, q v z3⟩)
    · cases e
  · split at e
    · rename_i k hk
      obtain ⟨a, ea, z⟩ := inDF_ok I vy vx hk
      rcases z with ⟨z1, _⟩ | ⟨d', v, z1, z2, z3⟩
      · rw [z1] at e
        cases e
      · rw [z1] at e
        cases e
        exact .inr (.inl ⟨a, v, ea, z2, q v z3⟩)
    · cases e
  · split at e
    · rename_i k hk
      obtain ⟨a, ea, z⟩ := inDK_ok I vy vx hk
      rcases z with ⟨z1, _⟩ | ⟨d', v, z1, z2, z3⟩
      · rw [z1] at e
        cases e
      · rw [z1] at e
        cases e
        exact .inr (.inl ⟨a, v, ea, z2, q v z3⟩)
    · cases e
  · obtain ⟨i, e1, e2⟩ := Option.map_eq_some_iff.mp e
    subst e2
    obtain ⟨a, ea, k⟩ := vx.kd I
    rcases kd_find k with ⟨h1, _⟩ | ⟨i', u, h1, h2, h3⟩
    · rw [h1] at e1
      cases e1
    · rw [h1] at e1
      cases e1
      obtain ⟨es, n, D⟩ := k.dic
      exact .inr (.inr ⟨a, _, .int i, ea, vy.str I, ⟨es, n, u, D.at_, D.lit, h2, h3⟩, q _ (.int i)⟩)
  · cases e
end
theorem s_sub {a i : Expr} {ia ii : IE} {b : Bool} {pos : Pos} (hK : X.K = T.K) (hw : X.w = T.w) (hu : X.A.units + 1 < cLine) (hi : (match i with | .Slice .. => false | _ => true) = true) (h1 : PE X a (tI T W cx true ia)) (h2 : PE X i (tI T W cx true ii)) :
    PE X (.Subscript a i pos) (tI T W cx b (.sub ia ii)) := by
  have r := (ix_seq (X := X)).or ((ix_dict hu).or ix_kdict)
  rw [hK, hw] at r
  refine IL.PE.of (pe_ix r h1 h2 (plainIx hi)) fun σ H Q ⟨st, S, M, I, q⟩ => ?_
  simp only [ev] at q
  refine ⟨st, S, M, I, q.bind.mono fun dx st1 H1 S1 M1 I1 x1 q1 x vx => ⟨st1, S1, M1, I1, q1.bind.mono fun dy st2 H2 S2 M2 I2 x2 q2 y vy => ?_⟩⟩
  have vx2 := vx.mono x2 I2
  cases e : subD (derefD st2.A dx) dy with
  | none =>
    rw [e] at q2
    exact q2.elim
  | some d =>
    rw [e] at q2
    by_cases hd : ∃ n, dx = .ref n
    · obtain ⟨n, hd⟩ := hd
      subst hd
      unfold derefD at e
      split at e
      · rename_i n' hn
        cases hn
        split at e
        · rename_i ds hA
          cases vx2.rep_of I2 rfl with
          | obj hM =>
            obtain ⟨a', o, q1', q2', q3', q4'⟩ := I2.obj _ _ hA
            rw [hM] at q1'
            cases q1'
            cases q3' with
            | ls rp =>
              cases dy with
              | int j =>
                simp only [subD] at e
                obtain ⟨v, h1, h2⟩ := atD_ok rp e
                exact .inl (.inl ⟨_, _, _, v, rfl, vy.int I2, .of q2', h1, q2 H2 S2 M2 I2 ExtE.refl v (.inl h2)⟩)
              | _ => simp [subD] at e
        · simp [subD] at e
      · rename_i hn
        exact absurd rfl (hn _)
    · have e0 : derefD st2.A dx = dx := by
        cases dx with
        | ref n => exact absurd ⟨n, rfl⟩ hd
        | _ => rfl
      rw [e0] at e
      exact sub_ok I2 vx2 vy e fun v hv => q2 H2 S2 M2 I2 ExtE.refl v (.inl hv)

/-! ### slices -/
def tOs (T : Sta') (W : WX) (cx : ECx) (o : IO) : TO := fun σ H Q => ∃ st S M, RI T.toSta st σ H S M ∧ Post T W σ st.env H S M (evO cx o st) fun r st' H' S' M' => Q r H'
theorem PO.of {e : Option Expr} {t t' : TO} (h : PO X e t) (k : ∀ σ H Q, t' σ H Q → t σ H Q) : PO X e t' := ⟨fun pins s σ H Q I q => h.run pins s σ H Q I (k σ H Q q)⟩
theorem s_no : PO X none (tOs T W cx .no) := IL.PO.of po_none fun σ H Q ⟨st, S, M, I, q⟩ => by
  simp only [evO] at q
  exact q H S M I ExtE.refl
theorem s_yes {e : Expr} {ie : IE} (h : PE X e (tI T W cx true ie)) : PO X (some e) (tOs T W cx (.yes ie)) := IL.PO.of (po_some h) fun σ H Q ⟨st, S, M, I, q⟩ => by
  simp only [evO] at q
  refine ⟨st, S, M, I, q.bind.mono fun dx st1 H1 S1 M1 I1 x1 q1 x vx => ?_⟩
  cases dx with
  | int i => exact ⟨i, vx.int I1, q1 H1 S1 M1 I1 ExtE.refl⟩
  | _ => exact q1.elim
theorem cut_reps {M : Ms} {S : Hp} {ds : List D} {vs : List V} (r : Reps T.toSta M S ds vs) (lo hi : Option Int) : Reps T.toSta M S (cutL ds lo hi) (cutV vs lo hi) := by
  unfold cutL cutV
  rw [r.length]
  exact (r.drop _).take _
theorem sli_ok {b : Bool} {st : SS} {σ : L2.St} {H S : Hp} {M : Ms} {x : V} {dx d : D} {lo hi : Option Int} {Q : VK} (I : RI T.toSta st σ H S M) (vx : VR T b st.env σ M S dx x) (e : sliD dx lo hi = some d)
    (q : ∀ H' S' M', RI T.toSta st σ H' S' M' → ExtE st.env σ H S M st.env H' S' M' → ∀ v, FR T H H' S' M' d v → Q v H') : rSlL T.K x lo hi H Q ∨ rSlA T.K x lo hi H Q := by
  unfold sliD at e
  split at e
  · cases e
    obtain ⟨a, vs, ea, ha, ra⟩ := vx.lst I
    exact .inl ⟨a, vs, ea, .of ha, fun p hp => q _ _ _ (I.fresh hp) (ExtE.fresh I hp) _ (FR.newL I hp (cut_reps ra lo hi))⟩
  · cases e
    obtain ⟨a, vs, ea, ha, ra⟩ := vx.fl I
    exact .inl ⟨a, vs, ea, ha, fun p hp => q _ _ _ (I.fresh hp) (ExtE.fresh I hp) _ (FR.newL I hp (cut_reps ra lo hi))⟩
  · cases e
    obtain ⟨a, vs, ea, sa, ha, ra⟩ := vx.tup I
    refine .inr ⟨a, vs, ea, .of ha, fun z => q H S M I ExtE.refl _ (.inr ⟨rfl, ?_⟩), fun _ p hp => q _ _ _ (I.laid hp) (ExtE.laid I hp) _ (.inr ⟨rfl, Rep.newT I hp (cut_reps ra lo hi)⟩)⟩
    refine .tup sa ?_
    have r2 := cut_reps ra lo hi
    have e2 : cutV vs lo hi = vs := by
      unfold cutV
      rw [z.1, z.2, List.drop_zero, Nat.sub_zero]
      exact List.take_length
    rw [e2] at r2
    exact r2
  · cases e
theorem s_sliF {a : Expr} {l h : Option Expr} {ia : IE} {il ih : IO} {p2 pos : Pos} (hK : X.K = T.K) (ha : PE X a (tI T W cx true ia)) (hl : PO X l (tOs T W cx il)) (hh : PO X h (tOs T W cx ih)) :
    PE X (.Subscript a (.Slice l h none p2) pos) (tF T W cx (.sli ia il ih)) := by
  have r := (sl_list (X := X)).or sl_tupA
  rw [hK] at r
  refine IL.PE.of (pe_slice r ha hl hh) fun σ H Q ⟨st, S, M, I, q⟩ => ?_
  simp only [ev] at q
  refine ⟨st, S, M, I, q.bind.mono fun dx st1 H1 S1 M1 I1 x1 q1 x vx => ⟨st1, S1, M1, I1, q1.bind.mono fun lo st2 H2 S2 M2 I2 x2 q2 => ⟨st2, S2, M2, I2, q2.bind.mono fun hi st3 H3 S3 M3 I3 x3 q3 => ?_⟩⟩⟩
  have vx3 := (vx.mono x2 I2).mono x3 I3
  cases e : sliD dx lo hi with
  | none =>
    rw [e] at q3
    exact q3.elim
  | some d =>
    rw [e] at q3
    exact sli_ok I3 vx3 e fun H' S' M' I' x' v f => q3 H' S' M' I' x' v (f.back fun a h => x1.x.none_of (x2.x.none_of (x3.x.none_of h)))

/-! ### fields of an instance that does not change -/
theorem s_fld {a : Expr} {f : Str} {ia : IE} {c j : Nat} {b : Bool} {C : Addr} {fs : List Str} {pos : Pos} (hK : X.K = T.K) (hb : attributeBase a f X.env (eval a X.env) = eval a X.env) (hc : T.cls c = some (C, fs)) (hC : Cls T.K C) (hn : NoAttr T.K C f) (hj : fs[j]? = some f) (nd : fs.Nodup)
    (ha : PE X a (tI T W cx true ia)) : PE X (.Attribute a f pos) (tI T W cx b (.fld ia c j)) := by
  refine IL.PE.of (pe_fld ha hb) fun σ H Q ⟨st, S, M, I, q⟩ => ?_
  simp only [ev] at q
  refine ⟨st, S, M, I, q.bind.mono fun dx st1 H1 S1 M1 I1 x1 q1 x vx => ?_⟩
  cases dx with
  | ins c' ds =>
    simp only at q1
    split at q1
    · rename_i hcc
      subst hcc
      obtain ⟨a', C', dx', fs', vs, e1, e2, e3, e4, e5⟩ := vx.insV I1
      rw [hc] at e2
      cases e2
      cases e6 : ds[j]? with
      | none =>
        rw [e6] at q1
        exact q1.elim
      | some d =>
        rw [e6] at q1
        obtain ⟨v, h1, h2⟩ := e5.get e6
        refine ⟨a', C, dx', _, v, e1, e3, by rw [hK]; exact hC, by rw [hK]; exact hn, ?_, q1 H1 S1 M1 I1 ExtE.refl v (.inl h2)⟩
        have : ∀ (fs : List Str) (vs : List V) (j : Nat), fs.Nodup → fs[j]? = some f → vs[j]? = some v → (fs.zip vs).lookup f = some v := by
          intro fs
          induction fs with
          | nil => intro vs j _ h; simp at h
          | cons g r ih =>
            intro vs j nd h1 h2
            cases vs with
            | nil => simp at h2
            | cons w ws =>
              cases j with
              | zero =>
                simp at h1 h2
                subst h1 h2
                simp [List.lookup_cons]
              | succ j =>
                rw [List.getElem?_cons_succ] at h1 h2
                have ng : f ≠ g := fun z => (List.nodup_cons.mp nd).1 (by rw [← z]; exact List.mem_of_getElem? h1)
                rw [List.zip_cons_cons, List.lookup_cons, show (f == g) = false from beq_eq_false_iff_ne.mpr ng]
                exact ih ws j (List.nodup_cons.mp nd).2 h1 h2
        exact this fs vs j nd hj h1
    · exact q1.elim
  | _ => exact q1.elim
end IL

set_option Elab.async false
set_option linter.all false
set_option maxRecDepth 100000
set_option maxHeartbeats 4000000
/-! IL7: what is walked. -/
namespace PySem
set_option maxHeartbeats 1000000 in
/-- enumerate(v): as meets_enumerate_newB of KE.GoesEnum, without a start -/
theorem il_meets_enumB {v : Value} {o : Obj} {H : Heap → Prop} (B : Begins v o H) :
    Meets (Builtin.«enumerate.__new__» ⟨[.type "enumerate", v], []⟩) (fun _ R s => H s.heap ∧
      R (.ok (.ret (.ref (s.heap.push o).objs.size))) { s with heap := (s.heap.push o).push { cls := .type "enumerate", data := .fields #[.none, .bool false, .ref s.heap.objs.size, rawInt 0, .none, .none] } }) :=
  .of_wp fun prog w A R s h => by
    obtain ⟨hp, g, d, tk, os⟩ := s; obtain ⟨h1, h⟩ := h
    have hsub := sub_enumerate
    have q1 : ∀ {A' : Around} {E : Value → Shared → Prop} {Q : Value → Shared → Prop}, Q (.ref hp.objs.size) ⟨hp.push o, g, d, tk, os⟩ → wpAny (model prog w) A' (pyIter v) Q E ⟨hp, g, d, tk, os⟩ :=
      fun q => B.iter prog w _ _ ⟨hp, g, d, tk, os⟩ _ h1 q
    wp_walk using q1
    refine wpAny_stack_any fun st => wpAny_pure ?_
    split
    · rename_i c _ _ _ _ _
      cases (c == Value.type "enumerate")
      · wp_walk using q1
        exact ⟨_, rfl, h⟩
      · wp_walk using q1
        exact ⟨_, rfl, h⟩
    · wp_walk using q1
      exact ⟨_, rfl, h⟩
section
variable {prog : Program} {w : World} {A : Around} {E : Value → Shared → Prop} {s : Shared}
theorem il_enum_begins {v : Value} {o : Obj} {H : Heap → Prop} {Q : Value → Shared → Prop} (B : Begins v o H) (h1 : H s.heap)
    (h : ∀ h', IsEnum h' (s.heap.objs.size + 1) s.heap.objs.size 0 .none → h'.get? s.heap.objs.size = some o → h'.objs.size = s.heap.objs.size + 2 →
      (∀ b o, s.heap.get? b = some o → h'.get? b = some o) → Q (.ref (s.heap.objs.size + 1)) { s with heap := h' }) :
    wpAny (model prog w) A (call (.type "enumerate") [v]) Q E s := by
  refine callType_new F.called_enumerate (by decide) (F.typeCall_enumerate_1 _) (F.newCall_enumerate_1 _) (fun obj => F.args_object_init_2 obj _) F.entry_enumerate_new
    (il_meets_enumB B) ⟨h1, ?_⟩
  have hz : (s.heap.push o).objs.size = s.heap.objs.size + 1 := Heap.size_push ..
  show _ ∧ _
  rw [hz]
  have he : IsEnum ((s.heap.push o).push { cls := .type "enumerate", data := .fields #[.none, .bool false, .ref s.heap.objs.size, rawInt 0, .none, .none] }) (s.heap.objs.size + 1) s.heap.objs.size 0 .none := by
    have := Heap.get?_push_size (s.heap.push o) (o := { cls := .type "enumerate", data := .fields #[.none, .bool false, .ref s.heap.objs.size, rawInt 0, .none, .none] }) rfl
    rw [hz] at this; exact this
  refine ⟨⟨_, he, rfl⟩, h _ he (Heap.get?_push_of_some _ (Heap.get?_push_size _ B.free)) (by rw [Heap.size_push, hz]) fun b o x => Heap.get?_push_of_some _ (Heap.get?_push_of_some _ x)⟩
end
end PySem

namespace L2
open PySem PySem.Spec PyProof.Rows
/-- as Ite, of a tuple -/
def IteT (K : PySem.W.Frag) (a : Addr) : It :=
  ⟨fun i H => ∃ (xs : List V) (x : V), SqT K H a xs ∧ xs[i]? = some x, fun i H v H' => ∃ T x, v = .ref T ∧ H T = none ∧ H' = upd H T (.tup [.int (i : Nat), x]) ∧ ∀ xs, SqT K H a xs → xs[i]? = some x, fun i H => ∃ xs : List V, SqT K H a xs ∧ xs.length = i⟩
theorem turn_enumT {P : Program} {w : World} {K : PySem.W.Frag} {elts : List Expr} {kk : Nat} {tpos : Pos} (a e it : Addr) :
    Turn P w K (.Tuple elts kk tpos) (IteT K a) [e, it] e (fun i h => (∃ old, IsEnum h e it ((i : Nat) : Int) old) ∧ h.IsTupleIter it a i ∧ e ≠ it ∧ a ≠ it ∧ a ≠ e) where
  mem := by simp
  obj := fun i h st b hb => by
    obtain ⟨⟨old, he⟩, ⟨o, ho, hc, hd⟩, _⟩ := st
    have e' : b = e ∨ b = it := by simpa using hb
    rcases e' with z | z
    · rw [z]; exact ⟨_, he, fun v q => nomatch q⟩
    · rw [z]; exact ⟨o, ho, fun v q => by rw [hd] at q; cases q⟩
  keep := fun i h h' st k => let ⟨⟨old, he⟩, hi, hne⟩ := st; ⟨⟨old, k e (by simp) _ he⟩, hi.at fun o q => k it (by simp) o q, hne⟩
  item := by
    intro X hP hw hK hc i pins s σ H E I hf st hg
    subst hP hw hK
    obtain ⟨⟨old, he⟩, hit, hne, hai, hae⟩ := st
    obtain ⟨xs, x, hq, hx⟩ := hg
    obtain ⟨its, rv, p, hz⟩ := I.tuple hq
    obtain ⟨u, hu, ru⟩ := rv.get hx
    have hel : e < s.heap.objs.size := Heap.lt_size he
    have hil : it < s.heap.objs.size := by obtain ⟨_, q, _⟩ := hit; exact Heap.lt_size q
    have hlt : i < its.toArray.size := by
      have := (List.getElem?_eq_some_iff.mp hu).1
      simpa using this
    have D := Draws.tuple (prog := X.prog) (w := X.w) (A := X.A.in1) (I.ok.hd hc) it a hai its.toArray
    refine wpAny_pyNext_enum_itemD D he ⟨hit, show s.heap.IsTuple a its.toArray from p⟩ hlt hne (by simp [hne, Ne.symm hae]) fun x' h' tk hx' ho hst' hT hsz hk => ?_
    have ex : x' = u := by
      have h1 : its[i]? = some x' := by simpa using hx'
      rw [hu] at h1
      exact (Option.some.inj h1).symm
    subst ex
    refine ⟨_, rfl, wpAny_letOwnedTupleGo_enum (s := { s with heap := h', toks := tk + 1 }) ho fun h'' he' sb => ?_⟩
    have hT2 : h''.get? s.heap.objs.size = some { cls := .type "tuple", data := .seq #[.int i tk, x'] } := (sb.2 _ (Nat.ne_of_gt hel)).trans hT
    have new : ObjOk X.prog X.w (upd H s.heap.objs.size (.tup [.int (i : Nat), x])) h'' s.heap.objs.size (.tup [.int (i : Nat), x]) :=
      ⟨by show 2 ≤ sizeLine; decide, [.int i tk, x'], .cons ⟨_, rfl⟩ (.cons ru .nil), ⟨_, hT2, rfl, _, rfl⟩⟩
    have I1 : Inv X pins σ (upd H s.heap.objs.size (.tup [.int (i : Nat), x])) { s with heap := h'', toks := tk + 1 } :=
      I.turnedNew (ch := [e, it]) (fun b ob hb q => (sb.2 b (fun z => hb (by simp [z]))).trans (hk b ob (fun z => hb (by simp [z])) (fun z => hb (by simp [z])) q)) hf (Nat.le_refl _) new
    refine ⟨.ref s.heap.objs.size, _, I1, rfl, ⟨_, x, rfl, I.hok.fresh (Nat.le_refl _), rfl, fun ys hy => by rw [I.tuple_inj hy hq]; exact hx⟩, ⟨⟨x', ?_⟩, hst'.1.at fun o q => (sb.2 it (Ne.symm hne)).trans q, hne, hai, hae⟩, fun b hb => ?_⟩
    · have e1 : ((i + 1 : Nat) : Int) = (i : Int) + 1 := by omega
      rw [e1]; exact he'
    · have hb' : b < s.heap.objs.size := by
        have e' : b = e ∨ b = it := by simpa using hb
        rcases e' with z | z
        · rw [z]; exact hel
        · rw [z]; exact hil
      rw [upd_ne (Nat.ne_of_lt hb')]
      exact (hf b hb).1
  done := by
    intro X hP hw hK hc i pins s σ H E I hf st hg
    subst hP hw hK
    obtain ⟨⟨old, he⟩, hit, hne, hai, hae⟩ := st
    obtain ⟨xs, hq, hx⟩ := hg
    obtain ⟨its, rv, p, hz⟩ := I.tuple hq
    obtain ⟨f0, f1, f2, f3, f4, f5⟩ := hf it (by simp)
    have hl := rv.length
    have D := Draws.tuple (prog := X.prog) (w := X.w) (A := X.A.in1) (I.ok.hd hc) it a hai its.toArray
    have hsz : its.toArray.size = i := by
      rw [List.size_toArray]
      omega
    rw [hsz] at D
    exact wpAny_pyNext_enum_endD D he ⟨hit, show s.heap.IsTuple a its.toArray from p⟩ fun h' eb => ⟨rfl, I.turned (t' := s.toks) (fun b o hb q => eb b o hb q) f0 f1 f3 f4 f5⟩
  self := fun A i s Q E st h => let ⟨⟨_, he⟩, _⟩ := st; wpAny_pyIter_enum he h
/-- enumerate of a list or a tuple -/
def iEnumA (K : PySem.W.Frag) (ta : TA) : TI := fun σ H R => ta σ H fun vs H1 => ∃ a, vs = [.ref a] ∧ (((∃ xs, SqL K H1 a xs) ∧ R (Ite K a) H1) ∨ ((∃ xs, SqT K H1 a xs) ∧ R (IteT K a) H1))
theorem pi_enumA {X : Cx} {e : Expr} {ta : TA} {p pos tpos : Pos} {elts : List Expr} {kk : Nat} (hg : Gl X "enumerate") (hm : X.mg "enumerate" = none) (ha : PA X [e] ta) (hs : starEach [e] X.env = [(false, eval e X.env)]) :
    PI X (.Tuple elts kk tpos) (.Call (.Name "enumerate" p) [e] [] pos) (iEnumA X.K ta) := by
  refine ⟨fun pins s σ H R I h => ?_⟩
  refine Call_ (ld_blt I hg hm boot_enumerate (PyProof.Rows.callWith_type1 (thn (ha.run pos pins s σ H _ I h) fun us s1 ⟨vs, H1, I1, r1, q1⟩ => ?_) hs rfl))
  obtain ⟨a, ex, q⟩ := q1
  subst ex
  cases r1 with
  | cons r rr =>
    cases rr
    cases r
    rcases q with ⟨⟨xs, hq⟩, q⟩ | ⟨⟨xs, hq⟩, q⟩
    · obtain ⟨its, rv, p', hz⟩ := I1.list hq
      refine call_enumerate_list p'.isList fun h' he hit hsz hk => wpAny_pyIter_enum he ?_
      have I2 : Inv X pins σ H1 { s1 with heap := h' } := I1.kept (t' := s1.toks) hk
      refine ⟨s1.heap.objs.size + 1, [s1.heap.objs.size + 1, s1.heap.objs.size], _, _, H1, rfl, I2, turn_enum a (s1.heap.objs.size + 1) s1.heap.objs.size, ⟨⟨.none, he⟩, hit, Nat.succ_ne_self _⟩, fun b hb => ?_, q⟩
      have e' : b = s1.heap.objs.size + 1 ∨ b = s1.heap.objs.size := by simpa using hb
      have hle : s1.heap.objs.size ≤ b := by
        rcases e' with z | z
        · rw [z]; exact Nat.le_add_right _ _
        · rw [z]; exact Nat.le_refl _
      exact I1.fpOk hle (I1.hok.fresh hle)
    · obtain ⟨its, rv, p', hz⟩ := I1.tuple hq
      have hal : a < s1.heap.objs.size := by
        obtain ⟨o, q', _⟩ := p'
        exact Heap.lt_size q'
      refine PySem.il_enum_begins (begins_tuple a its.toArray) (show s1.heap.IsTuple a its.toArray from p') fun h' he hit hsz hk => wpAny_pyIter_enum he ?_
      have I2 : Inv X pins σ H1 { s1 with heap := h' } := I1.kept (t' := s1.toks) hk
      refine ⟨s1.heap.objs.size + 1, [s1.heap.objs.size + 1, s1.heap.objs.size], _, _, H1, rfl, I2, turn_enumT a (s1.heap.objs.size + 1) s1.heap.objs.size, ⟨⟨.none, he⟩, ⟨_, hit, rfl, rfl⟩, Nat.succ_ne_self _, Nat.ne_of_lt hal, Nat.ne_of_lt (Nat.lt_succ_of_lt hal)⟩, fun b hb => ?_, q⟩
      have e' : b = s1.heap.objs.size + 1 ∨ b = s1.heap.objs.size := by simpa using hb
      have hle : s1.heap.objs.size ≤ b := by
        rcases e' with z | z
        · rw [z]; exact Nat.le_add_right _ _
        · rw [z]; exact Nat.le_refl _
      exact I1.fpOk hle (I1.hok.fresh hle)
/-- a list, a tuple, or a closed dict of tuple keys -/
def iSeqD (K : PySem.W.Frag) (tl : TE) : TI := fun σ H R => tl σ H fun x H1 => ∃ a, x = .ref a ∧ (((∃ xs, SqL K H1 a xs) ∧ R (Itl K a) H1) ∨ ((∃ xs, SqT K H1 a xs) ∧ R (Itt K a) H1) ∨ ∃ o kvs, H1 a = some (.frz o (.dT kvs)) ∧ R (Itkt a o kvs) H1)
theorem pi_seqD {X : Cx} {tg l : Expr} {tl : TE} (hl : PE X l tl) : PI X tg l (iSeqD X.K tl) := by
  refine ⟨fun pins s σ H R I h => ?_⟩
  refine thn (hl.run pins s σ H _ I h) fun v s1 ⟨x, H1, I1, r1, q1⟩ => ?_
  obtain ⟨a, e, q⟩ := q1
  subst e
  cases r1
  rcases q with ⟨⟨xs, hq⟩, q⟩ | ⟨⟨xs, hq⟩, q⟩ | ⟨o, kvs, hd, q⟩
  · obtain ⟨its, rv, p, hz⟩ := I1.list hq
    refine wpAny_pyIter_list p.isList ?_
    refine ⟨s1.heap.objs.size, [s1.heap.objs.size], _, _, H1, rfl, I1.kept (t' := s1.toks) fun b o e => Heap.get?_push_of_some _ e, turn_list a _, ⟨_, Heap.get?_push_size _ rfl, rfl, rfl⟩, fun b hb => ?_, q⟩
    have e : b = s1.heap.objs.size := by simpa using hb
    subst e
    exact I1.fpOk (Nat.le_refl _) (I1.hok.fresh (Nat.le_refl _))
  · obtain ⟨its, rv, p, hz⟩ := I1.tuple hq
    refine wpAny_pyIter_tuple (show s1.heap.IsTuple a its.toArray from p) ?_
    refine ⟨s1.heap.objs.size, [s1.heap.objs.size], _, _, H1, rfl, I1.kept (t' := s1.toks) fun b o e => Heap.get?_push_of_some _ e, turn_tuple a _, ⟨_, Heap.get?_push_size _ rfl, rfl, rfl⟩, fun b hb => ?_, q⟩
    have e : b = s1.heap.objs.size := by simpa using hb
    subst e
    exact I1.fpOk (Nat.le_refl _) (I1.hok.fresh (Nat.le_refl _))
  · obtain ⟨hs, hgd, hx, es, ep, hdt, hsz, ent⟩ := I1.frzT hd
    refine iter_keys hs hgd hx hdt (pi_one (tk := s1.toks) I1 _ (turn_keysT _ hdt) ⟨_, Heap.get?_push_size _ rfl, rfl, ?_⟩ q)
    rw [hsz] <;> rfl
/-- a list or a tuple -/
def iSeq (K : PySem.W.Frag) (tl : TE) : TI := fun σ H R => tl σ H fun x H1 => ∃ a, x = .ref a ∧ (((∃ xs, SqL K H1 a xs) ∧ R (Itl K a) H1) ∨ ((∃ xs, SqT K H1 a xs) ∧ R (Itt K a) H1))
theorem pi_seq {X : Cx} {tg l : Expr} {tl : TE} (hl : PE X l tl) : PI X tg l (iSeq X.K tl) := by
  refine ⟨fun pins s σ H R I h => ?_⟩
  refine thn (hl.run pins s σ H _ I h) fun v s1 ⟨x, H1, I1, r1, q1⟩ => ?_
  obtain ⟨a, e, q⟩ := q1
  subst e
  cases r1
  rcases q with ⟨⟨xs, hq⟩, q⟩ | ⟨⟨xs, hq⟩, q⟩
  · obtain ⟨its, rv, p, hz⟩ := I1.list hq
    refine wpAny_pyIter_list p.isList ?_
    refine ⟨s1.heap.objs.size, [s1.heap.objs.size], _, _, H1, rfl, I1.kept (t' := s1.toks) fun b o e => Heap.get?_push_of_some _ e, turn_list a _, ⟨_, Heap.get?_push_size _ rfl, rfl, rfl⟩, fun b hb => ?_, q⟩
    have e : b = s1.heap.objs.size := by simpa using hb
    subst e
    exact I1.fpOk (Nat.le_refl _) (I1.hok.fresh (Nat.le_refl _))
  · obtain ⟨its, rv, p, hz⟩ := I1.tuple hq
    refine wpAny_pyIter_tuple (show s1.heap.IsTuple a its.toArray from p) ?_
    refine ⟨s1.heap.objs.size, [s1.heap.objs.size], _, _, H1, rfl, I1.kept (t' := s1.toks) fun b o e => Heap.get?_push_of_some _ e, turn_tuple a _, ⟨_, Heap.get?_push_size _ rfl, rfl, rfl⟩, fun b hb => ?_, q⟩
    have e : b = s1.heap.objs.size := by simpa using hb
    subst e
    exact I1.fpOk (Nat.le_refl _) (I1.hok.fresh (Nat.le_refl _))
end L2

namespace IL
open PySem L2
variable {T : Sta'} {X : Cx} {W : WX} {cx : ECx}
/-- an iterator gives these items, wherever what stood then stands -/
def JR (T : Sta') (M0 : Ms) (S0 : Hp) (J : It) (xs : List D) : Prop := ∀ (st : SS) (σ : L2.St) (H S : Hp) (M : Ms), RI T.toSta st σ H S M → Same S0 S → Pre M0 M → ∀ i : Nat,
  (∀ d, xs[i]? = some d → J.go i H ∧ ∀ x H', J.yld i H x H' → ∃ S', RI T.toSta st σ H' S' M ∧ ExtE st.env σ H S M st.env H' S' M ∧ Rep T.toSta M S' d x) ∧ (i = xs.length → J.stop i H)
def tIt (T : Sta') (W : WX) (cx : ECx) (it : II) : TI := fun σ H R => ∃ st S M, RI T.toSta st σ H S M ∧ Post T W σ st.env H S M (evI cx it st) fun xs st' H' S' M' => ∀ J, JR T M' S' J xs → R J H'
theorem PI.of {tg iter : Expr} {t t' : TI} (h : PI X tg iter t) (k : ∀ σ H R, t' σ H R → t σ H R) : PI X tg iter t' := ⟨fun pins s σ H R I q => h.run pins s σ H R I (k σ H R q)⟩
theorem jr_list {M0 : Ms} {S0 : Hp} {a : Addr} {ds : List D} {vs : List V} (h : SqL T.K S0 a vs) (r : Reps T.toSta M0 S0 ds vs) : JR T M0 S0 (Itl T.K a) ds := fun st σ H S M I s p i => by
  have hH : SqL T.K H a vs := Same.lst (s.trans I.sub) h
  refine ⟨fun d e => ?_, fun e => ⟨vs, hH, by rw [e, r.length]; exact Nat.le_refl _⟩⟩
  obtain ⟨v, h1, h2⟩ := r.get e
  refine ⟨⟨vs, v, hH, h1⟩, fun x H' y => ?_⟩
  obtain ⟨e1, e2⟩ := y
  subst e1
  have := e2 vs hH
  rw [h1] at this
  cases this
  exact ⟨S, I, ExtE.refl, h2.mono s p⟩
theorem jr_tup {M0 : Ms} {S0 : Hp} {a : Addr} {ds : List D} {vs : List V} (h : SqT T.K S0 a vs) (r : Reps T.toSta M0 S0 ds vs) : JR T M0 S0 (Itt T.K a) ds := fun st σ H S M I s p i => by
  have hH : SqT T.K H a vs := Same.tup (s.trans I.sub) h
  refine ⟨fun d e => ?_, fun e => ⟨vs, hH, by rw [e, r.length]; exact Nat.le_refl _⟩⟩
  obtain ⟨v, h1, h2⟩ := r.get e
  refine ⟨⟨vs, v, hH, h1⟩, fun x H' y => ?_⟩
  obtain ⟨e1, e2⟩ := y
  subst e1
  have := e2 vs hH
  rw [h1] at this
  cases this
  exact ⟨S, I, ExtE.refl, h2.mono s p⟩
theorem enumD_get : ∀ (ds : List D) (k i : Nat) (d : D), (enumD k ds)[i]? = some d → ∃ d', ds[i]? = some d' ∧ d = .tup [.int ((k + i : Nat) : Int), d']
  | [], _, _, _, h => by simp [enumD] at h
  | x :: xs, k, 0, d, h => by
    simp [enumD] at h
    exact ⟨x, rfl, h.symm⟩
  | x :: xs, k, i + 1, d, h => by
    simp only [enumD, List.getElem?_cons_succ] at h
    obtain ⟨d', h1, h2⟩ := enumD_get xs (k + 1) i d h
    refine ⟨d', by simpa using h1, ?_⟩
    rw [h2, show k + 1 + i = k + (i + 1) by omega]
theorem enumD_len : ∀ (ds : List D) (k : Nat), (enumD k ds).length = ds.length
  | [], _ => rfl
  | x :: xs, k => by simp [enumD, enumD_len xs]
theorem jr_enum {M0 : Ms} {S0 : Hp} {a : Addr} {ds : List D} {vs : List V} (h : SqL T.K S0 a vs) (r : Reps T.toSta M0 S0 ds vs) : JR T M0 S0 (Ite T.K a) (enumD 0 ds) := fun st σ H S M I s p i => by
  have hH : SqL T.K H a vs := Same.lst (s.trans I.sub) h
  refine ⟨fun d e => ?_, fun e => ⟨vs, hH, by rw [e, enumD_len, r.length]; exact Nat.le_refl _⟩⟩
  obtain ⟨d', e1, e2⟩ := enumD_get _ _ _ _ e
  obtain ⟨v, h1, h2⟩ := r.get e1
  refine ⟨⟨vs, v, hH, h1⟩, fun x H' y => ?_⟩
  obtain ⟨t, x', q1, q2, q3, q4⟩ := y
  have := q4 vs hH
  rw [h1] at this
  cases this
  subst q1 q3 e2
  rw [Nat.zero_add]
  exact ⟨_, I.laid q2, ExtE.laid I q2, Rep.newT I q2 (.cons (.int _) (.cons (h2.mono s p) .nil))⟩
theorem jr_enumT {M0 : Ms} {S0 : Hp} {a : Addr} {ds : List D} {vs : List V} (h : SqT T.K S0 a vs) (r : Reps T.toSta M0 S0 ds vs) : JR T M0 S0 (IteT T.K a) (enumD 0 ds) := fun st σ H S M I s p i => by
  have hH : SqT T.K H a vs := Same.tup (s.trans I.sub) h
  refine ⟨fun d e => ?_, fun e => ⟨vs, hH, by rw [e, enumD_len, r.length]⟩⟩
  obtain ⟨d', e1, e2⟩ := enumD_get _ _ _ _ e
  obtain ⟨v, h1, h2⟩ := r.get e1
  refine ⟨⟨vs, v, hH, h1⟩, fun x H' y => ?_⟩
  obtain ⟨t, x', q1, q2, q3, q4⟩ := y
  have := q4 vs hH
  rw [h1] at this
  cases this
  subst q1 q3 e2
  rw [Nat.zero_add]
  exact ⟨_, I.laid q2, ExtE.laid I q2, Rep.newT I q2 (.cons (.int _) (.cons (h2.mono s p) .nil))⟩
theorem rngD_get : ∀ (n : Nat) (lo : Int) (i : Nat) (d : D), (rngD lo n)[i]? = some d → i < n ∧ d = .int (lo + (i : Nat))
  | 0, _, _, _, h => by simp [rngD] at h
  | n + 1, lo, 0, d, h => by
    simp [rngD] at h
    exact ⟨Nat.succ_pos n, by rw [← h]; simp⟩
  | n + 1, lo, i + 1, d, h => by
    simp only [rngD, List.getElem?_cons_succ] at h
    obtain ⟨h1, h2⟩ := rngD_get n (lo + 1) i d h
    refine ⟨Nat.succ_lt_succ h1, ?_⟩
    rw [h2]
    congr 1
    omega
theorem rngD_len : ∀ (n : Nat) (lo : Int), (rngD lo n).length = n
  | 0, _ => rfl
  | n + 1, lo => by simp [rngD, rngD_len n]
theorem rngU_get : ∀ (n : Nat) (lo : Int) (i : Nat) (d : D), (rngU lo n)[i]? = some d → i < n ∧ d = .int (lo + (i : Nat) * (-1))
  | 0, _, _, _, h => by simp [rngU] at h
  | n + 1, lo, 0, d, h => by
    simp [rngU] at h
    exact ⟨Nat.succ_pos n, by rw [← h]; simp⟩
  | n + 1, lo, i + 1, d, h => by
    simp only [rngU, List.getElem?_cons_succ] at h
    obtain ⟨h1, h2⟩ := rngU_get n (lo - 1) i d h
    refine ⟨Nat.succ_lt_succ h1, ?_⟩
    rw [h2]
    congr 1
    omega
theorem rngU_len : ∀ (n : Nat) (lo : Int), (rngU lo n).length = n
  | 0, _ => rfl
  | n + 1, lo => by simp [rngU, rngU_len n]
theorem jr_rng {M0 : Ms} {S0 : Hp} {lo : Int} {n : Nat} : JR T M0 S0 (Itr lo n) (rngD lo n) := fun st σ H S M I s p i => by
  refine ⟨fun d e => ?_, fun e => by rw [e, rngD_len]; exact Nat.le_refl n⟩
  obtain ⟨h1, h2⟩ := rngD_get _ _ _ _ e
  refine ⟨h1, fun x H' y => ?_⟩
  obtain ⟨e1, e2⟩ := y
  subst e1 e2 h2
  exact ⟨S, I, ExtE.refl, .int _⟩
theorem jr_rngU {M0 : Ms} {S0 : Hp} {lo : Int} {n : Nat} : JR T M0 S0 (Itc lo (-1) n) (rngU lo n) := fun st σ H S M I s p i => by
  refine ⟨fun d e => ?_, fun e => by rw [e, rngU_len]; exact Nat.le_refl n⟩
  obtain ⟨h1, h2⟩ := rngU_get _ _ _ _ e
  refine ⟨h1, fun x H' y => ?_⟩
  obtain ⟨e1, e2⟩ := y
  subst e1 e2 h2
  exact ⟨S, I, ExtE.refl, .int _⟩
theorem reps_keys {M : Ms} {S : Hp} : ∀ k : List Key, Reps T.toSta M S (k.map keyOf) (k.map kV)
  | [] => .nil
  | .inl i :: k => .cons (.int i) (reps_keys k)
  | .inr x :: k => .cons (.str x) (reps_keys k)
theorem jr_keys {M0 : Ms} {S0 : Hp} {a : Addr} {o : Obj} {ks : List (List Key)} {vs : List V} (h : S0 a = some (.frz o (.dT (ks.zip vs)))) (hl : ks.length = vs.length) : JR T M0 S0 (Itkt a o (ks.zip vs)) (ks.map fun k => .tup (k.map keyOf)) := fun st σ H S M I s p i => by
  have hH := I.sub _ _ (s _ _ h)
  have hlen : (ks.zip vs).length = ks.length := by rw [List.length_zip]; omega
  refine ⟨fun d e => ⟨⟨hH, ?_⟩, fun x H' y => ?_⟩, fun e => ⟨hH, ?_⟩⟩
  · have := (List.getElem?_eq_some_iff.mp e).1
    rw [hlen]
    simpa using this
  · obtain ⟨e1, k, v, q, e2, e3, e4⟩ := y
    subst e1 e3
    rw [List.getElem?_map] at e
    obtain ⟨k', hk', ed⟩ := Option.map_eq_some_iff.mp e
    have : ks[i]? = some k := (List.getElem?_zip_eq_some.mp e2).1
    rw [this] at hk'
    cases hk'
    subst ed
    exact ⟨S, I, ExtE.refl, .tup (I.tp _ _ e4) (reps_keys k)⟩
  · rw [hlen]
    simp at e
    omega
theorem i_seq {tg l : Expr} {ie : IE} (hK : X.K = T.K) (h : PE X l (tI T W cx false ie)) : PI X tg l (tIt T W cx (.seq ie)) := by
  have r := pi_seqD (tg := tg) h
  rw [hK] at r
  refine IL.PI.of r fun σ H R ⟨st, S, M, I, q⟩ => ?_
  simp only [evI] at q
  refine ⟨st, S, M, I, q.bind.mono fun d st1 H1 S1 M1 I1 x1 q1 v vv => ?_⟩
  cases d with
  | lst ds =>
    cases vv.rep with
    | lst h2 r2 => exact ⟨_, rfl, .inl ⟨⟨_, .of (I1.sub _ _ h2)⟩, q1 H1 S1 M1 I1 ExtE.refl _ (jr_list (.of h2) r2)⟩⟩
  | tup ds =>
    cases vv.rep with
    | tup h2 r2 => exact ⟨_, rfl, .inr (.inl ⟨⟨_, .of (I1.sub _ _ h2)⟩, q1 H1 S1 M1 I1 ExtE.refl _ (jr_tup (.of h2) r2)⟩)⟩
  | kt ds =>
    cases vv.rep with
    | kt h2 r2 => exact ⟨_, rfl, .inr (.inl ⟨⟨_, Same.tup I1.sub h2⟩, q1 H1 S1 M1 I1 ExtE.refl _ (jr_tup h2 r2)⟩)⟩
  | dF ks ds =>
    cases vv.rep with
    | dF h2 hl r2 => exact ⟨_, rfl, .inr (.inr ⟨_, _, I1.sub _ _ h2, q1 H1 S1 M1 I1 ExtE.refl _ (jr_keys h2 hl)⟩)⟩
  | _ => exact q1.elim
theorem one_arg {e : Expr} {ie : IE} {b : Bool} (hs : notStar e = true) (h : PE X e (tI T W cx b ie)) : PA X [e] (tAs T W cx b (.cons ie .nil)) := s_cons hs h s_nil
theorem tAs_one {ie : IE} {b : Bool} {st : SS} {σ : L2.St} {H S : Hp} {M : Ms} {Q : List V → Hp → Prop} (I : RI T.toSta st σ H S M) (q : Post T W σ st.env H S M (ev cx b ie st) fun d st' H' S' M' => ∀ v, VR T b st'.env σ M' S' d v → Q [v] H') :
    tAs T W cx b (.cons ie .nil) σ H Q := by
  refine ⟨st, S, M, I, ?_⟩
  simp only [evs]
  cases e1 : ev cx b ie st with
  | stuck =>
    rw [e1] at q
    exact q
  | exc x st1 =>
    rw [e1] at q
    exact q
  | ok d st1 =>
    rw [e1] at q
    intro H1 S1 M1 I1 x1 vs vvs
    cases vvs with
    | cons vv vn =>
      cases vn
      exact q H1 S1 M1 I1 x1 _ vv
theorem i_enum {elts : List Expr} {kk : Nat} {tpos p pos : Pos} {e : Expr} {ie : IE} (hK : X.K = T.K) (hg : Gl X "enumerate") (hm : X.mg "enumerate" = none) (hs : notStar e = true) (h : PE X e (tI T W cx false ie)) :
    PI X (.Tuple elts kk tpos) (.Call (.Name "enumerate" p) [e] [] pos) (tIt T W cx (.enum ie)) := by
  have r := pi_enumA (pos := pos) (p := p) (elts := elts) (kk := kk) (tpos := tpos) hg hm (one_arg hs h) (starEach_cons hs [] X.env)
  rw [hK] at r
  refine IL.PI.of r fun σ H R ⟨st, S, M, I, q⟩ => ?_
  simp only [evI] at q
  refine tAs_one I (q.bind.mono fun d st1 H1 S1 M1 I1 x1 q1 v vv => ?_)
  cases d with
  | lst ds =>
    cases vv.rep with
    | lst h2 r2 => exact ⟨_, rfl, .inl ⟨⟨_, .of (I1.sub _ _ h2)⟩, q1 H1 S1 M1 I1 ExtE.refl _ (jr_enum (.of h2) r2)⟩⟩
  | tup ds =>
    cases vv.rep with
    | tup h2 r2 => exact ⟨_, rfl, .inr ⟨⟨_, .of (I1.sub _ _ h2)⟩, q1 H1 S1 M1 I1 ExtE.refl _ (jr_enumT (.of h2) r2)⟩⟩
  | kt ds =>
    cases vv.rep with
    | kt h2 r2 => exact ⟨_, rfl, .inr ⟨⟨_, Same.tup I1.sub h2⟩, q1 H1 S1 M1 I1 ExtE.refl _ (jr_enumT h2 r2)⟩⟩
  | _ => exact q1.elim
theorem inR_iff {i : Int} (h : inR i = true) : -(2 ^ 62) ≤ i ∧ i < 2 ^ 62 := by
  unfold inR at h
  simp only [Bool.and_eq_true, decide_eq_true_eq] at h
  exact h
theorem i_rng1 {tg e : Expr} {p pos : Pos} {ie : IE} (hg : Gl X "range") (hm : X.mg "range" = none) (hs : notStar e = true) (h : PE X e (tI T W cx true ie)) : PI X tg (.Call (.Name "range" p) [e] [] pos) (tIt T W cx (.rng1 ie)) := by
  refine IL.PI.of (pi_range1 hg hm (one_arg hs h) (starEach_cons hs [] X.env)) fun σ H R ⟨st, S, M, I, q⟩ => ?_
  simp only [evI] at q
  refine tAs_one I (q.bind.mono fun d st1 H1 S1 M1 I1 x1 q1 v vv => ?_)
  cases d with
  | int j =>
    simp only at q1
    split at q1
    · rename_i hj
      obtain ⟨h1, h2⟩ := inR_iff hj
      exact ⟨j, by rw [vv.int I1], h1, h2, q1 H1 S1 M1 I1 ExtE.refl _ jr_rng⟩
    · exact q1.elim
  | _ => exact q1.elim
theorem two_args {e f : Expr} {ie jf : IE} {b : Bool} (hs : notStar e = true) (hs2 : notStar f = true) (h : PE X e (tI T W cx b ie)) (h2 : PE X f (tI T W cx b jf)) : PA X [e, f] (tAs T W cx b (.cons ie (.cons jf .nil))) := s_cons hs h (s_cons hs2 h2 s_nil)
theorem tAs_two {ie jf : IE} {b : Bool} {st : SS} {σ : L2.St} {H S : Hp} {M : Ms} {Q : List V → Hp → Prop} (I : RI T.toSta st σ H S M)
    (q : Post T W σ st.env H S M ((ev cx b ie st).bind fun d st1 => (ev cx b jf st1).bind fun d' st2 => .ok (d, d') st2) fun p st' H' S' M' => ∀ v w, VR T b st'.env σ M' S' p.1 v → VR T b st'.env σ M' S' p.2 w → Q [v, w] H') :
    tAs T W cx b (.cons ie (.cons jf .nil)) σ H Q := by
  refine ⟨st, S, M, I, ?_⟩
  simp only [evs]
  cases e1 : ev cx b ie st with
  | stuck =>
    rw [e1] at q
    exact q
  | exc x st1 =>
    rw [e1] at q
    exact q
  | ok d st1 =>
    rw [e1] at q
    simp only [R.bind] at q ⊢
    cases e2 : ev cx b jf st1 with
    | stuck =>
      rw [e2] at q
      exact q
    | exc x st2 =>
      rw [e2] at q
      exact q
    | ok d' st2 =>
      rw [e2] at q
      intro H1 S1 M1 I1 x1 vs vvs
      cases vvs with
      | cons vv vn =>
        cases vn with
        | cons vw vn =>
          cases vn
          exact q H1 S1 M1 I1 x1 _ _ vv vw
/-- the pair first -/
theorem Post.pair {α β γ : Type} {r : IL.R α} {s : α → SS → IL.R β} {f : α → β → SS → IL.R γ} {σ : L2.St} {env : Env'} {H S : Hp} {M : Ms} {P : γ → SS → Hp → Hp → Ms → Prop} (q : Post T W σ env H S M (r.bind fun a st1 => (s a st1).bind fun b st2 => f a b st2) P) :
    Post T W σ env H S M ((r.bind fun a st1 => (s a st1).bind fun b st2 => IL.R.ok (a, b) st2).bind fun p st2 => f p.1 p.2 st2) P := by
  cases r with
  | stuck => exact q
  | exc x st => exact q
  | ok a st1 =>
    show Post T W σ env H S M (((s a st1).bind fun b st2 => IL.R.ok (a, b) st2).bind fun p st2 => f p.1 p.2 st2) P
    have q' : Post T W σ env H S M ((s a st1).bind fun b st2 => f a b st2) P := q
    generalize s a st1 = g at q'
    cases g with
    | stuck => exact q'
    | exc x st => exact q'
    | ok b st2 => exact q'
theorem i_rng2 {tg e f : Expr} {p pos : Pos} {ie jf : IE} (hg : Gl X "range") (hm : X.mg "range" = none) (hs : notStar e = true) (hs2 : notStar f = true) (h : PE X e (tI T W cx true ie)) (h2 : PE X f (tI T W cx true jf)) :
    PI X tg (.Call (.Name "range" p) [e, f] [] pos) (tIt T W cx (.rng2 ie jf)) := by
  refine IL.PI.of (pi_range2 hg hm (two_args hs hs2 h h2) (by rw [starEach_cons hs, starEach_cons hs2] <;> rfl) (starEach_cons hs2 [] X.env)) fun σ H R ⟨st, S, M, I, q⟩ => ?_
  simp only [evI] at q
  refine tAs_two I ((Post.pair q).bind.mono fun d st1 H1 S1 M1 I1 x1 q1 v w vv vw => ?_)
  obtain ⟨d, d'⟩ := d
  cases d with
  | int i =>
    cases d' with
    | int j =>
      simp only at q1
      split at q1
      · rename_i hj
        rw [Bool.and_eq_true] at hj
        obtain ⟨h1, h2⟩ := inR_iff hj.1
        obtain ⟨h3, h4⟩ := inR_iff hj.2
        exact ⟨i, j, by rw [vv.int I1, vw.int I1], ⟨h1, h2, h3, h4⟩, q1 H1 S1 M1 I1 ExtE.refl _ jr_rng⟩
      · exact q1.elim
    | _ => exact q1.elim
  | _ => exact q1.elim
theorem tAs_three {ie jf : IE} {i : Int} {b : Bool} {st : SS} {σ : L2.St} {H S : Hp} {M : Ms} {Q : List V → Hp → Prop} (I : RI T.toSta st σ H S M)
    (q : Post T W σ st.env H S M ((ev cx b ie st).bind fun d st1 => (ev cx b jf st1).bind fun d' st2 => .ok (d, d') st2) fun p st' H' S' M' => ∀ v w, VR T b st'.env σ M' S' p.1 v → VR T b st'.env σ M' S' p.2 w → Q [v, w, .int (-i)] H') :
    tAs T W cx b (.cons ie (.cons jf (.cons (.neg (.con (.int i))) .nil))) σ H Q := by
  refine ⟨st, S, M, I, ?_⟩
  simp only [evs]
  cases e1 : ev cx b ie st with
  | stuck =>
    rw [e1] at q
    exact q
  | exc x st1 =>
    rw [e1] at q
    exact q
  | ok d st1 =>
    rw [e1] at q
    simp only [R.bind] at q ⊢
    cases e2 : ev cx b jf st1 with
    | stuck =>
      rw [e2] at q
      exact q
    | exc x st2 =>
      rw [e2] at q
      exact q
    | ok d' st2 =>
      rw [e2] at q
      simp only [ev, R.bind]
      intro H1 S1 M1 I1 x1 vs vvs
      cases vvs with
      | cons vv vn =>
        cases vn with
        | cons vw vn =>
          cases vn with
          | cons vz vn =>
            cases vn
            rw [vz.int I1]
            exact q H1 S1 M1 I1 x1 _ _ vv vw
/-- range(a, b, -1) -/
theorem i_rng3 {tg e f g : Expr} {p pos : Pos} {ie jf : IE} (hg : Gl X "range") (hm : X.mg "range" = none) (hs : notStar e = true) (hs2 : notStar f = true) (hs3 : notStar g = true) (h : PE X e (tI T W cx true ie)) (h2 : PE X f (tI T W cx true jf)) (h3 : PE X g (tI T W cx true (.neg (.con (.int 1))))) :
    PI X tg (.Call (.Name "range" p) [e, f, g] [] pos) (tIt T W cx (.rng3 ie jf)) := by
  refine IL.PI.of (pi_range3 hg hm (s_cons hs h (s_cons hs2 h2 (s_cons hs3 h3 s_nil))) (by rw [starEach_cons hs, starEach_cons hs2, starEach_cons hs3] <;> rfl) (by rw [starEach_cons hs2, starEach_cons hs3] <;> rfl)) fun σ H R ⟨st, S, M, I, q⟩ => ?_
  simp only [evI] at q
  refine tAs_three I ((Post.pair q).bind.mono fun d st1 H1 S1 M1 I1 x1 q1 v w vv vw => ?_)
  obtain ⟨d, d'⟩ := d
  cases d with
  | int i =>
    cases d' with
    | int j =>
      simp only at q1
      split at q1
      · rename_i hj
        rw [Bool.and_eq_true] at hj
        obtain ⟨h1, h2⟩ := inR_iff hj.1
        obtain ⟨h3, h4⟩ := inR_iff hj.2
        exact ⟨i, j, -1, _, by rw [vv.int I1, vw.int I1], RgC.neg h1 h2 h3 h4, q1 H1 S1 M1 I1 ExtE.refl _ jr_rngU⟩
      · exact q1.elim
    | _ => exact q1.elim
  | _ => exact q1.elim
end IL

set_option Elab.async false
set_option linter.all false
set_option maxRecDepth 100000
set_option maxHeartbeats 4000000
/-! IL8: targets, comprehensions. -/
namespace IL
open PySem L2
variable {T : Sta'} {X : Cx} {W : WX} {cx : ECx}

/-! ### slots forgotten -/
theorem wipe_in {σ : L2.St} {i : Nat} : ∀ {vs : List Nat}, i ∈ vs → ∀ v, (wipe σ vs)[i]? ≠ some (some v)
  | [], h, _ => by simp at h
  | v :: vs, h, w => fun e => by
    obtain ⟨_, h2⟩ := wipe_some e
    exact h2 h
theorem wipeE_len (env : Env') : ∀ vs : List Nat, (wipeE env vs).length = env.length
  | [] => rfl
  | v :: vs => by
    unfold wipeE
    rw [List.length_set, wipeE_len env vs]
theorem wipeE_out {env : Env'} {i : Nat} : ∀ {vs : List Nat}, i ∉ vs → (wipeE env vs)[i]? = env[i]?
  | [], _ => rfl
  | v :: vs, h => by
    have h1 : v ≠ i := fun e => h (by rw [e]; exact List.mem_cons_self)
    have h2 : i ∉ vs := fun m => h (List.mem_cons_of_mem _ m)
    unfold wipeE
    rw [List.getElem?_set_ne h1]
    exact wipeE_out h2
theorem wipeE_some {env : Env'} {i : Nat} {x : B} : ∀ {vs : List Nat}, (wipeE env vs)[i]? = some (some x) → env[i]? = some (some x) ∧ i ∉ vs
  | [], h => ⟨h, by simp⟩
  | v :: vs, h => by
    unfold wipeE at h
    by_cases hi : v = i
    · subst hi
      by_cases hv : v < (wipeE env vs).length
      · rw [List.getElem?_set_self hv] at h; cases h
      · rw [List.getElem?_eq_none (by simpa using hv)] at h; cases h
    · rw [List.getElem?_set_ne hi] at h
      obtain ⟨h1, h2⟩ := wipeE_some h
      exact ⟨h1, by simp only [List.mem_cons, not_or]; exact ⟨fun e => hi e.symm, h2⟩⟩
theorem wipeE_in {env : Env'} {i : Nat} : ∀ {vs : List Nat}, i ∈ vs → i < env.length → (wipeE env vs)[i]? = some none
  | [], h, _ => by simp at h
  | v :: vs, h, hl => by
    unfold wipeE
    by_cases e : v = i
    · subst e
      exact List.getElem?_set_self (by rw [wipeE_len]; exact hl)
    · rw [List.getElem?_set_ne e]
      exact wipeE_in ((List.mem_cons.mp h).resolve_left fun z => e z.symm) hl
theorem wipe_in' {σ : L2.St} {i : Nat} : ∀ {vs : List Nat}, i ∈ vs → i < σ.length → (wipe σ vs)[i]? = some none
  | [], h, _ => by simp at h
  | v :: vs, h, hl => by
    unfold wipe
    by_cases e : v = i
    · subst e
      exact List.getElem?_set_self (by rw [wipe_length]; exact hl)
    · rw [List.getElem?_set_ne e]
      exact wipe_in' ((List.mem_cons.mp h).resolve_left fun z => e z.symm) hl
theorem wipe_ext {σ τ : L2.St} {vs : List Nat} (hl : σ.length = τ.length) (h : ∀ i, i ∉ vs → σ[i]? = τ[i]?) : wipe σ vs = wipe τ vs := by
  refine List.ext_getElem? fun i => ?_
  by_cases hi : i ∈ vs
  · by_cases hlt : i < σ.length
    · rw [wipe_in' hi hlt, wipe_in' hi (by omega)]
    · rw [List.getElem?_eq_none (by rw [wipe_length]; omega), List.getElem?_eq_none (by rw [wipe_length]; omega)]
  · rw [wipe_out hi, wipe_out hi]
    exact h i hi
theorem wipe_wipe {σ : L2.St} {vs us : List Nat} (h : ∀ i ∈ us, i ∈ vs) : wipe (wipe σ us) vs = wipe σ vs :=
  wipe_ext (wipe_length _ _) fun i hi => wipe_out fun z => hi (h i z)
section
variable {st : SS} {σ : L2.St} {H S : Hp} {M : Ms}
theorem RI.wipe (I : RI T.toSta st σ H S M) (vs : List Nat) : RI T.toSta { st with env := wipeE st.env vs } (L2.wipe σ vs) H S M := by
  refine ⟨I.sub, fun i d e => ?_, fun i d e => ?_, fun i j d e a h1 h2 h3 h4 => ?_, I.obj, I.mlen, I.mnd, I.tp, by rw [wipeE_len, wipe_length]; exact I.elen⟩
  · obtain ⟨e1, e2⟩ := wipeE_some e
    rw [wipe_out e2]
    exact I.fro i d e1
  · obtain ⟨e1, e2⟩ := wipeE_some e
    rw [wipe_out e2]
    exact I.own i d e1
  · obtain ⟨e1, n1⟩ := wipeE_some h1
    obtain ⟨e2, n2⟩ := wipeE_some h2
    rw [wipe_out n1] at h3
    rw [wipe_out n2] at h4
    exact I.sep i j d e a e1 e2 h3 h4
theorem own_wipe {env : Env'} {vs : List Nat} {a : Addr} (h : Own (wipeE env vs) (L2.wipe σ vs) a) : Own env σ a := by
  obtain ⟨i, d, e1, e2⟩ := h
  obtain ⟨q1, q2⟩ := wipeE_some e1
  rw [wipe_out q2] at e2
  exact ⟨i, d, q1, e2⟩
theorem Ext.wipe (I : RI T.toSta st σ H S M) (vs : List Nat) : Ext st.env σ H S M (wipeE st.env vs) (L2.wipe σ vs) H S M :=
  ⟨Same.refl S, fun _ h => .inl h, fun _ _ h _ _ => h, fun a h => .inl (own_wipe h), ⟨[], by simp, fun _ h => by simp at h⟩, fun _ h => h⟩

/-! ### targets -/
theorem RI.set (I : RI T.toSta st σ H S M) {i : Nat} {d : D} {v : V} (hi : i < st.env.length) (r : Rep T.toSta M S d v) : RI T.toSta { st with env := st.env.set i (some (.fro d)) } (σ.set i (some v)) H S M := by
  have hiσ : i < σ.length := by rw [← I.elen]; exact hi
  have ow : ∀ (j : Nat) (f : D), (st.env.set i (some (B.fro d)))[j]? = some (some (.own f)) → j ≠ i ∧ st.env[j]? = some (some (.own f)) := fun j f e => by
    by_cases hj : j = i
    · subst hj
      rw [List.getElem?_set_self hi] at e
      cases e
    · rw [List.getElem?_set_ne (Ne.symm hj)] at e
      exact ⟨hj, e⟩
  refine ⟨I.sub, fun j f e => ?_, fun j f e => ?_, fun j k f g a h1 h2 h3 h4 => ?_, I.obj, I.mlen, I.mnd, I.tp, by simp [I.elen]⟩
  · by_cases hj : j = i
    · subst hj
      rw [List.getElem?_set_self hi] at e
      cases e
      exact ⟨v, List.getElem?_set_self hiσ, r⟩
    · rw [List.getElem?_set_ne (Ne.symm hj)] at e ⊢
      exact I.fro j f e
  · obtain ⟨hj, e'⟩ := ow j f e
    rw [List.getElem?_set_ne (Ne.symm hj)]
    exact I.own j f e'
  · obtain ⟨hj, e1⟩ := ow j f h1
    obtain ⟨hk, e2⟩ := ow k g h2
    rw [List.getElem?_set_ne (Ne.symm hj)] at h3
    rw [List.getElem?_set_ne (Ne.symm hk)] at h4
    exact I.sep j k f g a e1 e2 h3 h4
/-- the frame's slots change alone -/
theorem Ext.frame {env' : Env'} {σ' : L2.St} (h : ∀ a, Own env' σ' a → Own st.env σ a) : Ext st.env σ H S M env' σ' H S M :=
  ⟨Same.refl S, fun _ h => .inl h, fun _ _ h _ _ => h, fun a z => .inl (h a z), ⟨[], by simp, fun _ h => by simp at h⟩, fun _ h => h⟩
theorem own_set {env : Env'} {i : Nat} {d : D} {v : V} {a : Addr} (hi : i < env.length) (h : Own (env.set i (some (.fro d))) (σ.set i (some v)) a) : Own env σ a := by
  obtain ⟨j, f, e1, e2⟩ := h
  by_cases hj : j = i
  · subst hj
    rw [List.getElem?_set_self hi] at e1
    cases e1
  · rw [List.getElem?_set_ne (Ne.symm hj)] at e1 e2
    exact ⟨j, f, e1, e2⟩
end
mutual
def tgIn : Tg → List Nat → Bool
  | .nm i, vs => decide (i ∈ vs)
  | .tu ts, vs => tgsIn ts vs
def tgsIn : Tgs → List Nat → Bool
  | .nil, _ => true
  | .cons t ts, vs => tgIn t vs && tgsIn ts vs
end
/-- a target's reading -/
def tTg (T : Sta') (t : Tg) : TG := fun v σ H Q => ∃ st S M d env', RI T.toSta st σ H S M ∧ Rep T.toSta M S d v ∧ asgT t d st.env = some env' ∧
  ∀ σ', RI T.toSta { st with env := env' } σ' H S M → Ext st.env σ H S M env' σ' H S M → (∀ vs, tgIn t vs = true → (∀ i : Nat, i ∉ vs → σ'[i]? = σ[i]? ∧ env'[i]? = st.env[i]?)) → Q σ' H
def tTgs (T : Sta') (ts : Tgs) : TGs := fun us σ H Q => ∃ st S M ds env', RI T.toSta st σ H S M ∧ Reps T.toSta M S ds us ∧ asgTs ts ds st.env = some env' ∧
  ∀ σ', RI T.toSta { st with env := env' } σ' H S M → Ext st.env σ H S M env' σ' H S M → (∀ vs, tgsIn ts vs = true → (∀ i : Nat, i ∉ vs → σ'[i]? = σ[i]? ∧ env'[i]? = st.env[i]?)) → Q σ' H
theorem PG.of {e : Expr} {t t' : TG} (h : PG X e t) (k : ∀ v σ H Q, t' v σ H Q → t v σ H Q) : PG X e t' := ⟨fun pins s σ H v u Q I r q => h.run pins s σ H v u Q I r (k v σ H Q q)⟩
theorem PGs.of {e : List Expr} {t t' : TGs} (h : PGs X e t) (k : ∀ v σ H Q, t' v σ H Q → t v σ H Q) : PGs X e t' := ⟨fun pins s σ H v u Q I r q => h.run pins s σ H v u Q I r (k v σ H Q q)⟩
theorem PG.or {e : Expr} {t t' : TG} (h : PG X e t) (h' : PG X e t') : PG X e (fun v σ H Q => t v σ H Q ∨ t' v σ H Q) := ⟨fun pins s σ H v u Q I r q => by
  rcases q with q | q
  · exact h.run pins s σ H v u Q I r q
  · exact h'.run pins s σ H v u Q I r q⟩
theorem g_nm {i : Nat} {x : Str} {pos : Pos} (hN : X.N.Nodup) (hi : X.N[i]? = some x) (hx : Loc X.env.scope x) (hf : X.fn x = true ∨ X.env.scope.names.lookup x = some .local) : PG X (.Name x pos) (tTg T (.nm i)) := by
  refine IL.PG.of (pg_name hN hi hx hf) fun v σ H Q ⟨st, S, M, d, env', I, r, e, k⟩ => ?_
  simp only [asgT] at e
  split at e
  · rename_i hl
    cases e
    refine k _ (I.set hl r) (Ext.frame fun a => own_set hl) fun vs h j hj => ?_
    have : j ≠ i := fun z => hj (by rw [z]; simpa [tgIn] using h)
    exact ⟨List.getElem?_set_ne (Ne.symm this), List.getElem?_set_ne (Ne.symm this)⟩
  · cases e
theorem gs_nil : PGs X [] (tTgs T .nil) := by
  refine IL.PGs.of pgs_nil fun us σ H Q ⟨st, S, M, ds, env', I, r, e, k⟩ => ?_
  cases r with
  | nil =>
    simp only [asgTs] at e
    cases e
    exact ⟨rfl, k σ I Ext.refl fun _ _ _ _ => ⟨rfl, rfl⟩⟩
  | cons _ _ => simp [asgTs] at e
theorem gs_cons {e : Expr} {es : List Expr} {t : Tg} {ts : Tgs} (h1 : PG X e (tTg T t)) (h2 : PGs X es (tTgs T ts)) (hs : (assignEach (e :: es) X.env).map (·.2) = assign e X.env :: (assignEach es X.env).map (·.2)) : PGs X (e :: es) (tTgs T (.cons t ts)) := by
  refine IL.PGs.of (pgs_cons h1 h2 hs) fun us σ H Q ⟨st, S, M, ds, env', I, r, e, k⟩ => ?_
  cases r with
  | nil => simp [asgTs] at e
  | cons h r =>
    simp only [asgTs] at e
    split at e
    · rename_i env1 e1
      refine ⟨_, _, rfl, st, S, M, _, env1, I, h, e1, fun σ1 I1 x1 k1 => ⟨{ st with env := env1 }, S, M, _, env', I1, r, e, fun σ2 I2 x2 k2 => ?_⟩⟩
      refine k σ2 I2 (x1.trans x2) fun vs hv j hj => ?_
      simp only [tgsIn, Bool.and_eq_true] at hv
      obtain ⟨a1, a2⟩ := k1 vs hv.1 j hj
      obtain ⟨b1, b2⟩ := k2 vs hv.2 j hj
      exact ⟨b1.trans a1, b2.trans a2⟩
    · cases e
theorem asgTs_len : ∀ {ts : Tgs} {ds : List D} {env env' : Env'} {es : List Expr}, asgTs ts ds env = some env' → PGs X es (tTgs T ts) → True := fun _ _ => trivial
def tgsLen : Tgs → Nat
  | .nil => 0
  | .cons _ ts => tgsLen ts + 1
theorem asgTs_length : ∀ (ts : Tgs) (ds : List D) (env env' : Env'), asgTs ts ds env = some env' → ds.length = tgsLen ts
  | .nil, [], _, _, _ => rfl
  | .nil, _ :: _, _, _, h => by simp [asgTs] at h
  | .cons _ _, [], _, _, h => by simp [asgTs] at h
  | .cons t ts, d :: ds, env, env', h => by
    simp only [asgTs] at h
    split at h
    · simp [tgsLen, asgTs_length ts ds _ _ h]
    · cases h
theorem g_tu {es : List Expr} {k : Nat} {pos : Pos} {ts : Tgs} (hK : X.K = T.K) (hc : X.calm = true) (h : PGs X es (tTgs T ts)) (hn : (assignEach es X.env).length = tgsLen ts) (hst : (assignEach es X.env).findIdx? (·.1) = none) : PG X (.Tuple es k pos) (tTg T (.tu ts)) := by
  have r := IL.PG.or (pg_tup (X := X) (k := k) (pos := pos) hc h hn hst) (pg_unl (k := k) (pos := pos) hc h hn hst)
  rw [hK] at r
  refine IL.PG.of r fun v σ H Q ⟨st, S, M, d, env', I, rp, e, kk⟩ => ?_
  cases d with
  | tup ds =>
    cases rp with
    | tup h2 r2 =>
      simp only [asgT] at e
      exact .inl ⟨_, _, rfl, .of (I.sub _ _ h2), by rw [← r2.length]; exact asgTs_length _ _ _ _ e, st, S, M, ds, env', I, r2, e, fun σ' I' x' k' => kk σ' I' x' fun vs hv => k' vs (by simpa [tgIn] using hv)⟩
  | lst ds =>
    cases rp with
    | lst h2 r2 =>
      simp only [asgT] at e
      exact .inr ⟨_, _, rfl, .of (I.sub _ _ h2), by rw [← r2.length]; exact asgTs_length _ _ _ _ e, st, S, M, ds, env', I, r2, e, fun σ' I' x' k' => kk σ' I' x' fun vs hv => k' vs (by simpa [tgIn] using hv)⟩
  | _ => simp [asgT] at e
end IL

set_option Elab.async false
set_option linter.all false
set_option maxRecDepth 100000
set_option maxHeartbeats 4000000
/-! IL9: comprehensions. -/
namespace IL
open PySem L2
variable {T : Sta'} {X : Cx} {W W' : WX} {cx : ECx}

theorem Post.noexc {α β : Type} {r : R α} {g : α → SS → R β} {σ : L2.St} {env : Env'} {H S : Hp} {M : Ms} {P : β → SS → Hp → Hp → Ms → Prop} (q : Post T W σ env H S M ((noexc r).bind g) P) :
    ∃ a st', r = .ok a st' ∧ Post T W σ env H S M (g a st') P := by
  cases r with
  | ok a st' => exact ⟨a, st', rfl, q⟩
  | exc x st' => exact False.elim q
  | stuck => exact False.elim q
theorem R.bind_ok {α β : Type} {r : R α} {g : α → SS → R β} {b : β} {st' : SS} (h : r.bind g = .ok b st') : ∃ a st1, r = .ok a st1 ∧ g a st1 = .ok b st' := by
  cases r with
  | ok a st1 => exact ⟨a, st1, rfl, h⟩
  | exc x st1 => cases h
  | stuck => cases h
/-- tests, one after another -/
def tIfs (T : Sta') (W : WX) (cx : ECx) (ifs : IEs) : TT := fun σ H Q => ∃ st S M, RI T.toSta st σ H S M ∧ Post T W σ st.env H S M (evT cx ifs st) fun b st' H' S' M' => Q b H'
theorem PTs.of {ifs : List Expr} {t t' : TT} (h : PTs X ifs t) (k : ∀ σ H Q, t' σ H Q → t σ H Q) : PTs X ifs t' := ⟨fun pins s σ H Q I q => h.run pins s σ H Q I (k σ H Q q)⟩
theorem ts_nil : PTs X [] (tIfs T W cx .nil) := IL.PTs.of pts_nil fun σ H Q ⟨st, S, M, I, q⟩ => q H S M I ExtE.refl
theorem ts_one {c : Expr} {ic : IE} (h : PT X c (tTs T W cx ic)) : PTs X [c] (tIfs T W cx (.cons ic .nil)) := by
  refine IL.PTs.of (pts_one h) fun σ H Q ⟨st, S, M, I, q⟩ => ⟨st, S, M, I, ?_⟩
  simp only [evT] at q
  refine q.bind.mono fun d st1 H1 S1 M1 I1 x1 q1 => ?_
  cases d with
  | bl c' => cases c' with
    | true => exact ⟨_, rfl, q1 H1 S1 M1 I1 ExtE.refl⟩
    | false => exact ⟨_, rfl, q1 H1 S1 M1 I1 ExtE.refl⟩
  | _ => exact q1.elim
/-- the new list of a comprehension, at the address L -/
structure New (T : Sta') (env : Env') (σ : L2.St) (H S : Hp) (M : Ms) (L : Addr) (vs : List V) : Prop where
  at_ : H L = some (.lst vs)
  noS : S L = none
  noM : L ∉ M
  noO : ¬ Own env σ L
theorem New.ext {env env' : Env'} {σ σ' : L2.St} {H S H' S' : Hp} {M M' : Ms} {L : Addr} {vs : List V} (n : New T env σ H S M L vs) (x : Ext env σ H S M env' σ' H' S' M') : New T env' σ' H' S' M' L vs := by
  refine ⟨x.fr L _ n.at_ n.noM n.noO, ?_, fun z => ?_, fun z => ?_⟩
  · cases e : S' L with
    | none => rfl
    | some o =>
      rcases x.sn L (by rw [e]; exact fun z => nomatch z) with h | h | h
      · exact absurd n.noS h
      · rw [n.at_] at h
        cases h
      · exact absurd h n.noO
  · obtain ⟨t, e, ht⟩ := x.mm
    rw [e] at z
    rcases List.mem_append.mp z with z | z
    · exact n.noM z
    · have := ht L z
      rw [n.at_] at this
      cases this
  · rcases x.ow L z with z | z
    · exact n.noO z
    · rw [n.at_] at z
      cases z
section
variable {st : SS} {σ : L2.St} {H S : Hp} {M : Ms}
theorem RI.new (I : RI T.toSta st σ H S M) {L : Addr} (h : H L = none) : New T st.env σ (upd H L (.lst [])) S M L [] := by
  refine ⟨upd_same, I.noS h, I.noM h, fun z => ?_⟩
  obtain ⟨⟨o, z', _⟩, _⟩ := I.ownH z
  rw [h] at z'
  cases z'
/-- an item put at the end of the new list -/
theorem RI.newSet (I : RI T.toSta st σ H S M) {L : Addr} {vs us : List V} (n : New T st.env σ H S M L vs) : RI T.toSta st σ (upd H L (.lst us)) S M := by
  refine ⟨fun b u e => ?_, I.fro, fun i d e => ?_, I.sep, fun n' ao e => ?_, I.mlen, I.mnd, fun b xs e => (by
    by_cases hb : b = L
    · rw [hb, upd_same] at e
      cases e
    · rw [upd_ne hb] at e
      exact I.tp b xs e), I.elen⟩
  · rw [upd_ne fun z => by rw [z, n.noS] at e; cases e]
    exact I.sub b u e
  · obtain ⟨a, u, h1, h2, h3, h4, h5⟩ := I.own i d e
    refine ⟨a, u, h1, ?_, h3, h4, h5⟩
    rw [upd_ne fun z => n.noO ⟨i, d, e, by rw [← z]; exact h1⟩]
    exact h2
  · obtain ⟨a, u, h1, h2, h3, h4⟩ := I.obj n' ao e
    refine ⟨a, u, h1, ?_, h3, h4⟩
    rw [upd_ne fun z => n.noM (by rw [← z]; exact List.mem_of_getElem? h1)]
    exact h2
theorem New.set {env : Env'} {L : Addr} {vs us : List V} (n : New T env σ H S M L vs) : New T env σ (upd H L (.lst us)) S M L us := ⟨upd_same, n.noS, n.noM, n.noO⟩
/-- seen from where the list was nothing -/
theorem ExtE.newSet {env : Env'} {H0 S0 : Hp} {M0 : Ms} {env0 : Env'} {L : Addr} {us : List V} (x : ExtE env0 σ H0 S0 M0 env H S M) (h0 : H0 L = none) : ExtE env0 σ H0 S0 M0 env (upd H L (.lst us)) S M := by
  refine ⟨⟨x.x.ss, x.x.sn, fun a o h hm ho => ?_, x.x.ow, x.x.mm, fun a h => ?_⟩, fun a o h hm ho => ?_, x.le⟩
  · rw [upd_ne (ne_of_none h h0)]
    exact x.x.fr a o h hm ho
  · by_cases ha : a = L
    · rw [ha, upd_same]
      exact fun z => nomatch z
    · rw [upd_ne ha]
      exact x.x.kp a h
  · rw [upd_ne (ne_of_none h h0)]
    exact x.fr a o h hm ho
end
/-- one turn, its names forgotten again -/
theorem turn_back {env : Env'} {σ : L2.St} {H S H1 S1 : Hp} {M M1 : Ms} {env1 : Env'} {σ1 : L2.St} {env2 : Env'} {H2 S2 : Hp} {M2 : Ms} {vs : List Nat} (hw : ∀ i ∈ vs, ∀ x, env[i]? ≠ some (some x)) (hl : env.length = env1.length)
    (hσ : L2.wipe σ1 vs = σ) (ht : ∀ i, i ∉ vs → σ1[i]? = σ[i]? ∧ env1[i]? = env[i]?) (a : Ext env σ H S M env1 σ1 H1 S1 M1) (af : ∀ a o, H a = some o → a ∉ M → H1 a = some o) (b : ExtE env1 σ1 H1 S1 M1 env2 H2 S2 M2) (hl2 : env2.length = env1.length) :
    ExtE env σ H S M (wipeE env2 vs) H2 S2 M2 := by
  refine ⟨⟨a.ss.trans b.x.ss, (a.trans b.x).sn, (a.trans b.x).fr, fun c h => ?_, (a.trans b.x).mm, (a.trans b.x).kp⟩, fun c o h hm ho => ?_, fun i => ?_⟩
  · rw [← hσ] at h
    exact (a.trans b.x).ow c (own_wipe h)
  · have ho1 : ¬ Own env1 σ1 c ∨ Own env2 σ1 c := ho.imp (fun z y => (a.ow c y).elim z fun y => by rw [y] at h; cases h) fun z => by
      rw [← hσ] at z
      exact own_wipe z
    refine b.fr c o (af c o h hm) (fun z => ?_) ho1
    obtain ⟨t, e, ht'⟩ := a.mm
    rw [e] at z
    rcases List.mem_append.mp z with z | z
    · exact hm z
    · rw [ht' c z] at h
      cases h
  · by_cases hi : i ∈ vs
    · left
      by_cases hlt : i < env.length
      · rw [wipeE_in hi (by omega)]
        have : env[i]? ≠ none := by simp [hlt]
        cases e : env[i]? with
        | none => exact absurd e this
        | some o =>
          cases o with
          | none => rfl
          | some x => exact absurd e (hw i hi x)
      · rw [List.getElem?_eq_none (by rw [wipeE_len]; omega), List.getElem?_eq_none (by omega)]
    · rw [wipeE_out hi, ← (ht i hi).2]
      exact b.le i
theorem backE_len (env env' : Env') : ∀ vs : List Nat, (backE env env' vs).length = env'.length
  | [] => rfl
  | v :: vs => by
    unfold backE
    rw [List.length_set, backE_len env env' vs]
theorem backE_out {env env' : Env'} {i : Nat} : ∀ {vs : List Nat}, i ∉ vs → (backE env env' vs)[i]? = env'[i]?
  | [], _ => rfl
  | v :: vs, h => by
    have h1 : v ≠ i := fun e => h (by rw [e]; exact List.mem_cons_self)
    have h2 : i ∉ vs := fun m => h (List.mem_cons_of_mem _ m)
    unfold backE
    rw [List.getElem?_set_ne h1]
    exact backE_out h2
theorem backE_in {env env' : Env'} {i : Nat} (hl : env.length = env'.length) : ∀ {vs : List Nat}, i ∈ vs → i < env.length → (backE env env' vs)[i]? = env[i]?
  | [], h, _ => by simp at h
  | v :: vs, h, hlt => by
    unfold backE
    by_cases e : v = i
    · subst e
      rw [List.getElem?_set_self (by rw [backE_len]; omega), List.getElem?_eq_getElem hlt]
      rfl
    · rw [List.getElem?_set_ne e]
      exact backE_in hl ((List.mem_cons.mp h).resolve_left fun z => e z.symm) hlt
section
variable {st : SS} {σ : L2.St} {H S : Hp} {M : Ms}
/-- behind the block: its names as they were -/
theorem block_back {st1 : SS} {H1 S1 : Hp} {M1 : Ms} {vs : List Nat} (I : RI T.toSta st σ H S M) (I1 : RI T.toSta st1 (L2.wipe σ vs) H1 S1 M1) (x : ExtE (wipeE st.env vs) (L2.wipe σ vs) H S M st1.env H1 S1 M1) :
    RI T.toSta { st1 with env := backE st.env st1.env vs } σ H1 S1 M1 ∧ ExtE st.env σ H S M (backE st.env st1.env vs) H1 S1 M1 := by
  have hl : st.env.length = st1.env.length := by rw [I.elen, I1.elen, wipe_length]
  have get : ∀ (i : Nat) (y : B), (backE st.env st1.env vs)[i]? = some (some y) → (i ∈ vs ∧ st.env[i]? = some (some y)) ∨ (i ∉ vs ∧ st1.env[i]? = some (some y)) := fun i y h => by
    by_cases hi : i ∈ vs
    · by_cases hlt : i < st.env.length
      · rw [backE_in hl hi hlt] at h
        exact .inl ⟨hi, h⟩
      · rw [List.getElem?_eq_none (by rw [backE_len]; omega)] at h
        cases h
    · rw [backE_out hi] at h
      exact .inr ⟨hi, h⟩
  -- an own slot of the block's names: it was not touched
  have keep : ∀ (i : Nat) (d : D) (a : Addr), i ∈ vs → st.env[i]? = some (some (.own d)) → σ[i]? = some (some (.ref a)) → ¬ Own (wipeE st.env vs) (L2.wipe σ vs) a := fun i d a hi h1 h2 ⟨j, e, z1, z2⟩ => by
    obtain ⟨q1, q2⟩ := wipeE_some z1
    rw [wipe_out q2] at z2
    exact q2 (by rw [I.sep j i e d a q1 h1 z2 h2]; exact hi)
  have own' : ∀ (i : Nat) (d : D), i ∈ vs → st.env[i]? = some (some (.own d)) → ∃ a o, σ[i]? = some (some (.ref a)) ∧ H1 a = some o ∧ CellO T.toSta M1 S1 d o ∧ S1 a = none ∧ a ∉ M1 := fun i d hi h => by
    obtain ⟨a, o, e1, e2, e3, e4, e5⟩ := I.own i d h
    have no := keep i d a hi h e1
    refine ⟨a, o, e1, x.fr a o e2 e5 (.inl no), e3.mono x.x.ss x.x.pre, ?_, fun z => ?_⟩
    · cases e : S1 a with
      | none => rfl
      | some u =>
        rcases x.x.sn a (by rw [e]; exact fun z => nomatch z) with z | z | z
        · exact absurd e4 z
        · rw [e2] at z
          cases z
        · exact absurd z no
    · obtain ⟨t, et, ht⟩ := x.x.mm
      rw [et] at z
      rcases List.mem_append.mp z with z | z
      · exact e5 z
      · rw [ht a z] at e2
        cases e2
  have frb : ∀ a, (¬ Own st.env σ a ∨ Own (backE st.env st1.env vs) σ a) → (¬ Own (wipeE st.env vs) (L2.wipe σ vs) a ∨ Own st1.env (L2.wipe σ vs) a) := fun a ho => by
    rcases ho with ho | ⟨i, d, h1, h2⟩
    · exact .inl fun z => ho (own_wipe z)
    · rcases get i _ h1 with ⟨hi, h1⟩ | ⟨hi, h1⟩
      · exact .inl (keep i d a hi h1 h2)
      · exact .inr ⟨i, d, h1, by rw [wipe_out hi]; exact h2⟩
  refine ⟨⟨I1.sub, fun i d h => ?_, fun i d h => ?_, fun i j d e a h1 h2 h3 h4 => ?_, I1.obj, I1.mlen, I1.mnd, I1.tp, by show (backE st.env st1.env vs).length = _; rw [backE_len, ← hl]; exact I.elen⟩, ⟨⟨x.x.ss, fun a h => ?_, fun a o h hm ho => x.fr a o h hm (.inl fun z => ho (own_wipe z)), fun a h => ?_, x.x.mm, x.x.kp⟩, fun a o h hm ho => x.fr a o h hm (frb a ho), fun i => ?_⟩⟩
  · rcases get i _ h with ⟨hi, h⟩ | ⟨hi, h⟩
    · obtain ⟨v, h1, h2⟩ := I.fro i d h
      exact ⟨v, h1, h2.mono x.x.ss x.x.pre⟩
    · obtain ⟨v, h1, h2⟩ := I1.fro i d h
      rw [wipe_out hi] at h1
      exact ⟨v, h1, h2⟩
  · rcases get i _ h with ⟨hi, h⟩ | ⟨hi, h⟩
    · exact own' i d hi h
    · obtain ⟨a, o, h1, h2⟩ := I1.own i d h
      rw [wipe_out hi] at h1
      exact ⟨a, o, h1, h2⟩
  · -- no two slots the same
    rcases get i _ h1 with ⟨hi, h1⟩ | ⟨hi, h1⟩ <;> rcases get j _ h2 with ⟨hj, h2⟩ | ⟨hj, h2⟩
    · exact I.sep i j d e a h1 h2 h3 h4
    · rcases x.le j with q | ⟨f, q1, q2⟩
      · rw [wipeE_out hj, h2] at q
        exact I.sep i j d e a h1 q.symm h3 h4
      · rw [h2] at q2
        cases q2
    · rcases x.le i with q | ⟨f, q1, q2⟩
      · rw [wipeE_out hi, h1] at q
        exact I.sep i j d e a q.symm h2 h3 h4
      · rw [h1] at q2
        cases q2
    · exact I1.sep i j d e a h1 h2 (by rw [wipe_out hi]; exact h3) (by rw [wipe_out hj]; exact h4)
  · rcases x.x.sn a h with z | z | z
    · exact .inl z
    · exact .inr (.inl z)
    · exact .inr (.inr (own_wipe z))
  · obtain ⟨i, d, h1, h2⟩ := h
    rcases get i _ h1 with ⟨hi, h1⟩ | ⟨hi, h1⟩
    · exact .inl ⟨i, d, h1, h2⟩
    · rcases x.x.ow a ⟨i, d, h1, by rw [wipe_out hi]; exact h2⟩ with z | z
      · exact .inl (own_wipe z)
      · exact .inr z
  · by_cases hi : i ∈ vs
    · by_cases hlt : i < st.env.length
      · exact .inl (backE_in hl hi hlt)
      · exact .inl (by rw [List.getElem?_eq_none (by rw [backE_len]; omega), List.getElem?_eq_none (by omega)])
    · rw [backE_out hi]
      have := x.le i
      rw [wipeE_out hi] at this
      exact this
end
mutual
theorem asgT_len : ∀ (t : Tg) (d : D) (env env' : Env'), asgT t d env = some env' → env'.length = env.length
  | .nm i, d, env, env', h => by
    simp only [asgT] at h
    split at h
    · cases h
      simp
    · cases h
  | .tu ts, .tup ds, env, env', h => asgTs_len' ts ds env env' (by simpa [asgT] using h)
  | .tu ts, .lst ds, env, env', h => asgTs_len' ts ds env env' (by simpa [asgT] using h)
  | .tu ts, .non, env, env', h => by simp [asgT] at h
  | .tu ts, .bl _, env, env', h => by simp [asgT] at h
  | .tu ts, .int _, env, env', h => by simp [asgT] at h
  | .tu ts, .str _, env, env', h => by simp [asgT] at h
  | .tu ts, .fl _, env, env', h => by simp [asgT] at h
  | .tu ts, .kt _, env, env', h => by simp [asgT] at h
  | .tu ts, .dK _ _, env, env', h => by simp [asgT] at h
  | .tu ts, .dT _ _, env, env', h => by simp [asgT] at h
  | .tu ts, .ins _ _, env, env', h => by simp [asgT] at h
  | .tu ts, .ref _, env, env', h => by simp [asgT] at h
theorem asgTs_len' : ∀ (ts : Tgs) (ds : List D) (env env' : Env'), asgTs ts ds env = some env' → env'.length = env.length
  | .nil, [], env, env', h => by
    simp only [asgTs] at h
    cases h
    rfl
  | .nil, _ :: _, env, env', h => by simp [asgTs] at h
  | .cons t ts, [], env, env', h => by simp [asgTs] at h
  | .cons t ts, d :: ds, env, env', h => by
    simp only [asgTs] at h
    split at h
    · rename_i env1 e1
      rw [asgTs_len' ts ds _ _ h, asgT_len t d _ _ e1]
    · cases h
end
/-- what stands as a loop turns -/
structure LoopI (T : Sta') (σ : L2.St) (st0 : SS) (H0 S0 : Hp) (M0 : Ms) (L : Addr) (vs : List Nat) (H : Hp) (st : SS) (S : Hp) (M : Ms) (acc : List D) : Prop where
  ri : RI T.toSta st σ H S M
  ext : ExtE st0.env σ H0 S0 M0 st.env H S M
  nw : ∃ us, New T st.env σ H S M L us ∧ Reps T.toSta M S acc us
  nl : H0 L = none
  wd : ∀ i ∈ vs, ∀ x, st.env[i]? ≠ some (some x)
abbrev CF (cx : ECx) (vs : List Nat) (t : Tg) (ifs : IEs) (elt : IE) : D → SS → R (Option D) := fun x st => match asgT t x st.env with
      | some env => (evT cx ifs { st with env := env }).bind fun c st => match c with
        | true => (ev cx false elt st).bind fun d st => .ok (some d) { st with env := wipeE st.env vs }
        | false => .ok none { st with env := wipeE st.env vs }
      | none => .stuck
theorem wiped_none {env : Env'} {vs : List Nat} : ∀ i ∈ vs, ∀ x, (wipeE env vs)[i]? ≠ some (some x) := fun i hi x e => (wipeE_some e).2 hi
theorem elenE {env : Env'} {st st1 : SS} {σ : L2.St} {H S H1 S1 : Hp} {M M1 : Ms} (I : RI T.toSta st σ H S M) (I1 : RI T.toSta st1 σ H1 S1 M1) : st1.env.length = st.env.length := by rw [I.elen, I1.elen]
/-- [elt for tg in iter if ..]: its reading -/
theorem comp_imp {vs : List Nat} {t : Tg} {it : II} {iis : IEs} {ie : IE} (htg : tgIn t vs = true) {σ : L2.St} {H0 : Hp} {Q : VK} (q : tF T W cx (.comp vs t it iis ie) σ H0 Q) : tLc (tIt T W cx it) (tTg T t) (tIfs T W' cx iis) (tI T W' cx false ie) vs σ H0 Q := by
  obtain ⟨st0, S0, M0, I0, q0⟩ := q
  simp only [ev] at q0
  refine ⟨st0, S0, M0, I0, q0.bind.mono fun xs st1 H1 S1 M1 I1 x1 q1 J hJ L hL => ?_⟩
  obtain ⟨ds, stE, er, q2⟩ := q1.noexc
  have Iw := I1.wipe vs
  refine ⟨fun i m H => m = xs.length - i ∧ i ≤ xs.length ∧ ∃ st S M acc, LoopI T (L2.wipe σ vs) { st1 with env := wipeE st1.env vs } H1 S1 M1 L vs H st S M acc ∧ compLoop (CF cx vs t iis ie) (xs.drop i) acc st = .ok ds stE, ⟨xs.length, rfl, Nat.zero_le _, { st1 with env := wipeE st1.env vs }, S1, M1, [], ?_, er⟩, ?_⟩
  · exact ⟨Iw.fresh hL, ExtE.fresh Iw hL, ⟨[], Iw.new hL, .nil⟩, hL, wiped_none⟩
  rintro i m H ⟨hm, hi', st, S, M, acc, LI, el⟩
  rcases Nat.lt_or_ge i xs.length with hlt | hge
  case inr =>
    have hd : xs.drop i = [] := List.drop_eq_nil_of_le hge
    rw [hd] at el
    simp only [compLoop] at el
    cases el
    obtain ⟨us, nw, rp⟩ := LI.nw
    refine .inl ⟨(hJ _ _ H S M LI.ri LI.ext.x.ss LI.ext.x.pre i).2 (by omega), ?_⟩
    obtain ⟨I2, x2⟩ := block_back I1 LI.ri LI.ext
    exact q2 H S M I2 x2 (.ref L) (.inl ⟨rfl, L, _, rfl, x1.x.none_of hL, nw.at_, nw.noS, nw.noM, .lst rp⟩)
  right
  obtain ⟨x, xs', exs, edr⟩ : ∃ x xs', xs[i]? = some x ∧ xs.drop i = x :: xs' := by
    refine ⟨xs[i], xs.drop (i + 1), by simp [hlt], ?_⟩
    rw [List.drop_eq_getElem_cons hlt]
  have edr' : xs.drop (i + 1) = xs' := by
    rw [← List.drop_drop, edr]
    rfl
  rw [edr] at el
  simp only [compLoop] at el
  obtain ⟨o, stB, eB, eC⟩ := R.bind_ok el
  obtain ⟨hgo, hyl⟩ := (hJ st _ H S M LI.ri LI.ext.x.ss LI.ext.x.pre i).1 x exs
  refine ⟨hgo, fun H' => (∃ st S M acc, LoopI T (L2.wipe σ vs) { st1 with env := wipeE st1.env vs } H1 S1 M1 L vs H' st S M acc ∧ compLoop (CF cx vs t iis ie) xs' acc st = .ok ds stE), fun H' ⟨st, S, M, acc, a, b⟩ => ⟨xs.length - (i + 1), by omega, rfl, hlt, st, S, M, acc, a, by rw [edr']; exact b⟩, fun v H' hv => ?_⟩
  obtain ⟨S', I', x', rv⟩ := hyl v H' hv
  simp only [CF] at eB
  obtain ⟨env, eA⟩ : ∃ env, asgT t x st.env = some env := by
    cases eA : asgT t x st.env with
    | none =>
      rw [eA] at eB
      cases eB
    | some env => exact ⟨env, rfl⟩
  rw [eA] at eB
  simp only at eB
  obtain ⟨c, stT, eT, eD⟩ := R.bind_ok eB
  refine ⟨st, S', M, x, env, I', rv, eA, fun σ2 I2 xt kt => ?_⟩
  have kt' := kt vs htg
  have hl2 : env.length = st.env.length := asgT_len _ _ _ _ eA
  have hσ2 : σ2.length = (L2.wipe σ vs).length := by rw [← I'.elen, ← I2.elen]; exact hl2
  have eσ : L2.wipe σ2 vs = L2.wipe σ vs := by
    have := wipe_ext (vs := vs) hσ2 fun j hj => (kt' j hj).1
    rw [this]
    exact wipe_wipe fun _ h => h
  have I2' : RI T.toSta { st with env := env } σ2 H' S' M := I2
  refine ⟨eσ, ⟨{ st with env := env }, S', M, I2', ?_⟩⟩
  rw [eT]
  intro H3 S3 M3 I3 x3
  have xa : Ext st.env (L2.wipe σ vs) H S M env σ2 H' S' M := x'.x.trans xt
  cases c with
  | false =>
    simp only [R.ok.injEq] at eD
    obtain ⟨e1, e2⟩ := eD
    subst e1 e2
    simp only [Bool.false_eq_true, if_false]
    have xx := turn_back LI.wd hl2.symm eσ kt' xa (fun a o h hm => x'.fr a o h hm (Classical.em _).symm) x3 (elenE (env := env) I2' I3)
    obtain ⟨us, nw, rp⟩ := LI.nw
    refine ⟨_, S3, M3, acc, ⟨by rw [← eσ]; exact I3.wipe _, LI.ext.trans xx, ⟨us, nw.ext xx.x, rp.mono xx.x.ss xx.x.pre⟩, LI.nl, wiped_none⟩, eC⟩
  | true =>
    simp only at eD
    obtain ⟨d, stV, eV, eF⟩ := R.bind_ok eD
    simp only [R.ok.injEq] at eF
    obtain ⟨e1, e2⟩ := eF
    subst e1 e2
    simp only [if_true]
    refine ⟨stT, S3, M3, I3, ?_⟩
    rw [eV]
    intro H4 S4 M4 I4 x4 y vy
    have xx := turn_back LI.wd hl2.symm eσ kt' xa (fun a o h hm => x'.fr a o h hm (Classical.em _).symm) (x3.trans x4) (elenE (env := env) I2' I4)
    obtain ⟨us, nw, rp⟩ := LI.nw
    have nw4 := nw.ext xx.x
    have I4w : RI T.toSta { stV with env := wipeE stV.env vs } (L2.wipe σ vs) H4 S4 M4 := by rw [← eσ]; exact I4.wipe _
    simp only at eC
    split at eC
    · rename_i hz
      refine ⟨us, nw4.at_, by rw [← rp.length]; exact hz, _, S4, M4, _, ⟨I4w.newSet nw4, (LI.ext.trans xx).newSet LI.nl, ⟨us ++ [y], nw4.set, (rp.mono xx.x.ss xx.x.pre).append (.cons vy.rep .nil)⟩, LI.nl, wiped_none⟩, eC⟩
    · cases eC
/-- [elt for tg in iter if ..] -/
theorem s_compF {elt tg iter : Expr} {ifs : List Expr} {scope : Scope} {own : List (Str × Nat)} {pos : Pos} {t : Tg} {it : II} {iis : IEs} {ie : IE} (hc : X.calm = true) (hN : X.N.Nodup) (hi : PI X tg iter (tIt T W cx it)) (ok : BlkOk X.N X.env.scope scope own)
    (htg : tgIn t (own.map (·.2)) = true)
    (hg : ∀ (s : Shared) (H : Hp) (C : Addr) (cl : List (Str × Addr)) (fp : List Addr), PG (X.blk s H scope (compEnvC scope cl C X.env) fp) tg (tTg T t)) (ht : ∀ (s : Shared) (H : Hp) (C : Addr) (cl : List (Str × Addr)) (fp : List Addr), PTs (X.blk s H scope (compEnvC scope cl C X.env) fp) ifs (tIfs T W' cx iis))
    (he : ∀ (s : Shared) (H : Hp) (C : Addr) (cl : List (Str × Addr)) (fp : List Addr), PE (X.blk s H scope (compEnvC scope cl C X.env) fp) elt (tI T W' cx false ie)) (hs : ∀ x, foldedSetIterable iter X.env x = pure x) :
    PE X (.ListComp elt [⟨tg, iter, ifs, 0⟩] scope pos) (tF T W cx (.comp (own.map (·.2)) t it iis ie)) :=
  IL.PE.of (pe_lc hc hN hi ok hg ht he hs) fun σ H0 Q q => comp_imp htg q
end IL

set_option Elab.async false
set_option linter.all false
set_option maxRecDepth 100000
set_option maxHeartbeats 4000000
/-! IL10: comprehensions of two clauses. -/
namespace IL
open PySem L2
variable {T : Sta'} {X : Cx} {W W' : WX} {cx : ECx}
structure XF (vs : List Nat) (env : Env') (σ : L2.St) (H S : Hp) (M : Ms) (env' : Env') (σ' : L2.St) (H' S' : Hp) (M' : Ms) : Prop where
  x : Ext env σ H S M env' σ' H' S' M'
  fr : ∀ a o, H a = some o → a ∉ M → (¬ Own env σ a ∨ Own env' σ' a) → H' a = some o
  le : ∀ i : Nat, i ∉ vs → env'[i]? = env[i]? ∨ ∃ d : D, env[i]? = some (some (.own d)) ∧ env'[i]? = some (some (.fro (giveD d)))
section
variable {vs : List Nat} {env : Env'} {σ : L2.St} {H S : Hp} {M : Ms} {env1 : Env'} {σ1 : L2.St} {H1 S1 : Hp} {M1 : Ms} {env2 : Env'} {σ2 : L2.St} {H2 S2 : Hp} {M2 : Ms}
theorem XF.ofE (x : ExtE env σ H S M env1 H1 S1 M1) : XF vs env σ H S M env1 σ H1 S1 M1 := ⟨x.x, x.fr, fun i _ => x.le i⟩
theorem XF.e (a : XF vs env σ H S M env1 σ1 H1 S1 M1) (b : ExtE env1 σ1 H1 S1 M1 env2 H2 S2 M2) : XF vs env σ H S M env2 σ1 H2 S2 M2 := by
  refine ⟨a.x.trans b.x, fun c o h hm ho => ?_, fun i hi => ?_⟩
  · have ho1 : ¬ Own env σ c ∨ Own env1 σ1 c := ho.imp id fun z => (b.x.ow c z).elim id fun z => absurd z (a.x.kp c (by rw [h]; exact fun z => nomatch z))
    have ho2 : ¬ Own env1 σ1 c ∨ Own env2 σ1 c := ho.imp (fun z y => (a.x.ow c y).elim z fun y => by rw [y] at h; cases h) id
    refine b.fr c o (a.fr c o h hm ho1) (fun z => ?_) ho2
    obtain ⟨t, e, ht⟩ := a.x.mm
    rw [e] at z
    rcases List.mem_append.mp z with z | z
    · exact hm z
    · rw [ht c z] at h
      cases h
  · rcases b.le i with h | ⟨d, h1, h2⟩
    · rcases a.le i hi with h' | ⟨d, h1, h2⟩
      · exact .inl (h.trans h')
      · exact .inr ⟨d, h1, h.trans h2⟩
    · rcases a.le i hi with h' | ⟨d', h1', h2'⟩
      · exact .inr ⟨d, h'.symm.trans h1, h2⟩
      · rw [h1] at h2'
        cases h2'
theorem XF.t (a : XF vs env σ H S M env1 σ1 H1 S1 M1) (b : Ext env1 σ1 H1 S1 M1 env2 σ2 H1 S1 M1) (le : ∀ i, i ∉ vs → env2[i]? = env1[i]?) : XF vs env σ H S M env2 σ2 H1 S1 M1 := by
  refine ⟨a.x.trans b, fun c o h hm ho => a.fr c o h hm (ho.imp id fun z => (b.ow c z).elim id fun z => absurd z (a.x.kp c (by rw [h]; exact fun z => nomatch z))), fun i hi => ?_⟩
  rw [le i hi]
  exact a.le i hi
theorem XF.newSet {L : Addr} {us : List V} (a : XF vs env σ H S M env1 σ1 H1 S1 M1) (h0 : H L = none) : XF vs env σ H S M env1 σ1 (upd H1 L (.lst us)) S1 M1 := by
  refine ⟨⟨a.x.ss, a.x.sn, fun b o h hm ho => ?_, a.x.ow, a.x.mm, fun b h => ?_⟩, fun b o h hm ho => ?_, a.le⟩
  · rw [upd_ne (ne_of_none h h0)]
    exact a.x.fr b o h hm ho
  · by_cases hb : b = L
    · rw [hb, upd_same]
      exact fun z => nomatch z
    · rw [upd_ne hb]
      exact a.x.kp b h
  · rw [upd_ne (ne_of_none h h0)]
    exact a.fr b o h hm ho
theorem XF.close (a : XF vs env σ H S M env1 σ1 H1 S1 M1) (hw : ∀ i ∈ vs, ∀ x, env[i]? ≠ some (some x)) (hl : env1.length = env.length) (hσ : L2.wipe σ1 vs = σ) : ExtE env σ H S M (wipeE env1 vs) H1 S1 M1 := by
  refine ⟨⟨a.x.ss, a.x.sn, a.x.fr, fun c h => ?_, a.x.mm, a.x.kp⟩, fun c o h hm ho => a.fr c o h hm (ho.imp id fun z => by rw [← hσ] at z; exact own_wipe z), fun i => ?_⟩
  · rw [← hσ] at h
    exact a.x.ow c (own_wipe h)
  · by_cases hi : i ∈ vs
    · left
      by_cases hlt : i < env.length
      · rw [wipeE_in hi (by omega)]
        have : env[i]? ≠ none := by simp [hlt]
        cases e : env[i]? with
        | none => exact absurd e this
        | some o =>
          cases o with
          | none => rfl
          | some x => exact absurd e (hw i hi x)
      · rw [List.getElem?_eq_none (by rw [wipeE_len]; omega), List.getElem?_eq_none (by omega)]
    · rw [wipeE_out hi]
      exact a.le i hi
end
abbrev CF2 (cx : ECx) (vs1 : List Nat) (t1 : Tg) (elt : IE) : D → SS → R (Option D) := fun y st => match asgT t1 y st.env with
          | some env => (ev cx false elt { st with env := env }).bind fun d st => .ok (some d) { st with env := wipeE st.env vs1 }
          | none => .stuck
abbrev CG (cx : ECx) (vs vs1 : List Nat) (t : Tg) (t1 : Tg) (it1 : II) (elt : IE) : D → List D → SS → R (List D) := fun x acc st => match asgT t x st.env with
      | some env => (evI cx it1 { st with env := env }).bind fun ys st1 => (compLoop (CF2 cx vs1 t1 elt) ys acc { st1 with env := wipeE st1.env vs1 }).bind fun ds st2 => .ok ds { st2 with env := wipeE st2.env vs }
      | none => .stuck
/-- .. its reading -/
theorem comp2_imp {vs vs1 : List Nat} {t t1 : Tg} {it it1 : II} {ie : IE} (hv : ∀ i ∈ vs1, i ∈ vs) (htg : tgIn t vs = true) (htg1 : tgIn t1 vs1 = true) {σ : L2.St} {H0 : Hp} {Q : VK} (q : tF T W cx (.comp2 vs vs1 t it t1 it1 ie) σ H0 Q) :
    tLc2 (tIt T W cx it) (tTg T t) tYes (tIt T W' cx it1) (tTg T t1) tYes (tI T W' cx false ie) vs vs1 σ H0 Q := by
  obtain ⟨st0, S0, M0, I0, q0⟩ := q
  simp only [ev] at q0
  refine ⟨st0, S0, M0, I0, q0.bind.mono fun xs st1 H1 S1 M1 I1 x1 q1 J hJ L hL => ?_⟩
  obtain ⟨ds, stE, er, q2⟩ := q1.noexc
  have Iw := I1.wipe vs
  refine ⟨fun i m H => m = xs.length - i ∧ i ≤ xs.length ∧ ∃ st S M acc, LoopI T (L2.wipe σ vs) { st1 with env := wipeE st1.env vs } H1 S1 M1 L vs H st S M acc ∧ compLoop2 (CG cx vs vs1 t t1 it1 ie) (xs.drop i) acc st = .ok ds stE, ⟨xs.length, rfl, Nat.zero_le _, { st1 with env := wipeE st1.env vs }, S1, M1, [], ?_, er⟩, ?_⟩
  · exact ⟨Iw.fresh hL, ExtE.fresh Iw hL, ⟨[], Iw.new hL, .nil⟩, hL, wiped_none⟩
  rintro i m H ⟨hm, hi', st, S, M, acc, LI, el⟩
  rcases Nat.lt_or_ge i xs.length with hlt | hge
  case inr =>
    have hd : xs.drop i = [] := List.drop_eq_nil_of_le hge
    rw [hd] at el
    simp only [compLoop2] at el
    cases el
    obtain ⟨us, nw, rp⟩ := LI.nw
    refine .inl ⟨(hJ _ _ H S M LI.ri LI.ext.x.ss LI.ext.x.pre i).2 (by omega), ?_⟩
    obtain ⟨I2, x2⟩ := block_back I1 LI.ri LI.ext
    exact q2 H S M I2 x2 (.ref L) (.inl ⟨rfl, L, _, rfl, x1.x.none_of hL, nw.at_, nw.noS, nw.noM, .lst rp⟩)
  right
  obtain ⟨x, xs', exs, edr⟩ : ∃ x xs', xs[i]? = some x ∧ xs.drop i = x :: xs' := by
    refine ⟨xs[i], xs.drop (i + 1), by simp [hlt], ?_⟩
    rw [List.drop_eq_getElem_cons hlt]
  have edr' : xs.drop (i + 1) = xs' := by
    rw [← List.drop_drop, edr]
    rfl
  rw [edr] at el
  simp only [compLoop2] at el
  obtain ⟨acc', stB, eB, eC⟩ := R.bind_ok el
  obtain ⟨hgo, hyl⟩ := (hJ st _ H S M LI.ri LI.ext.x.ss LI.ext.x.pre i).1 x exs
  refine ⟨hgo, fun H' => (∃ st S M acc, LoopI T (L2.wipe σ vs) { st1 with env := wipeE st1.env vs } H1 S1 M1 L vs H' st S M acc ∧ compLoop2 (CG cx vs vs1 t t1 it1 ie) xs' acc st = .ok ds stE), fun H' ⟨st, S, M, acc, a, b⟩ => ⟨xs.length - (i + 1), by omega, rfl, hlt, st, S, M, acc, a, by rw [edr']; exact b⟩, fun v H' hv' => ?_⟩
  obtain ⟨S', I', x', rv⟩ := hyl v H' hv'
  simp only [CG] at eB
  obtain ⟨env, eA⟩ : ∃ env, asgT t x st.env = some env := by
    cases eA : asgT t x st.env with
    | none =>
      rw [eA] at eB
      cases eB
    | some env => exact ⟨env, rfl⟩
  rw [eA] at eB
  simp only at eB
  obtain ⟨ys, stT, eT, eD⟩ := R.bind_ok eB
  refine ⟨st, S', M, x, env, I', rv, eA, fun σ2 I2 xt kt => ?_⟩
  have kt' := kt vs htg
  have hl2 : env.length = st.env.length := asgT_len _ _ _ _ eA
  have hσ2 : σ2.length = (L2.wipe σ vs).length := by rw [← I'.elen, ← I2.elen]; exact hl2
  have eσ : L2.wipe σ2 vs = L2.wipe σ vs := by
    have := wipe_ext (vs := vs) hσ2 fun j hj => (kt' j hj).1
    rw [this]
    exact wipe_wipe fun _ h => h
  have I2' : RI T.toSta { st with env := env } σ2 H' S' M := I2
  refine ⟨eσ, ?_⟩
  simp only [tYes, if_true]
  refine ⟨{ st with env := env }, S', M, I2', ?_⟩
  rw [eT]
  intro H4 S4 M4 I4 x4 J1 hJ1
  have xfa : XF vs (wipeE st1.env vs) (L2.wipe σ vs) H1 S1 M1 stT.env σ2 H4 S4 M4 :=
    (((XF.ofE LI.ext).e x').t xt fun j hj => (kt' j hj).2).e x4
  obtain ⟨us0, nw0, rp0⟩ := LI.nw
  have nw4 := (nw0.ext (x'.x.trans xt)).ext x4.x
  have rp4 : Reps T.toSta M4 S4 acc us0 := rp0.mono ((x'.x.trans xt).trans x4.x).ss ((x'.x.trans xt).trans x4.x).pre
  obtain ⟨ds2, stF, eF, eG⟩ := R.bind_ok eD
  simp only [R.ok.injEq] at eG
  obtain ⟨eG1, eG2⟩ := eG
  subst eG1
  have I4w := I4.wipe vs1
  have lenA : (wipeE st1.env vs).length = (L2.wipe σ vs).length := Iw.elen
  have w2 : L2.wipe (L2.wipe σ2 vs1) vs = L2.wipe σ vs := by rw [wipe_wipe hv, eσ]
  have outv : ∀ j, j ∉ vs → j ∉ vs1 := fun j hj z => hj (hv j z)
  refine ⟨fun j k H => k = ys.length - j ∧ j ≤ ys.length ∧ ∃ st S M acc us, RI T.toSta st (L2.wipe σ2 vs1) H S M ∧ XF vs (wipeE st1.env vs) (L2.wipe σ vs) H1 S1 M1 st.env (L2.wipe σ2 vs1) H S M ∧ New T st.env (L2.wipe σ2 vs1) H S M L us ∧ Reps T.toSta M S acc us ∧ Same S4 S ∧ Pre M4 M ∧ compLoop (CF2 cx vs1 t1 ie) (ys.drop j) acc st = .ok ds2 stF,
    ⟨ys.length, rfl, Nat.zero_le _, { stT with env := wipeE stT.env vs1 }, S4, M4, acc, us0, I4w, xfa.t (Ext.wipe I4 vs1) fun j hj => wipeE_out (outv j hj), nw4.ext (Ext.wipe I4 vs1), rp4, Same.refl _, Pre.refl _, eF⟩, ?_⟩
  rintro j k Hj ⟨hk, hj', st5, S5, M5, acc5, us5, I5, xf5, nw5, rp5, ss5, pm5, el5⟩
  rcases Nat.lt_or_ge j ys.length with jlt | jge
  case inr =>
    have hd : ys.drop j = [] := List.drop_eq_nil_of_le jge
    rw [hd] at el5
    simp only [compLoop, R.ok.injEq] at el5
    obtain ⟨e1, e2⟩ := el5
    subst e1 e2
    refine .inl ⟨(hJ1 st5 _ Hj S5 M5 I5 ss5 pm5 j).2 (by omega), ?_⟩
    have I6 := I5.wipe vs
    rw [w2] at I6
    have len5 : st5.env.length = (wipeE st1.env vs).length := by
      rw [lenA, I5.elen, wipe_length, hσ2]
    have xx := xf5.close wiped_none len5 w2
    have nw6 := nw5.ext (Ext.wipe I5 vs)
    rw [w2] at nw6
    refine ⟨_, S5, M5, acc5, ⟨I6, xx, ⟨us5, nw6, rp5⟩, LI.nl, wiped_none⟩, ?_⟩
    rw [eG2]
    exact eC
  right
  obtain ⟨y, ys', eys, edy⟩ : ∃ y ys', ys[j]? = some y ∧ ys.drop j = y :: ys' := by
    refine ⟨ys[j], ys.drop (j + 1), by simp [jlt], ?_⟩
    rw [List.drop_eq_getElem_cons jlt]
  have edy' : ys.drop (j + 1) = ys' := by
    rw [← List.drop_drop, edy]
    rfl
  rw [edy] at el5
  simp only [compLoop] at el5
  obtain ⟨o, stG, eH, eK⟩ := R.bind_ok el5
  obtain ⟨hgo1, hyl1⟩ := (hJ1 st5 _ Hj S5 M5 I5 ss5 pm5 j).1 y eys
  refine ⟨hgo1, fun H' => (∃ st S M acc us, RI T.toSta st (L2.wipe σ2 vs1) H' S M ∧ XF vs (wipeE st1.env vs) (L2.wipe σ vs) H1 S1 M1 st.env (L2.wipe σ2 vs1) H' S M ∧ New T st.env (L2.wipe σ2 vs1) H' S M L us ∧ Reps T.toSta M S acc us ∧ Same S4 S ∧ Pre M4 M ∧ compLoop (CF2 cx vs1 t1 ie) ys' acc st = .ok ds2 stF),
    fun H' ⟨st, S, M, acc, us, a, b, c, d, e, f, g⟩ => ⟨ys.length - (j + 1), by omega, rfl, jlt, st, S, M, acc, us, a, b, c, d, e, f, by rw [edy']; exact g⟩, fun v1 H6 hv6 => ?_⟩
  obtain ⟨S6, I6, x6, rv6⟩ := hyl1 v1 H6 hv6
  simp only [CF2] at eH
  obtain ⟨env6, eA6⟩ : ∃ env, asgT t1 y st5.env = some env := by
    cases eA : asgT t1 y st5.env with
    | none =>
      rw [eA] at eH
      cases eH
    | some env => exact ⟨env, rfl⟩
  rw [eA6] at eH
  simp only at eH
  obtain ⟨d, stV, eV, eW⟩ := R.bind_ok eH
  simp only [R.ok.injEq] at eW
  obtain ⟨eW1, eW2⟩ := eW
  subst eW1 eW2
  refine ⟨st5, S6, M5, y, env6, I6, rv6, eA6, fun σ3 I7 xt7 kt7 => ?_⟩
  have kt7' := kt7 vs1 htg1
  have hl7 : env6.length = st5.env.length := asgT_len _ _ _ _ eA6
  have hσ7 : σ3.length = (L2.wipe σ2 vs1).length := by rw [← I6.elen, ← I7.elen]; exact hl7
  have eσ7 : L2.wipe σ3 vs1 = L2.wipe σ2 vs1 := by
    have := wipe_ext (vs := vs1) hσ7 fun j hj => (kt7' j hj).1
    rw [this]
    exact wipe_wipe fun _ h => h
  have I7' : RI T.toSta { st5 with env := env6 } σ3 H6 S6 M5 := I7
  refine ⟨eσ7, ?_⟩
  simp only [tYes, if_true]
  refine ⟨{ st5 with env := env6 }, S6, M5, I7', ?_⟩
  rw [eV]
  intro H8 S8 M8 I8 x8 y8 vy8
  have xf8 := ((xf5.e x6).t xt7 fun j hj => (kt7' j (outv j hj)).2).e x8
  have nw8 := ((nw5.ext (x6.x.trans xt7)).ext x8.x).ext (Ext.wipe I8 vs1)
  have xf9 := xf8.t (Ext.wipe I8 vs1) fun j hj => wipeE_out (outv j hj)
  have I9 := I8.wipe vs1
  rw [eσ7] at I9 xf9 nw8
  have xs8 := ((x6.x.trans xt7).trans x8.x)
  simp only at eK
  split at eK
  · rename_i hz
    refine ⟨us5, nw8.at_, by rw [← rp5.length]; exact hz, _, S8, M8, _, us5 ++ [y8], I9.newSet nw8, xf9.newSet LI.nl, nw8.set, (rp5.mono xs8.ss xs8.pre).append (.cons vy8.rep .nil), ss5.trans xs8.ss, pm5.trans xs8.pre, eK⟩
  · cases eK
theorem s_comp2F {elt tg iter tg1 iter1 : Expr} {scope : Scope} {own : List (Str × Nat)} {vs1 : List Nat} {pos : Pos} {t t1 : Tg} {it it1 : II} {ie : IE} (hc : X.calm = true) (hN : X.N.Nodup) (hi : PI X tg iter (tIt T W cx it)) (ok : BlkOk X.N X.env.scope scope own) (hv : ∀ i ∈ vs1, i ∈ own.map (·.2))
    (htg : tgIn t (own.map (·.2)) = true) (htg1 : tgIn t1 vs1 = true)
    (hg : ∀ (s : Shared) (H : Hp) (C : Addr) (cl : List (Str × Addr)) (fp : List Addr), PG (X.blk s H scope (compEnvC scope cl C X.env) fp) tg (tTg T t))
    (hi1 : ∀ (s : Shared) (H : Hp) (C : Addr) (cl : List (Str × Addr)) (fp : List Addr), PI (X.blk s H scope (compEnvC scope cl C X.env) fp) tg1 iter1 (tIt T W' cx it1))
    (hg1 : ∀ (s : Shared) (H : Hp) (C : Addr) (cl : List (Str × Addr)) (fp : List Addr), PG (X.blk s H scope (compEnvC scope cl C X.env) fp) tg1 (tTg T t1))
    (he : ∀ (s : Shared) (H : Hp) (C : Addr) (cl : List (Str × Addr)) (fp : List Addr), PE (X.blk s H scope (compEnvC scope cl C X.env) fp) elt (tI T W' cx false ie)) (hs : ∀ x, foldedSetIterable iter X.env x = pure x) (hs1 : ∀ env x, foldedSetIterable iter1 env x = pure x) :
    PE X (.ListComp elt [⟨tg, iter, [], 0⟩, ⟨tg1, iter1, [], 0⟩] scope pos) (tF T W cx (.comp2 (own.map (·.2)) vs1 t it t1 it1 ie)) :=
  IL.PE.of (pe_lc2 hc hN hi ok hv hg (fun _ _ _ _ _ => pts_nil) hi1 hg1 (fun _ _ _ _ _ => pts_nil) he hs hs1) fun σ H0 Q q => comp2_imp hv htg htg1 q
end IL

set_option Elab.async false
set_option linter.all false
set_option maxRecDepth 100000
set_option maxHeartbeats 4000000
/-! IL11: calls of defs, new objects. -/
namespace IL
open PySem L2
variable {T : Sta'} {X : Cx} {W W' : WX} {cx : ECx}
section
variable {st : SS} {σ : L2.St} {H S : Hp} {M : Ms}
theorem own_nil {σ : L2.St} {a : Addr} : ¬ Own [] σ a := fun ⟨i, d, h, _⟩ => by simp at h
/-- without the frame -/
theorem RI.bare (I : RI T.toSta st σ H S M) : RI T.toSta ⟨[], st.A⟩ [] H S M :=
  ⟨I.sub, fun i d h => by simp at h, fun i d h => by simp at h, fun i j d e a h => by simp at h, I.obj, I.mlen, I.mnd, I.tp, rfl⟩
/-- behind a call -/
theorem RI.after {A' : List AO} {H' S' : Hp} {M' : Ms} (I : RI T.toSta st σ H S M) (I' : RI T.toSta ⟨[], A'⟩ [] H' S' M') (x : Ext [] [] H S M [] [] H' S' M') : RI T.toSta { st with A := A' } σ H' S' M' ∧ ExtE st.env σ H S M st.env H' S' M' := by
  refine ⟨⟨I'.sub, fun i d h => ?_, fun i d h => ?_, I.sep, I'.obj, I'.mlen, I'.mnd, I'.tp, I.elen⟩, ⟨⟨x.ss, fun a h => ?_, fun a o h hm _ => x.fr a o h hm own_nil, fun a h => .inl h, x.mm, x.kp⟩, fun a o h hm _ => x.fr a o h hm own_nil, fun i => .inl rfl⟩⟩
  · obtain ⟨v, h1, h2⟩ := I.fro i d h
    exact ⟨v, h1, h2.mono x.ss x.pre⟩
  · obtain ⟨a, o, h1, h2, h3, h4, h5⟩ := I.own i d h
    refine ⟨a, o, h1, x.fr a o h2 h5 own_nil, h3.mono x.ss x.pre, ?_, fun z => ?_⟩
    · cases e : S' a with
      | none => rfl
      | some u =>
        rcases x.sn a (by rw [e]; exact fun z => nomatch z) with z | z | z
        · exact absurd h4 z
        · rw [h2] at z
          cases z
        · exact absurd z own_nil
    · obtain ⟨t, e, ht⟩ := x.mm
      rw [e] at z
      rcases List.mem_append.mp z with z | z
      · exact h5 z
      · rw [ht a z] at h2
        cases h2
  · rcases x.sn a h with z | z | z
    · exact .inl z
    · exact .inr (.inl z)
    · exact absurd z own_nil
end
/-- behind a call, as the caller sees it -/
def PostC (T : Sta') (H S : Hp) (M : Ms) (o : Out) (Q : VK) (E : XK) : Prop := match o with
  | .ok d A' => ∀ v H' S' M', RI T.toSta ⟨[], A'⟩ [] H' S' M' → Ext [] [] H S M [] [] H' S' M' → Rep T.toSta M' S' d v → Q v H'
  | .exc x A' => ∀ cls dd H' S' M', RI T.toSta ⟨[], A'⟩ [] H' S' M' → Ext [] [] H S M [] [] H' S' M' → XRel T M' S' x cls dd H' → E cls dd H'
  | .stuck => False
/-- what a def promises -/
def spI (T : Sta') (call : List D → List AO → Out) (n : Nat) : Sp := fun vs H Q E => vs.length = n ∧ ∃ S M A ds, RI T.toSta ⟨[], A⟩ [] H S M ∧ Reps T.toSta M S ds vs ∧ PostC T H S M (call ds A) Q E
/-- a def that X's code can call by its name -/
structure FnI (X : Cx) (T : Sta') (cx : ECx) (x : Str) (i : Nat) (ps : List Str) : Prop where
  ex : ∃ f fd lv, X.mg x = some (.ref f) ∧ PySem.W.keepIn X.K (.ref f) = true ∧ Binds X.K fd ps [] ∧ Room lv X.A ∧ FnOk X.prog X.w X.K X.mg X.base (L2.CX X.prog X.w) lv f fd ps (spI T (cx.call i) ps.length)
  ar : ∀ ds A, cx.call i ds A ≠ .stuck → ds.length = ps.length
section
variable {st : SS} {σ : L2.St} {H S : Hp} {M : Ms}
theorem call_ok {f n : Nat} {vs : List V} {ds : List D} {Q : VK} {P : D → SS → Hp → Hp → Ms → Prop} (I : RI T.toSta st σ H S M) (rp : Reps T.toSta M S ds vs) (hl : cx.call f ds st.A ≠ .stuck → ds.length = n)
    (q : Post T W σ st.env H S M (match cx.call f ds st.A with
    | .ok d A => R.ok d { st with A := A }
    | .exc x A => .exc x { st with A := A }
    | .stuck => .stuck) P) (k : ∀ d st' H' S' M', P d st' H' S' M' → ∀ v, Rep T.toSta M' S' d v → Q v H') : spI T (cx.call f) n vs H Q (WE W σ) := by
  refine ⟨?_, S, M, st.A, ds, I.bare, rp, ?_⟩
  · rw [← rp.length]
    refine hl fun z => ?_
    rw [z] at q
    exact q
  cases e : cx.call f ds st.A with
  | stuck =>
    rw [e] at q
    exact q
  | exc x A =>
    rw [e] at q
    intro cls dd H' S' M' I' x' xr
    obtain ⟨I2, x2⟩ := I.after I' x'
    exact q cls dd H' S' M' I2 x2 xr
  | ok d A =>
    rw [e] at q
    intro v H' S' M' I' x' rv
    obtain ⟨I2, x2⟩ := I.after I' x'
    exact k _ _ _ _ _ (q H' S' M' I2 x2) v rv
end
theorem s_call {e : Expr} {es : List Expr} {x : Str} {i : Nat} {ies : IEs} {b : Bool} {ps : List Str} {p pos : Pos} (tk : Takes X W) (hg : Gl X x) (F : FnI X T cx x i ps) (hdb : (x == ("__debug__" : Str)) = false) (hs : (e :: es).all notStar = true)
    (ha : PA X (e :: es) (tAs T W cx false ies)) : PE X (.Call (.Name x p) (e :: es) [] pos) (tI T W cx b (.call i ies)) := by
  obtain ⟨⟨f, fd, lv, hm, hk, hb, hr, F⟩, ar⟩ := F
  have hs' := hs
  simp only [List.all_cons, Bool.and_eq_true] at hs'
  refine IL.PE.of (pe_callS F hr hg hm hk hb (fun σ => passAt tk σ) ha hdb (starEach_cons hs'.1 es X.env) (plain_args es pos X.env hs'.2)) fun σ H Q ⟨st, S, M, I, q⟩ => ?_
  simp only [ev] at q
  exact ⟨st, S, M, I, q.bind.mono fun ds st1 H1 S1 M1 I1 x1 q1 vs vvs => call_ok I1 vvs.reps (ar ds st1.A) q1 fun d st' H' S' M' hP v rv => hP v (.inl rv)⟩
theorem pe_callS0 {CX : CXT} {k : Nat} {f : Addr} {fd : FuncData} {ps : List Str} {sp : Sp} {E : L2.St → XK} {x : Str} {p pos : Pos} (F : FnOk X.prog X.w X.K X.mg X.base CX k f fd ps sp) (hr : Room k X.A) (hg : Gl X x) (hm : X.mg x = some (.ref f)) (hk : PySem.W.keepIn X.K (.ref f) = true) (hb : Binds X.K fd ps []) (hx : ∀ σ, PassesAt CX X σ (E σ))
    (hdb : (x == ("__debug__" : Str)) = false) : PE X (.Call (.Name x p) [] [] pos) (tCallS sp E tNil) := by
  refine ⟨fun pins s σ H Q I h => ?_⟩
  refine PySem.wpAny_Call_Name_kw (ld_glob I hg hm ?_ hdb)
  exact PySem.W.callWith_K0 I.kIn hk (run_fnS (us := []) F hr hb (hx σ) I .nil h)
theorem s_call0 {x : Str} {i : Nat} {b : Bool} {ps : List Str} {p pos : Pos} (tk : Takes X W) (hg : Gl X x) (F : FnI X T cx x i ps) (hdb : (x == ("__debug__" : Str)) = false) : PE X (.Call (.Name x p) [] [] pos) (tI T W cx b (.call i .nil)) := by
  obtain ⟨⟨f, fd, lv, hm, hk, hb, hr, F⟩, ar⟩ := F
  refine IL.PE.of (pe_callS0 F hr hg hm hk hb (fun σ => passAt tk σ) hdb) fun σ H Q ⟨st, S, M, I, q⟩ => ?_
  simp only [ev, evs, R.bind] at q
  exact call_ok I .nil (ar [] st.A) q fun d st' H' S' M' hP v rv => hP v (.inl rv)
/-- a list becomes an object -/
theorem s_obj {e : Expr} {ie : IE} {b : Bool} (h : PE X e (tF T W cx ie)) : PE X e (tI T W cx b (.obj ie)) := by
  refine IL.PE.of h fun σ H Q ⟨st, S, M, I, q⟩ => ?_
  simp only [ev] at q
  refine ⟨st, S, M, I, ?_⟩
  cases e1 : ev cx false ie st with
  | stuck =>
    rw [e1] at q
    exact q
  | exc x st1 =>
    rw [e1] at q
    exact q
  | ok d st1 =>
    rw [e1] at q
    intro H1 S1 M1 I1 x1 v fr
    cases d with
    | lst ds =>
      rcases fr with ⟨_, a, o, ev', e2, e3, e4, e5, e6⟩ | ⟨h, _⟩
      case inr => cases h
      cases e6 with
      | lst rp =>
        have no : ¬ Own st1.env σ a := fun z => by
          rcases x1.x.ow a z with z | z
          · obtain ⟨⟨o', z', _⟩, _⟩ := I.ownH z
            rw [e2] at z'
            cases z'
          · obtain ⟨i, d', z1, z2⟩ := id ‹Own st1.env σ a›
            rcases x1.le i with q1 | ⟨d2, q1, q2⟩
            · have : Own st.env σ a := ⟨i, d', q1.symm.trans z1, z2⟩
              obtain ⟨⟨o', z', _⟩, _⟩ := I.ownH this
              rw [e2] at z'
              cases z'
            · rw [z1] at q2
              cases q2
        have pm : Pre M1 (M1 ++ [a]) := ⟨[a], rfl⟩
        have I2 : RI T.toSta { st1 with A := st1.A ++ [.ls ds] } σ H1 S1 (M1 ++ [a]) := by
          refine ⟨I1.sub, fun i d h => ?_, fun i d h => ?_, I1.sep, fun n ao h => ?_, by simp [I1.mlen], ?_, I1.tp, I1.elen⟩
          · obtain ⟨v, h1, h2⟩ := I1.fro i d h
            exact ⟨v, h1, h2.mono (Same.refl _) pm⟩
          · obtain ⟨b, o, h1, h2, h3, h4, h5⟩ := I1.own i d h
            refine ⟨b, o, h1, h2, h3.mono (Same.refl _) pm, h4, fun z => ?_⟩
            rcases List.mem_append.mp z with z | z
            · exact h5 z
            · rw [List.mem_singleton.mp z] at h1
              exact no ⟨i, d, h, h1⟩
          · by_cases hn : n < st1.A.length
            · rw [List.getElem?_append_left hn] at h
              obtain ⟨b, o, h1, h2, h3, h4⟩ := I1.obj n ao h
              refine ⟨b, o, ?_, h2, h3.mono (Same.refl _) pm, h4⟩
              rw [List.getElem?_append_left (by rw [I1.mlen]; exact hn)]
              exact h1
            · rw [List.getElem?_append_right (by omega)] at h
              have hz : n - st1.A.length = 0 := by
                have := (List.getElem?_eq_some_iff.mp h).1
                simp at this
                omega
              rw [hz] at h
              simp at h
              subst h
              refine ⟨a, _, ?_, e3, .ls (rp.mono (Same.refl _) pm), e4⟩
              rw [List.getElem?_append_right (by rw [I1.mlen]; omega), I1.mlen, hz]
              rfl
          · rw [List.nodup_append]
            refine ⟨I1.mnd, by simp, fun b hb c hc z => e5 ?_⟩
            rw [List.mem_singleton.mp hc] at z
            rw [← z]
            exact hb
        refine q H1 S1 (M1 ++ [a]) I2 ⟨⟨x1.x.ss, x1.x.sn, x1.x.fr, x1.x.ow, ?_, x1.x.kp⟩, x1.fr, x1.le⟩ v (.inl ?_)
        · obtain ⟨t, et, ht⟩ := x1.x.mm
          refine ⟨t ++ [a], by rw [et, List.append_assoc], fun b hb => ?_⟩
          rcases List.mem_append.mp hb with hb | hb
          · exact ht b hb
          · rw [List.mem_singleton.mp hb]
            exact e2
        · rw [ev']
          refine .obj ?_
          rw [List.getElem?_append_right (by rw [I1.mlen]; omega), I1.mlen]
          simp
    | _ => exact q.elim

/-! ### calls with keywords -/
def pickL {α : Type} (xs : List α) : List Nat → List α
  | [] => []
  | i :: r => (match xs[i]? with
    | some x => [x]
    | none => []) ++ pickL xs r
theorem pick_reps {M : Ms} {S : Hp} {ds : List D} {vs : List V} (r : Reps T.toSta M S ds vs) : ∀ (pm : List Nat) (as : List D), pickD ds pm = some as → Reps T.toSta M S as (pickL vs pm)
  | [], as, h => by
    simp only [pickD] at h
    cases h
    exact .nil
  | i :: pm, as, h => by
    simp only [pickD] at h
    split at h
    · rename_i d hd
      split at h
      · rename_i as' has
        cases h
        obtain ⟨v, h1, h2⟩ := r.get hd
        unfold pickL
        rw [h1]
        exact .cons h2 (pick_reps r pm as' has)
      · cases h
    · cases h
theorem pick_vals {vs : List V} {us : List Value} (r : Vals vs us) : ∀ pm : List Nat, Vals (pickL vs pm) (pickL us pm)
  | [] => .nil
  | i :: pm => by
    unfold pickL
    cases e : vs[i]? with
    | none =>
      have : us[i]? = none := by
        rw [List.getElem?_eq_none_iff] at e ⊢
        rw [← r.length]
        exact e
      rw [this]
      exact pick_vals r pm
    | some v =>
      obtain ⟨u, h1, h2⟩ := r.get e
      rw [h1]
      exact .cons h2 (pick_vals r pm)
/-- how the def x binds n positional values and keywords ks: pm, the places of the parameters in the order of the call -/
structure KwI (X : Cx) (T : Sta') (cx : ECx) (x : Str) (i : Nat) (n : Nat) (ks : List Str) (pm : List Nat) : Prop where
  ex : ∃ f fd ps lv, X.mg x = some (.ref f) ∧ PySem.W.keepIn X.K (.ref f) = true ∧ Room lv X.A ∧ FnOk X.prog X.w X.K X.mg X.base (L2.CX X.prog X.w) lv f fd ps (spI T (cx.call i) ps.length) ∧
    (∀ (s : Shared) (us ws : List Value), X.K.In s.heap → us.length = n → ws.length = ks.length → BindsTo s fd ⟨us, ks.zip ws⟩ (ps.zip (pickL (us ++ ws) pm))) ∧ (∀ ds A, cx.call i ds A ≠ .stuck → ds.length = ps.length)
def kwNames : List Keyword → List Str
  | [] => []
  | ⟨some x, _, _⟩ :: r => x :: kwNames r
  | ⟨none, _, _⟩ :: r => kwNames r
def kwAll : List Keyword → Bool
  | [] => true
  | ⟨some _, e, _⟩ :: r => notStar e && kwAll r
  | ⟨none, _, _⟩ :: _ => false
def kwExprs : List Keyword → List Expr
  | [] => []
  | ⟨_, e, _⟩ :: r => e :: kwExprs r
theorem kw_some : ∀ (kws : List Keyword) (pos : Pos) (env : Env), kwAll kws = true → (backToKw pos (keywordEach kws env)).all (·.1.isSome) = true ∧ (backToKw pos (keywordEach kws env)).filterMap (·.1) = kwNames kws ∧ (backToKw pos (keywordEach kws env)).any (·.1.isNone) = false
  | [], _, _, _ => ⟨rfl, rfl, rfl⟩
  | ⟨none, _, _⟩ :: r, _, _, h => by simp [kwAll] at h
  | ⟨some x, e, p⟩ :: r, pos, env, h => by
    simp only [kwAll, Bool.and_eq_true] at h
    obtain ⟨h1, h2, h3⟩ := kw_some r pos env h.2
    have hc : backToKw pos (keywordEach (⟨some x, e, p⟩ :: r) env) = (some x, do let v ← eval e env; standAt pos; pure v) :: backToKw pos (keywordEach r env) := rfl
    rw [hc]
    refine ⟨by simpa using h1, ?_, by simpa using h3⟩
    rw [List.filterMap_cons]
    show x :: _ = x :: _
    rw [h2]
theorem k_nil : PK X [] (tAs T W cx false .nil) := by
  refine ⟨fun pos pins s σ H Q I ⟨st, S, M, RI0, q⟩ => (pk_nil (X := X)).run pos pins s σ H Q I ?_⟩
  simp only [evs] at q
  exact q H S M RI0 ExtE.refl [] .nil
theorem k_cons {e : Expr} {kws : List Keyword} {nm : Option Str} {kpos : Pos} {ie : IE} {ies : IEs} (he : PE X e (tI T W cx false ie)) (hes : PK X kws (tAs T W cx false ies)) : PK X (⟨nm, e, kpos⟩ :: kws) (tAs T W cx false (.cons ie ies)) := by
  refine ⟨fun pos pins s σ H Q I ⟨st, S, M, RI0, q⟩ => (pk_cons he hes).run pos pins s σ H Q I ?_⟩
  simp only [evs] at q
  refine ⟨st, S, M, RI0, q.bind.mono fun d st1 H1 S1 M1 I1 x1 q1 v vv => ⟨st1, S1, M1, I1, ?_⟩⟩
  refine q1.bind.mono fun ds st2 H2 S2 M2 I2 x2 q2 vs vvs => ?_
  exact q2 H2 S2 M2 I2 ExtE.refl _ (.cons (vv.mono x2 I2) vvs)
def appIEs : IEs → IEs → IEs
  | .nil, r => r
  | .cons e es, r => .cons e (appIEs es r)
theorem evs_app (b : Bool) : ∀ (es fs : IEs) (st : SS), evs cx b (appIEs es fs) st = (evs cx b es st).bind fun ds st1 => (evs cx b fs st1).bind fun ds2 st2 => .ok (ds ++ ds2) st2
  | .nil, fs, st => by
    simp only [appIEs, evs, R.bind]
    cases evs cx b fs st <;> simp [R.bind]
  | .cons e es, fs, st => by
    simp only [appIEs, evs]
    cases ev cx b e st with
    | stuck => simp [R.bind]
    | exc x st1 => simp [R.bind]
    | ok d st1 =>
      simp only [R.bind]
      rw [evs_app b es fs st1]
      cases evs cx b es st1 with
      | stuck => simp [R.bind]
      | exc x st2 => simp [R.bind]
      | ok ds st2 =>
        simp only [R.bind]
        cases evs cx b fs st2 <;> simp [R.bind]
section
variable {st : SS} {σ : L2.St} {H S : Hp} {M : Ms}
theorem callP_ok {f n : Nat} {pm : List Nat} {vs : List V} {ds : List D} {Q : VK} {P : D → SS → Hp → Hp → Ms → Prop} (I : RI T.toSta st σ H S M) (rp : Reps T.toSta M S ds vs) (hl : ∀ ds A, cx.call f ds A ≠ .stuck → ds.length = n)
    (q : Post T W σ st.env H S M (match pickD ds pm with
    | some as => (match cx.call f as st.A with
      | .ok d A => R.ok d { st with A := A }
      | .exc x A => .exc x { st with A := A }
      | .stuck => .stuck)
    | none => .stuck) P) (k : ∀ d st' H' S' M', P d st' H' S' M' → ∀ v, Rep T.toSta M' S' d v → Q v H') : spI T (cx.call f) n (pickL vs pm) H Q (WE W σ) := by
  cases e : pickD ds pm with
  | none =>
    rw [e] at q
    exact q.elim
  | some as =>
    rw [e] at q
    exact call_ok I (pick_reps rp pm as e) (hl as st.A) q k
end
theorem run_fnK2 {CX : CXT} {k : Nat} {f : Addr} {fd : FuncData} {ps ks : List Str} {sp : Sp} {E : L2.St → XK} {pins : List (Addr × Obj)} {σ : L2.St} {H : Hp} {s : Shared} {Q : VK} {us ws gs : List Value} {gv : List V} (F : FnOk X.prog X.w X.K X.mg X.base CX k f fd ps sp) (hr : Room k X.A)
    (hb : BindsTo s fd ⟨us, ks.zip ws⟩ (ps.zip gs)) (hx : PassesAt CX X σ (E σ)) (I : Inv X pins σ H s) (r : Vals gv gs) (h : sp gv H Q (E σ)) : wpAny (model X.prog X.w) X.A (call (.ref f) us (ks.zip ws)) (EP X pins σ Q) X.xe s := by
  refine wpAny_call (codeAny_mono (F.run X.A X.stack s H ⟨us, ks.zip ws⟩ gs gv Q (E σ) hr I.env0 hb r h) fun r s' hq => ?_)
  cases r with
  | error e => exact hx pins H s e s' I hq
  | ok fl =>
    cases fl with
    | ret u => exact I.after hq
    | next => exact False.elim hq
    | brk => exact False.elim hq
    | cont => exact False.elim hq
/-- f(k = v, ..) -/
theorem s_callK0 {x : Str} {i : Nat} {kws : List Keyword} {pm : List Nat} {ies : IEs} {b : Bool} {p pos : Pos} (tk : Takes X W) (hg : Gl X x) (F : KwI X T cx x i 0 (kwNames kws) pm) (hdb : (x == ("__debug__" : Str)) = false) (hk : kwAll kws = true)
    (hlen : (kwExprs kws).length = (kwNames kws).length) (ha : PK X kws (tAs T W cx false ies)) (hil : ∀ st ds st', evs cx false ies st = .ok ds st' → ds.length = (kwNames kws).length) : PE X (.Call (.Name x p) [] kws pos) (tI T W cx b (.callP i pm ies)) := by
  obtain ⟨f, fd, ps, lv, hm, hkp, hr, F, hb, ar⟩ := F.ex
  obtain ⟨k1, k2, k3⟩ := kw_some kws pos X.env hk
  refine ⟨fun pins s σ H Q I ⟨st, S, M, RI0, q⟩ => ?_⟩
  refine PySem.wpAny_Call_Name_kw (ld_glob I hg hm ?_ hdb)
  simp only [ev] at q
  have h2 : tAs T W cx false ies σ H fun vs H1 => vs.length = (kwNames kws).length ∧ spI T (cx.call i) ps.length (pickL vs pm) H1 Q (WE W σ) := by
    refine ⟨st, S, M, RI0, ?_⟩
    cases e : evs cx false ies st with
    | stuck =>
      rw [e] at q
      exact q
    | exc x st1 =>
      rw [e] at q
      exact q
    | ok ds st1 =>
      rw [e] at q
      intro H1 S1 M1 I1 x1 vs vvs
      have q1 := (Post.bind (r := R.ok ds st1) q) H1 S1 M1 I1 x1
      refine ⟨?_, callP_ok I1 vvs.reps ar q1 fun d st' H' S' M' hP v rv => hP v (.inl rv)⟩
      rw [← vvs.reps.length]
      exact hil _ _ _ e
  refine PySem.W.callWith_KW0 (h₀ := X.base) I.ok.mod.kin hkp k1 (thn (ha.run pos pins s σ H _ I h2) fun ws s2 ⟨zs, H2, I2, rz, q2⟩ => ⟨I2.kIn, ?_⟩) (by rw [k3]; rfl)
  rw [k2]
  obtain ⟨q3, q4⟩ := q2
  have rz' : Vals zs ws := rz
  exact run_fnK2 (us := []) F hr (hb s2 [] ws I2.kIn rfl (by rw [← rz'.length]; exact q3)) (passAt tk σ) I2 (pick_vals rz' pm) q4
def iesLen : IEs → Nat
  | .nil => 0
  | .cons _ es => iesLen es + 1
theorem evs_len (b : Bool) : ∀ (es : IEs) (st st' : SS) (ds : List D), evs cx b es st = .ok ds st' → ds.length = iesLen es
  | .nil, st, st', ds, h => by
    simp only [evs] at h
    cases h
    rfl
  | .cons e es, st, st', ds, h => by
    simp only [evs] at h
    obtain ⟨d, st1, e1, h⟩ := R.bind_ok h
    obtain ⟨ds2, st2, e2, h⟩ := R.bind_ok h
    cases h
    simp [iesLen, evs_len b es st1 _ ds2 e2]
end IL

set_option Elab.async false
set_option linter.all false
set_option maxRecDepth 100000
set_option maxHeartbeats 4000000
/-! IL12: built-in functions and types. -/
namespace IL
open PySem L2
variable {T : Sta'} {X : Cx} {W W' : WX} {cx : ECx}
/-- what a built-in's rule is to be shown of -/
def BiOk (T : Sta') (bi : BI) (r : List V → Hp → VK → Prop) : Prop := ∀ (st : SS) (σ : L2.St) (H S : Hp) (M : Ms) (ds : List D) (vs : List V) (d : D) (Q : VK), RI T.toSta st σ H S M → VRs T true st.env σ M S ds vs → biD bi ds = some d →
  (∀ H' S' M', RI T.toSta st σ H' S' M' → ExtE st.env σ H S M st.env H' S' M' → ∀ v, FR T H H' S' M' d v → Q v H') → r vs H Q
theorem bi_read {bi : BI} {r : List V → Hp → VK → Prop} {ies : IEs} (k : BiOk T bi r) {σ : L2.St} {H : Hp} {Q : VK} (h : tF T W cx (.bi bi ies) σ H Q) : tCB r (tAs T W cx true ies) σ H Q := by
  obtain ⟨st, S, M, I, q⟩ := h
  simp only [ev] at q
  refine ⟨st, S, M, I, q.bind.mono fun ds st1 H1 S1 M1 I1 x1 q1 vs vvs => ?_⟩
  cases e : biD bi ds with
  | none =>
    rw [e] at q1
    exact q1.elim
  | some d =>
    rw [e] at q1
    exact k st1 σ H1 S1 M1 ds vs d Q I1 vvs e fun H' S' M' I' x' v f => q1 H' S' M' I' x' v (f.back fun a h => x1.x.none_of h)
theorem s_biF {bi : BI} {id : String} {r : List V → Hp → VK → Prop} {x : Str} {e : Expr} {es : List Expr} {ies : IEs} {p pos : Pos} (hc : CallR X (.builtin id) r) (k : BiOk T bi r) (hg : Gl X x) (hm : X.mg x = none) (hv : bootBuiltins x = some (.builtin id)) (hs : (e :: es).all notStar = true) (ha : PA X (e :: es) (tAs T W cx true ies))
    (hn : x ≠ "__name__" := by decide) (hdb : (x == ("__debug__" : Str)) = false := by decide) : PE X (.Call (.Name x p) (e :: es) [] pos) (tF T W cx (.bi bi ies)) := by
  have hs' := hs
  simp only [List.all_cons, Bool.and_eq_true] at hs'
  exact IL.PE.of (pe_callB hc hg hm hv ha hn hdb (starEach_cons hs'.1 es X.env) (plain_args es pos X.env hs'.2)) fun σ H Q h => bi_read k h
theorem s_biTyF {bi : BI} {id : String} {r : List V → Hp → VK → Prop} {x : Str} {e : Expr} {es : List Expr} {ies : IEs} {p pos : Pos} (hc : CallR X (.type id) r) (k : BiOk T bi r) (hg : Gl X x) (hm : X.mg x = none) (hv : bootBuiltins x = some (.type id)) (hs : (e :: es).all notStar = true) (ha : PA X (e :: es) (tAs T W cx true ies))
    (hn : x ≠ "__name__" := by decide) (hdb : (x == ("__debug__" : Str)) = false := by decide) : PE X (.Call (.Name x p) (e :: es) [] pos) (tF T W cx (.bi bi ies)) := by
  have hs' := hs
  simp only [List.all_cons, Bool.and_eq_true] at hs'
  exact IL.PE.of (pe_callTy hc hg hm hv ha hn hdb (starEach_cons hs'.1 es X.env) (plain_args es pos X.env hs'.2)) fun σ H Q h => bi_read k h

theorem CallR.or {f : Value} {r r' : List V → Hp → VK → Prop} (h : CallR X f r) (h' : CallR X f r') : CallR X f (fun vs H Q => r vs H Q ∨ r' vs H Q) := by
  intro pins s σ H vs us Q I rv q
  rcases q with q | q
  · exact h pins s σ H vs us Q I rv q
  · exact h' pins s σ H vs us Q I rv q
/-! ### the data -/
theorem intsD_ok {M : Ms} {S : Hp} : ∀ {ds : List D} {vs : List V} {is : List Int}, Reps T.toSta M S ds vs → intsD ds = some is → vs = is.map V.int
  | _, _, _, .nil, h => by
    simp only [intsD] at h
    cases h
    rfl
  | .int i :: ds, _, _, .cons (.int _) r, h => by
    simp only [intsD] at h
    split at h
    · cases h
      rw [intsD_ok r (by assumption)]
      rfl
    · cases h
  | .non :: _, _, _, .cons _ _, h => by simp [intsD] at h
  | .bl _ :: _, _, _, .cons _ _, h => by simp [intsD] at h
  | .str _ :: _, _, _, .cons _ _, h => by simp [intsD] at h
  | .tup _ :: _, _, _, .cons _ _, h => by simp [intsD] at h
  | .lst _ :: _, _, _, .cons _ _, h => by simp [intsD] at h
  | .fl _ :: _, _, _, .cons _ _, h => by simp [intsD] at h
  | .kt _ :: _, _, _, .cons _ _, h => by simp [intsD] at h
  | .dK _ _ :: _, _, _, .cons _ _, h => by simp [intsD] at h
  | .dT _ _ :: _, _, _, .cons _ _, h => by simp [intsD] at h
  | .ins _ _ :: _, _, _, .cons _ _, h => by simp [intsD] at h
  | .ref _ :: _, _, _, .cons _ _, h => by simp [intsD] at h
  | .kd _ _ :: _, _, _, .cons _ _, h => by simp [intsD] at h
theorem blsD_ok {M : Ms} {S : Hp} : ∀ {ds : List D} {vs : List V} {is : List Bool}, Reps T.toSta M S ds vs → blsD ds = some is → vs = is.map V.bl
  | _, _, _, .nil, h => by
    simp only [blsD] at h
    cases h
    rfl
  | .bl i :: ds, _, _, .cons (.bl _) r, h => by
    simp only [blsD] at h
    split at h
    · cases h
      rw [blsD_ok r (by assumption)]
      rfl
    · cases h
  | .non :: _, _, _, .cons _ _, h => by simp [blsD] at h
  | .int _ :: _, _, _, .cons _ _, h => by simp [blsD] at h
  | .str _ :: _, _, _, .cons _ _, h => by simp [blsD] at h
  | .tup _ :: _, _, _, .cons _ _, h => by simp [blsD] at h
  | .lst _ :: _, _, _, .cons _ _, h => by simp [blsD] at h
  | .fl _ :: _, _, _, .cons _ _, h => by simp [blsD] at h
  | .kt _ :: _, _, _, .cons _ _, h => by simp [blsD] at h
  | .dK _ _ :: _, _, _, .cons _ _, h => by simp [blsD] at h
  | .dT _ _ :: _, _, _, .cons _ _, h => by simp [blsD] at h
  | .ins _ _ :: _, _, _, .cons _ _, h => by simp [blsD] at h
  | .ref _ :: _, _, _, .cons _ _, h => by simp [blsD] at h
  | .kd _ _ :: _, _, _, .cons _ _, h => by simp [blsD] at h
theorem perm_insI (x : Int) : ∀ l : List Int, (insI x l).Perm (x :: l)
  | [] => .refl _
  | y :: ys => by
    unfold insI
    split
    · exact .refl _
    · exact ((perm_insI x ys).cons y).trans (.swap x y ys)
theorem perm_sortI : ∀ l : List Int, (sortI l).Perm l
  | [] => .refl _
  | x :: xs => (perm_insI x (sortI xs)).trans ((perm_sortI xs).cons x)
theorem sorted_insI {x : Int} : ∀ {l : List Int}, l.Pairwise (· ≤ ·) → (insI x l).Pairwise (· ≤ ·)
  | [], _ => by simp [insI]
  | y :: ys, h => by
    obtain ⟨h1, h2⟩ := List.pairwise_cons.mp h
    unfold insI
    split
    · rename_i hxy
      refine List.pairwise_cons.mpr ⟨fun z hz => ?_, h⟩
      rcases List.mem_cons.mp hz with rfl | hz
      · exact hxy
      · exact Int.le_trans hxy (h1 z hz)
    · rename_i hxy
      refine List.pairwise_cons.mpr ⟨fun z hz => ?_, sorted_insI h2⟩
      rcases List.mem_cons.mp ((perm_insI x ys).mem_iff.mp hz) with rfl | hz
      · omega
      · exact h1 z hz
theorem sorted_sortI : ∀ l : List Int, (sortI l).Pairwise (· ≤ ·)
  | [] => by simp [sortI]
  | x :: xs => sorted_insI (sorted_sortI xs)
/-- two sorted lists of the same numbers are the same -/
theorem sorted_eq : ∀ {a b : List Int}, a.Perm b → a.Pairwise (· ≤ ·) → b.Pairwise (· ≤ ·) → a = b
  | [], b, p, _, _ => (List.nil_perm.mp p).symm
  | x :: a, [], p, _, _ => by simp at p
  | x :: a, y :: b, p, h1, h2 => by
    obtain ⟨p1, p2⟩ := List.pairwise_cons.mp h1
    obtain ⟨q1, q2⟩ := List.pairwise_cons.mp h2
    have hx : x ∈ y :: b := p.mem_iff.mp List.mem_cons_self
    have hy : y ∈ x :: a := p.mem_iff.mpr List.mem_cons_self
    have e : x = y := by
      rcases List.mem_cons.mp hx with h | h
      · exact h
      · rcases List.mem_cons.mp hy with h' | h'
        · exact h'.symm
        · have := p1 y h'
          have := q1 x h
          omega
    subst e
    rw [sorted_eq (List.perm_cons _ |>.mp p) p2 q2]
theorem max_spec : ∀ (l : List Int) (m : Int), (maxI m l = m ∨ maxI m l ∈ l) ∧ m ≤ maxI m l ∧ ∀ y ∈ l, y ≤ maxI m l
  | [], m => ⟨.inl rfl, Int.le_refl _, fun _ h => by simp at h⟩
  | x :: xs, m => by
    unfold maxI
    obtain ⟨h1, h2, h3⟩ := max_spec xs (if m < x then x else m)
    refine ⟨?_, ?_, fun y hy => ?_⟩
    · rcases h1 with h1 | h1
      · rw [h1]
        split
        · exact .inr List.mem_cons_self
        · exact .inl rfl
      · exact .inr (List.mem_cons_of_mem _ h1)
    · refine Int.le_trans ?_ h2
      split <;> omega
    · rcases List.mem_cons.mp hy with rfl | hy
      · refine Int.le_trans ?_ h2
        split <;> omega
      · exact h3 y hy
theorem min_spec : ∀ (l : List Int) (m : Int), (minI m l = m ∨ minI m l ∈ l) ∧ minI m l ≤ m ∧ ∀ y ∈ l, minI m l ≤ y
  | [], m => ⟨.inl rfl, Int.le_refl _, fun _ h => by simp at h⟩
  | x :: xs, m => by
    unfold minI
    obtain ⟨h1, h2, h3⟩ := min_spec xs (if x < m then x else m)
    refine ⟨?_, ?_, fun y hy => ?_⟩
    · rcases h1 with h1 | h1
      · rw [h1]
        split
        · exact .inr List.mem_cons_self
        · exact .inl rfl
      · exact .inr (List.mem_cons_of_mem _ h1)
    · refine Int.le_trans h2 ?_
      split <;> omega
    · rcases List.mem_cons.mp hy with rfl | hy
      · refine Int.le_trans h2 ?_
        split <;> omega
      · exact h3 y hy
/-! ### one value -/
theorem v1 {env : Env'} {σ : L2.St} {M : Ms} {S : Hp} {b : Bool} {d : D} {vs : List V} (h : VRs T b env σ M S [d] vs) : ∃ v, vs = [v] ∧ VR T b env σ M S d v := by
  cases h with
  | cons h t =>
    cases t
    exact ⟨_, rfl, h⟩
theorem v2 {env : Env'} {σ : L2.St} {M : Ms} {S : Hp} {b : Bool} {d e : D} {vs : List V} (h : VRs T b env σ M S [d, e] vs) : ∃ v w, vs = [v, w] ∧ VR T b env σ M S d v ∧ VR T b env σ M S e w := by
  cases h with
  | cons h t =>
    obtain ⟨w, e, q⟩ := v1 t
    subst e
    exact ⟨_, _, rfl, h, q⟩
abbrev rLen (K : PySem.W.Frag) : List V → Hp → VK → Prop := fun xs H Q => ∃ x n, xs = [x] ∧ LenV K x H n ∧ Q (.int n) H
abbrev rLenD : List V → Hp → VK → Prop := fun xs H Q => ∃ a kvs, xs = [V.ref a] ∧ H a = some (.dK kvs) ∧ Q (.int kvs.length) H
theorem k_len : BiOk T .len (fun vs H Q => rLen T.K vs H Q ∨ rLenD vs H Q) := by
  intro st σ H S M ds vs d Q I vv e q
  have fin : ∀ n : Nat, d = .int n → Q (.int n) H := fun n h => q H S M I ExtE.refl _ (.inr ⟨by rw [h]; rfl, by rw [h]; exact .int _⟩)
  simp only [biD] at e
  unfold lenD at e
  split at e
  · obtain ⟨v, ev, w⟩ := v1 vv
    subst ev
    split at e
    · rename_i hx
      cases e
      rw [w.str I]
      exact .inl ⟨_, _, rfl, ⟨hx, rfl⟩, fin _ rfl⟩
    · cases e
  · cases e
    obtain ⟨v, ev, w⟩ := v1 vv
    subst ev
    obtain ⟨a, us, ea, _, ha, r⟩ := w.tup I
    rw [ea]
    exact .inl ⟨_, _, rfl, .inr ⟨us, .of ha, rfl⟩, by rw [← r.length]; exact fin _ rfl⟩
  · cases e
    obtain ⟨v, ev, w⟩ := v1 vv
    subst ev
    obtain ⟨a, us, ea, ha, r⟩ := w.kt I
    rw [ea]
    exact .inl ⟨_, _, rfl, .inr ⟨us, ha, rfl⟩, by rw [← r.length]; exact fin _ rfl⟩
  · cases e
    obtain ⟨v, ev, w⟩ := v1 vv
    subst ev
    obtain ⟨a, us, ea, ha, r⟩ := w.lst I
    rw [ea]
    exact .inl ⟨_, _, rfl, .inl ⟨us, .of ha, rfl⟩, by rw [← r.length]; exact fin _ rfl⟩
  · cases e
    obtain ⟨v, ev, w⟩ := v1 vv
    subst ev
    obtain ⟨a, us, ea, ha, r⟩ := w.fl I
    rw [ea]
    exact .inl ⟨_, _, rfl, .inl ⟨us, ha, rfl⟩, by rw [← r.length]; exact fin _ rfl⟩
  · cases e
    obtain ⟨v, ev, w⟩ := v1 vv
    subst ev
    obtain ⟨a, us, ea, ha, hl, r⟩ := w.dK I
    rw [ea]
    exact .inr ⟨_, _, rfl, ha, by rw [List.length_zip, ← hl, Nat.min_self]; exact fin _ rfl⟩
  · cases e
def rSumT (K : PySem.W.Frag) : List V → Hp → VK → Prop := fun vs H Q => ∃ (a : Addr) (ns : List Int), vs = [V.ref a] ∧ SqT K H a (ns.map V.int) ∧ Q (.int ns.sum) H
theorem cr_sumT (hc : X.calm = true) : CallR X (.builtin "sum") (rSumT X.K) := by
  intro pins s σ H vs us Q I r h
  obtain ⟨a, ns, rfl, hs, q⟩ := h
  obtain ⟨its, rv, ht, _⟩ := I.tuple hs
  rw [Vals.ref1 r]
  have hi := Vals.ints rv
  obtain ⟨xs, e⟩ := hi.allInts.items
  have hn : numsOf (intItems xs).toList = ns := by rw [← e]; exact hi.numsOf
  rw [nums_intItems] at hn
  have ht' : s.heap.IsTuple a its.toArray := ht
  rw [e] at ht'
  refine PySem.W.ktm_sumG (I.ok.hd hc) ht' fun h' tk t' hk => ?_
  rw [preSum_eq, List.take_of_length_le (by simp), hn]
  exact ⟨.int _, H, I.kept hk, ⟨_, rfl⟩, q⟩
theorem k_sum : BiOk T .sum (fun vs H Q => rSum T.K vs H Q ∨ rSumT T.K vs H Q) := by
  intro st σ H S M ds vs d Q I vv e q
  simp only [biD] at e
  unfold sumD at e
  split at e
  · obtain ⟨is, e1, rfl⟩ := Option.map_eq_some_iff.mp e
    obtain ⟨v, ev, w⟩ := v1 vv
    subst ev
    obtain ⟨a, us, ea, ha, r⟩ := w.lst I
    rw [ea]
    exact .inl ⟨a, is, rfl, .of (by rw [← intsD_ok r e1]; exact ha), q H S M I ExtE.refl _ (.inr ⟨rfl, .int _⟩)⟩
  · obtain ⟨is, e1, rfl⟩ := Option.map_eq_some_iff.mp e
    obtain ⟨v, ev, w⟩ := v1 vv
    subst ev
    obtain ⟨a, us, ea, _, ha, r⟩ := w.tup I
    rw [ea]
    exact .inr ⟨a, is, rfl, .of (by rw [← intsD_ok r e1]; exact ha), q H S M I ExtE.refl _ (.inr ⟨rfl, .int _⟩)⟩
  · cases e
theorem k_all : BiOk T .all (rAll T.K) := by
  intro st σ H S M ds vs d Q I vv e q
  simp only [biD] at e
  unfold allD at e
  split at e
  · obtain ⟨is, e1, rfl⟩ := Option.map_eq_some_iff.mp e
    obtain ⟨v, ev, w⟩ := v1 vv
    subst ev
    obtain ⟨a, us, ea, ha, r⟩ := w.lst I
    rw [ea]
    exact ⟨a, is, rfl, .of (by rw [← blsD_ok r e1]; exact ha), q H S M I ExtE.refl _ (.inr ⟨rfl, .bl _⟩)⟩
  · cases e
theorem k_any : BiOk T .any (rAny T.K) := by
  intro st σ H S M ds vs d Q I vv e q
  simp only [biD] at e
  unfold anyD at e
  split at e
  · obtain ⟨is, e1, rfl⟩ := Option.map_eq_some_iff.mp e
    obtain ⟨v, ev, w⟩ := v1 vv
    subst ev
    obtain ⟨a, us, ea, ha, r⟩ := w.lst I
    rw [ea]
    exact ⟨a, is, rfl, .of (by rw [← blsD_ok r e1]; exact ha), q H S M I ExtE.refl _ (.inr ⟨rfl, .bl _⟩)⟩
  · cases e
theorem k_abs : BiOk T .abs (fun xs H Q => ∃ i, xs = [.int i] ∧ Q (.int (if i < 0 then -i else i)) H) := by
  intro st σ H S M ds vs d Q I vv e q
  rcases ds with _ | ⟨a, _ | ⟨b, r⟩⟩
  · simp [biD] at e
  · cases a with
    | int i =>
      simp only [biD] at e
      cases e
      obtain ⟨v, ev, w⟩ := v1 vv
      subst ev
      rw [w.int I]
      exact ⟨i, rfl, q H S M I ExtE.refl _ (.inr ⟨rfl, .int _⟩)⟩
    | _ => simp [biD] at e
  · cases a <;> simp [biD] at e
theorem k_int : BiOk T .int (fun xs H Q => (∃ i, xs = [.int i] ∧ Q (.int i) H) ∨ ∃ k, xs = [.bl k] ∧ Q (.int (if k then 1 else 0)) H) := by
  intro st σ H S M ds vs d Q I vv e q
  simp only [biD] at e
  unfold intD at e
  split at e
  · cases e
    obtain ⟨v, ev, w⟩ := v1 vv
    subst ev
    rw [w.int I]
    exact .inl ⟨_, rfl, q H S M I ExtE.refl _ (.inr ⟨rfl, .int _⟩)⟩
  · cases e
    obtain ⟨v, ev, w⟩ := v1 vv
    subst ev
    rw [w.bl I]
    exact .inr ⟨_, rfl, q H S M I ExtE.refl _ (.inr ⟨rfl, .int _⟩)⟩
  · cases e
theorem k_list : BiOk T .list (fun xs H Q => ∃ p ys, xs = [.ref p] ∧ (SqL T.K H p ys ∨ SqT T.K H p ys) ∧ ∀ l, H l = none → Q (.ref l) (upd H l (.lst ys))) := by
  intro st σ H S M ds vs d Q I vv e q
  simp only [biD] at e
  unfold listD at e
  split at e
  · cases e
    obtain ⟨v, ev, w⟩ := v1 vv
    subst ev
    obtain ⟨a, us, ea, ha, r⟩ := w.lst I
    rw [ea]
    exact ⟨a, us, rfl, .inl (.of ha), fun l hl => q _ _ _ (I.fresh hl) (ExtE.fresh I hl) _ (FR.newL I hl r)⟩
  · cases e
    obtain ⟨v, ev, w⟩ := v1 vv
    subst ev
    obtain ⟨a, us, ea, _, ha, r⟩ := w.tup I
    rw [ea]
    exact ⟨a, us, rfl, .inr (.of ha), fun l hl => q _ _ _ (I.fresh hl) (ExtE.fresh I hl) _ (FR.newL I hl r)⟩
  · cases e
theorem k_tuple : BiOk T .tuple (fun xs H Q => ∃ p ys, xs = [.ref p] ∧ ((SqL T.K H p ys ∧ ∀ l, H l = none → Q (.ref l) (upd H l (.tup ys))) ∨ (SqT T.K H p ys ∧ Q (.ref p) H))) := by
  intro st σ H S M ds vs d Q I vv e q
  simp only [biD] at e
  unfold tupleD at e
  split at e
  · cases e
    obtain ⟨v, ev, w⟩ := v1 vv
    subst ev
    obtain ⟨a, us, ea, ha, r⟩ := w.lst I
    rw [ea]
    exact ⟨a, us, rfl, .inl ⟨.of ha, fun l hl => q _ _ _ (I.laid hl) (ExtE.laid I hl) _ (.inr ⟨rfl, Rep.newT I hl r⟩)⟩⟩
  · cases e
    obtain ⟨v, ev, w⟩ := v1 vv
    subst ev
    obtain ⟨a, us, ea, sa, ha, r⟩ := w.tup I
    rw [ea]
    exact ⟨a, us, rfl, .inr ⟨.of ha, q H S M I ExtE.refl _ (.inr ⟨rfl, .tup sa r⟩)⟩⟩
  · cases e
theorem reps_ints {M : Ms} {S : Hp} : ∀ is : List Int, Reps T.toSta M S (is.map D.int) (is.map V.int)
  | [] => .nil
  | i :: is => .cons (.int i) (reps_ints is)
theorem k_sorted : BiOk T .sorted (rSortedI T.K) := by
  intro st σ H S M ds vs d Q I vv e q
  simp only [biD] at e
  unfold sortedD at e
  split at e
  · obtain ⟨is, e1, rfl⟩ := Option.map_eq_some_iff.mp e
    obtain ⟨v, ev, w⟩ := v1 vv
    subst ev
    obtain ⟨a, us, ea, ha, r⟩ := w.lst I
    rw [ea]
    refine ⟨a, is, rfl, .of (by rw [← intsD_ok r e1]; exact ha), fun ns' p hp hs hl => ?_⟩
    have e2 : ns' = sortI is := sorted_eq (hp.trans (perm_sortI is).symm) hs (sorted_sortI is)
    subst e2
    exact q _ _ _ (I.fresh hl) (ExtE.fresh I hl) _ (FR.newL I hl (reps_ints _))
  · cases e
theorem k_max1 : BiOk T .max1 (rMax T.K) := by
  intro st σ H S M ds vs d Q I vv e q
  simp only [biD] at e
  unfold max1D at e
  split at e
  · split at e
    · rename_i i is e1
      cases e
      obtain ⟨v, ev, w⟩ := v1 vv
      subst ev
      obtain ⟨a, us, ea, ha, r⟩ := w.lst I
      rw [ea]
      refine ⟨a, i :: is, rfl, .of (by rw [← intsD_ok r e1]; exact ha), by simp, fun m hm hle => ?_⟩
      obtain ⟨h1, h2, h3⟩ := max_spec is i
      have em : m = maxI i is := by
        have a1 : m ≤ maxI i is := by
          rcases List.mem_cons.mp hm with h | h
          · rw [h]
            exact h2
          · exact h3 m h
        have a2 : maxI i is ≤ m := by
          rcases h1 with h | h
          · rw [h]
            exact hle i List.mem_cons_self
          · exact hle _ (List.mem_cons_of_mem _ h)
        omega
      rw [em]
      exact q H S M I ExtE.refl _ (.inr ⟨rfl, .int _⟩)
    · cases e
  · cases e
theorem k_min1 : BiOk T .min1 (rMin T.K) := by
  intro st σ H S M ds vs d Q I vv e q
  simp only [biD] at e
  unfold min1D at e
  split at e
  · split at e
    · rename_i i is e1
      cases e
      obtain ⟨v, ev, w⟩ := v1 vv
      subst ev
      obtain ⟨a, us, ea, ha, r⟩ := w.lst I
      rw [ea]
      refine ⟨a, i :: is, rfl, .of (by rw [← intsD_ok r e1]; exact ha), by simp, fun m hm hle => ?_⟩
      obtain ⟨h1, h2, h3⟩ := min_spec is i
      have em : m = minI i is := by
        have a1 : minI i is ≤ m := by
          rcases List.mem_cons.mp hm with h | h
          · rw [h]
            exact h2
          · exact h3 m h
        have a2 : m ≤ minI i is := by
          rcases h1 with h | h
          · rw [h]
            exact hle i List.mem_cons_self
          · exact hle _ (List.mem_cons_of_mem _ h)
        omega
      rw [em]
      exact q H S M I ExtE.refl _ (.inr ⟨rfl, .int _⟩)
    · cases e
  · cases e
theorem two_ints {b : BI} {f : Int → Int → D} (hb : ∀ ds d, biD b ds = some d → ∃ i j, ds = [.int i, .int j] ∧ d = f i j) {st : SS} {σ : L2.St} {H S : Hp} {M : Ms} {ds : List D} {vs : List V} {d : D} (I : RI T.toSta st σ H S M) (vv : VRs T true st.env σ M S ds vs) (e : biD b ds = some d) : ∃ i j, vs = [.int i, .int j] ∧ d = f i j := by
  obtain ⟨i, j, e1, e2⟩ := hb ds d e
  subst e1
  obtain ⟨v, w, ev, h1, h2⟩ := v2 vv
  exact ⟨i, j, by rw [ev, h1.int I, h2.int I], e2⟩
theorem k_max2 : BiOk T .max2 (fun xs H Q => ∃ i j, xs = [.int i, .int j] ∧ Q (.int (if j > i then j else i)) H) := by
  intro st σ H S M ds vs d Q I vv e q
  obtain ⟨i, j, e1, e2⟩ := two_ints (f := fun i j => .int (if j > i then j else i)) (fun ds d h => by
    rcases ds with _ | ⟨a, _ | ⟨b, _ | ⟨c, r⟩⟩⟩
    · simp [biD] at h
    · cases a <;> simp [biD] at h
    · cases a with
      | int i =>
        cases b with
        | int j =>
          simp only [biD] at h
          cases h
          exact ⟨i, j, rfl, rfl⟩
        | _ => simp [biD] at h
      | _ => cases b <;> simp [biD] at h
    · cases a <;> cases b <;> simp [biD] at h) I vv e
  exact ⟨i, j, e1, q H S M I ExtE.refl _ (.inr ⟨by rw [e2]; rfl, by rw [e2]; exact .int _⟩)⟩
theorem k_min2 : BiOk T .min2 (fun xs H Q => ∃ i j, xs = [.int i, .int j] ∧ Q (.int (if j < i then j else i)) H) := by
  intro st σ H S M ds vs d Q I vv e q
  obtain ⟨i, j, e1, e2⟩ := two_ints (f := fun i j => .int (if j < i then j else i)) (fun ds d h => by
    rcases ds with _ | ⟨a, _ | ⟨b, _ | ⟨c, r⟩⟩⟩
    · simp [biD] at h
    · cases a <;> simp [biD] at h
    · cases a with
      | int i =>
        cases b with
        | int j =>
          simp only [biD] at h
          cases h
          exact ⟨i, j, rfl, rfl⟩
        | _ => simp [biD] at h
      | _ => cases b <;> simp [biD] at h
    · cases a <;> cases b <;> simp [biD] at h) I vv e
  exact ⟨i, j, e1, q H S M I ExtE.refl _ (.inr ⟨by rw [e2]; rfl, by rw [e2]; exact .int _⟩)⟩
theorem k_divmod : BiOk T .divmod (fun xs H Q => ∃ i j, xs = [.int i, .int j] ∧ CDiv i j ∧ ∀ p, H p = none → Q (.ref p) (upd H p (.tup [.int (i / j), .int (i % j)]))) := by
  intro st σ H S M ds vs d Q I vv e q
  simp only [biD] at e
  unfold divmodD at e
  split at e
  · split at e
    · rename_i h
      cases e
      obtain ⟨v, w, ev, h1, h2⟩ := v2 vv
      refine ⟨_, _, by rw [ev, h1.int I, h2.int I], h, fun p hp => q _ _ _ (I.laid hp) (ExtE.laid I hp) _ (.inr ⟨rfl, Rep.newT I hp (.cons (.int _) (.cons (.int _) .nil))⟩)⟩
    · cases e
  · cases e

/-! ### isinstance -/
def tyName : Ty → String
  | .tup => "tuple"
  | .lst => "list"
  | .int => "int"
  | .bool => "bool"
  | .str => "str"
  | .dict => "dict"
theorem ty_of {b : Bool} {st : SS} {σ : L2.St} {H S : Hp} {M : Ms} {x : V} {d : D} {ty : Ty} {c : Bool} (I : RI T.toSta st σ H S M) (vx : VR T b st.env σ M S d x) (e : isiD ty d = some c) : (∃ n, TyX T.K H x (.type n) ∧ PySem.W.kitOne T.K (.type n) (.type (tyName ty)) = some c) ∨ ∃ a o kvs, x = .ref a ∧ H a = some (.frz o (.dT kvs)) ∧ PySem.W.kitOne T.K (.type "dict") (.type (tyName ty)) = some c := by
  cases d with
  | non =>
    rw [vx.non I]
    refine .inl ⟨_, .base .non, ?_⟩
    cases ty <;> cases e <;> rfl
  | bl k =>
    rw [vx.bl I]
    refine .inl ⟨_, .base (.bl k), ?_⟩
    cases ty <;> cases e <;> rfl
  | int i =>
    rw [vx.int I]
    refine .inl ⟨_, .base (.int i), ?_⟩
    cases ty <;> cases e <;> rfl
  | str i =>
    rw [vx.str I]
    refine .inl ⟨_, .base (.str i), ?_⟩
    cases ty <;> cases e <;> rfl
  | tup ds =>
    obtain ⟨a, us, ea, _, ha, r⟩ := vx.tup I
    rw [ea]
    refine .inl ⟨_, .base (.tup ha), ?_⟩
    cases ty <;> cases e <;> rfl
  | kt ds =>
    obtain ⟨a, us, ea, ha, r⟩ := vx.kt I
    rw [ea]
    rcases ha with (ha | ⟨o, ha⟩) | ⟨o, its, n, h1, h2, _⟩
    · refine .inl ⟨_, .base (.tup ha), ?_⟩
      cases ty <;> cases e <;> rfl
    · refine .inl ⟨_, .fTuple ha, ?_⟩
      cases ty <;> cases e <;> rfl
    · refine .inl ⟨_, .kTuple h1 h2, ?_⟩
      cases ty <;> cases e <;> rfl
  | lst ds =>
    obtain ⟨a, us, ea, ha, r⟩ := vx.lst I
    rw [ea]
    refine .inl ⟨_, .base (.lst ha), ?_⟩
    cases ty <;> cases e <;> rfl
  | dK ks ds =>
    obtain ⟨a, us, ea, ha, hl, r⟩ := vx.dK I
    rw [ea]
    refine .inl ⟨_, .base (.dK ha), ?_⟩
    cases ty <;> cases e <;> rfl
  | dT ks ds =>
    obtain ⟨a, us, ea, ha, hl, r⟩ := vx.dT I
    rw [ea]
    rcases ha with ha | ⟨o, ha⟩
    · refine .inl ⟨_, .base (.dT ha), ?_⟩
      cases ty <;> cases e <;> rfl
    · refine .inr ⟨a, o, _, rfl, ha, ?_⟩
      cases ty <;> cases e <;> rfl
  | _ => cases ty <;> simp [isiD] at e
theorem call_isiF : CallR X (.builtin "isinstance") (fun xs H Q => ∃ a o kvs n b, xs = [.ref a, .ty n] ∧ H a = some (.frz o (.dT kvs)) ∧ PySem.W.kitOne X.K (.type "dict") (.type n) = some b ∧ Q (.bl b) H) := by
  intro pins s σ H xs us Q I r h
  obtain ⟨a, o, kvs, n, b, rfl, ha, e, q⟩ := h
  obtain ⟨u1, u2, rfl, r1, r2⟩ := vals2 r
  obtain rfl : u1 = Value.ref a := r1
  obtain rfl : u2 = Value.type n := r2
  obtain ⟨hs, hgd, hx, _⟩ := I.frzT ha
  exact PySem.W.kia_one PySem.W.kitx_dict I.kIn ⟨o, hgd, hx.1⟩ e (fun z => nomatch z) fun tk => ⟨.bl b, H, I.tok tk, rfl, q⟩
/-- isinstance(e, T) -/
theorem s_isi {x n : Str} {e : Expr} {ie : IE} {ty : Ty} {b : Bool} {p p2 pos : Pos} (hK : X.K = T.K) (hx : x = "isinstance") (hnm : bootBuiltins n = some (.type (tyName ty))) (hn : n ≠ "__name__") (hdb : (n == ("__debug__" : Str)) = false) (hg : Gl X x) (hm : X.mg x = none) (hg2 : Gl X n) (hm2 : X.mg n = none) (hs : notStar e = true) (ha : PE X e (tI T W cx true ie)) :
    PE X (.Call (.Name x p) [e, .Name n p2] [] pos) (tI T W cx b (.bi (.isi ty) (.cons ie .nil))) := by
  subst hx
  have hb : PE X (.Name n p2) (tC (.ty (tyName ty))) := pe_bltn hg2 hm2 hnm rfl hn hdb
  have hv : bootBuiltins "isinstance" = some (.builtin "isinstance") := by rfl
  have r := IL.CallR.or (call_isi (X := X)) call_isiF
  rw [hK] at r
  refine IL.PE.of (pe_callB r hg hm hv (pa_cons ha (pa_cons hb pa_nil rfl) (starEach_cons hs _ _)) (by decide) (by decide) (starEach_cons hs _ _) (plain_args _ pos X.env (by rfl))) fun σ H Q ⟨st, S, M, I, q⟩ => ?_
  simp only [ev, evs, R.bind] at q
  refine ⟨st, S, M, I, ?_⟩
  cases e1 : ev cx true ie st with
  | stuck =>
    rw [e1] at q
    exact q
  | exc x st1 =>
    rw [e1] at q
    exact q
  | ok d st1 =>
    rw [e1] at q
    intro H1 S1 M1 I1 x1 v vv
    simp only [biD] at q
    cases e2 : isiD ty d with
    | none =>
      rw [e2] at q
      exact False.elim q
    | some c =>
      rw [e2] at q
      rcases ty_of I1 vv e2 with ⟨n', h1, h2⟩ | ⟨a, o, kvs, h1, h2, h3⟩
      · exact .inl ⟨v, _, _, _, c, rfl, .ty _, h1, h2, q H1 S1 M1 I1 x1 _ (.inl (.bl c))⟩
      · exact .inr ⟨a, o, kvs, _, c, by rw [h1], h2, h3, q H1 S1 M1 I1 x1 _ (.inl (.bl c))⟩
end IL

set_option Elab.async false
set_option linter.all false
set_option maxRecDepth 100000
set_option maxHeartbeats 4000000
/-! IL13: statements that write. -/
namespace IL
open PySem L2
variable {T : Sta'} {X : Cx} {W W' : WX} {cx : ECx}
/-! ### the cell at a slot -/
section
variable {st : SS} {σ : L2.St} {H S : Hp} {M : Ms}
theorem tpu {a : Addr} {d : D} {o : HO} (co : CellO T.toSta M S d o) (tp : ∀ (a : Addr) (xs : List V), H a = some (.tup xs) → S a = some (.tup xs)) (b : Addr) (xs : List V) (h : upd H a o b = some (.tup xs)) : S b = some (.tup xs) := by
  by_cases hb : b = a
  · rw [hb, upd_same] at h
    exact absurd (Option.some.inj h) (co.nt xs)
  · rw [upd_ne hb] at h
    exact tp b xs h
/-- the address of the cell that upCell writes -/
theorem upCell_ok {x : Nat} {f : D → Option D} {st' : SS} (I : RI T.toSta st σ H S M) (e : upCell x f st = .ok () st') :
    ∃ a o c d', σ[x]? = some (some (.ref a)) ∧ lookCell x st = some c ∧ f c = some d' ∧ H a = some o ∧ CellO T.toSta M S c o ∧ S a = none ∧
      ∀ o', CellO T.toSta M S d' o' → RI T.toSta st' σ (upd H a o') S M ∧ Ext st.env σ H S M st'.env σ (upd H a o') S M := by
  unfold upCell at e
  split at e
  · rename_i d hd
    split at e
    · rename_i d' hf
      simp only [R.ok.injEq, true_and] at e
      subst e
      obtain ⟨a, o, e1, e2, e3, e4, e5⟩ := I.own x d hd
      have hx : x < st.env.length := (List.getElem?_eq_some_iff.mp hd).1
      refine ⟨a, o, d, d', e1, by unfold lookCell; rw [hd], hf, e2, e3, e4, fun o' co => ?_⟩
      have old : ∀ (j : Nat) (y : Option B), j ≠ x → (st.env.set x (some (.own d')))[j]? = some y → st.env[j]? = some y := fun j y hj h => by
        rw [List.getElem?_set_ne (Ne.symm hj)] at h
        exact h
      have now : (st.env.set x (some (B.own d')))[x]? = some (some (.own d')) := List.getElem?_set_self hx
      have ow : ∀ (j : Nat) (g : D), (st.env.set x (some (B.own d')))[j]? = some (some (.own g)) → ∃ g', st.env[j]? = some (some (.own g')) := fun j g h => by
        by_cases hj : j = x
        · exact ⟨d, by rw [hj]; exact hd⟩
        · exact ⟨g, old j _ hj h⟩
      refine ⟨⟨fun b u h => ?_, fun j g h => ?_, fun j g h => ?_, fun j k g g' b h1 h2 h3 h4 => ?_, fun n ao h => ?_, I.mlen, I.mnd, fun b xs h => tpu co I.tp b xs h, by simpa using I.elen⟩, ⟨Same.refl S, fun b h => .inl h, fun b u h hm ho => ?_, fun b h => ?_, ⟨[], by simp, fun _ z => by simp at z⟩, fun b h => ?_⟩⟩
      · rw [upd_ne fun z => by rw [z, e4] at h; cases h]
        exact I.sub b u h
      · by_cases hj : j = x
        · subst hj
          rw [show (st.env.set j (some (B.own d')))[j]? = some (some (.own d')) from now] at h
          cases h
        · exact I.fro j g (old j _ hj h)
      · by_cases hj : j = x
        · subst hj
          rw [show (st.env.set j (some (B.own d')))[j]? = some (some (.own d')) from now] at h
          cases h
          exact ⟨a, o', e1, upd_same, co, e4, e5⟩
        · obtain ⟨b, u, q1, q2, q3, q4, q5⟩ := I.own j g (old j _ hj h)
          refine ⟨b, u, q1, ?_, q3, q4, q5⟩
          rw [upd_ne fun z => hj (I.sep j x g d a (old j _ hj h) hd (by rw [← z]; exact q1) e1)]
          exact q2
      · obtain ⟨g1, h1⟩ := ow j g h1
        obtain ⟨g2, h2⟩ := ow k g' h2
        exact I.sep j k g1 g2 b h1 h2 h3 h4
      · obtain ⟨b, u, q1, q2, q3, q4⟩ := I.obj n ao h
        refine ⟨b, u, q1, ?_, q3, q4⟩
        rw [upd_ne fun z => e5 (by rw [← z]; exact List.mem_of_getElem? q1)]
        exact q2
      · rw [upd_ne fun z => ho ⟨x, d, hd, by rw [z]; exact e1⟩]
        exact h
      · obtain ⟨j, g, h1, h2⟩ := h
        obtain ⟨g1, h1⟩ := ow j g h1
        exact .inl ⟨j, g1, h1, h2⟩
      · by_cases hb : b = a
        · rw [hb, upd_same]
          exact fun z => nomatch z
        · rw [upd_ne hb]
          exact h
    · cases e
  · rename_i n hd
    split at e
    · rename_i ds hA
      split at e
      · rename_i ds' hf
        simp only [R.ok.injEq, true_and] at e
        subst e
        obtain ⟨v, e1, rv⟩ := I.fro x _ hd
        cases rv with
        | obj hM =>
          rename_i a
          obtain ⟨a', o, q1, q2, q3, q4⟩ := I.obj n _ hA
          rw [hM] at q1
          cases q1
          have hn : n < st.A.length := (List.getElem?_eq_some_iff.mp hA).1
          have haM : a ∈ M := List.mem_of_getElem? hM
          cases q3 with
          | ls rp =>
            refine ⟨a, _, .lst ds, .lst ds', e1, by unfold lookCell; rw [hd]; simp only [hA], hf, q2, .lst rp, q4, fun o' co => ?_⟩
            cases co with
            | lst rp' =>
              have nd := I.mnd
              refine ⟨⟨fun b u h => ?_, I.fro, fun j g h => ?_, I.sep, fun m ao h => ?_, by simpa using I.mlen, I.mnd, fun b xs h => tpu (.lst rp') I.tp b xs h, I.elen⟩, ⟨Same.refl S, fun b h => .inl h, fun b u h hm ho => ?_, fun b h => .inl h, ⟨[], by simp, fun _ z => by simp at z⟩, fun b h => ?_⟩⟩
              · rw [upd_ne fun z => by rw [z, q4] at h; cases h]
                exact I.sub b u h
              · obtain ⟨b, u, p1, p2, p3, p4, p5⟩ := I.own j g h
                refine ⟨b, u, p1, ?_, p3, p4, p5⟩
                rw [upd_ne fun z => p5 (by rw [z]; exact haM)]
                exact p2
              · by_cases hm : m = n
                · subst hm
                  rw [List.getElem?_set_self hn] at h
                  cases h
                  exact ⟨a, _, hM, upd_same, .ls rp', q4⟩
                · rw [List.getElem?_set_ne (Ne.symm hm)] at h
                  obtain ⟨b, u, p1, p2, p3, p4⟩ := I.obj m ao h
                  refine ⟨b, u, p1, ?_, p3, p4⟩
                  rw [upd_ne fun z => hm ?_]
                  · exact p2
                  · rw [z] at p1
                    obtain ⟨l1, g1⟩ := List.getElem?_eq_some_iff.mp p1
                    obtain ⟨l2, g2⟩ := List.getElem?_eq_some_iff.mp hM
                    exact (List.getElem_inj nd).mp (g1.trans g2.symm)
              · rw [upd_ne fun z => hm (by rw [z]; exact haM)]
                exact h
              · by_cases hb : b = a
                · rw [hb, upd_same]
                  exact fun z => nomatch z
                · rw [upd_ne hb]
                  exact h
      · cases e
    · cases e
  · cases e
end
theorem PSet.or {t t' : TSet} (h : PSet X t) (h' : PSet X t') : PSet X (fun o i v H Q => t o i v H Q ∨ t' o i v H Q) := by
  intro pins s σ H o i v ov iv u Q I r1 r2 r3 q
  rcases q with q | q
  · exact h pins s σ H o i v ov iv u Q I r1 r2 r3 q
  · exact h' pins s σ H o i v ov iv u Q I r1 r2 r3 q
def rSet : TSet := fun o i v H Q => rSetL o i v H Q ∨ rSetD o i v H Q
theorem set_any (hu : X.A.units + 1 < cLine) : PSet X rSet := IL.PSet.or set_list (set_dict hu)
section
variable {st : SS} {σ : L2.St} {H S : Hp} {M : Ms}
/-- o[i] = v written into the cell of a slot -/
theorem set_ok {x : Nat} {b : Bool} {di dv : D} {vi v : V} {st' : SS} (I : RI T.toSta st σ H S M) (vx : VR T b st.env σ M S di vi) (rv : Rep T.toSta M S dv v) (e : upCell x (fun c => setD c di dv) st = .ok () st') :
    ∃ a, σ[x]? = some (some (.ref a)) ∧ ∀ Q : Hp → Prop, (∀ H', RI T.toSta st' σ H' S M → Ext st.env σ H S M st'.env σ H' S M → Q H') → rSet (.ref a) vi v H Q := by
  obtain ⟨a, o, c, d', e1, e2, e3, e4, e5, e6, e7⟩ := upCell_ok I e
  refine ⟨a, e1, fun Q k => ?_⟩
  unfold setD at e3
  split at e3
  · obtain ⟨j, hj, ed⟩ := Option.map_eq_some_iff.mp e3
    subst ed
    cases e5 with
    | lst rp =>
      obtain ⟨z1, z2⟩ := e7 _ (.lst (rp.set rv j))
      refine .inl ⟨a, _, _, j, rfl, vx.int I, e4, by rw [← rp.length]; exact hj, k _ z1 z2⟩
  · split at e3
    · rename_i kk hk
      split at e3
      · rename_i hz
        cases e3
        cases e5 with
        | dT hl rp =>
          obtain ⟨us, p1, p2, p3⟩ := putK_ok rv (k := kk) rp hl
          obtain ⟨z1, z2⟩ := e7 _ (.dT p2 p3)
          cases di with
          | tup es =>
            simp only [tkeyD] at hk
            obtain ⟨b, vs, ea, _, hb, rb⟩ := vx.tup I
            have ev := keysD_ok rb hk
            subst ev
            rw [ea]
            refine .inr ⟨a, _, rfl, DPut.t e4 hb ?_, k _ (by rw [p1]; exact z1) (by rw [p1]; exact z2)⟩
            rw [List.length_zip]
            omega
          | _ => simp [tkeyD] at hk
      · cases e3
    · cases e3
  · split at e3
    · rename_i kk hk
      split at e3
      · rename_i hz
        cases e3
        cases e5 with
        | dK hl rp =>
          obtain ⟨us, p1, p2, p3⟩ := putK_ok rv (k := kk) rp hl
          obtain ⟨z1, z2⟩ := e7 _ (.dK p2 p3)
          have hd : isCellD di = false := by cases di <;> first | rfl | simp [keyD] at hk
          have ex := keyD_ok (vx.rep_of I hd) hk
          rw [ex]
          refine .inr ⟨a, _, rfl, .inl ⟨_, kk, e4, rfl, ?_, rfl⟩, k _ (by rw [p1]; exact z1) (by rw [p1]; exact z2)⟩
          rw [List.length_zip]
          omega
      · cases e3
    · cases e3
  · cases e3
end
/-- behind a statement -/
theorem PostS.bindU {α β : Type} {r : R α} {f : α → SS → R β} {σ : L2.St} {env : Env'} {H S : Hp} {M : Ms} {P : β → SS → L2.St → Hp → Hp → Ms → Prop} (h : PostS T W σ env H S M (r.bind f) P) (hr : ∀ x st', r ≠ .exc x st') : ∃ a st', r = .ok a st' ∧ PostS T W σ env H S M (f a st') P := by
  cases r with
  | ok a st' => exact ⟨a, st', rfl, h⟩
  | exc x st' => exact absurd rfl (hr x st')
  | stuck => exact False.elim h
theorem upCell_noexc {x : Nat} {f : D → Option D} {st : SS} : ∀ y st', upCell x f st ≠ .exc y st' := by
  intro y st' h
  unfold upCell at h
  split at h
  · split at h <;> cases h
  · split at h
    · split at h <;> cases h
    · cases h
  · cases h
theorem PostS.after {α : Type} {r : R α} {σ σ1 : L2.St} {env env1 : Env'} {H S H1 S1 : Hp} {M M1 : Ms} {P : α → SS → L2.St → Hp → Hp → Ms → Prop} (h : PostS T W σ env H S M r P) (x : Ext env σ H S M env1 σ1 H1 S1 M1) : PostS T W σ1 env1 H1 S1 M1 r P := by
  cases r with
  | ok a st' => exact fun σ2 H2 S2 M2 I2 x2 => h σ2 H2 S2 M2 I2 (x.trans x2)
  | exc y st' => exact fun cls dd σ2 H2 S2 M2 I2 x2 => h cls dd σ2 H2 S2 M2 I2 (x.trans x2)
  | stuck => exact h
theorem look_slot {st : SS} {σ : L2.St} {H S : Hp} {M : Ms} (I : RI T.toSta st σ H S M) {x : Nat} {c : D} (e : lookCell x st = some c) : ∃ w, σ[x]? = some (some w) := by
  unfold lookCell at e
  split at e
  · rename_i d h
    obtain ⟨a, o, h1, _⟩ := I.own x d h
    exact ⟨_, h1⟩
  · rename_i n h
    obtain ⟨v, h1, _⟩ := I.fro x _ h
    exact ⟨_, h1⟩
  · cases e
/-- x[i] = e -/
theorem s_asgS {x : Str} {n : Nat} {i e : Expr} {ii ie : IE} {p tpos pos : Pos} (hu : X.A.units + 1 < cLine) (hN : X.N[n]? = some x) (hv : Vis X.env.scope x) (hd : (x == ("__debug__" : Str)) = false) (hcd : (x == ("__classdict__" : Str)) = false) (hi : PE X i (tI T W cx true ii)) (he : PE X e (tI T W cx false ie))
    (hs : swapsWithSole [.Subscript (.Name x p) i tpos] e pos.line X.env = pure false) (hw : swappedStores [.Subscript (.Name x p) i tpos] e X.env = pure none)
    (ha : ∀ v, assign (.Subscript (.Name x p) i tpos) X.env v = (do
      let ov ← holding [v] (eval (.Name x p) X.env)
      let iv ← holding [v, ov] (eval i X.env)
      standAt tpos
      holding [v, ov, iv] (setItem ov iv v)
      release [v, ov, iv] [])) : PS X (.Assign [.Subscript (.Name x p) i tpos] e pos) (tSt T W cx (.asgS n ii ie)) := by
  refine IL.PS.of (ps_asg he (pg_sub (pe_var hN hv hd hcd) hi (set_any hu) ha) hs hw rfl) fun D σ H ⟨st, S, M, I, q⟩ => ?_
  simp only [evS] at q
  refine ⟨st, S, M, I, q.bindE.mono fun d st1 H1 S1 M1 I1 x1 q1 v rv => ?_⟩
  cases el : lookCell n st1 with
  | none =>
    rw [el] at q1
    exact q1.elim
  | some c =>
    rw [el] at q1
    obtain ⟨w, ew⟩ := look_slot I1 el
    refine ⟨w, ew, st1, S1, M1, I1, q1.bindE.mono fun di st2 H2 S2 M2 I2 x2 q2 y vy => ?_⟩
    obtain ⟨u, st3, eu, q3⟩ := q2.bindU upCell_noexc
    obtain ⟨a, ea, k⟩ := set_ok I2 vy (rv.rep.mono x2.x.ss x2.x.pre) eu
    rw [ew] at ea
    cases ea
    exact k _ fun H' I' x' => q3 σ H' S2 M2 I' x'
/-! ### x.append(e), x.insert(i, e) -/
theorem look_lst {st : SS} {σ : L2.St} {H S : Hp} {M : Ms} (I : RI T.toSta st σ H S M) {x : Nat} {ds : List D} (e : lookCell x st = some (.lst ds)) : ∃ a vs, σ[x]? = some (some (.ref a)) ∧ H a = some (.lst vs) := by
  unfold lookCell at e
  split at e
  · rename_i d h
    cases e
    obtain ⟨a, o, h1, h2, h3, _⟩ := I.own x _ h
    cases h3 with
    | lst r => exact ⟨a, _, h1, h2⟩
  · rename_i n h
    obtain ⟨v, h1, h2⟩ := I.fro x _ h
    split at e
    · rename_i ds' hA
      cases h2 with
      | obj hM =>
        obtain ⟨a', o, q1, q2, q3, q4⟩ := I.obj n _ hA
        rw [hM] at q1
        cases q1
        cases q3 with
        | ls r => exact ⟨_, _, h1, q2⟩
    · cases e
  · cases e
theorem s_app {x : Str} {n : Nat} {e : Expr} {ie : IE} {p apos cpos pos : Pos} (hN : X.N[n]? = some x) (hv : Vis X.env.scope x) (hd : (x == ("__debug__" : Str)) = false) (hcd : (x == ("__classdict__" : Str)) = false) (he : PE X e (tI T W cx false ie)) (hs : notStar e = true) (hline : (apos.endLine == cpos.line) = true) :
    PS X (.Expr (.Call (.Attribute (.Name x p) "append" apos) [e] [] cpos) pos) (tSt T W cx (.app n ie)) := by
  refine IL.PS.of (ps_expr (pe_bm F.plainAttrs_list F.slot_list_append (by first | exact F.type_list_append | rfl) (mt_append (X := X)) (pe_var hN hv hd hcd) (one_arg hs he) rfl (by rw [starEach_cons hs]; rfl) hline (starEach_cons hs _ _) rfl) rfl) fun D σ H ⟨st, S, M, I, q⟩ => ?_
  simp only [evS] at q
  split at q
  · rename_i ds el
    obtain ⟨a, vs, ea, hH⟩ := look_lst I el
    refine ⟨.ref a, ea, ?_, tAs_one I (q.bindE.mono fun d st1 H1 S1 M1 I1 x1 q1 v vv => ?_)⟩
    · exact .inl ⟨rfl, vs, .of hH⟩
    obtain ⟨u, st3, eu, q3⟩ := q1.bindU upCell_noexc
    obtain ⟨a', o, c, d', e1, e2, e3, e4, e5, e6, e7⟩ := upCell_ok I1 eu
    rw [ea] at e1
    cases e1
    unfold appD at e3
    split at e3
    · split at e3
      · rename_i hz
        cases e3
        cases e5 with
        | lst rp =>
          obtain ⟨z1, z2⟩ := e7 _ (.lst (rp.append (.cons vv.rep .nil)))
          exact ⟨a, _, v, rfl, rfl, e4, by rw [← rp.length]; exact hz, q3 σ _ S1 M1 z1 z2⟩
      · cases e3
    · cases e3
  · exact q.elim
theorem pairS {α β γ : Type} {r : IL.R α} {s : α → SS → IL.R β} {f : α → β → SS → IL.R γ} {σ : L2.St} {env : Env'} {H S : Hp} {M : Ms} {P : γ → SS → L2.St → Hp → Hp → Ms → Prop} (q : PostS T W σ env H S M (r.bind fun a st1 => (s a st1).bind fun b st2 => f a b st2) P) :
    PostS T W σ env H S M ((r.bind fun a st1 => (s a st1).bind fun b st2 => IL.R.ok (a, b) st2).bind fun p st2 => f p.1 p.2 st2) P := by
  cases r with
  | stuck => exact q
  | exc x st => exact q
  | ok a st1 =>
    show PostS T W σ env H S M (((s a st1).bind fun b st2 => IL.R.ok (a, b) st2).bind fun p st2 => f p.1 p.2 st2) P
    have q' : PostS T W σ env H S M ((s a st1).bind fun b st2 => f a b st2) P := q
    generalize s a st1 = g at q'
    cases g with
    | stuck => exact q'
    | exc x st => exact q'
    | ok b st2 => exact q'
theorem s_ins {x : Str} {n : Nat} {i e : Expr} {ii ie : IE} {p apos cpos pos : Pos} (hN : X.N[n]? = some x) (hv : Vis X.env.scope x) (hd : (x == ("__debug__" : Str)) = false) (hcd : (x == ("__classdict__" : Str)) = false) (hi : PE X i (tI T W cx false ii)) (he : PE X e (tI T W cx false ie)) (hs : notStar i = true) (hs2 : notStar e = true) (hline : (apos.endLine == cpos.line) = true) :
    PS X (.Expr (.Call (.Attribute (.Name x p) "insert" apos) [i, e] [] cpos) pos) (tSt T W cx (.ins n ii ie)) := by
  refine IL.PS.of (ps_expr (pe_bm F.plainAttrs_list F.slot_list_insert (by first | exact F.type_list_insert | rfl) (mt_insert (X := X)) (pe_var hN hv hd hcd) (two_args hs hs2 hi he) rfl (by rw [starEach_cons hs, starEach_cons hs2]; rfl) hline (starEach_cons hs _ _) (plain_args _ _ _ (by simp [hs2]))) rfl) fun D σ H ⟨st, S, M, I, q⟩ => ?_
  simp only [evS] at q
  split at q
  · rename_i ds el
    obtain ⟨a, vs, ea, hH⟩ := look_lst I el
    refine ⟨.ref a, ea, .inl ⟨rfl, vs, .of hH⟩, ?_⟩
    have q' := (pairS q).bindE
    refine tAs_two I (q'.mono fun pr st1 H1 S1 M1 I1 x1 q1 v w vv vw => ?_)
    obtain ⟨di, d⟩ := pr
    cases di with
    | int k =>
      obtain ⟨u, st3, eu, q3⟩ := q1.bindU upCell_noexc
      obtain ⟨a', o, c, d', e1, e2, e3, e4, e5, e6, e7⟩ := upCell_ok I1 eu
      rw [ea] at e1
      cases e1
      unfold insD at e3
      split at e3
      · split at e3
        · rename_i hz
          cases e3
          cases e5 with
          | lst rp =>
            obtain ⟨z1, z2⟩ := e7 _ (.lst ((rp.take k.toNat).append (.cons vw.rep (rp.drop k.toNat))))
            have hl := line63
            have hln := rp.length
            refine ⟨a, _, k, w, rfl, by rw [vv.int I1], e4, by omega, hz.1, by omega, ?_⟩
            rw [List.append_assoc]
            exact q3 σ _ S1 M1 z1 z2
        · cases e3
      · cases e3
    | _ => exact q1.elim
  · exact q.elim
/-! ### a op= b -/
def rAug : Op2 → R2
  | .add => rI0 fun i j => .int (i + j)
  | .sub => rI0 fun i j => .int (i - j)
  | .mul => rI CMul fun i j => .int (i * j)
  | _ => fun _ _ _ _ => False
theorem ip_aug : ∀ o : Op2, PIp X (pyOp o) (rAug o)
  | .add => iop_add
  | .sub => fun pins s σ H x y v u Q I r1 r2 h => ip_sub pins s σ H x y v u Q I r1 r2 h
  | .mul => iop_mul
  | .fdiv => fun _ _ _ _ _ _ _ _ _ _ _ _ h => h.elim
  | .mod => fun _ _ _ _ _ _ _ _ _ _ _ _ h => h.elim
  | .pow => fun _ _ _ _ _ _ _ _ _ _ _ _ h => h.elim
theorem aug_ok {b b' : Bool} {st : SS} {σ : L2.St} {H S : Hp} {M : Ms} {o : Op2} {x y : V} {dx dy d : D} {Q : VK} (I : RI T.toSta st σ H S M) (vx : VR T b st.env σ M S dx x) (vy : VR T b' st.env σ M S dy y) (e : augD o dx dy = some d) (q : ∀ i, d = .int i → Q (.int i) H) : rAug o x y H Q := by
  unfold augD at e
  split at e
  · cases e
    exact ⟨_, _, vx.int I, vy.int I, q _ rfl⟩
  · cases e
    exact ⟨_, _, vx.int I, vy.int I, q _ rfl⟩
  · split at e
    · rename_i h
      cases e
      refine ⟨_, _, vx.int I, vy.int I, ?_, q _ rfl⟩
      unfold CMul
      simp only [Bool.or_eq_true, smallI, Bool.and_eq_true, decide_eq_true_eq] at h
      exact h
    · cases e
  · cases e
theorem augD_int {o : Op2} {dx dy d : D} (e : augD o dx dy = some d) : ∃ i, d = .int i := by
  unfold augD at e
  split at e
  · cases e
    exact ⟨_, rfl⟩
  · cases e
    exact ⟨_, rfl⟩
  · split at e
    · cases e
      exact ⟨_, rfl⟩
    · cases e
  · cases e
theorem s_aug {x : Str} {n : Nat} {o : Op2} {e : Expr} {ie : IE} {p pos : Pos} (hN : X.N.Nodup) (hi : X.N[n]? = some x) (hx : Loc X.env.scope x) (hf : X.fn x = true ∨ X.env.scope.names.lookup x = some .local) (he : PE X e (tI T W cx true ie)) :
    PS X (.AugAssign (.Name x p) (pyOp o) e pos) (tSt T W cx (.aug n o ie)) := by
  refine IL.PS.of (ps_aug hN hi hx he (ip_aug o) hf) fun D σ H ⟨st, S, M, I, q⟩ => ?_
  simp only [evS] at q
  split at q
  · rename_i d hd
    obtain ⟨v, h1, h2⟩ := I.fro n d hd
    refine ⟨v, h1, st, S, M, I, q.bindE.mono fun de st1 H1 S1 M1 I1 x1 q1 y vy => ?_⟩
    cases e1 : augD o d de with
    | none =>
      rw [e1] at q1
      exact q1.elim
    | some d' =>
      rw [e1] at q1
      obtain ⟨i', ei⟩ := augD_int e1
      have rd : VR T true st1.env σ M1 S1 d v := .inl (h2.mono x1.x.ss x1.x.pre)
      have hl : n < st1.env.length := by
        have : n < st.env.length := (List.getElem?_eq_some_iff.mp hd).1
        rw [I1.elen, ← I.elen]
        exact this
      refine aug_ok I1 rd vy e1 fun i ei' => ?_
      have rep : Rep T.toSta M1 S1 d' (.int i) := by rw [ei']; exact .int i
      exact q1 _ H1 S1 M1 (I1.set hl rep) (Ext.frame fun a => own_set hl)
  · exact q.elim
/-! ### o[i] op= e -/
theorem get_list' : PGet X (rIxL X.K) := by
  intro pins s σ H x y v u Q I rx ry h
  obtain ⟨p, xs, i, z, rfl, rfl, hq, he, q⟩ := h
  cases rx
  obtain ⟨t, rfl⟩ := ry
  obtain ⟨its, r, pl, hz⟩ := I.list hq
  obtain ⟨j, h1, h2, h3, h4, h5⟩ := atI_get he
  obtain ⟨w, ew, rw'⟩ := r.get h2
  have hl := r.length
  have hn := line63
  have fin : EP X pins σ Q w s := ⟨z, H, I, rw', q⟩
  by_cases h0 : 0 ≤ i
  · have hj : i.toNat = j := by
      rw [seqIndex_of h0 h5] at h1
      exact Option.some.inj h1
    refine wpAny_getItem_list pl.isList h0 (by omega) (by rw [hj]; simpa using ew) fin
  · have hj : (i + (its.toArray.size : Int)).toNat = j := by
      rw [seqIndex_neg (by omega) h4] at h1
      rw [List.size_toArray, ← hl]
      exact Option.some.inj h1
    refine wpAny_getItem_list_neg pl.isList (by omega) (by rw [List.size_toArray]; omega) (by omega) (by rw [hj]; simpa using ew) fin
theorem get_dict' (hu : X.A.units + 1 < cLine) : PGet X rIxDict := by
  intro pins s σ H x y v u Q I rx ry h
  obtain ⟨a, r, rfl, g, q⟩ := h
  obtain rfl : v = Value.ref a := rx
  exact d_getItem hu I g ry fun w' s' I' rw' => ⟨r, H, I', rw', q⟩
theorem PGet.or {t t' : V → V → Hp → VK → Prop} (h : PGet X t) (h' : PGet X t') : PGet X (fun o i H Q => t o i H Q ∨ t' o i H Q) := by
  intro pins s σ H o i ov iv Q I r1 r2 q
  rcases q with q | q
  · exact h pins s σ H o i ov iv Q I r1 r2 q
  · exact h' pins s σ H o i ov iv Q I r1 r2 q
/-- what the cell at a slot holds, as a value -/
theorem look_vr {st : SS} {σ : L2.St} {H S : Hp} {M : Ms} (I : RI T.toSta st σ H S M) {x : Nat} {c : D} {st' : SS} {f : D → Option D} (e : lookCell x st = some c) (a : Addr) (ea : σ[x]? = some (some (.ref a))) {di d : D} {b : Bool} {vi : V} (vy : VR T b st.env σ M S di vi) (ed : subD c di = some d) {Q : VK} (hk : isCellD c = true)
    (q : ∀ v, Rep T.toSta M S d v → Q v H) : rIxL T.K (.ref a) vi H Q ∨ rIxDict (.ref a) vi H Q := by
  have key : ∃ o, H a = some o ∧ CellO T.toSta M S c o := by
    unfold lookCell at e
    split at e
    · rename_i d h
      cases e
      obtain ⟨a', o, h1, h2, h3, _⟩ := I.own x _ h
      rw [ea] at h1
      cases h1
      exact ⟨o, h2, h3⟩
    · rename_i n h
      obtain ⟨v, h1, h2⟩ := I.fro x _ h
      rw [ea] at h1
      cases h1
      split at e
      · rename_i ds' hA
        cases e
        cases h2 with
        | obj hM =>
          obtain ⟨a', o, q1, q2, q3, q4⟩ := I.obj n _ hA
          rw [hM] at q1
          cases q1
          cases q3 with
          | ls r => exact ⟨_, q2, .lst r⟩
      · cases e
    · cases e
  obtain ⟨o, hH, co⟩ := key
  cases co with
  | lst rp =>
    cases di with
    | int i =>
      simp only [subD] at ed
      obtain ⟨v, h1, h2⟩ := atD_ok rp ed
      exact .inl ⟨a, _, _, v, rfl, vy.int I, .of hH, h1, q v h2⟩
    | _ => simp [subD] at ed
  | dK hl rp =>
    simp only [subD] at ed
    split at ed
    · rename_i k hk'
      have hd : isCellD di = false := by cases di <;> first | rfl | simp [keyD] at hk'
      have ex := keyD_ok (vy.rep_of I hd) hk'
      rcases findK_ok (k := k) rp hl with ⟨z1, _⟩ | ⟨d', v, z1, z2, z3⟩
      · rw [z1] at ed
        cases ed
      · rw [z1] at ed
        cases ed
        have g := DGet.k (k := k) hH
        rw [z2, ← ex] at g
        exact .inr ⟨a, v, rfl, g, q v z3⟩
    · cases ed
  | dT hl rp =>
    simp only [subD] at ed
    split at ed
    · rename_i k hk'
      cases di with
      | tup es =>
        simp only [tkeyD] at hk'
        obtain ⟨b', us, eb, _, hb, rb⟩ := vy.tup I
        have ev := keysD_ok rb hk'
        subst ev
        rcases findK_ok (k := k) rp hl with ⟨z1, _⟩ | ⟨d', v, z1, z2, z3⟩
        · rw [z1] at ed
          cases ed
        · rw [z1] at ed
          cases ed
          have g := DGet.t (k := k) hH hb
          rw [z2, ← eb] at g
          exact .inr ⟨a, v, rfl, g, q v z3⟩
      | _ => simp [tkeyD] at hk'
    · cases ed
/-- x[i] op= e -/
theorem s_augS {x : Str} {n : Nat} {o : Op2} {i e : Expr} {ii ie : IE} {p tpos pos : Pos} (hK : X.K = T.K) (hu : X.A.units + 1 < cLine) (hN : X.N[n]? = some x) (hv : Vis X.env.scope x) (hd : (x == ("__debug__" : Str)) = false) (hcd : (x == ("__classdict__" : Str)) = false) (hi : PE X i (tI T W cx true ii)) (he : PE X e (tI T W cx true ie))
    (ha : ∀ ov iv new, augStore i ov iv new = (do holding [new, ov, iv] (setItem ov iv new); release [new, ov, iv] []; pure .next)) :
    PS X (.AugAssign (.Subscript (.Name x p) i tpos) (pyOp o) e pos) (tSt T W cx (.augS n ii o ie)) := by
  have rg := IL.PGet.or (get_list' (X := X)) (get_dict' hu)
  rw [hK] at rg
  refine IL.PS.of (ps_augS (pe_var hN hv hd hcd) hi rg he (ip_aug o) (set_any hu) ha) fun D σ H ⟨st, S, M, I, q⟩ => ?_
  simp only [evS] at q
  cases el : lookCell n st with
  | none =>
    rw [el] at q
    exact q.elim
  | some c =>
    rw [el] at q
    obtain ⟨w, ew⟩ := look_slot I el
    refine ⟨w, ew, st, S, M, I, q.bindE.mono fun di st1 H1 S1 M1 I1 x1 q1 y vy => ?_⟩
    cases e1 : (lookCell n st1).bind fun c => if isCellD c = true then subD c di else none with
    | none =>
      rw [e1] at q1
      exact q1.elim
    | some old =>
      rw [e1] at q1
      obtain ⟨c1, ec1, e2⟩ := Option.bind_eq_some_iff.mp e1
      split at e2
      case isFalse => cases e2
      rename_i hcell
      -- the slot holds a reference
      have hwa : ∃ a, w = .ref a := by
        obtain ⟨w', ew'⟩ := look_slot I1 ec1
        rw [ew] at ew'
        cases ew'
        unfold lookCell at ec1
        split at ec1
        · rename_i d h
          obtain ⟨a, o, h1, _⟩ := I1.own n d h
          rw [ew] at h1
          exact ⟨a, by cases h1; rfl⟩
        · rename_i m h
          obtain ⟨v, h1, h2⟩ := I1.fro n _ h
          rw [ew] at h1
          cases h1
          cases h2 with
          | obj _ => exact ⟨_, rfl⟩
        · cases ec1
      obtain ⟨a, ea⟩ := hwa
      subst ea
      refine look_vr (st' := st1) (f := some) I1 ec1 a ew vy e2 hcell fun vo ro => ⟨st1, S1, M1, I1, q1.bindE.mono fun de st2 H2 S2 M2 I2 x2 q2 z vz => ?_⟩
      cases e3 : augD o old de with
      | none =>
        rw [e3] at q2
        exact q2.elim
      | some d' =>
        rw [e3] at q2
        obtain ⟨i', ei⟩ := augD_int e3
        have ro2 : VR T true st2.env σ M2 S2 old vo := .inl (ro.mono x2.x.ss x2.x.pre)
        refine aug_ok I2 ro2 vz e3 fun j ej => ?_
        obtain ⟨u, st3, eu, q3⟩ := q2.bindU upCell_noexc
        have rep : Rep T.toSta M2 S2 d' (.int j) := by rw [ej]; exact .int j
        obtain ⟨a', ea', k⟩ := set_ok I2 (vy.mono x2 I2) rep eu
        rw [ew] at ea'
        cases ea'
        exact k _ fun H' I' x' => q3 σ H' S2 M2 I' x'
end IL

set_option Elab.async false
set_option linter.all false
set_option maxRecDepth 100000
set_option maxHeartbeats 4000000
/-! IL14: the other statements. -/
namespace IL
open PySem L2
variable {T : Sta'} {X : Cx} {W W' : WX} {cx : ECx}
theorem s_pass {pos : Pos} : PS X (.Pass pos) (tSt T W cx .pass) := IL.PS.of ps_pass fun D σ H ⟨st, S, M, I, q⟩ => by
  simp only [evS] at q
  exact q σ H S M I Ext.refl
theorem s_brk {pos : Pos} : PS X (.Break pos) (tSt T W cx .brk) := IL.PS.of ps_break fun D σ H ⟨st, S, M, I, q⟩ => by
  simp only [evS] at q
  exact q σ H S M I Ext.refl
theorem s_cont {pos : Pos} : PS X (.Continue pos) (tSt T W cx .cont) := IL.PS.of ps_continue fun D σ H ⟨st, S, M, I, q⟩ => by
  simp only [evS] at q
  exact q σ H S M I Ext.refl
theorem s_never {s : Stmt} : PS X s (tSt T W cx .stuck) := IL.PS.of ps_never fun D σ H ⟨st, S, M, I, q⟩ => by
  simp only [evS] at q
  exact q
theorem s_doc {x : Str} {j : Nat} {p pos : Pos} : PS X (.Expr (.Constant (.str x) j p) pos) (tSt T W cx .pass) := IL.PS.of ps_doc fun D σ H ⟨st, S, M, I, q⟩ => by
  simp only [evS] at q
  exact q σ H S M I Ext.refl
theorem s_ex {e : Expr} {ie : IE} {pos : Pos} (he : PE X e (tI T W cx true ie)) (hs : swapsWith e none pos.line X.env = pure false) : PS X (.Expr e pos) (tSt T W cx (.ex ie)) := by
  refine IL.PS.of (ps_expr he hs) fun D σ H ⟨st, S, M, I, q⟩ => ?_
  simp only [evS] at q
  exact ⟨st, S, M, I, q.bindE.mono fun d st1 H1 S1 M1 I1 x1 q1 v vv => q1 σ H1 S1 M1 I1 Ext.refl⟩
theorem s_ret {e : Expr} {ie : IE} {pos : Pos} (he : PE X e (tI T W cx false ie)) : PS X (.Return (some e) pos) (tSt T W cx (.ret ie)) := by
  refine IL.PS.of (ps_ret he) fun D σ H ⟨st, S, M, I, q⟩ => ?_
  simp only [evS] at q
  exact ⟨st, S, M, I, q.bindE.mono fun d st1 H1 S1 M1 I1 x1 q1 v vv => q1 σ H1 S1 M1 I1 Ext.refl v vv.rep⟩
theorem s_retN {pos : Pos} : PS X (.Return none pos) (tSt T W cx .retN) := IL.PS.of ps_retN fun D σ H ⟨st, S, M, I, q⟩ => by
  simp only [evS] at q
  exact q σ H S M I Ext.refl _ .non
/-- the reading of target = e -/
theorem asg_imp {t : Tg} {ie : IE} {D : Ends} {σ : L2.St} {H : Hp} (h : tSt T W cx (.asg t ie) D σ H) : tAsg (tI T W cx false ie) (tTg T t) D σ H := by
  obtain ⟨st, S, M, I, q⟩ := h
  simp only [evS] at q
  refine ⟨st, S, M, I, q.bindE.mono fun d st1 H1 S1 M1 I1 x1 q1 v vv => ?_⟩
  cases e : asgT t d st1.env with
  | none =>
    rw [e] at q1
    exact q1.elim
  | some env =>
    rw [e] at q1
    exact ⟨st1, S1, M1, d, env, I1, vv.rep, e, fun σ' I' x' _ => q1 σ' H1 S1 M1 I' x'⟩
theorem s_asg {tg e : Expr} {t : Tg} {ie : IE} {pos : Pos} (he : PE X e (tI T W cx false ie)) (hg : PG X tg (tTg T t)) (hs : swapsWithSole [tg] e pos.line X.env = pure false) (hw : swappedStores [tg] e X.env = pure none) (h1 : (assignEach [tg] X.env).map (·.2) = [assign tg X.env]) :
    PS X (.Assign [tg] e pos) (tSt T W cx (.asg t ie)) := IL.PS.of (ps_asg he hg hs hw h1) fun D σ H h => asg_imp h
/-- the reading of name = e, e's value no one's -/
theorem asgF_imp {i : Nat} {ie : IE} {D : Ends} {σ : L2.St} {H : Hp} (h : tSt T W cx (.asgF i ie) D σ H) : tAsg (tF T W cx ie) (gName i) D σ H := by
  obtain ⟨st, S, M, I, q⟩ := h
  simp only [evS] at q
  refine ⟨st, S, M, I, ?_⟩
  cases ee : ev cx false ie st with
  | stuck =>
    rw [ee] at q
    exact q
  | exc x st1 =>
    rw [ee] at q
    intro cls dd H1 S1 M1 I1 x1 xr
    exact q cls dd σ H1 S1 M1 I1 x1.x xr
  | ok d st1 =>
  rw [ee] at q
  simp only [R.bind] at q
  intro H1 S1 M1 I1 x1 v fv
  split at q
  case isFalse => exact q.elim
  rename_i hcl
  obtain ⟨hc, hl⟩ := hcl
  rcases fv with ⟨_, a, o, ev', e2, e3, e4, e5, e6⟩ | ⟨hn, _⟩
  case inr => rw [hc] at hn; cases hn
  subst ev'
  -- the new cell is no slot's
  have no : ¬ Own st1.env σ a := fun z => by
    rcases x1.x.ow a z with z | z
    · obtain ⟨⟨o', z', _⟩, _⟩ := I.ownH z
      rw [e2] at z'
      cases z'
    · obtain ⟨i, d', z1, z2⟩ := id ‹Own st1.env σ a›
      rcases x1.le i with q1 | ⟨d2, q1, q2⟩
      · have : Own st.env σ a := ⟨i, d', q1.symm.trans z1, z2⟩
        obtain ⟨⟨o', z', _⟩, _⟩ := I.ownH this
        rw [e2] at z'
        cases z'
      · rw [z1] at q2
        cases q2
  have hiσ : i < σ.length := by rw [← I1.elen]; exact hl
  have old : ∀ (j : Nat) (y : Option B), j ≠ i → (st1.env.set i (some (.own d)))[j]? = some y → st1.env[j]? = some y := fun j y hj h => by
    rw [List.getElem?_set_ne (Ne.symm hj)] at h
    exact h
  have now : (st1.env.set i (some (B.own d)))[i]? = some (some (.own d)) := List.getElem?_set_self hl
  have nowσ : (σ.set i (some (V.ref a)))[i]? = some (some (.ref a)) := List.getElem?_set_self hiσ
  have oldσ : ∀ (j : Nat), j ≠ i → (σ.set i (some (V.ref a)))[j]? = σ[j]? := fun j hj => List.getElem?_set_ne (Ne.symm hj)
  -- told as a step from ahead of the expression, where the cell was nothing
  have I2 : RI T.toSta { st1 with env := st1.env.set i (some (.own d)) } (σ.set i (some (.ref a))) H1 S1 M1 := by
    refine ⟨I1.sub, fun j g h => ?_, fun j g h => ?_, fun j k g g' b h1 h2 h3 h4 => ?_, I1.obj, I1.mlen, I1.mnd, I1.tp, by simp [I1.elen]⟩
    · by_cases hj : j = i
      · subst hj
        rw [show (st1.env.set j (some (B.own d)))[j]? = some (some (.own d)) from now] at h
        cases h
      · rw [oldσ j hj]
        exact I1.fro j g (old j _ hj h)
    · by_cases hj : j = i
      · subst hj
        rw [show (st1.env.set j (some (B.own d)))[j]? = some (some (.own d)) from now] at h
        cases h
        exact ⟨a, o, nowσ, e3, e6, e4, e5⟩
      · rw [oldσ j hj]
        exact I1.own j g (old j _ hj h)
    · by_cases hj : j = i
      · by_cases hk : k = i
        · rw [hj, hk]
        · subst hj
          rw [nowσ] at h3
          cases h3
          rw [oldσ k hk] at h4
          exact absurd ⟨k, g', old k _ hk h2, h4⟩ no
      · by_cases hk : k = i
        · subst hk
          rw [nowσ] at h4
          cases h4
          rw [oldσ j hj] at h3
          exact absurd ⟨j, g, old j _ hj h1, h3⟩ no
        · rw [oldσ j hj] at h3
          rw [oldσ k hk] at h4
          exact I1.sep j k g g' b (old j _ hj h1) (old k _ hk h2) h3 h4
  refine q (σ.set i (some (.ref a))) H1 S1 M1 I2 ⟨x1.x.ss, x1.x.sn, x1.x.fr, fun b h => ?_, x1.x.mm, x1.x.kp⟩
  obtain ⟨j, g, h1, h2⟩ := h
  by_cases hj : j = i
  · subst hj
    rw [nowσ] at h2
    cases h2
    exact .inr e2
  · rw [oldσ j hj] at h2
    exact x1.x.ow b ⟨j, g, old j _ hj h1, h2⟩
theorem s_asgF {x : Str} {i : Nat} {e : Expr} {ie : IE} {p pos : Pos} (hN : X.N.Nodup) (hi : X.N[i]? = some x) (hx : Loc X.env.scope x) (hf : X.fn x = true ∨ X.env.scope.names.lookup x = some .local) (he : PE X e (tF T W cx ie)) (hs : swapsWith e (some (.Name x p)) pos.line X.env = pure false) :
    PS X (.Assign [.Name x p] e pos) (tSt T W cx (.asgF i ie)) := IL.PS.of (ps_set hN hi hx he hs hf) fun D σ H h => asgF_imp h
theorem set2 {st : SS} {σ : L2.St} {H S : Hp} {M : Ms} (I : RI T.toSta st σ H S M) {i j : Nat} {d e : D} {v w : V} (hi : i < st.env.length) (hj : j < st.env.length) (r : Rep T.toSta M S d v) (r2 : Rep T.toSta M S e w) :
    RI T.toSta { st with env := (st.env.set i (some (.fro d))).set j (some (.fro e)) } ((σ.set i (some v)).set j (some w)) H S M ∧ Ext st.env σ H S M ((st.env.set i (some (.fro d))).set j (some (.fro e))) ((σ.set i (some v)).set j (some w)) H S M := by
  have I1 := I.set hi r
  have hj' : j < (st.env.set i (some (B.fro d))).length := by rw [List.length_set]; exact hj
  exact ⟨I1.set hj' r2, Ext.frame fun a h => own_set hi (own_set hj' h)⟩
theorem s_par2 {i j : Nat} {x y : Str} {a b : Expr} {ia ib : IE} {px py pt pos : Pos} {kt k2 pt2} (hc : X.calm = true) (hN : X.N.Nodup) (hi : X.N[i]? = some x) (hj : X.N[j]? = some y) (hij : i ≠ j)
    (hx : X.env.scope.names.lookup x = some .local) (hy : X.env.scope.names.lookup y = some .local) (ha : PA X [a, b] (tAs T W cx false (.cons ia (.cons ib .nil))))
    (hw : swappedStores [.Tuple [.Name x px, .Name y py] kt pt] (.Tuple [a, b] k2 pt2) X.env = pure (some [x, y])) (hs : swapsWithSole [.Tuple [.Name x px, .Name y py] kt pt] (.Tuple [a, b] k2 pt2) pos.line X.env = pure false) :
    PS X (.Assign [.Tuple [.Name x px, .Name y py] kt pt] (.Tuple [a, b] k2 pt2) pos) (tSt T W cx (.par2 i j ia ib)) := by
  refine IL.PS.of (ps_par hc hN hi hj hij hx hy ha hw hs) fun D σ H ⟨st, S, M, I, q⟩ => ?_
  simp only [evS] at q
  refine tAs_two I ((pairS q).bindE.mono fun pr st1 H1 S1 M1 I1 x1 q1 v w vv vw => ?_)
  split at q1
  case isFalse => exact q1.elim
  rename_i hl
  obtain ⟨I2, x2⟩ := set2 I1 hl.1 hl.2 vv.rep vw.rep
  exact ⟨v, w, rfl, q1 _ H1 S1 M1 I2 x2⟩
theorem tAs_3 {ie jf kg : IE} {b : Bool} {st : SS} {σ : L2.St} {H S : Hp} {M : Ms} {Q : List V → Hp → Prop} (I : RI T.toSta st σ H S M)
    (q : Post T W σ st.env H S M ((ev cx b ie st).bind fun d st1 => (ev cx b jf st1).bind fun d' st2 => (ev cx b kg st2).bind fun d'' st3 => .ok (d, d', d'') st3) fun p st' H' S' M' => ∀ u v w, VR T b st'.env σ M' S' p.1 u → VR T b st'.env σ M' S' p.2.1 v → VR T b st'.env σ M' S' p.2.2 w → Q [u, v, w] H') :
    tAs T W cx b (.cons ie (.cons jf (.cons kg .nil))) σ H Q := by
  refine ⟨st, S, M, I, ?_⟩
  simp only [evs]
  cases e1 : ev cx b ie st with
  | stuck =>
    rw [e1] at q
    exact q
  | exc x st1 =>
    rw [e1] at q
    exact q
  | ok d st1 =>
    rw [e1] at q
    simp only [R.bind] at q ⊢
    cases e2 : ev cx b jf st1 with
    | stuck =>
      rw [e2] at q
      exact q
    | exc x st2 =>
      rw [e2] at q
      exact q
    | ok d' st2 =>
      rw [e2] at q
      simp only at q ⊢
      cases e3 : ev cx b kg st2 with
      | stuck =>
        rw [e3] at q
        exact q
      | exc x st3 =>
        rw [e3] at q
        exact q
      | ok d'' st3 =>
        rw [e3] at q
        intro H1 S1 M1 I1 x1 vs vvs
        cases vvs with
        | cons vu vn =>
          cases vn with
          | cons vv vn =>
            cases vn with
            | cons vw vn =>
              cases vn
              exact q H1 S1 M1 I1 x1 _ _ _ vu vv vw
theorem tripS {α β γ δ : Type} {r : IL.R α} {s : α → SS → IL.R β} {t : α → β → SS → IL.R γ} {f : α → β → γ → SS → IL.R δ} {σ : L2.St} {env : Env'} {H S : Hp} {M : Ms} {P : δ → SS → L2.St → Hp → Hp → Ms → Prop} (q : PostS T W σ env H S M (r.bind fun a st1 => (s a st1).bind fun b st2 => (t a b st2).bind fun c st3 => f a b c st3) P) :
    PostS T W σ env H S M ((r.bind fun a st1 => (s a st1).bind fun b st2 => (t a b st2).bind fun c st3 => IL.R.ok (a, b, c) st3).bind fun p st2 => f p.1 p.2.1 p.2.2 st2) P := by
  cases r with
  | stuck => exact q
  | exc x st => exact q
  | ok a st1 =>
    have q' : PostS T W σ env H S M ((s a st1).bind fun b st2 => (t a b st2).bind fun c st3 => f a b c st3) P := q
    show PostS T W σ env H S M (((s a st1).bind fun b st2 => (t a b st2).bind fun c st3 => IL.R.ok (a, b, c) st3).bind fun p st2 => f p.1 p.2.1 p.2.2 st2) P
    generalize s a st1 = g at q'
    cases g with
    | stuck => exact q'
    | exc x st => exact q'
    | ok b st2 =>
      have q2 : PostS T W σ env H S M ((t a b st2).bind fun c st3 => f a b c st3) P := q'
      show PostS T W σ env H S M (((t a b st2).bind fun c st3 => IL.R.ok (a, b, c) st3).bind fun p st2 => f p.1 p.2.1 p.2.2 st2) P
      generalize t a b st2 = g at q2
      cases g with
      | stuck => exact q2
      | exc x st => exact q2
      | ok c st3 => exact q2
theorem s_par3 {i j l : Nat} {x y z : Str} {a b c : Expr} {ia ib ic : IE} {px py pz pt pos : Pos} {kt k2 pt2} (hc : X.calm = true) (hN : X.N.Nodup) (hi : X.N[i]? = some x) (hj : X.N[j]? = some y) (hl : X.N[l]? = some z) (hij : i ≠ j) (hil : i ≠ l) (hjl : j ≠ l)
    (hx : X.env.scope.names.lookup x = some .local) (hy : X.env.scope.names.lookup y = some .local) (hz : X.env.scope.names.lookup z = some .local) (ha : PA X [a, b, c] (tAs T W cx false (.cons ia (.cons ib (.cons ic .nil)))))
    (hw : swappedStores [.Tuple [.Name x px, .Name y py, .Name z pz] kt pt] (.Tuple [a, b, c] k2 pt2) X.env = pure (some [x, y, z])) (hs : swapsWithSole [.Tuple [.Name x px, .Name y py, .Name z pz] kt pt] (.Tuple [a, b, c] k2 pt2) pos.line X.env = pure false) :
    PS X (.Assign [.Tuple [.Name x px, .Name y py, .Name z pz] kt pt] (.Tuple [a, b, c] k2 pt2) pos) (tSt T W cx (.par3 i j l ia ib ic)) := by
  refine IL.PS.of (ps_par3 hc hN hi hj hl hij hil hjl hx hy hz ha hw hs) fun D σ H ⟨st, S, M, I, q⟩ => ?_
  simp only [evS] at q
  refine tAs_3 I ((tripS q).bindE.mono fun pr st1 H1 S1 M1 I1 x1 q1 u v w vu vv vw => ?_)
  split at q1
  case isFalse => exact q1.elim
  rename_i hl'
  obtain ⟨I2, x2⟩ := set2 I1 hl'.1 hl'.2.1 vu.rep vv.rep
  have h3 : l < ((st1.env.set i (some (B.fro pr.1))).set j (some (B.fro pr.2.1))).length := by
    rw [List.length_set, List.length_set]
    exact hl'.2.2
  exact ⟨u, v, w, rfl, q1 _ H1 S1 M1 (I2.set h3 vw.rep) (x2.trans (Ext.frame (st := { st1 with env := (st1.env.set i (some (.fro pr.1))).set j (some (.fro pr.2.1)) }) fun a h => own_set h3 h))⟩
/-! ### blocks, if -/
def FlE (T : Sta') (D : Ends) (fl : Fl) (σ' : L2.St) (H' S' : Hp) (M' : Ms) : Prop := match fl with
  | .nx => D.nx σ' H'
  | .bk => D.bk σ' H'
  | .ct => D.ct σ' H'
  | .rt d => ∀ v, Rep T.toSta M' S' d v → D.rt v H'
theorem s_nilS : PSs X [] (tSs T W cx .nil) := IL.PSs.of pss_nil fun D σ H ⟨st, S, M, I, q⟩ => by
  simp only [evSs] at q
  exact q σ H S M I Ext.refl
theorem s_consS {s : Stmt} {ss : List Stmt} {is : IS} {iss : ISs} (h1 : PS X s (tSt T W cx is)) (h2 : PSs X ss (tSs T W cx iss)) : PSs X (s :: ss) (tSs T W cx (.cons is iss)) := by
  refine IL.PSs.of (pss_cons h1 h2) fun D σ H ⟨st, S, M, I, q⟩ => ?_
  simp only [evSs] at q
  refine ⟨st, S, M, I, q.bind.mono fun fl st1 σ1 H1 S1 M1 I1 x1 q1 => ?_⟩
  cases fl with
  | nx => exact ⟨st1, S1, M1, I1, q1⟩
  | bk => exact q1 σ1 H1 S1 M1 I1 Ext.refl
  | ct => exact q1 σ1 H1 S1 M1 I1 Ext.refl
  | rt d => exact q1 σ1 H1 S1 M1 I1 Ext.refl
theorem s_if {c : Expr} {a b : List Stmt} {ic : IE} {ia ib : ISs} {pos : Pos} (hc : PT X c (tTs T W cx ic)) (ha : PSs X a (tSs T W cx ia)) (hb : PSs X b (tSs T W cx ib)) : PS X (.If c a b pos) (tSt T W cx (.ifS ic ia ib)) := by
  refine IL.PS.of (ps_if hc ha hb) fun D σ H ⟨st, S, M, I, q⟩ => ?_
  simp only [evS] at q
  refine ⟨st, S, M, I, q.bindE.mono fun d st1 H1 S1 M1 I1 x1 q1 => ?_⟩
  cases d with
  | bl k =>
    refine ⟨k, rfl, ?_⟩
    cases k with
    | true => exact ⟨st1, S1, M1, I1, q1⟩
    | false => exact ⟨st1, S1, M1, I1, q1⟩
  | _ => exact q1.elim
/-! ### loops -/
theorem s_for {tg iter : Expr} {body : List Stmt} {t : Tg} {it : II} {ib : ISs} {pos : Pos} (hp : PassesOwn (model X.prog X.w) X.A X.env X.xe) (hc : X.calm = true) (hi : PI X tg iter (tIt T W cx it)) (hg : PG X tg (tTg T t)) (hb : PSs X body (tSs T W cx ib)) (hs : ∀ x, foldedSetIterable iter X.env x = pure x) :
    PS X (.For tg iter body [] pos) (tSt T W cx (.forS t it ib)) := by
  refine IL.PS.of (ps_for hp hc hi hg hb hs) fun D σ H ⟨st, S, M, I, q⟩ => ?_
  simp only [evS] at q
  refine ⟨st, S, M, I, q.bindE.mono fun xs st1 H1 S1 M1 I1 x1 q1 J hJ => ?_⟩
  refine ⟨fun i m σ' H' => m = xs.length - i ∧ i ≤ xs.length ∧ ∃ st' S' M', RI T.toSta st' σ' H' S' M' ∧ Same S1 S' ∧ Pre M1 M' ∧ PostS T W σ' st'.env H' S' M' (forLoop (fun x st => match asgT t x st.env with
      | some env => evSs cx ib { st with env := env }
      | none => .stuck) (xs.drop i) st') (fun fl st' σ' H' S' M' => FlE T D fl σ' H' S' M'), ⟨xs.length, rfl, Nat.zero_le _, st1, S1, M1, I1, Same.refl _, Pre.refl _, ?_⟩, ?_⟩
  · rw [List.drop_zero]
    refine q1.mono fun fl st' σ' H' S' M' I' x' q' => ?_
    cases fl <;> exact q'
  rintro i m σ' H' ⟨hm, hi', st2, S2, M2, I2, ss2, pm2, q2⟩
  rcases Nat.lt_or_ge i xs.length with hlt | hge
  case inr =>
    have hd : xs.drop i = [] := List.drop_eq_nil_of_le hge
    rw [hd] at q2
    simp only [forLoop] at q2
    exact .inl ⟨(hJ st2 σ' H' S2 M2 I2 ss2 pm2 i).2 (by omega), q2 σ' H' S2 M2 I2 Ext.refl⟩
  right
  obtain ⟨x, xs', exs, edr⟩ : ∃ x xs', xs[i]? = some x ∧ xs.drop i = x :: xs' := by
    refine ⟨xs[i], xs.drop (i + 1), by simp [hlt], ?_⟩
    rw [List.drop_eq_getElem_cons hlt]
  have edr' : xs.drop (i + 1) = xs' := by
    rw [← List.drop_drop, edr]
    rfl
  rw [edr] at q2
  simp only [forLoop] at q2
  obtain ⟨hgo, hyl⟩ := (hJ st2 σ' H' S2 M2 I2 ss2 pm2 i).1 x exs
  refine ⟨hgo, fun σ' H' => ∃ st' S' M', RI T.toSta st' σ' H' S' M' ∧ Same S1 S' ∧ Pre M1 M' ∧ PostS T W σ' st'.env H' S' M' (forLoop (fun x st => match asgT t x st.env with
      | some env => evSs cx ib { st with env := env }
      | none => .stuck) xs' st') (fun fl st' σ' H' S' M' => FlE T D fl σ' H' S' M'), fun σ' H' ⟨st', S', M', a, b, c, d⟩ => ⟨xs.length - (i + 1), by omega, rfl, hlt, st', S', M', a, b, c, by rw [edr']; exact d⟩, fun v H3 hv => ?_⟩
  obtain ⟨S3, I3, x3, rv⟩ := hyl v H3 hv
  cases eA : asgT t x st2.env with
  | none =>
    rw [eA] at q2
    exact q2.elim
  | some env =>
  rw [eA] at q2
  refine ⟨st2, S3, M2, x, env, I3, rv, eA, fun σ4 I4 x4 _ => ⟨{ st2 with env := env }, S3, M2, I4, ?_⟩⟩
  have q3 := (q2.after x3.x).after x4
  refine q3.bind.mono fun fl st5 σ5 H5 S5 M5 I5 x5 q5 => ?_
  have ss5 : Same S1 S5 := ss2.trans ((x3.x.trans x4).trans x5).ss
  have pm5 : Pre M1 M5 := pm2.trans ((x3.x.trans x4).trans x5).pre
  cases fl with
  | nx => exact ⟨st5, S5, M5, I5, ss5, pm5, q5⟩
  | ct => exact ⟨st5, S5, M5, I5, ss5, pm5, q5⟩
  | bk => exact q5 σ5 H5 S5 M5 I5 Ext.refl
  | rt d => exact q5 σ5 H5 S5 M5 I5 Ext.refl
theorem bind_assoc' {α β γ : Type} (r : IL.R α) (f : α → SS → IL.R β) (g : β → SS → IL.R γ) : (r.bind f).bind g = r.bind fun a st => (f a st).bind g := by
  cases r <;> rfl
theorem s_while {c : Expr} {body : List Stmt} {ic : IE} {ib : ISs} {pos : Pos} (hp : PassesOwn (model X.prog X.w) X.A X.env X.xe) (hc : PT X c (tTs T W cx ic)) (hb : PSs X body (tSs T W cx ib)) : PS X (.While c body [] pos) (tSt T W cx (.whileS ic ib)) := by
  refine IL.PS.of (ps_while hp hc hb) fun D σ H ⟨st, S, M, I, q⟩ => ?_
  simp only [evS] at q
  refine ⟨fun m σ' H' => ∃ st' S' M', RI T.toSta st' σ' H' S' M' ∧ PostS T W σ' st'.env H' S' M' (whileLoop (fun st => (ev cx true ic st).bind fun dc st => match dc with
      | .bl v => .ok v st
      | _ => .stuck) (fun st => evSs cx ib st) m st') (fun fl st' σ' H' S' M' => FlE T D fl σ' H' S' M'), ⟨whileFuel, st, S, M, I, ?_⟩, ?_⟩
  · refine q.mono fun fl st' σ' H' S' M' I' x' q' => ?_
    cases fl <;> exact q'
  rintro m σ' H' ⟨st2, S2, M2, I2, q2⟩
  cases m with
  | zero => exact q2.elim
  | succ m =>
    simp only [whileLoop] at q2
    have q3 : PostS T W σ' st2.env H' S2 M2 ((ev cx true ic st2).bind fun dc st => (match dc with
      | .bl v => R.ok v st
      | _ => .stuck).bind fun b st => match b with
      | false => .ok .nx st
      | true => (evSs cx ib st).bind fun fl st => match fl with
        | .nx => whileLoop (fun st => (ev cx true ic st).bind fun dc st => match dc with
      | .bl v => .ok v st
      | _ => .stuck) (fun st => evSs cx ib st) m st
        | .ct => whileLoop (fun st => (ev cx true ic st).bind fun dc st => match dc with
      | .bl v => .ok v st
      | _ => .stuck) (fun st => evSs cx ib st) m st
        | .bk => .ok .nx st
        | .rt d => .ok (.rt d) st) (fun fl st' σ' H' S' M' => FlE T D fl σ' H' S' M') := by
      rw [← bind_assoc']
      exact q2
    refine ⟨st2, S2, M2, I2, q3.bindE.mono fun dc st3 H3 S3 M3 I3 x3 q4 => ?_⟩
    cases dc with
    | bl k =>
      refine ⟨k, rfl, ?_⟩
      cases k with
      | false => exact q4 σ' H3 S3 M3 I3 Ext.refl
      | true =>
        rw [if_pos rfl]
        refine ⟨fun σ' H' => ∃ st' S' M', RI T.toSta st' σ' H' S' M' ∧ PostS T W σ' st'.env H' S' M' (whileLoop (fun st => (ev cx true ic st).bind fun dc st => match dc with
      | .bl v => .ok v st
      | _ => .stuck) (fun st => evSs cx ib st) m st') (fun fl st' σ' H' S' M' => FlE T D fl σ' H' S' M'), fun σ' H' h => ⟨m, Nat.lt_succ_self m, h⟩, st3, S3, M3, I3, ?_⟩
        have q5 : PostS T W σ' st3.env H3 S3 M3 ((evSs cx ib st3).bind fun fl st => match fl with
        | .nx => whileLoop (fun st => (ev cx true ic st).bind fun dc st => match dc with
      | .bl v => .ok v st
      | _ => .stuck) (fun st => evSs cx ib st) m st
        | .ct => whileLoop (fun st => (ev cx true ic st).bind fun dc st => match dc with
      | .bl v => .ok v st
      | _ => .stuck) (fun st => evSs cx ib st) m st
        | .bk => .ok .nx st
        | .rt d => .ok (.rt d) st) (fun fl st' σ' H' S' M' => FlE T D fl σ' H' S' M') := q4
        refine q5.bind.mono fun fl st5 σ5 H5 S5 M5 I5 x5 q6 => ?_
        cases fl with
        | nx => exact ⟨st5, S5, M5, I5, q6⟩
        | ct => exact ⟨st5, S5, M5, I5, q6⟩
        | bk => exact q6 σ5 H5 S5 M5 I5 Ext.refl
        | rt d => exact q6 σ5 H5 S5 M5 I5 Ext.refl
    | _ => exact q4.elim
end IL

set_option Elab.async false
set_option linter.all false
set_option maxRecDepth 100000
set_option maxHeartbeats 4000000
/-! IL15: x[i], y = e; y = [..]. -/
namespace IL
open PySem L2
variable {T : Sta'} {X : Cx} {W W' : WX} {cx : ECx}
theorem s_tgS {x y : Str} {n j : Nat} {i e : Expr} {ii ie : IE} {kt : Nat} {p py tpos pt pos : Pos} (hK : X.K = T.K) (hc : X.calm = true) (hu : X.A.units + 1 < cLine) (nd : X.N.Nodup) (hN : X.N[n]? = some x) (hv : Vis X.env.scope x) (hd : (x == ("__debug__" : Str)) = false) (hcd : (x == ("__classdict__" : Str)) = false)
    (hj : X.N[j]? = some y) (hy : Loc X.env.scope y) (hf : X.fn y = true ∨ X.env.scope.names.lookup y = some .local) (hi : PE X i (tI T W cx true ii)) (he : PE X e (tI T W cx false ie))
    (hs : swapsWithSole [.Tuple [.Subscript (.Name x p) i tpos, .Name y py] kt pt] e pos.line X.env = pure false) (hw : swappedStores [.Tuple [.Subscript (.Name x p) i tpos, .Name y py] kt pt] e X.env = pure none)
    (ha : ∀ v, assign (.Subscript (.Name x p) i tpos) X.env v = (do
      let ov ← holding [v] (eval (.Name x p) X.env)
      let iv ← holding [v, ov] (eval i X.env)
      standAt tpos
      holding [v, ov, iv] (setItem ov iv v)
      release [v, ov, iv] [])) : PS X (.Assign [.Tuple [.Subscript (.Name x p) i tpos, .Name y py] kt pt] e pos) (tSt T W cx (.tgS n ii j ie)) := by
  have hg := pg_tup (X := X) (k := kt) (pos := pt) (n := 2) hc (pgs_cons (pg_sub (pe_var (pos := p) hN hv hd hcd) hi (set_any hu) ha) (pgs_cons (pg_name (pos := py) nd hj hy hf) pgs_nil rfl) rfl) rfl rfl
  rw [hK] at hg
  refine IL.PS.of (ps_asg he hg hs hw rfl) fun D σ H ⟨st, S, M, I, q⟩ => ?_
  simp only [evS] at q
  refine ⟨st, S, M, I, q.bindE.mono fun d st1 H1 S1 M1 I1 x1 q1 v vv => ?_⟩
  split at q1
  case h_2 => exact q1.elim
  rename_i a b
  cases vv.rep with
  | tup h2 r =>
    cases r with
    | cons ra r =>
      cases r with
      | cons rb r =>
        cases r
        refine ⟨_, _, rfl, .of (I1.sub _ _ h2), rfl, ?_⟩
        split at q1
        case h_2 => exact q1.elim
        rename_i c el
        obtain ⟨w, ew⟩ := look_slot I1 el
        refine ⟨_, _, rfl, w, ew, st1, S1, M1, I1, q1.bindE.mono fun di st2 H2 S2 M2 I2 x2 q2 yv vy => ?_⟩
        obtain ⟨u, st3, eu, q3⟩ := q2.bindU upCell_noexc
        obtain ⟨a', ea', k⟩ := set_ok I2 vy (ra.mono x2.x.ss x2.x.pre) eu
        rw [ew] at ea'
        cases ea'
        refine k _ fun H' I' x' => ⟨_, _, rfl, ?_⟩
        split at q3
        case isFalse => exact q3.elim
        rename_i hl
        refine ⟨rfl, ?_⟩
        exact q3 _ H' S2 M2 (I'.set hl (rb.mono x2.x.ss x2.x.pre)) (x'.trans (Ext.frame fun a h => own_set hl h))
/-- as asg_imp, from the reading of a fresh value -/
theorem asgG_imp {i : Nat} {ie : IE} (hb : ∀ b st, ev cx b ie st = ev cx false ie st) {D : Ends} {σ : L2.St} {H : Hp} (h : tSt T W cx (.asg (.nm i) ie) D σ H) : tAsg (tF T W cx ie) (gName i) D σ H := by
  obtain ⟨st, S, M, I, q⟩ := h
  simp only [evS] at q
  have q0 : tI T W cx false ie σ H fun x H1 => gName i x σ H1 D.nx := by
    refine ⟨st, S, M, I, q.bindE.mono fun d st1 H1 S1 M1 I1 x1 q1 v vv => ?_⟩
    cases e : asgT (.nm i) d st1.env with
    | none =>
      rw [e] at q1
      exact q1.elim
    | some env =>
      rw [e] at q1
      simp only [asgT] at e
      split at e
      · rename_i hl
        cases e
        exact q1 _ H1 S1 M1 (I1.set hl vv.rep) (Ext.frame fun a h => own_set hl h)
      · cases e
  exact ofF_imp (b := false) (fun st => rfl) q0
end IL

set_option Elab.async false
set_option linter.all false
set_option maxRecDepth 100000
set_option maxHeartbeats 4000000
/-! IL16: dict displays of one pair; dict(list of pairs). -/
namespace L2
open PySem PySem.Spec PyProof.Rows
theorem d_dictSetT {X : Cx} {pins : List (Addr × Obj)} {σ : St} {H : Hp} {s : Shared} {A : Around} {E : Value → Shared → Prop} {D b : Addr} {kvs : List (List Key × V)} {k : List Key} {v : V} {r : Value} {Q : Unit → Shared → Prop} (hu : A.units < cLine) (I : Inv X pins σ H s) (hD : H D = some (.dT kvs)) (hz : kvs.length < sizeLine)
    (eb : H b = some (.tup (k.map kV))) (rv : RelV v r) (h : ∀ s', Inv X pins σ (upd H D (.dT (putK kvs k v))) s' → Q () s') : wpAny (model X.prog X.w) A (dictSet D (.ref b) r) Q E s := by
  obtain ⟨z, hd, xs, rel, dd⟩ := dt_of I.hok hD
  have hz : xs.length ≤ sizeLine := by rw [← Paired.length rel]; exact z
  have hl : (putK kvs k v).length ≤ sizeLine := by have := length_putK kvs k v; omega
  refine wpAny_dictSet_heap (hsz := hz) hu (key_of I.hok eb) dd fun h' dd' hs => h _ ?_
  obtain ⟨q, es, ep, hq, h2, h3, h4, _, h5⟩ := dd'
  refine d_write I (by rw [hD]; exact True.intro) hs ⟨q, hq⟩ ⟨hl, hd, _, (rel.put k eb rv).keeps fun c ys ec => ?_, q, es, ep, hq, h2, h3, h4, h5⟩
  rw [upd_ne (ne_of ec hD (fun z => nomatch z))]
  exact ec
/-- {k: v}, k a tuple -/
def tDisp1T (tk tv : TE) : TE := fun σ H Q => ∀ p, H p = none → tk σ (upd H p (.dT [])) fun x H1 => tv σ H1 fun y H2 => H2 p = some (.dT []) ∧ ∃ (ks : List Key) (b : Addr), x = .ref b ∧ H2 b = some (.tup (ks.map kV)) ∧ Q (.ref p) (upd H2 p (.dT (putK [] ks y)))
theorem pe_disp1T {X : Cx} {pos : Pos} {k v : Expr} {tk tv : TE} (hu : X.A.units < cLine) (hk : PE X k tk) (hv : PE X v tv) : PE X (.Dict [some k] [v] pos) (tDisp1T tk tv) := by
  refine ⟨fun pins s σ H Q I q => ?_⟩
  have hn := I.hok.fresh (Nat.le_refl s.heap.objs.size)
  have I1 := I.laid (a := s.heap.objs.size) (o := .dT []) (h' := s.heap.push { cls := .type "dict", data := .dict #[] }) (t' := s.toks) (fun _ _ q => Heap.get?_push_of_some _ q) (Nat.le_refl _) (dt_empty s.heap I.big)
  rw [arm_eval_Dict, show (evalEachOpt [some k] X.env).zip ((evalEach [v] X.env).map fun v => do let x ← v; standAt pos; pure x) = [(eval k X.env, (do let x ← eval v X.env; standAt pos; pure x : Sem Value))].map fun p => (some p.1, p.2) from rfl, dictDisplay_pairs _ (by simp) (by simp)]
  refine wpAny_bind (wpAny_standAt (wpAny_bind ?_))
  unfold subDict
  refine wpAny_bind (wpAny_alloc ?_)
  refine wpAny_bind (wpAny_holding ?_)
  rw [if_pos (by simp)]
  refine wpAny_bind (PySem.evalPairs_cons (thn (hk.run pins _ σ _ _ I1 (q _ hn)) fun u s1 ⟨x, H1, I2, rx, q1⟩ => wpAny_bind (thn (hv.run pins s1 σ H1 _ I2 q1) fun w2 s2 ⟨y, H2, I3, ry, q2⟩ => wpAny_bind (wpAny_standAt (wpAny_pure ?_)))))
  refine PySem.evalPairs_nil ?_
  obtain ⟨e, ks, b, ex, eb, q3⟩ := q2
  subst ex
  obtain rfl : u = Value.ref b := rx
  refine wpAny_holding ?_
  refine wpAny_bind ?_
  rw [List.forIn_cons]
  refine wpAny_bind (wpAny_bind (d_dictSetT hu I3 e (by rw [sizeLine_eq]; decide) eb ry fun s' I' => wpAny_pure ?_))
  show wpAny _ _ (forIn [] PUnit.unit _) _ _ _
  rw [List.forIn_nil]
  refine wpAny_pure ?_
  exact wpAny_pure (wpAny_pure (wpAny_pure ⟨.ref s.heap.objs.size, _, I', rfl, q3⟩))
end L2

namespace IL
open PySem L2
variable {T : Sta'} {X : Cx} {W W' : WX} {cx : ECx}
/-- a new cell at L that no one knows -/
structure NewO (T : Sta') (env : Env') (σ : L2.St) (H S : Hp) (M : Ms) (L : Addr) (o : HO) : Prop where
  at_ : H L = some o
  noS : S L = none
  noM : L ∉ M
  noO : ¬ Own env σ L
theorem NewO.ext {env env' : Env'} {σ σ' : L2.St} {H S H' S' : Hp} {M M' : Ms} {L : Addr} {o : HO} (n : NewO T env σ H S M L o) (x : Ext env σ H S M env' σ' H' S' M') : NewO T env' σ' H' S' M' L o := by
  refine ⟨x.fr L _ n.at_ n.noM n.noO, ?_, fun z => ?_, fun z => ?_⟩
  · cases e : S' L with
    | none => rfl
    | some o =>
      rcases x.sn L (by rw [e]; exact fun z => nomatch z) with h | h | h
      · exact absurd n.noS h
      · rw [n.at_] at h
        cases h
      · exact absurd h n.noO
  · obtain ⟨t, e, ht⟩ := x.mm
    rw [e] at z
    rcases List.mem_append.mp z with z | z
    · exact n.noM z
    · have := ht L z
      rw [n.at_] at this
      cases this
  · rcases x.ow L z with z | z
    · exact n.noO z
    · rw [n.at_] at z
      cases z
section
variable {st : SS} {σ : L2.St} {H S : Hp} {M : Ms}
theorem RI.newO (I : RI T.toSta st σ H S M) {L : Addr} {o : HO} (h : H L = none) : NewO T st.env σ (upd H L o) S M L o := by
  refine ⟨upd_same, I.noS h, I.noM h, fun z => ?_⟩
  obtain ⟨⟨o, z', _⟩, _⟩ := I.ownH z
  rw [h] at z'
  cases z'
theorem RI.setO (I : RI T.toSta st σ H S M) {L : Addr} {o o' : HO} (n : NewO T st.env σ H S M L o) (nt : ∀ xs, o' ≠ .tup xs := by intro _ z; cases z) : RI T.toSta st σ (upd H L o') S M := by
  refine ⟨fun b u e => ?_, I.fro, fun i d e => ?_, I.sep, fun n' ao e => ?_, I.mlen, I.mnd, fun b xs e => (by
    by_cases hb : b = L
    · rw [hb, upd_same] at e
      exact absurd (Option.some.inj e) (nt xs)
    · rw [upd_ne hb] at e
      exact I.tp b xs e), I.elen⟩
  · rw [upd_ne fun z => by rw [z, n.noS] at e; cases e]
    exact I.sub b u e
  · obtain ⟨a, u, h1, h2, h3, h4, h5⟩ := I.own i d e
    refine ⟨a, u, h1, ?_, h3, h4, h5⟩
    rw [upd_ne fun z => n.noO ⟨i, d, e, by rw [← z]; exact h1⟩]
    exact h2
  · obtain ⟨a, u, h1, h2, h3, h4⟩ := I.obj n' ao e
    refine ⟨a, u, h1, ?_, h3, h4⟩
    rw [upd_ne fun z => n.noM (by rw [← z]; exact List.mem_of_getElem? h1)]
    exact h2
theorem ExtE.setO {env : Env'} {H0 S0 : Hp} {M0 : Ms} {env0 : Env'} {L : Addr} {o : HO} (x : ExtE env0 σ H0 S0 M0 env H S M) (h0 : H0 L = none) : ExtE env0 σ H0 S0 M0 env (upd H L o) S M := by
  refine ⟨⟨x.x.ss, x.x.sn, fun a o h hm ho => ?_, x.x.ow, x.x.mm, fun a h => ?_⟩, fun a o h hm ho => ?_, x.le⟩
  · rw [upd_ne (ne_of_none h h0)]
    exact x.x.fr a o h hm ho
  · by_cases ha : a = L
    · rw [ha, upd_same]
      exact fun z => nomatch z
    · rw [upd_ne ha]
      exact x.x.kp a h
  · rw [upd_ne (ne_of_none h h0)]
    exact x.fr a o h hm ho
end
/-- the reading continued: told as from H, where the new cell was nothing -/
theorem Post.from_ {α : Type} {r : R α} {σ : L2.St} {env : Env'} {H S : Hp} {M : Ms} {H1 S1 : Hp} {M1 : Ms} {env1 : Env'} {P : α → SS → Hp → Hp → Ms → Prop} (h : Post T W σ env H S M r P) (x : ExtE env σ H S M env1 H1 S1 M1) :
    Post T W σ env1 H1 S1 M1 r fun a st' H' S' M' => ExtE env σ H S M st'.env H' S' M' ∧ P a st' H' S' M' := by
  cases r with
  | ok a st' => exact fun H2 S2 M2 I2 x2 => ⟨x.trans x2, h H2 S2 M2 I2 (x.trans x2)⟩
  | exc y st' => exact fun cls dd H2 S2 M2 I2 x2 => h cls dd H2 S2 M2 I2 (x.trans x2)
  | stuck => exact h
/-- {(..): e} -/
theorem s_dicTF {k v : Expr} {ik iv : IE} {pos : Pos} (hu : X.A.units < cLine) (hk : PE X k (tI T W cx true ik)) (hv : PE X v (tI T W cx false iv)) : PE X (.Dict [some k] [v] pos) (tF T W cx (.dicT ik iv)) := by
  refine IL.PE.of (pe_disp1T hu hk hv) fun σ H Q ⟨st, S, M, I, q⟩ p hp => ?_
  simp only [ev] at q
  have If := I.fresh (o := .dT []) hp
  have xf := ExtE.fresh (o := .dT []) I hp
  have nf : NewO T st.env σ (upd H p (.dT [])) S M p (.dT []) := I.newO hp
  have q' := q
  refine ⟨st, S, M, If, ?_⟩
  -- the parts, from the state with the new dict
  cases e1 : ev cx true ik st with
  | stuck =>
    rw [e1] at q
    exact q
  | exc x st1 =>
    rw [e1] at q
    exact fun cls dd H1 S1 M1 I1 x1 xr => q cls dd H1 S1 M1 I1 (xf.trans x1) xr
  | ok dk st1 =>
    rw [e1] at q
    simp only [R.bind] at q
    intro H1 S1 M1 I1 x1 x vx
    refine ⟨st1, S1, M1, I1, ?_⟩
    cases e2 : ev cx false iv st1 with
    | stuck =>
      rw [e2] at q
      exact q
    | exc y st2 =>
      rw [e2] at q
      exact fun cls dd H2 S2 M2 I2 x2 xr => q cls dd H2 S2 M2 I2 ((xf.trans x1).trans x2) xr
    | ok d st2 =>
      rw [e2] at q
      simp only at q
      intro H2 S2 M2 I2 x2 y vy
      have n2 := (nf.ext x1.x).ext x2.x
      refine ⟨n2.at_, ?_⟩
      cases e3 : tkeyD dk with
      | none =>
        rw [e3] at q
        exact q.elim
      | some ks =>
        rw [e3] at q
        have vx2 := vx.mono x2 I2
        cases dk with
        | tup es =>
          simp only [tkeyD] at e3
          obtain ⟨b, us, eb, _, hb, rb⟩ := vx2.tup I2
          have ev' := keysD_ok rb e3
          subst ev'
          refine ⟨ks, b, eb, hb, ?_⟩
          have I3 := I2.setO (o' := .dT (L2.putK [] ks y)) n2
          have x3 := ((xf.trans x1).trans x2).setO (L := p) (o := .dT (L2.putK [] ks y)) hp
          refine q _ S2 M2 I3 x3 (.ref p) (.inl ⟨rfl, p, _, rfl, hp, upd_same, n2.noS, n2.noM, ?_⟩)
          exact CellO.dT (ks := [ks]) (vs := [y]) rfl (.cons vy.rep .nil)
        | _ => simp [tkeyD] at e3
/-- {'x': e} -/
theorem s_dic1F {x : Str} {j : Nat} {p0 pos : Pos} {v : Expr} {iv : IE} (hv : PE X v (tI T W cx false iv)) : PE X (.Dict [some (.Constant (.str x) j p0)] [v] pos) (tF T W cx (.dic1 x iv)) := by
  refine IL.PE.of (pe_disp (pps_cons pe_str hv pps_nil) rfl rfl (by simp) (by simp)) fun σ H Q ⟨st, S, M, I, q⟩ p hp => ?_
  simp only [ev] at q
  have If := I.fresh (o := .dK []) hp
  have xf := ExtE.fresh (o := .dK []) I hp
  have nf : NewO T st.env σ (upd H p (.dK [])) S M p (.dK []) := I.newO hp
  refine ⟨st, S, M, If, ?_⟩
  cases e2 : ev cx false iv st with
  | stuck =>
    rw [e2] at q
    exact q
  | exc y st2 =>
    rw [e2] at q
    exact fun cls dd H2 S2 M2 I2 x2 xr => q cls dd H2 S2 M2 I2 (xf.trans x2) xr
  | ok d st2 =>
    rw [e2] at q
    simp only [R.bind] at q
    intro H2 S2 M2 I2 x2 y vy
    have n2 := nf.ext x2.x
    refine ⟨n2.at_, [(.inr x, y)], rfl, by simp, ?_⟩
    have I3 := I2.setO (o' := .dK (mergeK [] [(.inr x, y)])) n2
    have x3 := (xf.trans x2).setO (L := p) (o := .dK (mergeK [] [(.inr x, y)])) hp
    refine q _ S2 M2 I3 x3 (.ref p) (.inl ⟨rfl, p, _, rfl, hp, upd_same, n2.noS, n2.noM, ?_⟩)
    exact CellO.dK (ks := [.inr x]) (vs := [y]) rfl (.cons vy.rep .nil)
end IL

set_option Elab.async false
set_option linter.all false
set_option maxRecDepth 100000
set_option maxHeartbeats 4000000
/-! ILd: dict(list of pairs whose keys are tuples). -/
namespace L2
open PySem PySem.Spec PyProof.Rows
def mergeT (kvs more : List (List Key × V)) : List (List Key × V) := more.foldl (fun acc kv => putK acc kv.1 kv.2) kvs
/-- a pair (key, value) at p, the key a tuple at b -/
def PairT (K : PySem.W.Frag) (H : Hp) (p : Addr) (kv : List Key × V) : Prop := ∃ b, SqT K H p [.ref b, kv.2] ∧ H b = some (.tup (kv.1.map kV))
theorem SqL.upd {K : PySem.W.Frag} {H : Hp} {S a : Addr} {o : HO} {vs : List V} (h : SqL K H a vs) (hS : ∀ u, H a = some u → a ≠ S) : SqL K (upd H S o) a vs := by
  rcases h with (h | ⟨u, h⟩) | h
  · exact .inl (.inl (by rw [upd_ne (hS _ h)]; exact h))
  · exact .inl (.inr ⟨u, by rw [upd_ne (hS _ h)]; exact h⟩)
  · exact .inr h
theorem SqT.upd {K : PySem.W.Frag} {H : Hp} {S a : Addr} {o : HO} {vs : List V} (h : SqT K H a vs) (hS : ∀ u, H a = some u → a ≠ S) : SqT K (upd H S o) a vs := by
  rcases h with (h | ⟨u, h⟩) | h
  · exact .inl (.inl (by rw [upd_ne (hS _ h)]; exact h))
  · exact .inl (.inr ⟨u, by rw [upd_ne (hS _ h)]; exact h⟩)
  · exact .inr h
theorem paired_get' {α β : Type} {F : α → β → Prop} : ∀ {as : List α} {bs : List β} {j : Nat} {a : α} {b : β}, Paired F as bs → as[j]? = some a → bs[j]? = some b → F a b
  | _, _, 0, _, _, .cons h _, e1, e2 => by
    simp at e1 e2
    subst e1 e2
    exact h
  | _, _, j + 1, _, _, .cons _ t, e1, e2 => paired_get' t (by simpa using e1) (by simpa using e2)
  | _, _, _, _, _, .nil, e1, _ => by simp at e1
section
variable {X : Cx} {pins : List (Addr × Obj)} {σ : St}
theorem upd_loopT {A : Around} {R : Result → Shared → Prop} {S I l : Addr} {res : Value} {ps0 : List Addr} {H0 : Hp} (hh : A.handled = none) (hu : A.in1.units < cLine) (hS0 : H0 S = none) (hl0 : SqL X.K H0 l (ps0.map V.ref)) (hlS : l ≠ S) :
    ∀ (rest : List (Addr × (List Key × V))) (i : Nat) (acc : List (List Key × V)) (ix : Int) (t : Tok) (s : Shared), Inv X pins σ (upd H0 S (.dT acc)) s → ps0.length = i + rest.length → acc.length + rest.length < sizeLine →
      (∀ (j : Nat) (q : Addr × (List Key × V)), rest[j]? = some q → ps0[i + j]? = some q.1 ∧ PairT X.K H0 q.1 q.2) →
      s.heap.IsListIter I l i → FpOk X pins (upd H0 S (.dT acc)) I → l ≠ I →
      (∀ s', Inv X pins σ (upd H0 S (.dT (mergeT acc (rest.map (·.2))))) s' → R (.ok (.ret res)) s') →
      codeAny (model X.prog X.w) A (.builtin "dict.update.loop" ⟨[.ref S, .ref I, .int ix t, res], []⟩) R s
  | [], i, acc, ix, t, s, Iv, hsz, hln, ht, hit, fp, hlI, hR => by
    have hl1 : SqL X.K (upd H0 S (.dT acc)) l (ps0.map V.ref) := SqL.upd hl0 fun _ _ => hlS
    obtain ⟨its, rv, pl, hz⟩ := Iv.list hl1
    have ei := refs_at rv
    subst ei
    refine codeAny_builtin ud_entry ?_
    rw [Around.under_plainId ud_plain _]
    show wpAny _ A.in1 (pyNext (.ref I) >>= _) _ _ s
    refine wpAny_bind (wpAny_pyNext_list_end (A := A.in1) hh hit pl.isList (Array.getElem?_eq_none (by simp; simp at hsz; omega)) fun h' he => ?_)
    show wpAny _ A.in1 (Builtin.Dict.addKeywords S [] >>= _) _ _ _
    refine wpAny_bind (wpAny_pure (wpAny_pure ?_))
    obtain ⟨f0, f1, f2, f3, f4, f5⟩ := fp
    exact hR _ (Iv.turned (t' := s.toks) (fun b o hb e => he b o hb e) f0 f1 f3 f4 f5)
  | q :: rest, i, acc, ix, t, s, Iv, hsz, hln, ht, hit, fp, hlI, hR => by
    rw [List.length_cons] at hsz hln
    obtain ⟨hp, b, hq, hb⟩ := ht 0 q rfl
    have hSp : ∀ u, H0 q.1 = some u → q.1 ≠ S := fun u e z => by rw [z, hS0] at e; cases e
    have hSb : b ≠ S := fun z => by rw [z, hS0] at hb; cases hb
    have hl1 : SqL X.K (upd H0 S (.dT acc)) l (ps0.map V.ref) := SqL.upd hl0 fun _ _ => hlS
    obtain ⟨its, rv, pl, hz⟩ := Iv.list hl1
    have ei := refs_at rv
    subst ei
    have ex0 : (ps0.map Value.ref).toArray[i]? = some (Value.ref q.1) := by
      have e0 : ps0[i]? = some q.1 := by simpa using hp
      simp [e0]
    refine codeAny_builtin ud_entry ?_
    rw [Around.under_plainId ud_plain _]
    show wpAny _ A.in1 (pyNext (.ref I) >>= _) _ _ s
    refine wpAny_bind (wpAny_pyNext_list_item (x := .ref q.1) hit pl.isList ex0 fun h1 hit1 hs1 => ?_)
    obtain ⟨f0, f1, f2, f3, f4, f5⟩ := fp
    have I1 : Inv X pins σ (upd H0 S (.dT acc)) { s with heap := h1 } := Iv.turned (t' := s.toks) (fun b o hb e => (hs1.2 b hb).trans e) f0 f1 f3 f4 f5
    have hq1 : SqT X.K (upd H0 S (.dT acc)) q.1 [.ref b, q.2.2] := SqT.upd hq hSp
    obtain ⟨its2, rv2, tp, hz2⟩ := I1.tuple hq1
    obtain ⟨u1, u2, e2, r1, r2⟩ := vals2 rv2
    subst e2
    obtain rfl : u1 = Value.ref b := r1
    obtain ⟨o, ho, hcl, nn, hd⟩ := id tp
    show wpAny _ A.in1 (holding [Value.ref q.1] _ >>= _) _ _ _
    refine wpAny_bind (wpAny_holding ?_)
    refine wpAny_bind (wpAny_tryCatch ?_)
    unfold Builtin.Dict.pairItems
    refine wpAny_bind (wpAny_typeOf (T := "tuple") ⟨o, ho, hcl⟩ ?_)
    rw [if_pos (by first | decide | rfl | simp)]
    refine wpAny_bind (wpAny_seqItems ho hd (wpAny_pure ?_))
    show wpAny _ A.in1 (holding [Value.ref b, u2] (dictSet S (.ref b) u2)) _ _ _
    have fpI : ∀ b' ∈ [I], FpOk X pins (upd H0 S (.dT acc)) b' := fun b' hb' => by
      rw [List.mem_singleton.mp hb']
      exact ⟨f0, f1, f2, f3, f4, f5⟩
    obtain ⟨oI, hoI, hcI, hdI⟩ := id hit1
    have I1p := I1.pinned fpI fun b' hb' => by
      rw [List.mem_singleton.mp hb']
      exact ⟨oI, hoI, fun v z => by rw [hdI] at z; cases z⟩
    refine wpAny_holding (d_dictSetT (A := A.in1) hu I1p upd_same (by omega) (by rw [upd_ne hSb]; exact hb) r2 fun s2 I2 => ?_)
    have hI2 : s2.heap.get? I = some oI := (I2.pin (I, oI) (List.mem_append_right _ (List.mem_append_right _ (mem_pinsAt (List.mem_singleton.mpr rfl) hoI)))).1
    have eH : upd (upd H0 S (.dT acc)) S (.dT (putK acc q.2.1 q.2.2)) = upd H0 S (.dT (putK acc q.2.1 q.2.2)) := by
      funext c
      by_cases hcS : c = S
      · rw [hcS, upd_same, upd_same]
      · rw [upd_ne hcS, upd_ne hcS, upd_ne hcS]
    rw [eH] at I2
    have hIS : I ≠ S := fun z => by rw [z, upd_same] at f0; cases f0
    have I3 := I2.unpinned
    have hlen := length_putK acc q.2.1 q.2.2
    refine wpAny_pure ⟨plainId_quiet ud_plain _, upd_loopT hh hu hS0 hl0 hlS rest (i + 1) (putK acc q.2.1 q.2.2) (ix + 1) 0 s2 I3 (by omega) (by omega) (fun j q' e => ?_) ⟨oI, hI2, hcI, hdI⟩ ⟨?_, f1, f2, f3, f4, f5⟩ hlI fun s' I' => hR s' I'⟩
    · obtain ⟨a1, a2⟩ := ht (j + 1) q' (by simpa using e)
      refine ⟨?_, a2⟩
      rw [show i + 1 + j = i + (j + 1) by omega]
      exact a1
    · rw [upd_ne hIS] at f0 ⊢
      exact f0
/-- dict(xs) of a list of pairs (key, value), the keys tuples -/
theorem call_dictPT (hcalm : X.calm = true) (hu : X.A.units + 2 < cLine) : CallR X (.type "dict") (fun xs H Q => ∃ (a : Addr) (ps : List Addr) (kvs : List (List Key × V)), xs = [.ref a] ∧ SqL X.K H a (ps.map V.ref) ∧ Paired (PairT X.K H) ps kvs ∧ kvs.length < sizeLine ∧
    ∀ p, H p = none → Q (.ref p) (upd H p (.dT (mergeT [] kvs)))) := by
  intro pins s σ H xs us Q I r q
  obtain ⟨a, ps, kvs, ex, hq, hp, hzk, q⟩ := q
  subst ex
  obtain ⟨u, eu, rx⟩ := vals1 r
  subst eu
  obtain rfl : u = Value.ref a := rx
  obtain ⟨its, rv, pl, hz⟩ := I.list hq
  have ei := refs_at rv
  subst ei
  obtain ⟨ol, n, hl, hc, hd, hdat⟩ := pl
  have hh := I.ok.hd hcalm
  have hn := I.hok.fresh (Nat.le_refl s.heap.objs.size)
  have I1 := I.laid (a := s.heap.objs.size) (o := .dT []) (h' := s.heap.push { cls := .type "dict", data := .dict #[] }) (t' := s.toks) (fun _ _ q => Heap.get?_push_of_some _ q) (Nat.le_refl _) (dt_empty s.heap I.big)
  have hpl : ps.length = kvs.length := hp.length
  refine callType_codes (Q₁ := fun obj s₁ => obj = .ref s.heap.objs.size ∧ s₁ = { s with heap := s.heap.push { cls := .type "dict", data := .dict #[] } }) PySem.F.kt_called_dict (PySem.F.kt_typeCall_dict_1 _) PySem.F.entry_dict_init (kt_code_dict_new _ ⟨rfl, rfl⟩) ?_
  rintro obj s₁ ⟨rfl, rfl⟩
  have k0 : ∀ b o, s.heap.get? b = some o → (s.heap.push { cls := .type "dict", data := .dict #[] }).get? b = some o := fun b o e => Heap.get?_push_of_some _ e
  have hT : Shared.TypeIs { s with heap := s.heap.push { cls := .type "dict", data := .dict #[] } } (.ref s.heap.objs.size) "dict" := ⟨_, Heap.get?_push_size _ rfl, rfl⟩
  refine ⟨hT, PySem.F.args_dict_init_2 _ _, ?_⟩
  unfold Builtin.«dict.__init__»
  refine wpAny_bind ?_
  unfold Builtin.Dict.selfAndRest
  refine wpAny_bind (wpAny_notOrdered_dict hT ?_)
  show wpAny _ _ (pure (s.heap.objs.size, [Value.ref a])) _ _ _
  refine wpAny_pure ?_
  show wpAny _ _ (Builtin.Dict.updateFrom "dict.__init__" s.heap.objs.size (.ref a) [] .none) _ _ _
  unfold Builtin.Dict.updateFrom
  refine wpAny_bind (wpAny_typeOf (T := "list") ⟨ol, k0 _ _ hl, hc⟩ ?_)
  rw [if_pos (by first | decide | rfl | simp)]
  refine wpAny_bind (miss_list (k0 _ _ hl) hc hdat hd hh fun h1 tk1 hk1 => ?_)
  rw [if_pos (show (none : Option Value).isNone = true from rfl)]
  refine wpAny_bind (wpAny_rule ?_)
  have I2 : Inv X pins σ (upd H s.heap.objs.size (.dT [])) { s with heap := h1, toks := tk1 } := I1.kept (t' := tk1) fun b o e => hk1 b o e
  have hl1 : h1.IsList a (ps.map Value.ref).toArray := ⟨ol, hk1 _ _ (k0 _ _ hl), hc, n, hdat⟩
  refine wpAny_bind (wpAny_pyIter_list hl1 ?_)
  have k2 : ∀ b o, h1.get? b = some o → (h1.push { cls := .type "list_iterator", data := .fields #[.ref a, .int 0 0] }).get? b = some o := fun b o e => Heap.get?_push_of_some _ e
  have hlt : a < s.heap.objs.size := Heap.lt_size hl
  have hS1 : s.heap.objs.size < h1.objs.size := by
    have e : (s.heap.push { cls := .type "dict", data := .dict #[] }).get? s.heap.objs.size = some { cls := .type "dict", data := .dict #[] } := Heap.get?_push_size _ rfl
    exact Heap.lt_size (hk1 _ _ e)
  have I3 : Inv X pins σ (upd H s.heap.objs.size (.dT [])) { s with heap := h1.push { cls := .type "list_iterator", data := .fields #[.ref a, .int 0 0] }, toks := tk1 } := I2.kept (t' := tk1) k2
  have fp : FpOk X pins (upd H s.heap.objs.size (.dT [])) h1.objs.size := I2.fpOk (Nat.le_refl _) (I2.hok.fresh (Nat.le_refl _))
  have key := upd_loopT (X := X) (A := X.A.in1) (pins := pins) (σ := σ) (R := wants (fun r s₂ => r = .none ∧ EP X pins σ Q (.ref s.heap.objs.size) s₂) X.xe) (S := s.heap.objs.size) (I := h1.objs.size) (l := a) (res := Value.none) (ps0 := ps) (H0 := H) hh hu hn hq (Nat.ne_of_lt hlt)
    (ps.zip kvs) 0 [] 0 0 _ I3 (by simp [hpl]) (by simp [hpl]; omega) (fun j q' e => ?_) ⟨_, Heap.get?_push_size _ rfl, rfl, rfl⟩ fp (Nat.ne_of_lt (Nat.lt_trans hlt hS1)) (fun s' I' => ⟨rfl, ?_⟩)
  · first
      | exact wpAny_pure ⟨plainId_quiet ud_plain _, key⟩
      | exact wpAny_bind (wpAny_pure (wpAny_pure ⟨plainId_quiet ud_plain _, key⟩))
  · rw [Nat.zero_add]
    obtain ⟨h1', h2'⟩ := List.getElem?_zip_eq_some.mp e
    exact ⟨h1', paired_get' hp h1' h2'⟩
  · rw [List.map_snd_zip (by omega)] at I'
    exact ⟨.ref s.heap.objs.size, _, I', rfl, q _ hn⟩
end
end L2

namespace IL
open PySem L2
variable {T : Sta'} {X : Cx} {W W' : WX} {cx : ECx}
theorem putAllK_cons {κ : Type} [DecidableEq κ] {key : D → Option κ} {d : D} {r : List D} {acc z : List κ × List D} (e : putAllK key (d :: r) acc = some z) : ∃ k v x, d = .tup [k, v] ∧ key k = some x ∧ putAllK key r (putK acc.1 acc.2 x v) = some z := by
  unfold putAllK at e
  split at e
  · rename_i h
    simp at h
  · rename_i k v r' h
    simp only [List.cons.injEq] at h
    obtain ⟨h1, h2⟩ := h
    subst h1 h2
    split at e
    · rename_i x hx
      exact ⟨k, v, x, rfl, hx, e⟩
    · cases e
  · cases e
theorem putAll_ok {st : SS} {σ : L2.St} {H S : Hp} {M : Ms} (I : RI T.toSta st σ H S M) : ∀ (ds : List D) (vs : List V) (ks ks' : List (List Key)) (es es' : List D) (us : List V), Reps T.toSta M S ds vs → putAllK tkeyD ds (ks, es) = some (ks', es') → ks.length = us.length → Reps T.toSta M S es us →
    ∃ ps kvs us', vs = ps.map V.ref ∧ Paired (PairT T.K H) ps kvs ∧ kvs.length = ds.length ∧ mergeT (ks.zip us) kvs = ks'.zip us' ∧ ks'.length = us'.length ∧ Reps T.toSta M S es' us'
  | [], vs, ks, ks', es, es', us, r, e, l, re => by
    cases r
    simp only [putAllK] at e
    cases e
    exact ⟨[], [], us, rfl, .nil, rfl, rfl, l, re⟩
  | d :: ds, vs, ks, ks', es, es', us, r, e, l, re => by
    obtain ⟨k, v, x, ed, hx, e9⟩ := putAllK_cons e
    subst ed
    cases r with
    | cons h r =>
      cases h with
      | tup hS r2 =>
        cases r2 with
        | cons rk r3 =>
          cases r3 with
          | cons rv r4 =>
            cases r4
            have hx' := hx
            unfold tkeyD at hx'
            split at hx'
            · cases rk with
              | tup hk rk2 =>
                have ek := keysD_ok rk2 hx'
                subst ek
                obtain ⟨us1, p1, p2, p3⟩ := putK_ok rv (k := x) re l
                obtain ⟨ps, kvs, us', q1, q2, q3, q4, q5, q6⟩ := putAll_ok I ds _ _ ks' _ es' us1 r e9 p2 p3
                refine ⟨_ :: ps, (x, _) :: kvs, us', by rw [q1] <;> rfl, .cons ⟨_, .of (I.sub _ _ hS), I.sub _ _ hk⟩ q2, by rw [List.length_cons, List.length_cons, q3], ?_, q5, q6⟩
                show mergeT (L2.putK (ks.zip us) x _) kvs = _
                rw [p1]
                exact q4
            · cases hx'
theorem k_dictT : BiOk T .dictT (fun xs H Q => ∃ (a : Addr) (ps : List Addr) (kvs : List (List Key × V)), xs = [.ref a] ∧ SqL T.K H a (ps.map V.ref) ∧ Paired (PairT T.K H) ps kvs ∧ kvs.length < sizeLine ∧
    ∀ p, H p = none → Q (.ref p) (upd H p (.dT (mergeT [] kvs)))) := by
  intro st σ H S M ds vs d Q I vv e q
  simp only [biD] at e
  unfold dictTD at e
  split at e
  · split at e
    · rename_i hz
      obtain ⟨⟨ks', es'⟩, e1, e2⟩ := Option.map_eq_some_iff.mp e
      simp only at e2
      subst e2
      obtain ⟨v, ev, w⟩ := v1 vv
      subst ev
      obtain ⟨a, us, ea, ha, r⟩ := w.lst I
      rw [ea]
      obtain ⟨ps, kvs, us', q1, q2, q3, q4, q5, q6⟩ := putAll_ok I _ us [] ks' [] es' [] r e1 rfl .nil
      refine ⟨a, ps, kvs, rfl, .of (by rw [← q1]; exact ha), q2, by omega, fun p hp => ?_⟩
      have q4' : mergeT [] kvs = ks'.zip us' := q4
      rw [q4']
      exact q _ _ _ (I.fresh hp) (ExtE.fresh I hp) _ (.inl ⟨rfl, p, _, rfl, hp, upd_same, I.noS hp, I.noM hp, .dT q5 q6⟩)
    · cases e
  · cases e
end IL

set_option Elab.async false
set_option linter.all false
set_option maxRecDepth 100000
set_option maxHeartbeats 4000000
/-! IL17: from the text to the small language: expressions. -/
namespace IL
open PySem L2
/-- what a global name is -/
inductive NK where
  | fn (i : Nat) | bi | con (d : D)
structure GT where
  nm : List (Str × NK)
  kw : List (Str × Nat × List Str × List Nat)
  ro : Bool
variable {T : Sta'} {cx : ECx}
structure GX (T : Sta') (cx : ECx) (G : GT) (N : List Str) (sc : Scope) (fnF : Str → Bool) (W : WX) (X : Cx) : Prop where
  hK : X.K = T.K
  hw : X.w = T.w
  calm : X.calm = true
  hN : X.N = N
  nd : N.Nodup
  hsc : X.env.scope = sc
  hfn : ∀ x, fnF x = true → X.fn x = true
  tk : Takes X W
  un : X.A.units + 65 < cLine
  fnI : ∀ x i, G.nm.lookup x = some (.fn i) → ∃ ps, FnI X T cx x i ps
  bi : ∀ x, G.nm.lookup x = some .bi → X.mg x = none
  con : ∀ x d, G.nm.lookup x = some (.con d) → ∃ u v, X.mg x = some u ∧ RelV v u ∧ ∀ M S, Rep T.toSta M S d v
  kwI : ∀ x i ks pm, (x, i, ks, pm) ∈ G.kw → KwI X T cx x i 0 ks pm
def W0 : WX := fun _ _ _ _ => False
section
variable {G : GT} {N : List Str} {sc : Scope} {fnF : Str → Bool} {W : WX} {X : Cx}
theorem GX.blk (g : GX T cx G N sc fnF W X) (s : Shared) (H : Hp) (scope : Scope) (C : Addr) (cl : List (Str × Addr)) (fp : List Addr) :
    GX T cx G N (relS scope sc) (fun x => match scope.names.lookup x with | some .cell => true | _ => false) W0 (X.blk s H scope (compEnvC scope cl C X.env) fp) := by
  refine ⟨g.hK, g.hw, g.calm, g.hN, g.nd, ?_, fun x h => ?_, takes0, g.un, fun x i h => ?_, g.bi, g.con, fun x i ks pm h => ?_⟩
  · rw [← g.hsc] <;> rfl
  · split at h
    · rename_i e
      show (scope.names.lookup x == some .cell) = true
      rw [e] <;> rfl
    · cases h
  · obtain ⟨ps, ⟨F, ar⟩⟩ := g.fnI x i h
    exact ⟨ps, ⟨F, ar⟩⟩
  · exact ⟨(g.kwI x i ks pm h).ex⟩
end
/-- what is to be shown of an expression -/
structure EOk (T : Sta') (cx : ECx) (W : WX) (X : Cx) (e : Expr) (ie : IE) : Prop where
  val : ∀ b, PE X e (tI T W cx b ie)
  test : PT X e (tTs T W cx ie)
/-- .. and where the value is no one's -/
def isF : IE → Bool
  | .bi (.isi _) _ => false
  | .lst _ | .dic0 _ | .dic1 _ _ | .dicT _ _ | .comp .. | .comp2 .. => true
  | .bi .. | .bin .. | .sli .. | .rev _ => true
  | _ => false
theorem isF_ev {ie : IE} (h : isF ie = true) (b : Bool) (st : SS) : ev cx b ie st = ev cx false ie st := by
  cases ie <;> first | rfl | simp [isF] at h
def EF (T : Sta') (cx : ECx) (W : WX) (X : Cx) (e : Expr) (ie : IE) : Prop := isF ie = true → PE X e (tF T W cx ie)
def plainT : Expr → Bool
  | .UnaryOp .Not _ _ | .BoolOp .. | .IfExp .. | .Compare .. => false
  | _ => true
theorem plainT_ok {e : Expr} (h : plainT e = true) (env : Env) (whole : Sem Value) : isTrue e env whole = (do let v ← whole; standAt e.pos; holding [v] (truthy v)) := by
  cases e with
  | UnaryOp op a p => cases op <;> first | rfl | simp [plainT] at h
  | BoolOp => simp [plainT] at h
  | IfExp => simp [plainT] at h
  | Compare => simp [plainT] at h
  | _ => rfl
section
variable {G : GT} {N : List Str} {sc : Scope} {fnF : Str → Bool} {W : WX} {X : Cx}
theorem EOk.of {e : Expr} {ie : IE} (hp : plainT e = true) (h : ∀ b, PE X e (tI T W cx b ie)) : EOk T cx W X e ie := ⟨h, s_val (plainT_ok hp X.env) (h true)⟩
theorem EOk.ofF {e : Expr} {ie : IE} (hp : plainT e = true) (hf : isF ie = true) (h : PE X e (tF T W cx ie)) : EOk T cx W X e ie := EOk.of hp fun b => IL.PE.ofF (fun st => isF_ev hf b st) h

/-! ### the parts -/
def cCon : Const → Option IE
  | .int i => some (.con (.int i))
  | .bool b => some (.con (.bl b))
  | .str x => some (.con (.str x))
  | .none => some (.con .non)
  | _ => none
theorem cCon_ok {c : Const} {ie : IE} {k : Nat} {p : Pos} (h : cCon c = some ie) : EOk T cx W X (.Constant c k p) ie := by
  cases c <;> simp only [cCon] at h <;> cases h
  all_goals first
    | exact .of rfl fun b => s_int
    | exact .of rfl fun b => s_bl
    | exact .of rfl fun b => s_str
    | exact .of rfl fun b => s_non
def visB (sc : Scope) (x : Str) : Bool := match sc.names.lookup x with
  | some .local | some .cell | some .free => true
  | _ => false
theorem visB_ok {x : Str} (g : GX T cx G N sc fnF W X) (h : visB sc x = true) : Vis X.env.scope x := by
  unfold visB at h
  unfold Vis
  rw [g.hsc]
  split at h
  · exact .inl (by assumption)
  · exact .inr (.inl (by assumption))
  · exact .inr (.inr (by assumption))
  · cases h
def locB (sc : Scope) (fnF : Str → Bool) (x : Str) : Bool := match sc.names.lookup x with
  | some .local => true
  | some .cell => fnF x
  | _ => false
theorem locB_ok {x : Str} (g : GX T cx G N sc fnF W X) (h : locB sc fnF x = true) : L2.Loc X.env.scope x ∧ (X.fn x = true ∨ X.env.scope.names.lookup x = some .local) := by
  unfold locB at h
  unfold L2.Loc
  rw [g.hsc]
  split at h
  · exact ⟨.inl (by assumption), .inr (by assumption)⟩
  · exact ⟨.inr (by assumption), .inl (g.hfn x h)⟩
  · cases h
def gloB (sc : Scope) (x : Str) : Bool := (match sc.names.lookup x with
  | some .globalImplicit => true
  | _ => false) && !(x == ("__debug__" : Str))
theorem gloB_ok {x : Str} (g : GX T cx G N sc fnF W X) (h : gloB sc x = true) : Gl X x ∧ (x == ("__debug__" : Str)) = false := by
  unfold gloB at h
  simp only [Bool.and_eq_true, Bool.not_eq_true'] at h
  refine ⟨?_, h.2⟩
  have h1 := h.1
  show X.env.scope.names.lookup x = some .globalImplicit
  rw [g.hsc]
  split at h1
  · assumption
  · cases h1
def okN (x : Str) : Bool := !(x == ("__debug__" : Str)) && !(x == ("__classdict__" : Str))
theorem okN_ok {x : Str} (h : okN x = true) : (x == ("__debug__" : Str)) = false ∧ (x == ("__classdict__" : Str)) = false := by
  unfold okN at h
  simpa only [Bool.and_eq_true, Bool.not_eq_true'] using h
/-- the slot of a name -/
def slotN : List Str → Str → Option Nat
  | [], _ => none
  | y :: ys, x => if y = x then some 0 else (slotN ys x).map (· + 1)
theorem slotN_ok : ∀ {ys : List Str} {x : Str} {i : Nat}, slotN ys x = some i → ys[i]? = some x
  | [], x, i, h => by cases h
  | y :: ys, x, i, h => by
    unfold slotN at h
    split at h
    · rename_i e
      cases h
      rw [e] <;> rfl
    · obtain ⟨j, h1, h2⟩ := Option.map_eq_some_iff.mp h
      subst h2
      rw [List.getElem?_cons_succ]
      exact slotN_ok h1
def cName (G : GT) (N : List Str) (sc : Scope) (x : Str) : Option IE :=
  if (okN x && visB sc x) = true then (slotN N x).map .var else
    if gloB sc x = true then (match G.nm.lookup x with
      | some (.con d) => some (.con d)
      | _ => none) else none
theorem cName_ok {x : Str} {ie : IE} {p : Pos} (g : GX T cx G N sc fnF W X) (h : cName G N sc x = some ie) : EOk T cx W X (.Name x p) ie := by
  unfold cName at h
  split at h
  · rename_i hv
    simp only [Bool.and_eq_true] at hv
    obtain ⟨i, h1, h2⟩ := Option.map_eq_some_iff.mp h
    subst h2
    obtain ⟨d1, d2⟩ := okN_ok hv.1
    exact .of rfl fun b => s_var (by rw [g.hN]; exact slotN_ok h1) (visB_ok g hv.2) d1 d2
  · split at h
    · rename_i hg
      split at h
      · rename_i d hd
        cases h
        obtain ⟨u, v, h1, h2, h3⟩ := g.con x d hd
        obtain ⟨g1, g2⟩ := gloB_ok g hg
        exact .of rfl fun b => s_con (pe_glob g1 h1 h2 g2) h3
      · cases h
    · cases h
def opOf : Operator → Option Op2
  | .Add => some .add
  | .Sub => some .sub
  | .Mult => some .mul
  | .FloorDiv => some .fdiv
  | .Mod => some .mod
  | .Pow => some .pow
  | _ => none
theorem opOf_ok {o : Operator} {i : Op2} (h : opOf o = some i) : o = pyOp i := by
  cases o <;> simp only [opOf] at h <;> cases h <;> rfl
def cmOf : CmpOp → Cm
  | .Eq => .eq
  | .NotEq => .ne
  | .Lt => .lt
  | .LtE => .le
  | .Gt => .gt
  | .GtE => .ge
  | .Is => .is_
  | .IsNot => .isn
  | .In => .inn
  | .NotIn => .notin
theorem cmOf_ok (o : CmpOp) : pyCm (cmOf o) = o := by cases o <;> rfl
abbrev Rc := Scope → (Str → Bool) → Expr → Option IE
/-- the compiler keeps its promise -/
def Snd (T : Sta') (cx : ECx) (G : GT) (N : List Str) (rec : Rc) : Prop := ∀ (sc : Scope) (fnF : Str → Bool) (W : WX) (X : Cx) (e : Expr) (ie : IE), GX T cx G N sc fnF W X → rec sc fnF e = some ie → EOk T cx W X e ie ∧ EF T cx W X e ie
variable {rec : Rc}
def cList (f : Expr → Option IE) : List Expr → Option IEs
  | [] => some .nil
  | e :: es => if notStar e = true then (match f e with
    | some ie => (match cList f es with
      | some ies => some (.cons ie ies)
      | none => none)
    | none => none) else none
theorem cList_ok (hr : Snd T cx G N rec) (g : GX T cx G N sc fnF W X) : ∀ {es : List Expr} {ies : IEs}, cList (rec sc fnF) es = some ies → (∀ b, PA X es (tAs T W cx b ies)) ∧ es.all notStar = true
  | [], ies, h => by
    cases h
    exact ⟨fun b => s_nil, rfl⟩
  | e :: es, ies, h => by
    simp only [cList] at h
    split at h
    · rename_i hs
      split at h
      · rename_i ie he
        split at h
        · rename_i ies' hes
          cases h
          obtain ⟨h1, h2⟩ := cList_ok hr g hes
          exact ⟨fun b => s_cons hs ((hr _ _ _ _ _ _ g he).1.val b) (h1 b), by simp [hs, h2]⟩
        · cases h
      · cases h
    · cases h
/-- and, or -/
def cBool (f : Expr → Option IE) (op : BoolOp) : List Expr → Option IE
  | [] => none
  | [a] => f a
  | a :: r => match f a with
    | some ia => (match cBool f op r with
      | some ib => some (match op with
        | .And => .and ia ib
        | .Or => .or ia ib)
      | none => none)
    | none => none
theorem cBool_ok (hr : Snd T cx G N rec) (g : GX T cx G N sc fnF W X) {op : BoolOp} {p : Pos} : ∀ {es : List Expr} {ie : IE}, cBool (rec sc fnF) op es = some ie → (∀ b, PE X (.BoolOp op es p) (tI T W cx b ie)) ∧ PW X (.BoolOp op es p) (tTs T W cx ie)
  | [], ie, h => by cases h
  | [a], ie, h => by
    simp only [cBool] at h
    obtain ⟨h1, _⟩ := hr _ _ _ _ _ _ g h
    refine ⟨fun b => s_one (h1.val b), ?_⟩
    cases op with
    | And => exact w_and1 h1.test
    | Or => exact w_or1 h1.test
  | a :: c :: r, ie, h => by
    simp only [cBool] at h
    split at h
    · rename_i ia ha
      split at h
      · rename_i ib hb
        cases h
        obtain ⟨h1, _⟩ := hr _ _ _ _ _ _ g ha
        obtain ⟨h2, h3⟩ := cBool_ok hr g (op := op) (p := p) hb
        cases op with
        | And => exact ⟨fun b => s_and (h1.val true) (h2 b), w_and h1.test h3⟩
        | Or => exact ⟨fun b => s_or (h1.val true) (h2 b), w_or h1.test h3⟩
      · cases h
    · cases h
/-! ### targets -/
def cTg (N : List Str) (sc : Scope) (fnF : Str → Bool) : Nat → Expr → Option Tg
  | 0, _ => none
  | n + 1, .Name x _ => if locB sc fnF x = true then (slotN N x).map .nm else none
  | n + 1, .Tuple es _ _ => (go (cTg N sc fnF n) es).map .tu
  | _ + 1, _ => none
where go (f : Expr → Option Tg) : List Expr → Option Tgs
  | [] => some .nil
  | e :: es => if notStar e = true then (match f e with
    | some t => (match go f es with
      | some ts => some (.cons t ts)
      | none => none)
    | none => none) else none
theorem each_cons {e : Expr} (h : notStar e = true) (es : List Expr) (env : Env) : assignEach (e :: es) env = (false, assign e env) :: assignEach es env := by
  cases e <;> first | rfl | cases h
theorem cTg_go_ok {f : Expr → Option Tg} (hf : ∀ e t, f e = some t → PG X e (tTg T t)) : ∀ {es : List Expr} {ts : Tgs}, cTg.go f es = some ts → PGs X es (tTgs T ts) ∧ (assignEach es X.env).length = tgsLen ts ∧ (assignEach es X.env).findIdx? (·.1) = none
  | [], ts, h => by
    simp only [cTg.go] at h
    cases h
    exact ⟨gs_nil, rfl, rfl⟩
  | e :: es, ts, h => by
    simp only [cTg.go] at h
    split at h
    · rename_i hs
      split at h
      · rename_i t he
        split at h
        · rename_i ts' hes
          cases h
          obtain ⟨h1, h2, h3⟩ := cTg_go_ok hf hes
          have hc := each_cons hs es X.env
          refine ⟨gs_cons (hf e t he) h1 (by rw [hc] <;> rfl), by rw [hc, List.length_cons, h2] <;> rfl, ?_⟩
          rw [hc, List.findIdx?_cons]
          simp only [Bool.false_eq_true, if_false]
          rw [h3] <;> rfl
        · cases h
      · cases h
    · cases h
theorem cTg_ok (g : GX T cx G N sc fnF W X) : ∀ (n : Nat) (e : Expr) (t : Tg), cTg N sc fnF n e = some t → PG X e (tTg T t)
  | 0, _, _, h => by cases h
  | n + 1, e, t, h => by
    cases e with
    | Name x p =>
      simp only [cTg] at h
      split at h
      · rename_i hl
        obtain ⟨i, h1, h2⟩ := Option.map_eq_some_iff.mp h
        subst h2
        obtain ⟨l1, l2⟩ := locB_ok g hl
        have nd : X.N.Nodup := by rw [g.hN]; exact g.nd
        exact g_nm nd (by rw [g.hN]; exact slotN_ok h1) l1 l2
      · cases h
    | Tuple es k p =>
      simp only [cTg] at h
      obtain ⟨ts, h1, h2⟩ := Option.map_eq_some_iff.mp h
      subst h2
      obtain ⟨a, b, c⟩ := cTg_go_ok (X := X) (T := T) (fun e t he => cTg_ok g n e t he) h1
      exact g_tu g.hK g.calm a b c
    | _ => simp [cTg] at h
end
end IL

set_option Elab.async false
set_option linter.all false
set_option maxRecDepth 100000
set_option maxHeartbeats 4000000
/-! IL18: from the text to the small language: what is walked, comprehensions, calls. -/
namespace IL
open PySem L2
variable {T : Sta'} {cx : ECx} {G : GT} {N : List Str} {sc : Scope} {fnF : Str → Bool} {W : WX} {X : Cx} {rec : Rc}
def isBi (G : GT) (sc : Scope) (x : Str) : Bool := gloB sc x && (match G.nm.lookup x with
  | some .bi => true
  | _ => false)
theorem isBi_ok {x : Str} (g : GX T cx G N sc fnF W X) (h : isBi G sc x = true) : Gl X x ∧ X.mg x = none ∧ (x == ("__debug__" : Str)) = false := by
  unfold isBi at h
  simp only [Bool.and_eq_true] at h
  obtain ⟨h1, h2⟩ := h
  obtain ⟨g1, g2⟩ := gloB_ok g h1
  split at h2
  · exact ⟨g1, g.bi x (by assumption), g2⟩
  · cases h2
def one? : Expr → Bool
  | .UnaryOp .USub (.Constant (.int i) _ _) _ => i == 1
  | _ => false
def isTupE : Expr → Bool
  | .Tuple .. => true
  | _ => false
/-- what is walked -/
def cIt (G : GT) (f : Expr → Option IE) (sc : Scope) (tg : Expr) : Expr → Option II
  | .Call (.Name x p) [a] [] pos => if (x == "range" && isBi G sc x && notStar a) = true then (f a).map .rng1 else
      if (x == "enumerate" && isBi G sc x && notStar a && isTupE tg) = true then (f a).map .enum else (f (.Call (.Name x p) [a] [] pos)).map .seq
  | .Call (.Name x p) [a, b] [] pos => if (x == "range" && isBi G sc x && notStar a && notStar b) = true then (match f a, f b with
      | some ia, some ib => some (.rng2 ia ib)
      | _, _ => none) else (f (.Call (.Name x p) [a, b] [] pos)).map .seq
  | .Call (.Name x p) [a, b, c] [] pos => if (x == "range" && isBi G sc x && notStar a && notStar b && one? c) = true then (match f a, f b with
      | some ia, some ib => some (.rng3 ia ib)
      | _, _ => none) else (f (.Call (.Name x p) [a, b, c] [] pos)).map .seq
  | e => (f e).map .seq
theorem seq_ok (hr : Snd T cx G N rec) (g : GX T cx G N sc fnF W X) {tg e : Expr} {it : II} (h : (rec sc fnF e).map .seq = some it) : PI X tg e (tIt T W cx it) := by
  obtain ⟨ie, h1, h2⟩ := Option.map_eq_some_iff.mp h
  subst h2
  exact i_seq g.hK ((hr _ _ _ _ _ _ g h1).1.val false)
theorem cIt_ok (hr : Snd T cx G N rec) (g : GX T cx G N sc fnF W X) {tg e : Expr} {it : II} (h : cIt G (rec sc fnF) sc tg e = some it) : PI X tg e (tIt T W cx it) := by
  unfold cIt at h
  split at h
  · rename_i x p a pos
    split at h
    · rename_i hc
      simp only [Bool.and_eq_true, beq_iff_eq] at hc
      obtain ⟨⟨hx, hb⟩, hs⟩ := hc
      subst hx
      obtain ⟨g1, g2, _⟩ := isBi_ok g hb
      obtain ⟨ie, h1, h2⟩ := Option.map_eq_some_iff.mp h
      subst h2
      exact i_rng1 g1 g2 hs ((hr _ _ _ _ _ _ g h1).1.val true)
    · split at h
      · rename_i hc
        simp only [Bool.and_eq_true, beq_iff_eq] at hc
        obtain ⟨⟨⟨hx, hb⟩, hs⟩, ht⟩ := hc
        subst hx
        obtain ⟨g1, g2, _⟩ := isBi_ok g hb
        obtain ⟨ie, h1, h2⟩ := Option.map_eq_some_iff.mp h
        subst h2
        cases tg with
        | Tuple es k q => exact i_enum g.hK g1 g2 hs ((hr _ _ _ _ _ _ g h1).1.val false)
        | _ => simp [isTupE] at ht
      · exact seq_ok hr g h
  · rename_i x p a b pos
    split at h
    · rename_i hc
      simp only [Bool.and_eq_true, beq_iff_eq] at hc
      obtain ⟨⟨⟨hx, hb⟩, hs⟩, hs2⟩ := hc
      subst hx
      obtain ⟨g1, g2, _⟩ := isBi_ok g hb
      split at h
      · rename_i ia ib e1 e2
        cases h
        exact i_rng2 g1 g2 hs hs2 ((hr _ _ _ _ _ _ g e1).1.val true) ((hr _ _ _ _ _ _ g e2).1.val true)
      · cases h
    · exact seq_ok hr g h
  · rename_i x p a b c pos
    split at h
    · rename_i hc
      simp only [Bool.and_eq_true, beq_iff_eq] at hc
      obtain ⟨⟨⟨⟨hx, hb⟩, hs⟩, hs2⟩, ho⟩ := hc
      subst hx
      obtain ⟨g1, g2, _⟩ := isBi_ok g hb
      split at h
      · rename_i ia ib e1 e2
        cases h
        unfold one? at ho
        split at ho
        · rename_i i j q1 q2
          have hi : i = 1 := by simpa using ho
          subst hi
          exact i_rng3 g1 g2 hs hs2 rfl ((hr _ _ _ _ _ _ g e1).1.val true) ((hr _ _ _ _ _ _ g e2).1.val true) (s_neg s_int)
        · cases ho
      · cases h
    · exact seq_ok hr g h
  · exact seq_ok hr g h
/-! ### comprehensions -/
def ownOf (N : List Str) (scope : Scope) : List (Str × Nat) := scope.names.filterMap fun y => match y.2 with
  | .local | .cell => (slotN N y.1).map fun i => (y.1, i)
  | _ => none
abbrev fnB (scope : Scope) : Str → Bool := fun x => match scope.names.lookup x with
  | some .cell => true
  | _ => false
mutual
def slotsT : Tg → List Nat
  | .nm i => [i]
  | .tu ts => slotsTs ts
def slotsTs : Tgs → List Nat
  | .nil => []
  | .cons t ts => slotsT t ++ slotsTs ts
end
/-- an iterable whose display is not folded -/
def noSet : Expr → Bool
  | .Set .. => false
  | _ => true
theorem noSet_ok {e : Expr} (h : noSet e = true) (env : Env) (x : Value) : foldedSetIterable e env x = pure x := by
  cases e <;> first | rfl | simp [noSet] at h
def cIfs (f : Expr → Option IE) : List Expr → Option IEs
  | [] => some .nil
  | [c] => (f c).map fun i => .cons i .nil
  | _ => none
/-- [elt for tg in iter if ..] -/
def cComp (G : GT) (N : List Str) (rec : Rc) (sc : Scope) (fnF : Str → Bool) (elt : Expr) (scope : Scope) : List Comprehension → Option IE
  | [⟨tg, iter, ifs, k⟩] => if (blkC N sc scope (ownOf N scope) && noSet iter && (k == 0)) = true then
      (match cTg N (relS scope sc) (fnB scope) 4 tg, cIt G (rec sc fnF) sc tg iter, cIfs (rec (relS scope sc) (fnB scope)) ifs, rec (relS scope sc) (fnB scope) elt with
      | some t, some it, some iis, some ie => if tgIn t ((ownOf N scope).map (·.2)) = true then some (.comp ((ownOf N scope).map (·.2)) t it iis ie) else none
      | _, _, _, _ => none) else none
  | [⟨tg, iter, [], k⟩, ⟨tg1, iter1, [], k1⟩] => if (blkC N sc scope (ownOf N scope) && noSet iter && noSet iter1 && (k == 0) && (k1 == 0)) = true then
      (match cTg N (relS scope sc) (fnB scope) 4 tg, cIt G (rec sc fnF) sc tg iter, cTg N (relS scope sc) (fnB scope) 4 tg1, cIt G (rec (relS scope sc) (fnB scope)) (relS scope sc) tg1 iter1, rec (relS scope sc) (fnB scope) elt with
      | some t, some it, some t1, some it1, some ie => if (tgIn t ((ownOf N scope).map (·.2)) && tgIn t1 (slotsT t1) && (slotsT t1).all fun i => decide (i ∈ (ownOf N scope).map (·.2))) = true then some (.comp2 ((ownOf N scope).map (·.2)) (slotsT t1) t it t1 it1 ie) else none
      | _, _, _, _, _ => none) else none
  | _ => none
theorem cIfs_ok (hr : Snd T cx G N rec) (g : GX T cx G N sc fnF W X) {ifs : List Expr} {iis : IEs} (h : cIfs (rec sc fnF) ifs = some iis) : PTs X ifs (tIfs T W cx iis) := by
  unfold cIfs at h
  split at h
  · cases h
    exact ts_nil
  · obtain ⟨i, h1, h2⟩ := Option.map_eq_some_iff.mp h
    subst h2
    exact ts_one (hr _ _ _ _ _ _ g h1).1.test
  · cases h
/-- a comprehension, as a value and as what is stored in a name on its line -/
theorem cComp_ok (hr : Snd T cx G N rec) (g : GX T cx G N sc fnF W X) {elt : Expr} {scope : Scope} {gs : List Comprehension} {pos : Pos} {ie : IE} (h : cComp G N rec sc fnF elt scope gs = some ie) :
    isF ie = true ∧ PE X (.ListComp elt gs scope pos) (tF T W cx ie) ∧ ∀ (i : Nat) (y : Str) (py spos : Pos), N[i]? = some y → sc.names.lookup y = some .local → swapsWith (.ListComp elt gs scope pos) (some (.Name y py)) spos.line X.env = pure true →
      PS X (.Assign [.Name y py] (.ListComp elt gs scope pos) spos) (tAsg (tF T W cx ie) (gName i)) := by
  have nd : X.N.Nodup := by rw [g.hN]; exact g.nd
  unfold cComp at h
  split at h
  · rename_i tg iter ifs k
    split at h
    · rename_i hc
      simp only [Bool.and_eq_true, beq_iff_eq] at hc
      obtain ⟨⟨hb, hs⟩, hk⟩ := hc
      subst hk
      split at h
      · rename_i t it iis ie' e1 e2 e3 e4
        split at h
        · rename_i ht
          cases h
          have hb' : blkC X.N X.env.scope scope (ownOf N scope) = true := by rw [g.hN, g.hsc]; exact hb
          have A := fun (s : Shared) (H : Hp) (C : Addr) (cl : List (Str × Addr)) (fp : List Addr) => cTg_ok (g.blk s H scope C cl fp) 4 tg t e1
          have B := fun (s : Shared) (H : Hp) (C : Addr) (cl : List (Str × Addr)) (fp : List Addr) => cIfs_ok hr (g.blk s H scope C cl fp) e3
          have C' := fun (s : Shared) (H : Hp) (C : Addr) (cl : List (Str × Addr)) (fp : List Addr) => (hr _ _ _ _ _ _ (g.blk s H scope C cl fp) e4).1.val false
          refine ⟨rfl, s_compF g.calm nd (cIt_ok hr g e2) (blkOk_by hb') ht A B C' (noSet_ok hs X.env), fun i y py spos hy hl hsw => ?_⟩
          exact IL.PS.of (ps_setLc g.calm nd (by rw [g.hN]; exact hy) (by rw [g.hsc]; exact hl) hsw (cIt_ok hr g e2) (blkOk_by hb') A B C' (noSet_ok hs X.env)) fun D σ H q => comp_imp ht q
        · cases h
      · cases h
    · cases h
  · rename_i tg iter k tg1 iter1 k1
    split at h
    · rename_i hc
      simp only [Bool.and_eq_true, beq_iff_eq] at hc
      obtain ⟨⟨⟨⟨hb, hs⟩, hs1⟩, hk⟩, hk1⟩ := hc
      subst hk hk1
      split at h
      · rename_i t it t1 it1 ie' e1 e2 e3 e4 e5
        split at h
        · rename_i ht
          simp only [Bool.and_eq_true, List.all_eq_true, decide_eq_true_eq] at ht
          obtain ⟨⟨ht, ht1⟩, hv⟩ := ht
          cases h
          have hb' : blkC X.N X.env.scope scope (ownOf N scope) = true := by rw [g.hN, g.hsc]; exact hb
          have A := fun (s : Shared) (H : Hp) (C : Addr) (cl : List (Str × Addr)) (fp : List Addr) => cTg_ok (g.blk s H scope C cl fp) 4 tg t e1
          have B := fun (s : Shared) (H : Hp) (C : Addr) (cl : List (Str × Addr)) (fp : List Addr) => cIt_ok hr (g.blk s H scope C cl fp) e4
          have B' := fun (s : Shared) (H : Hp) (C : Addr) (cl : List (Str × Addr)) (fp : List Addr) => cTg_ok (g.blk s H scope C cl fp) 4 tg1 t1 e3
          have C' := fun (s : Shared) (H : Hp) (C : Addr) (cl : List (Str × Addr)) (fp : List Addr) => (hr _ _ _ _ _ _ (g.blk s H scope C cl fp) e5).1.val false
          refine ⟨rfl, s_comp2F g.calm nd (cIt_ok hr g e2) (blkOk_by hb') hv ht ht1 A B B' C' (noSet_ok hs X.env) (noSet_ok hs1), fun i y py spos hy hl hsw => ?_⟩
          exact IL.PS.of (ps_setLc2 g.calm nd (by rw [g.hN]; exact hy) (by rw [g.hsc]; exact hl) hsw (cIt_ok hr g e2) (blkOk_by hb') hv A (fun _ _ _ _ _ => pts_nil) B B' (fun _ _ _ _ _ => pts_nil) C' (noSet_ok hs X.env) (noSet_ok hs1)) fun D σ H q => comp2_imp hv ht ht1 q
        · cases h
      · cases h
    · cases h
  · cases h
/-! ### calls -/
def biOf (x : Str) (n : Nat) : Option BI :=
  if x = "len" then some .len else if x = "sum" then some .sum else if x = "all" then some .all else if x = "any" then some .any else if x = "abs" then some .abs else
  if x = "int" then some .int else if x = "list" then some .list else if x = "tuple" then some .tuple else if x = "sorted" then some .sorted else if x = "divmod" then some .divmod else if x = "dict" then some .dictT else
  if x = "max" then (if n = 1 then some .max1 else some .max2) else if x = "min" then (if n = 1 then some .min1 else some .min2) else none
theorem biOf_ok (hK : X.K = T.K) (hc : X.calm = true) (hu : X.A.units + 2 < cLine) {x : Str} {n : Nat} {bi : BI} {e : Expr} {es : List Expr} {ies : IEs} {p pos : Pos} (h : biOf x n = some bi) (hg : Gl X x) (hm : X.mg x = none) (hs : (e :: es).all notStar = true) (ha : PA X (e :: es) (tAs T W cx true ies)) :
    PE X (.Call (.Name x p) (e :: es) [] pos) (tF T W cx (.bi bi ies)) := by
  unfold biOf at h
  by_cases hx : x = "len"
  · rw [if_pos hx] at h
    cases h
    subst hx
    have r := IL.CallR.or (call_len (X := X)) call_lenD
    rw [hK] at r
    exact s_biF r k_len hg hm rfl hs ha
  rw [if_neg hx] at h
  clear hx
  by_cases hx : x = "sum"
  · rw [if_pos hx] at h
    cases h
    subst hx
    have r := IL.CallR.or (cr_sum hc) (cr_sumT hc)
    rw [hK] at r
    exact s_biF r k_sum hg hm rfl hs ha
  rw [if_neg hx] at h
  clear hx
  by_cases hx : x = "all"
  · rw [if_pos hx] at h
    cases h
    subst hx
    have r := cr_all hc
    rw [hK] at r
    exact s_biF r k_all hg hm rfl hs ha
  rw [if_neg hx] at h
  clear hx
  by_cases hx : x = "any"
  · rw [if_pos hx] at h
    cases h
    subst hx
    have r := cr_any hc
    rw [hK] at r
    exact s_biF r k_any hg hm rfl hs ha
  rw [if_neg hx] at h
  clear hx
  by_cases hx : x = "abs"
  · rw [if_pos hx] at h
    cases h
    subst hx
    exact s_biF call_abs k_abs hg hm rfl hs ha
  rw [if_neg hx] at h
  clear hx
  by_cases hx : x = "int"
  · rw [if_pos hx] at h
    cases h
    subst hx
    exact s_biTyF call_int1 k_int hg hm rfl hs ha
  rw [if_neg hx] at h
  clear hx
  by_cases hx : x = "list"
  · rw [if_pos hx] at h
    cases h
    subst hx
    have r := call_list_of (X := X)
    rw [hK] at r
    exact s_biTyF r k_list hg hm rfl hs ha
  rw [if_neg hx] at h
  clear hx
  by_cases hx : x = "tuple"
  · rw [if_pos hx] at h
    cases h
    subst hx
    have r := call_tuple_of (X := X)
    rw [hK] at r
    exact s_biTyF r k_tuple hg hm rfl hs ha
  rw [if_neg hx] at h
  clear hx
  by_cases hx : x = "sorted"
  · rw [if_pos hx] at h
    cases h
    subst hx
    have r := cr_sortedI (X := X)
    rw [hK] at r
    exact s_biF r k_sorted hg hm rfl hs ha
  rw [if_neg hx] at h
  clear hx
  by_cases hx : x = "divmod"
  · rw [if_pos hx] at h
    cases h
    subst hx
    exact s_biF call_divmod k_divmod hg hm rfl hs ha
  rw [if_neg hx] at h
  clear hx
  by_cases hx : x = "dict"
  · rw [if_pos hx] at h
    cases h
    subst hx
    have r := call_dictPT hc hu
    rw [hK] at r
    exact s_biTyF r k_dictT hg hm rfl hs ha
  rw [if_neg hx] at h
  clear hx
  by_cases hx : x = "max"
  · rw [if_pos hx] at h
    subst hx
    by_cases hn : n = 1
    · rw [if_pos hn] at h
      cases h
      have r := cr_max hc
      rw [hK] at r
      exact s_biF r k_max1 hg hm rfl hs ha
    · rw [if_neg hn] at h
      cases h
      exact s_biF (call_max2 hc) k_max2 hg hm rfl hs ha
  rw [if_neg hx] at h
  clear hx
  by_cases hx : x = "min"
  · rw [if_pos hx] at h
    subst hx
    by_cases hn : n = 1
    · rw [if_pos hn] at h
      cases h
      have r := cr_min hc
      rw [hK] at r
      exact s_biF r k_min1 hg hm rfl hs ha
    · rw [if_neg hn] at h
      cases h
      exact s_biF (call_min2 hc) k_min2 hg hm rfl hs ha
  rw [if_neg hx] at h
  clear hx
  cases h
def tyOf (x : Str) : Option Ty :=
  if x = "tuple" then some .tup else if x = "list" then some .lst else if x = "int" then some .int else if x = "bool" then some .bool else if x = "str" then some .str else if x = "dict" then some .dict else none
theorem tyOf_ok {x : Str} {ty : Ty} (h : tyOf x = some ty) : bootBuiltins x = some (.type (tyName ty)) ∧ x ≠ "__name__" ∧ (x == ("__debug__" : Str)) = false := by
  unfold tyOf at h
  by_cases hx : x = "tuple"
  · rw [if_pos hx] at h
    cases h
    subst hx
    exact ⟨rfl, by decide, by decide⟩
  rw [if_neg hx] at h
  clear hx
  by_cases hx : x = "list"
  · rw [if_pos hx] at h
    cases h
    subst hx
    exact ⟨rfl, by decide, by decide⟩
  rw [if_neg hx] at h
  clear hx
  by_cases hx : x = "int"
  · rw [if_pos hx] at h
    cases h
    subst hx
    exact ⟨rfl, by decide, by decide⟩
  rw [if_neg hx] at h
  clear hx
  by_cases hx : x = "bool"
  · rw [if_pos hx] at h
    cases h
    subst hx
    exact ⟨rfl, by decide, by decide⟩
  rw [if_neg hx] at h
  clear hx
  by_cases hx : x = "str"
  · rw [if_pos hx] at h
    cases h
    subst hx
    exact ⟨rfl, by decide, by decide⟩
  rw [if_neg hx] at h
  clear hx
  by_cases hx : x = "dict"
  · rw [if_pos hx] at h
    cases h
    subst hx
    exact ⟨rfl, by decide, by decide⟩
  rw [if_neg hx] at h
  clear hx
  cases h
/-- a call by a name -/
def cCall (G : GT) (rec : Rc) (sc : Scope) (fnF : Str → Bool) (x : Str) (args : List Expr) (kws : List Keyword) : Option IE :=
  if gloB sc x = true then
    match G.nm.lookup x, kws with
    | some (.fn i), [] => (cList (rec sc fnF) args).map (.call i)
    | some (.fn i), kws => (match args, G.kw.find? (fun q => q.1 == x && q.2.1 == i && q.2.2.1 == kwNames kws), cList (rec sc fnF) (kwExprs kws) with
      | [], some (_, _, _, pm), some ies => if (kwAll kws && decide ((kwExprs kws).length = (kwNames kws).length) && decide (iesLen ies = (kwNames kws).length)) = true then some (.callP i pm ies) else none
      | _, _, _ => none)
    | some .bi, [] => if x = "isinstance" then (match args with
        | [e, .Name n _] => if (notStar e && isBi G sc n) = true then (match tyOf n, rec sc fnF e with
          | some ty, some ie => some (.bi (.isi ty) (.cons ie .nil))
          | _, _ => none) else none
        | _ => none) else
      (match args with
        | [] => none
        | e :: es => (match biOf x (es.length + 1), cList (rec sc fnF) (e :: es) with
          | some bi, some ies => some (.bi bi ies)
          | _, _ => none))
    | _, _ => none
  else none
theorem k_list_ok (hr : Snd T cx G N rec) (g : GX T cx G N sc fnF W X) : ∀ {kws : List Keyword} {ies : IEs}, cList (rec sc fnF) (kwExprs kws) = some ies → PK X kws (tAs T W cx false ies)
  | [], ies, h => by
    simp only [kwExprs, cList] at h
    cases h
    exact k_nil
  | ⟨nm, e, p⟩ :: kws, ies, h => by
    simp only [kwExprs, cList] at h
    split at h
    · split at h
      · rename_i ie he
        split at h
        · rename_i ies' hes
          cases h
          exact k_cons ((hr _ _ _ _ _ _ g he).1.val false) (k_list_ok hr g hes)
        · cases h
      · cases h
    · cases h
theorem cCall_ok (hr : Snd T cx G N rec) (g : GX T cx G N sc fnF W X) {x : Str} {args : List Expr} {kws : List Keyword} {p pos : Pos} {ie : IE} (h : cCall G rec sc fnF x args kws = some ie) : (∀ b, PE X (.Call (.Name x p) args kws pos) (tI T W cx b ie)) ∧ EF T cx W X (.Call (.Name x p) args kws pos) ie := by
  unfold cCall at h
  split at h
  case isFalse => cases h
  rename_i hg0
  obtain ⟨hg, hd⟩ := gloB_ok g hg0
  split at h
  · rename_i i hl
    obtain ⟨ps, F⟩ := g.fnI x i hl
    obtain ⟨ies, h1, h2⟩ := Option.map_eq_some_iff.mp h
    subst h2
    refine ⟨fun b => ?_, fun hf => by simp [isF] at hf⟩
    cases args with
    | nil =>
      simp only [cList] at h1
      cases h1
      exact s_call0 g.tk hg F hd
    | cons e es =>
      obtain ⟨a1, a2⟩ := cList_ok hr g h1
      exact s_call g.tk hg F hd a2 (a1 false)
  · rename_i i kws' hl hne
    split at h
    · rename_i x' i' ks' pm ies e1 e2
      split at h
      · rename_i hc
        simp only [Bool.and_eq_true, decide_eq_true_eq] at hc
        obtain ⟨⟨c1, c2⟩, c3⟩ := hc
        cases h
        refine ⟨fun b => ?_, fun hf => by simp [isF] at hf⟩
        have m := List.mem_of_find?_eq_some e1
        have q := List.find?_some e1
        simp only [Bool.and_eq_true, beq_iff_eq] at q
        obtain ⟨⟨q1, q2⟩, q3⟩ := q
        subst q1 q2 q3
        exact s_callK0 g.tk hg (g.kwI _ _ _ _ m) hd c1 c2 (k_list_ok hr g e2) fun st ds st' he => by rw [evs_len _ _ _ _ _ he, c3]
      · cases h
    · cases h
  · rename_i hl
    split at h
    · rename_i hx
      split at h
      · rename_i e n p2
        split at h
        · rename_i hc
          simp only [Bool.and_eq_true] at hc
          obtain ⟨c1, c2⟩ := hc
          split at h
          · rename_i ty ie' e1 e2
            cases h
            obtain ⟨t1, t2, t3⟩ := tyOf_ok e1
            obtain ⟨b1, b2, _⟩ := isBi_ok g c2
            have key : ∀ b, PE X (.Call (.Name x p) [e, .Name n p2] [] pos) (tI T W cx b (.bi (.isi ty) (.cons ie' .nil))) := fun b => s_isi g.hK hx t1 t2 t3 hg (g.bi x hl) b1 b2 c1 ((hr _ _ _ _ _ _ g e2).1.val true)
            exact ⟨key, fun hf => by simp [isF] at hf⟩
          · cases h
        · cases h
      · cases h
    · split at h
      · cases h
      · rename_i e es
        split at h
        · rename_i bi ies e1 e2
          cases h
          obtain ⟨a1, a2⟩ := cList_ok hr g e2
          have key : PE X (.Call (.Name x p) (e :: es) [] pos) (tF T W cx (.bi bi ies)) := biOf_ok g.hK g.calm (by have := g.un; omega) e1 hg (g.bi x hl) a2 (a1 true)
          refine ⟨fun b => IL.PE.ofF (fun st => ?_) key, fun _ => key⟩
          simp only [ev]
        · cases h
  · cases h
end IL

set_option Elab.async false
set_option linter.all false
set_option maxRecDepth 100000
set_option maxHeartbeats 4000000
/-! IL19: from the text to the small language: the step, expressions closed. -/
namespace IL
open PySem L2
variable {T : Sta'} {cx : ECx} {G : GT} {N : List Str} {sc : Scope} {fnF : Str → Bool} {W : WX} {X : Cx} {rec : Rc}
theorem s_revF {a : Expr} {ia : IE} {k : Nat} {p1 p2 p3 pos : Pos} (hK : X.K = T.K) (ha : PE X a (tI T W cx true ia)) : PE X (.Subscript a (.Slice none none (some (.UnaryOp .USub (.Constant (.int 1) k p1) p2)) p3) pos) (tF T W cx (.rev ia)) := by
  have r := pe_revL (k := k) (p1 := p1) (p2 := p2) (p3 := p3) (pos := pos) ha
  rw [hK] at r
  refine IL.PE.of r fun σ H Q ⟨st, S, M, I, q⟩ => ?_
  simp only [ev] at q
  refine ⟨st, S, M, I, q.bind.mono fun d st1 H1 S1 M1 I1 x1 q1 v vv => ?_⟩
  cases d with
  | lst ds =>
    obtain ⟨a', vs, ea, ha', ra⟩ := vv.lst I1
    refine ⟨a', vs, ea, .of ha', fun p hp => ?_⟩
    exact q1 _ _ _ (I1.fresh hp) (ExtE.fresh I1 hp) _ ((FR.newL I1 hp ra.reverse).back fun b h => x1.x.none_of h)
  | _ => exact q1.elim
theorem EOk.fin {e : Expr} {ie : IE} (hp : plainT e = true) (hf : isF ie = true) (key : PE X e (tF T W cx ie)) : EOk T cx W X e ie ∧ EF T cx W X e ie := ⟨.ofF hp hf key, fun _ => key⟩
theorem t_ite {c a d : Expr} {ic ia ib : IE} {pos : Pos} (hc : PT X c (tTs T W cx ic)) (ha : PT X a (tTs T W cx ia)) (hb : PT X d (tTs T W cx ib)) : PT X (.IfExp c a d pos) (tTs T W cx (.ite ic ia ib)) := by
  refine ⟨fun pins s σ H Q I ⟨st, S, M, RI0, q⟩ => ?_⟩
  simp only [ev] at q
  show wpAny _ _ (isTrue c X.env (eval c X.env) >>= fun t => if t = true then isTrue a X.env (eval a X.env) else isTrue d X.env (eval d X.env)) _ _ _
  have h1 : tTs T W cx ic σ H fun k H1 => (if k = true then tTs T W cx ia else tTs T W cx ib) σ H1 Q := by
    refine ⟨st, S, M, RI0, q.bind.mono fun dc st1 H1 S1 M1 I1 x1 q1 => ?_⟩
    cases dc with
    | bl k =>
      refine ⟨k, rfl, ?_⟩
      cases k with
      | true => exact ⟨st1, S1, M1, I1, q1⟩
      | false => exact ⟨st1, S1, M1, I1, q1⟩
    | _ => exact q1.elim
  refine wpAny_bind (thn (hc.run pins s σ H _ I h1) fun k s1 ⟨H1, I1, q1⟩ => ?_)
  cases k with
  | true => exact ha.run pins s1 σ H1 Q I1 q1
  | false => exact hb.run pins s1 σ H1 Q I1 q1
def cOpt (f : Expr → Option IE) : Option Expr → Option IO
  | none => some .no
  | some e => (f e).map .yes
theorem cOpt_ok (hr : Snd T cx G N rec) (g : GX T cx G N sc fnF W X) {e : Option Expr} {io : IO} (h : cOpt (rec sc fnF) e = some io) : PO X e (tOs T W cx io) := by
  cases e with
  | none =>
    cases h
    exact s_no
  | some e =>
    obtain ⟨i, h1, h2⟩ := Option.map_eq_some_iff.mp h
    subst h2
    exact s_yes ((hr _ _ _ _ _ _ g h1).1.val true)
theorem noSlice {i : Expr} (h : ∀ (lower upper step : Option Expr) (pos : Pos), i = .Slice lower upper step pos → False) : (match (generalizing := false) i with | .Slice .. => false | _ => true) = true := by
  cases i <;> first | rfl | exact absurd rfl (h _ _ _ _)
def cSub (f : Expr → Option IE) (a : Expr) : Expr → Option IE
  | .Slice l h none _ => (match f a, cOpt f l, cOpt f h with
    | some ia, some il, some ih => some (.sli ia il ih)
    | _, _, _ => none)
  | .Slice none none (some (.UnaryOp .USub (.Constant (.int 1) _ _) _)) _ => (f a).map .rev
  | .Slice .. => none
  | i => (match f a, f i with
    | some ia, some ii => some (.sub ia ii)
    | _, _ => none)
theorem cSub_ok (hr : Snd T cx G N rec) (g : GX T cx G N sc fnF W X) {a i : Expr} {pos : Pos} {ie : IE} (h : cSub (rec sc fnF) a i = some ie) : EOk T cx W X (.Subscript a i pos) ie ∧ EF T cx W X (.Subscript a i pos) ie := by
  unfold cSub at h
  split at h
  · split at h
    · rename_i ia il ih e1 e2 e3
      cases h
      exact EOk.fin rfl rfl (s_sliF (pos := pos) g.hK ((hr _ _ _ _ _ _ g e1).1.val true) (cOpt_ok hr g e2) (cOpt_ok hr g e3))
    · cases h
  · obtain ⟨ia, h1, h2⟩ := Option.map_eq_some_iff.mp h
    subst h2
    exact EOk.fin rfl rfl (s_revF (pos := pos) g.hK ((hr _ _ _ _ _ _ g h1).1.val true))
  · cases h
  · rename_i hn1 hn2 hn3
    split at h
    · rename_i ia ii e1 e2
      cases h
      exact ⟨.of rfl fun b => s_sub g.hK g.hw (by have := g.un; omega) (noSlice hn3) ((hr _ _ _ _ _ _ g e1).1.val true) ((hr _ _ _ _ _ _ g e2).1.val true), fun hf => by simp [isF] at hf⟩
    · cases h
def cDict (f : Expr → Option IE) : List (Option Expr) → List Expr → Option IE
  | [], [] => some (.dic0 true)
  | [some (.Constant (.str x) _ _)], [v] => (f v).map (.dic1 x)
  | [some k], [v] => (match f k, f v with
    | some ik, some iv => some (.dicT ik iv)
    | _, _ => none)
  | _, _ => none
theorem cDict_ok (hr : Snd T cx G N rec) (g : GX T cx G N sc fnF W X) {ks : List (Option Expr)} {vs : List Expr} {pos : Pos} {ie : IE} (h : cDict (rec sc fnF) ks vs = some ie) : EOk T cx W X (.Dict ks vs pos) ie ∧ EF T cx W X (.Dict ks vs pos) ie := by
  unfold cDict at h
  split at h
  · cases h
    exact ⟨.ofF rfl rfl s_dic0T, fun _ => s_dic0T⟩
  · obtain ⟨iv, h1, h2⟩ := Option.map_eq_some_iff.mp h
    subst h2
    exact EOk.fin rfl rfl (s_dic1F (pos := pos) ((hr _ _ _ _ _ _ g h1).1.val false))
  · split at h
    · rename_i ik iv e1 e2
      cases h
      exact EOk.fin rfl rfl (s_dicTF (pos := pos) (by have := g.un; omega) ((hr _ _ _ _ _ _ g e1).1.val true) ((hr _ _ _ _ _ _ g e2).1.val false))
    · cases h
  · cases h
def cCmp (f : Expr → Option IE) (a : Expr) : List CmpOp → List Expr → Option IE
  | [o], [b] => if behindInMarks o b = true then none else (match f a, f b with
    | some ia, some ib => some (.cmp (cmOf o) ia ib)
    | _, _ => none)
  | [o, p], [b, c] => if lastMarks [o, p] [b, c] = true then none else (match f a, f b, f c with
    | some ia, some ib, some ic => some (.chain (cmOf o) (cmOf p) ia ib ic)
    | _, _, _ => none)
  | _, _ => none
theorem cCmp_ok (hr : Snd T cx G N rec) (g : GX T cx G N sc fnF W X) {a : Expr} {os : List CmpOp} {es : List Expr} {pos : Pos} {ie : IE} (h : cCmp (rec sc fnF) a os es = some ie) : EOk T cx W X (.Compare a os es pos) ie ∧ EF T cx W X (.Compare a os es pos) ie := by
  unfold cCmp at h
  split at h
  · split at h
    · cases h
    · rename_i o b hm
      split at h
      · rename_i ia ib e1 e2
        cases h
        have e := cmOf_ok o
        have hm' : behindInMarks (pyCm (cmOf o)) b = false := by
          rw [e]
          simpa using hm
        have A := (hr _ _ _ _ _ _ g e1).1.val true
        have B := (hr _ _ _ _ _ _ g e2).1.val true
        refine ⟨⟨fun k => ?_, ?_⟩, fun hf => by simp [isF] at hf⟩
        · have := s_cmp (b := k) (pos := pos) g.hK g.hw g.un hm' A B
          rw [e] at this
          exact this
        · have := s_cmpT (pos := pos) g.hK g.hw g.un hm' A B
          rw [e] at this
          exact this
      · cases h
  · split at h
    · cases h
    · rename_i o p b c hm
      split at h
      · rename_i ia ib ic e1 e2 e3
        cases h
        have e := cmOf_ok o
        have e' := cmOf_ok p
        have hm' : lastMarks [pyCm (cmOf o), pyCm (cmOf p)] [b, c] = false := by
          rw [e, e']
          simpa using hm
        have A := (hr _ _ _ _ _ _ g e1).1.val true
        have B := (hr _ _ _ _ _ _ g e2).1.val true
        have C := (hr _ _ _ _ _ _ g e3).1.val true
        refine ⟨⟨fun k => ?_, ?_⟩, fun hf => by simp [isF] at hf⟩
        · have := s_chain (b := k) (pos := pos) g.hK g.hw g.un hm' A B C
          rw [e, e'] at this
          exact this
        · have := s_chainT (pos := pos) g.hK g.hw g.un hm' A B C
          rw [e, e'] at this
          exact this
      · cases h
  · cases h
def cStep (G : GT) (N : List Str) (rec : Rc) (sc : Scope) (fnF : Str → Bool) : Expr → Option IE
  | .Constant c _ _ => cCon c
  | .Name x _ => cName G N sc x
  | .UnaryOp .USub a _ => (rec sc fnF a).map .neg
  | .UnaryOp .Not a _ => (rec sc fnF a).map .nt
  | .BinOp a o b _ => (match opOf o, rec sc fnF a, rec sc fnF b with
    | some o, some ia, some ib => some (.bin o ia ib)
    | _, _, _ => none)
  | .BoolOp op es _ => cBool (rec sc fnF) op es
  | .Compare a os es _ => cCmp (rec sc fnF) a os es
  | .IfExp c a b _ => (match rec sc fnF c, rec sc fnF a, rec sc fnF b with
    | some ic, some ia, some ib => some (.ite ic ia ib)
    | _, _, _ => none)
  | .Tuple es _ _ => (cList (rec sc fnF) es).map .tup
  | .List es _ => (cList (rec sc fnF) es).map .lst
  | .Dict ks vs _ => cDict (rec sc fnF) ks vs
  | .Subscript a i _ => cSub (rec sc fnF) a i
  | .ListComp elt gs scope _ => cComp G N rec sc fnF elt scope gs
  | .Call (.Name x _) args kws _ => cCall G rec sc fnF x args kws
  | _ => none
theorem cStep_ok (hr : Snd T cx G N rec) : Snd T cx G N (cStep G N rec) := by
  intro sc fnF W X e ie g h
  unfold cStep at h
  split at h
  · refine ⟨cCon_ok h, fun hf => ?_⟩
    rename_i c k p
    cases c <;> simp only [cCon] at h <;> cases h <;> simp [isF] at hf
  · refine ⟨cName_ok g h, fun hf => ?_⟩
    unfold cName at h
    split at h
    · obtain ⟨i, h1, h2⟩ := Option.map_eq_some_iff.mp h
      subst h2
      simp [isF] at hf
    · split at h
      · split at h
        · cases h
          simp [isF] at hf
        · cases h
      · cases h
  · obtain ⟨ia, h1, h2⟩ := Option.map_eq_some_iff.mp h
    subst h2
    exact ⟨.of rfl fun b => s_neg ((hr _ _ _ _ _ _ g h1).1.val true), fun hf => by simp [isF] at hf⟩
  · obtain ⟨ia, h1, h2⟩ := Option.map_eq_some_iff.mp h
    subst h2
    have A := (hr _ _ _ _ _ _ g h1).1
    exact ⟨⟨fun b => s_not (A.val true), s_notT A.test⟩, fun hf => by simp [isF] at hf⟩
  · split at h
    · rename_i o' ia ib e1 e2 e3
      cases h
      have e := opOf_ok e1
      subst e
      exact EOk.fin rfl rfl (s_binF g.hK ((hr _ _ _ _ _ _ g e2).1.val true) ((hr _ _ _ _ _ _ g e3).1.val true))
    · cases h
  · rename_i op es p
    obtain ⟨a, b⟩ := cBool_ok hr g (op := op) (p := p) h
    refine ⟨⟨a, b.pt⟩, fun hf => ?_⟩
    -- a single part
    cases es with
    | nil => cases h
    | cons x r =>
      cases r with
      | nil =>
        simp only [cBool] at h
        exact IL.PE.of (pe_one ((hr _ _ _ _ _ _ g h).2 hf)) fun _ _ _ q => q
      | cons y r =>
        simp only [cBool] at h
        split at h
        · split at h
          · cases h
            cases op <;> simp [isF] at hf
          · cases h
        · cases h
  · exact cCmp_ok hr g h
  · split at h
    · rename_i ic ia ib e1 e2 e3
      cases h
      have A := (hr _ _ _ _ _ _ g e1).1
      have B := (hr _ _ _ _ _ _ g e2).1
      have C := (hr _ _ _ _ _ _ g e3).1
      exact ⟨⟨fun b => s_ite A.test (B.val b) (C.val b), t_ite A.test B.test C.test⟩, fun hf => by simp [isF] at hf⟩
    · cases h
  · obtain ⟨ies, h1, h2⟩ := Option.map_eq_some_iff.mp h
    subst h2
    exact ⟨.of rfl fun b => s_tup ((cList_ok hr g h1).1 false), fun hf => by simp [isF] at hf⟩
  · obtain ⟨ies, h1, h2⟩ := Option.map_eq_some_iff.mp h
    subst h2
    exact EOk.fin rfl rfl (s_lstF ((cList_ok hr g h1).1 false))
  · exact cDict_ok hr g h
  · exact cSub_ok hr g h
  · obtain ⟨a, b, _⟩ := cComp_ok hr g h
    exact ⟨.ofF rfl a b, fun _ => b⟩
  · obtain ⟨a, b⟩ := cCall_ok hr g h
    exact ⟨.of rfl a, b⟩
  · cases h
def cE (G : GT) (N : List Str) : Nat → Rc
  | 0, _, _, _ => none
  | n + 1, sc, fnF, e => cStep G N (cE G N n) sc fnF e
theorem cE_ok : ∀ n, Snd T cx G N (cE G N n)
  | 0 => fun _ _ _ _ _ _ _ h => by cases h
  | n + 1 => fun sc fnF W X e ie g h => cStep_ok (cE_ok n) sc fnF W X e ie g h
end IL

set_option Elab.async false
set_option linter.all false
set_option maxRecDepth 100000
set_option maxHeartbeats 4000000
/-! IL20: from the text to the small language: statements. -/
namespace IL
open PySem L2
variable {T : Sta'} {cx : ECx} {G : GT} {N : List Str} {sc : Scope} {fnF : Str → Bool} {W : WX} {X : Cx}
structure GS (T : Sta') (cx : ECx) (G : GT) (N : List Str) (sc : Scope) (fnF : Str → Bool) (W : WX) (X : Cx) : Prop where
  g : GX T cx G N sc fnF W X
  kind : sc.kind = .function
  ps : PassesOwn (model X.prog X.w) X.A X.env X.xe
theorem GS.bk (g : GS T cx G N sc fnF W X) : X.env.blockKind = .function := by
  unfold Env.blockKind
  rw [g.g.hsc, g.kind]
  rfl
def notComp : Expr → Bool
  | .ListComp .. | .SetComp .. | .DictComp .. => false
  | _ => true
theorem notComp_ok {e : Expr} (h : notComp e = true) (t : Option Expr) (l : Nat) (env : Env) : swapsWith e t l env = pure false := by
  cases e <;> first | rfl | simp [notComp] at h
/-- does the comprehension v swap with the name -/
def swW (sc : Scope) (v t : Expr) : Option Bool := match v with
  | .ListComp _ _ s p => (match t with
    | .Name y pos => some (sc.names.lookup y == some .local && pos.line == p.line && !(s.names.any fun (n, k) => n == y && (k == .local || k == .cell)))
    | _ => some false)
  | .SetComp .. | .DictComp .. => none
  | _ => some false
theorem swW_ok (g : GS T cx G N sc fnF W X) {v t : Expr} {b : Bool} {l : Nat} (h : swW sc v t = some b) : swapsWith v (some t) l X.env = pure b := by
  have hb := g.bk
  have hk : ∀ y, X.env.kindOf y = sc.names.lookup y := fun y => by
    show X.env.scope.names.lookup y = _
    rw [g.g.hsc]
  cases v with
  | ListComp elt gs s p =>
    simp only [swW] at h
    cases t with
    | Name y pos =>
      simp only [Option.some.injEq] at h
      subst h
      simp only [swapsWith, hb, hk, Expr.pos]
      rfl
    | _ =>
      simp only [Option.some.injEq] at h
      subst h
      rfl
  | SetComp => cases h
  | DictComp => cases h
  | _ =>
    simp only [swW, Option.some.injEq] at h
    subst h
    rfl
/-- are the stores swapped, and whose -/
def swP (sc : Scope) (t v : Expr) : Option (Option (List Str)) := match t, v with
  | .Tuple ts _ _, .Tuple vs _ _ =>
    if (!(ts.length == 2 || ts.length == 3) || vs.length != ts.length || ScopeKind.function != ScopeKind.function) = true then some none else
    if (vs.any fun | .Starred .. => true | _ => false) = true then some none else
    if ((ts.filterMap fun
      | .Name id pos => if (sc.names.lookup id == some .local && pos.line == (ts.head?.map (·.pos.line)).getD 0) = true then some id else none
      | _ => none).length != ts.length || (ts.filterMap fun
      | .Name id pos => if (sc.names.lookup id == some .local && pos.line == (ts.head?.map (·.pos.line)).getD 0) = true then some id else none
      | _ => none).eraseDups.length != (ts.filterMap fun
      | .Name id pos => if (sc.names.lookup id == some .local && pos.line == (ts.head?.map (·.pos.line)).getD 0) = true then some id else none
      | _ => none).length) = true then some none else
    if vs.all (foldedForSure 8) = true then some none else
    if vs.all (constantsAlone 8) = true then none else some (some (ts.filterMap fun
      | .Name id pos => if (sc.names.lookup id == some .local && pos.line == (ts.head?.map (·.pos.line)).getD 0) = true then some id else none
      | _ => none))
  | .List .., _ => none
  | _, _ => some none
theorem ite_pure {α : Type} {c : Prop} [Decidable c] {a r : α} {x : Sem α} {y : Option α} (h : (if c then some a else y) = some r) (k : y = some r → x = pure r) : (if c then pure a else x) = pure r := by
  by_cases hc : c
  · rw [if_pos hc] at h ⊢
    cases h
    rfl
  · rw [if_neg hc] at h ⊢
    exact k h
theorem swP_ok (g : GS T cx G N sc fnF W X) {t v : Expr} {r : Option (List Str)} (h : swP sc t v = some r) : swappedStores [t] v X.env = pure r := by
  have hb := g.bk
  have hk : ∀ y, X.env.kindOf y = sc.names.lookup y := fun y => by
    show X.env.scope.names.lookup y = _
    rw [g.g.hsc]
  cases t with
  | Tuple ts k p =>
    cases v with
    | Tuple vs k2 p2 =>
      simp only [swP] at h
      simp only [swappedStores, hb, hk]
      refine ite_pure h fun h => ite_pure h fun h => ite_pure h fun h => ite_pure h fun h => ?_
      split at h
      · cases h
      · rename_i hc
        rw [if_neg hc]
        cases h
        rfl
    | _ =>
      simp only [swP, Option.some.injEq] at h
      subst h
      rfl
  | List => cases h
  | _ =>
    simp only [swP, Option.some.injEq] at h
    subst h
    rfl
/-! ### one statement -/
abbrev RcS := Stmt → Option IS
def SndS (T : Sta') (cx : ECx) (G : GT) (N : List Str) (sc : Scope) (fnF : Str → Bool) (f : RcS) : Prop := ∀ (W : WX) (X : Cx) (s : Stmt) (is : IS), GS T cx G N sc fnF W X → f s = some is → PS X s (tSt T W cx is)
def cBlk (f : RcS) : List Stmt → Option ISs
  | [] => some .nil
  | s :: ss => (match f s with
    | some i => (match cBlk f ss with
      | some is => some (.cons i is)
      | none => none)
    | none => none)
theorem cBlk_ok {f : RcS} (hr : SndS T cx G N sc fnF f) (g : GS T cx G N sc fnF W X) : ∀ {ss : List Stmt} {is : ISs}, cBlk f ss = some is → PSs X ss (tSs T W cx is)
  | [], is, h => by
    simp only [cBlk] at h
    cases h
    exact s_nilS
  | s :: ss, is, h => by
    simp only [cBlk] at h
    split at h
    · rename_i i e1
      split at h
      · rename_i is' e2
        cases h
        exact s_consS (hr _ _ _ _ g e1) (cBlk_ok hr g e2)
      · cases h
    · cases h
def noSl : Expr → Bool
  | .Slice .. => false
  | _ => true
theorem noSl_assign {o i : Expr} {p : Pos} (h : noSl i = true) (env : Env) (v : Value) : assign (.Subscript o i p) env v = (do
      let ov ← holding [v] (eval o env)
      let iv ← holding [v, ov] (eval i env)
      standAt p
      holding [v, ov, iv] (setItem ov iv v)
      release [v, ov, iv] []) := by
  cases i <;> first | rfl | simp [noSl] at h
theorem noSl_aug {i : Expr} (h : noSl i = true) (ov iv new : Value) : augStore i ov iv new = (do holding [new, ov, iv] (setItem ov iv new); release [new, ov, iv] []; pure .next) := by
  cases i <;> first | rfl | simp [noSl] at h
section
variable (G : GT) (N : List Str) (sc : Scope) (fnF : Str → Bool) (ow : List Str) (E : Expr → Option IE)
/-- name = e -/
def cSet (x : Str) (p : Pos) (e : Expr) : Option IS :=
  if locB sc fnF x = true then (match slotN N x, E e, swW sc e (.Name x p) with
    | some i, some ie, some b =>
      if b = true then (match e with
        | .ListComp .. => if sc.names.lookup x = some .local then some (if x ∈ ow then .asgF i ie else .asg (.nm i) ie) else none
        | _ => none)
      else if x ∈ ow then (if isF ie = true then some (.asgF i ie) else none) else some (.asg (.nm i) ie)
    | _, _, _ => none) else none
def cMeth (x m : Str) (apos : Pos) (args : List Expr) (cpos : Pos) : Option IS :=
  if (okN x && visB sc x && (apos.endLine == cpos.line)) = true then (match slotN N x, args with
    | some n, [e] => if (m == "append" && notStar e) = true then (E e).map (.app n) else none
    | some n, [i, e] => if (m == "insert" && notStar i && notStar e) = true then (match E i, E e with
      | some ii, some ie => some (.ins n ii ie)
      | _, _ => none) else none
    | _, _ => none) else none
def cAsg : Expr → Expr → Option IS
  | .Name x p, e => cSet N sc fnF ow E x p e
  | .Subscript (.Name x _) i _, e => if (okN x && visB sc x && noSl i && notComp e) = true then (match slotN N x, E i, E e with
    | some n, some ii, some ie => some (.asgS n ii ie)
    | _, _, _ => none) else none
  | .Tuple [.Subscript (.Name x _) i _, .Name y _] _ _, e => if (okN x && visB sc x && noSl i && notComp e && locB sc fnF y) = true then (match e with
    | .Tuple .. => none
    | _ => (match slotN N x, E i, slotN N y, E e with
      | some n, some ii, some j, some ie => some (.tgS n ii j ie)
      | _, _, _, _ => none)) else none
  | .Tuple ts k p, e => (match swP sc (.Tuple ts k p) e, notComp e with
    | some none, true => (match cTg N sc fnF 4 (.Tuple ts k p), E e with
      | some t, some ie => some (.asg t ie)
      | _, _ => none)
    | some (some _), true => (match ts, e with
      | [.Name x _, .Name y _], .Tuple [a, b] _ _ => (match slotN N x, slotN N y, E a, E b with
        | some i, some j, some ia, some ib => if (decide (i ≠ j) && decide (sc.names.lookup x = some .local) && decide (sc.names.lookup y = some .local) && notStar a && notStar b && decide (swP sc (.Tuple ts k p) e = some (some [x, y]))) = true then some (.par2 i j ia ib) else none
        | _, _, _, _ => none)
      | [.Name x _, .Name y _, .Name z _], .Tuple [a, b, c] _ _ => (match slotN N x, slotN N y, slotN N z, E a, E b, E c with
        | some i, some j, some l, some ia, some ib, some ic => if (decide (i ≠ j) && decide (i ≠ l) && decide (j ≠ l) && decide (sc.names.lookup x = some .local) && decide (sc.names.lookup y = some .local) && decide (sc.names.lookup z = some .local) && notStar a && notStar b && notStar c && decide (swP sc (.Tuple ts k p) e = some (some [x, y, z]))) = true then some (.par3 i j l ia ib ic) else none
        | _, _, _, _, _, _ => none)
      | _, _ => none)
    | _, _ => none)
  | _, _ => none
def cAug : Expr → Operator → Expr → Option IS
  | .Name x _, o, e => if locB sc fnF x = true then (match slotN N x, opOf o, E e with
    | some i, some o, some ie => some (.aug i o ie)
    | _, _, _ => none) else none
  | .Subscript (.Name x _) i _, o, e => if (okN x && visB sc x && noSl i) = true then (match slotN N x, E i, opOf o, E e with
    | some n, some ii, some o, some ie => some (.augS n ii o ie)
    | _, _, _, _ => none) else none
  | _, _, _ => none
def cRet (ro : Bool) (e : Expr) : Option IS := (E e).map fun ie => if (ro && isF ie) = true then .ret (.obj ie) else .ret ie
def cStmt (I : Expr → Expr → Option II) (rec : RcS) : Stmt → Option IS
  | .Expr (.Constant (.str _) _ _) _ => some .pass
  | .Expr (.Call (.Attribute (.Name x _) m apos) args [] cpos) _ => cMeth N sc E x m apos args cpos
  | .Expr e _ => if notComp e = true then (E e).map .ex else none
  | .Return (some e) _ => cRet E G.ro e
  | .Return none _ => some .retN
  | .Assign [t] e _ => cAsg N sc fnF ow E t e
  | .AugAssign t o e _ => cAug N sc fnF E t o e
  | .If c a b _ => (match E c, cBlk rec a, cBlk rec b with
    | some ic, some ia, some ib => some (.ifS ic ia ib)
    | _, _, _ => none)
  | .For tg iter body [] _ => if noSet iter = true then (match cTg N sc fnF 4 tg, I tg iter, cBlk rec body with
    | some t, some it, some ib => some (.forS t it ib)
    | _, _, _ => none) else none
  | .While c body [] _ => (match E c, cBlk rec body with
    | some ic, some ib => some (.whileS ic ib)
    | _, _ => none)
  | .Pass _ => some .pass
  | .Break _ => some .brk
  | .Continue _ => some .cont
  | .Raise .. => some .stuck
  | _ => none
end
end IL

set_option Elab.async false
set_option linter.all false
set_option maxRecDepth 100000
set_option maxHeartbeats 4000000
/-! IL21: the compiler of statements keeps its promise. -/
namespace IL
open PySem L2
variable {T : Sta'} {cx : ECx} {G : GT} {N : List Str} {sc : Scope} {fnF : Str → Bool} {W : WX} {X : Cx} {ow : List Str} {n : Nat}
theorem GS.nd (g : GS T cx G N sc fnF W X) : X.N.Nodup := by rw [g.g.hN]; exact g.g.nd
theorem GS.sl (g : GS T cx G N sc fnF W X) {x : Str} {i : Nat} (h : slotN N x = some i) : X.N[i]? = some x := by rw [g.g.hN]; exact slotN_ok h
theorem GS.e (g : GS T cx G N sc fnF W X) {e : Expr} {ie : IE} (h : cE G N n sc fnF e = some ie) : EOk T cx W X e ie ∧ EF T cx W X e ie := cE_ok n _ _ _ _ _ _ g.g h
theorem comp_of_cE {elt : Expr} {gs : List Comprehension} {scope : Scope} {pos : Pos} {ie : IE} (h : cE G N n sc fnF (.ListComp elt gs scope pos) = some ie) : ∃ m, n = m + 1 ∧ cComp G N (cE G N m) sc fnF elt scope gs = some ie := by
  cases n with
  | zero => cases h
  | succ m => exact ⟨m, rfl, h⟩
theorem cSet_ok (g : GS T cx G N sc fnF W X) {x : Str} {p pos : Pos} {e : Expr} {is : IS} (h : cSet N sc fnF ow (cE G N n sc fnF) x p e = some is) : PS X (.Assign [.Name x p] e pos) (tSt T W cx is) := by
  unfold cSet at h
  split at h
  case isFalse => cases h
  rename_i hl
  obtain ⟨l1, l2⟩ := locB_ok g.g hl
  split at h
  case h_2 => cases h
  rename_i i ie b e1 e2 e3
  have hsw := swW_ok g (l := pos.line) e3
  have A := g.e e2
  split at h
  · rename_i hb
    subst hb
    split at h
    · rename_i elt gs scope cpos
      split at h
      · rename_i hloc
        obtain ⟨m, em, hc⟩ := comp_of_cE e2
        obtain ⟨f1, f2, f3⟩ := cComp_ok (pos := cpos) (cE_ok m) g.g hc
        have key := f3 i x p pos (slotN_ok e1) hloc hsw
        split at h
        · cases h
          exact IL.PS.of key fun D σ H q => asgF_imp q
        · cases h
          exact IL.PS.of key fun D σ H q => asgG_imp (fun b st => isF_ev f1 b st) q
      · cases h
    · cases h
  · rename_i hb
    have hb' : b = false := by simpa using hb
    subst hb'
    split at h
    · split at h
      · rename_i hf
        cases h
        exact s_asgF g.nd (g.sl e1) l1 l2 (A.2 hf) hsw
      · cases h
    · cases h
      refine IL.PS.of (ps_set g.nd (g.sl e1) l1 (A.1.val false) hsw l2) fun D σ H q => ?_
      have q' := asg_imp q
      obtain ⟨st, S, M, I, q2⟩ := q
      simp only [evS] at q2
      refine ⟨st, S, M, I, q2.bindE.mono fun d st1 H1 S1 M1 I1 x1 q1 v vv => ?_⟩
      cases ea : asgT (.nm i) d st1.env with
      | none =>
        rw [ea] at q1
        exact q1.elim
      | some env =>
        rw [ea] at q1
        simp only [asgT] at ea
        split at ea
        · rename_i hl'
          cases ea
          exact q1 _ H1 S1 M1 (I1.set hl' vv.rep) (Ext.frame fun a h => own_set hl' h)
        · cases ea
theorem cMeth_ok (g : GS T cx G N sc fnF W X) {x m : Str} {p apos cpos pos : Pos} {args : List Expr} {is : IS} (h : cMeth N sc (cE G N n sc fnF) x m apos args cpos = some is) : PS X (.Expr (.Call (.Attribute (.Name x p) m apos) args [] cpos) pos) (tSt T W cx is) := by
  unfold cMeth at h
  split at h
  case isFalse => cases h
  rename_i hc
  simp only [Bool.and_eq_true] at hc
  obtain ⟨⟨c1, c2⟩, c3⟩ := hc
  obtain ⟨d1, d2⟩ := okN_ok c1
  split at h
  · rename_i k e e1
    split at h
    · rename_i hm
      simp only [Bool.and_eq_true, beq_iff_eq] at hm
      obtain ⟨hm, hs⟩ := hm
      subst hm
      obtain ⟨ie, h1, h2⟩ := Option.map_eq_some_iff.mp h
      subst h2
      exact s_app (g.sl e1) (visB_ok g.g c2) d1 d2 ((g.e h1).1.val false) hs c3
    · cases h
  · rename_i k i e e1
    split at h
    · rename_i hm
      simp only [Bool.and_eq_true, beq_iff_eq] at hm
      obtain ⟨⟨hm, hs⟩, hs2⟩ := hm
      subst hm
      split at h
      · rename_i ii ie e2 e3
        cases h
        exact s_ins (g.sl e1) (visB_ok g.g c2) d1 d2 ((g.e e2).1.val false) ((g.e e3).1.val false) hs hs2 c3
      · cases h
    · cases h
  · cases h
theorem un1 (g : GS T cx G N sc fnF W X) : X.A.units + 1 < cLine := by
  have := g.g.un
  omega
theorem notComp1 {t e : Expr} (h : notComp e = true) (l : Nat) (env : Env) : swapsWithSole [t] e l env = pure false := notComp_ok h (some t) l env
theorem cAsg_ok (g : GS T cx G N sc fnF W X) {t e : Expr} {pos : Pos} {is : IS} (h : cAsg N sc fnF ow (cE G N n sc fnF) t e = some is) : PS X (.Assign [t] e pos) (tSt T W cx is) := by
  unfold cAsg at h
  split at h
  · exact cSet_ok g h
  · rename_i x p i tpos
    split at h
    case isFalse => cases h
    rename_i hc
    simp only [Bool.and_eq_true] at hc
    obtain ⟨⟨⟨c1, c2⟩, c3⟩, c4⟩ := hc
    obtain ⟨d1, d2⟩ := okN_ok c1
    split at h
    · rename_i k ii ie e1 e2 e3
      cases h
      exact s_asgS (un1 g) (g.sl e1) (visB_ok g.g c2) d1 d2 ((g.e e2).1.val true) ((g.e e3).1.val false) (notComp1 c4 pos.line X.env) (swP_ok g rfl) (fun v => noSl_assign c3 X.env v)
    · cases h
  · rename_i x p i tpos y py k pt
    split at h
    case isFalse => cases h
    rename_i hc
    simp only [Bool.and_eq_true] at hc
    obtain ⟨⟨⟨⟨c1, c2⟩, c3⟩, c4⟩, c5⟩ := hc
    obtain ⟨d1, d2⟩ := okN_ok c1
    obtain ⟨l1, l2⟩ := locB_ok g.g c5
    split at h
    · cases h
    · rename_i hne
      split at h
      · rename_i n' ii j ie e1 e2 e3 e4
        cases h
        refine s_tgS g.g.hK g.g.calm (un1 g) g.nd (g.sl e1) (visB_ok g.g c2) d1 d2 (g.sl e3) l1 l2 ((g.e e2).1.val true) ((g.e e4).1.val false) (notComp1 c4 pos.line X.env) (swP_ok g ?_) (fun v => noSl_assign c3 X.env v)
        clear e4
        cases e <;> first | rfl | exact absurd rfl (hne _ _ _)
      · cases h
  · rename_i ts k p hnot
    split at h
    · rename_i hp hn
      split at h
      · rename_i t ie e1 e2
        cases h
        exact s_asg ((g.e e2).1.val false) (cTg_ok g.g 4 _ t e1) (notComp1 hn pos.line X.env) (swP_ok g hp) rfl
      · cases h
    · rename_i names hp hn
      split at h
      · rename_i x px y py a b k2 pt2
        split at h
        · rename_i i j ia ib e1 e2 e3 e4
          split at h
          · rename_i hc
            simp only [Bool.and_eq_true, decide_eq_true_eq] at hc
            obtain ⟨⟨⟨⟨⟨hij, hx⟩, hy⟩, ha⟩, hb⟩, hw⟩ := hc
            cases h
            exact s_par2 g.g.calm g.nd (g.sl e1) (g.sl e2) hij (by rw [g.g.hsc]; exact hx) (by rw [g.g.hsc]; exact hy) (two_args ha hb ((g.e e3).1.val false) ((g.e e4).1.val false)) (swP_ok g hw) (notComp1 hn pos.line X.env)
          · cases h
        · cases h
      · rename_i x px y py z pz a b c k2 pt2
        split at h
        · rename_i i j l ia ib ic e1 e2 e3 e4 e5 e6
          split at h
          · rename_i hc
            simp only [Bool.and_eq_true, decide_eq_true_eq] at hc
            obtain ⟨⟨⟨⟨⟨⟨⟨⟨⟨hij, hil⟩, hjl⟩, hx⟩, hy⟩, hz⟩, ha⟩, hb⟩, hcc⟩, hw⟩ := hc
            cases h
            exact s_par3 g.g.calm g.nd (g.sl e1) (g.sl e2) (g.sl e3) hij hil hjl (by rw [g.g.hsc]; exact hx) (by rw [g.g.hsc]; exact hy) (by rw [g.g.hsc]; exact hz) (s_cons ha ((g.e e4).1.val false) (two_args hb hcc ((g.e e5).1.val false) ((g.e e6).1.val false))) (swP_ok g hw) (notComp1 hn pos.line X.env)
          · cases h
        · cases h
      · cases h
    · cases h
  · cases h
theorem cAug_ok (g : GS T cx G N sc fnF W X) {t e : Expr} {o : Operator} {pos : Pos} {is : IS} (h : cAug N sc fnF (cE G N n sc fnF) t o e = some is) : PS X (.AugAssign t o e pos) (tSt T W cx is) := by
  unfold cAug at h
  split at h
  · split at h
    case isFalse => cases h
    rename_i hl
    obtain ⟨l1, l2⟩ := locB_ok g.g hl
    split at h
    · rename_i i o' ie e1 e2 e3
      cases h
      have e := opOf_ok e2
      subst e
      exact s_aug g.nd (g.sl e1) l1 l2 ((g.e e3).1.val true)
    · cases h
  · split at h
    case isFalse => cases h
    rename_i hc
    simp only [Bool.and_eq_true] at hc
    obtain ⟨⟨c1, c2⟩, c3⟩ := hc
    obtain ⟨d1, d2⟩ := okN_ok c1
    split at h
    · rename_i k ii o' ie e1 e2 e3 e4
      cases h
      have e := opOf_ok e3
      subst e
      exact s_augS g.g.hK (un1 g) (g.sl e1) (visB_ok g.g c2) d1 d2 ((g.e e2).1.val true) ((g.e e4).1.val true) (fun ov iv new => noSl_aug c3 ov iv new)
    · cases h
  · cases h
theorem cStmt_ok {rec : RcS} (hr : SndS T cx G N sc fnF rec) : SndS T cx G N sc fnF (cStmt G N sc fnF ow (cE G N n sc fnF) (fun tg it => cIt G (cE G N n sc fnF) sc tg it) rec) := by
  intro W X s is g h
  unfold cStmt at h
  split at h
  · cases h
    exact s_doc
  · exact cMeth_ok g h
  · split at h
    · rename_i hn
      obtain ⟨ie, h1, h2⟩ := Option.map_eq_some_iff.mp h
      subst h2
      exact s_ex ((g.e h1).1.val true) (notComp_ok hn _ _ _)
    · cases h
  · unfold cRet at h
    obtain ⟨ie, h1, h2⟩ := Option.map_eq_some_iff.mp h
    split at h2
    · rename_i hc
      simp only [Bool.and_eq_true] at hc
      subst h2
      exact s_ret (s_obj ((g.e h1).2 hc.2))
    · subst h2
      exact s_ret ((g.e h1).1.val false)
  · cases h
    exact s_retN
  · exact cAsg_ok g h
  · exact cAug_ok g h
  · split at h
    · rename_i ic ia ib e1 e2 e3
      cases h
      exact s_if (g.e e1).1.test (cBlk_ok hr g e2) (cBlk_ok hr g e3)
    · cases h
  · split at h
    case isFalse => cases h
    rename_i hs
    split at h
    · rename_i t it ib e1 e2 e3
      cases h
      exact s_for g.ps g.g.calm (cIt_ok (cE_ok n) g.g e2) (cTg_ok g.g 4 _ t e1) (cBlk_ok hr g e3) (noSet_ok hs X.env)
    · cases h
  · split at h
    · rename_i ic ib e1 e2
      cases h
      exact s_while g.ps (g.e e1).1.test (cBlk_ok hr g e2)
    · cases h
  · cases h
    exact s_pass
  · cases h
    exact s_brk
  · cases h
    exact s_cont
  · cases h
    exact s_never
  · cases h
def cS (G : GT) (N : List Str) (sc : Scope) (fnF : Str → Bool) (ow : List Str) (n : Nat) : Nat → RcS
  | 0, _ => none
  | m + 1, s => cStmt G N sc fnF ow (cE G N n sc fnF) (fun tg it => cIt G (cE G N n sc fnF) sc tg it) (cS G N sc fnF ow n m) s
theorem cS_ok : ∀ m, SndS T cx G N sc fnF (cS G N sc fnF ow n m)
  | 0 => fun _ _ _ _ _ h => by cases h
  | m + 1 => fun W X s is g h => cStmt_ok (cS_ok m) W X s is g h
end IL

set_option Elab.async false
set_option linter.all false
set_option maxRecDepth 100000
set_option maxHeartbeats 4000000
/-! IL22: defs keep their promise. -/
namespace IL
open PySem L2
variable {T : Sta'} {G : GT}
theorem startE_get {n : Nat} {ds : List D} {i : Nat} {y : B} (h : (startE n ds)[i]? = some (some y)) : ∃ d, y = .fro d ∧ ds[i]? = some d := by
  unfold startE at h
  by_cases hi : i < ds.length
  · rw [List.getElem?_append_left (by simpa using hi), List.getElem?_map] at h
    cases e : ds[i]? with
    | none =>
      rw [e] at h
      cases h
    | some d =>
      rw [e] at h
      cases h
      exact ⟨d, rfl, rfl⟩
  · rw [List.getElem?_append_right (by simpa using Nat.not_lt.mp hi)] at h
    have := List.mem_of_getElem? h
    rw [List.mem_replicate] at this
    cases this.2
theorem start_get {N : List Str} {vs : List V} {i : Nat} {v : V} (h : vs[i]? = some v) : (L2.start N vs)[i]? = some (some v) := by
  have hi : i < vs.length := (List.getElem?_eq_some_iff.mp h).1
  unfold L2.start
  rw [List.getElem?_append_left (by simpa using hi), List.getElem?_map, h]
  rfl
theorem own_start {n : Nat} {ds : List D} {σ : L2.St} {a : Addr} : ¬ Own (startE n ds) σ a := fun ⟨i, d, h, _⟩ => by
  obtain ⟨d', e, _⟩ := startE_get h
  cases e
theorem RI.enter {A : List AO} {H S : Hp} {M : Ms} {ds : List D} {vs : List V} {N : List Str} (I : RI T.toSta ⟨[], A⟩ [] H S M) (r : Reps T.toSta M S ds vs) : RI T.toSta ⟨startE N.length ds, A⟩ (L2.start N vs) H S M := by
  refine ⟨I.sub, fun i d h => ?_, fun i d h => ?_, fun i j d e a h1 _ _ _ => ?_, I.obj, I.mlen, I.mnd, I.tp, ?_⟩
  · obtain ⟨d', e, h1⟩ := startE_get h
    cases e
    obtain ⟨v, h2, h3⟩ := r.get h1
    exact ⟨v, start_get h2, h3⟩
  · obtain ⟨d', e, h1⟩ := startE_get h
    cases e
  · obtain ⟨d', e, _⟩ := startE_get h1
    cases e
  · show (startE N.length ds).length = (L2.start N vs).length
    unfold startE L2.start
    have := r.length
    simp [this]
theorem Ext.leave {n : Nat} {ds : List D} {σ : L2.St} {H S : Hp} {M : Ms} {env' : Env'} {σ' : L2.St} {H' S' : Hp} {M' : Ms} (x : Ext (startE n ds) σ H S M env' σ' H' S' M') : Ext [] [] H S M [] [] H' S' M' := by
  refine ⟨x.ss, fun a h => ?_, fun a o h hm _ => x.fr a o h hm own_start, fun a h => absurd h own_nil, x.mm, x.kp⟩
  rcases x.sn a h with z | z | z
  · exact .inl z
  · exact .inr (.inl z)
  · exact absurd z own_start
/-- what a callee is, at a level -/
structure CalI (P : Program) (w : World) (K : PySem.W.Frag) (mg : Str → Option Value) (base : Heap) (T : Sta') (call : Nat → List D → List AO → Out) (lv : Nat) (x : Str) (i : Nat) : Prop where
  ex : ∃ f fd ps, mg x = some (.ref f) ∧ PySem.W.keepIn K (.ref f) = true ∧ Binds K fd ps [] ∧ FnOk P w K mg base (L2.CX P w) lv f fd ps (spI T (call i) ps.length) ∧ ∀ ds A, call i ds A ≠ .stuck → ds.length = ps.length
structure CalK (P : Program) (w : World) (K : PySem.W.Frag) (mg : Str → Option Value) (base : Heap) (T : Sta') (call : Nat → List D → List AO → Out) (lv : Nat) (x : Str) (i : Nat) (ks : List Str) (pm : List Nat) : Prop where
  ex : ∃ f fd ps, mg x = some (.ref f) ∧ PySem.W.keepIn K (.ref f) = true ∧ FnOk P w K mg base (L2.CX P w) lv f fd ps (spI T (call i) ps.length) ∧
    (∀ (s : Shared) (us ws : List Value), K.In s.heap → us.length = 0 → ws.length = ks.length → BindsTo s fd ⟨us, ks.zip ws⟩ (ps.zip (pickL (us ++ ws) pm))) ∧ ∀ ds A, call i ds A ≠ .stuck → ds.length = ps.length
/-- the module's facts that a def's body needs -/
structure ModI (P : Program) (w : World) (K : PySem.W.Frag) (mg : Str → Option Value) (base : Heap) (T : Sta') (G : GT) (call : Nat → List D → List AO → Out) (lv : Nat) : Prop where
  hK : K = T.K
  hw : w = T.w
  fnI : ∀ x i, G.nm.lookup x = some (.fn i) → CalI P w K mg base T call lv x i
  bi : ∀ x, G.nm.lookup x = some .bi → mg x = none
  con : ∀ x d, G.nm.lookup x = some (.con d) → ∃ u v, mg x = some u ∧ RelV v u ∧ ∀ M S, Rep T.toSta M S d v
  kwI : ∀ x i ks pm, (x, i, ks, pm) ∈ G.kw → CalK P w K mg base T call lv x i ks pm
/-- THE RULE for a def -/
theorem def_ok {P : Program} {w : World} {K : PySem.W.Frag} {mg : Str → Option Value} {base : Heap} {t : Tab} {k lv i : Nat} {x qual : Str} {params : Arguments} {body : List Stmt} {scope : Scope} {f : Addr} {fd : FuncData} {N ps ow : List Str} {n m : Nat} {is : ISs} {ro : Bool}
    (Md : ModI P w K mg base T { G with ro := ro } (callN t k) (lv + 1)) (F : FunD K x qual params body scope [] [] f fd) (S : FnScope N ps scope) (ht : t.def_ i = some ⟨N.length, ps.length, is⟩)
    (hc : cBlk (cS { G with ro := ro } N scope (fun _ => true) ow n m) body = some is) : FnOk P w K mg base (L2.CX P w) (lv + 2) f fd ps (spI T (callN t (k + 1) i) ps.length) := by
  refine F.ok S (fun vs H Q E h => h.1) fun cdv A outer s H vs Q E hr ⟨hl, S0, M0, A0, ds, I, rp, pc⟩ => ?_
  generalize hX : cxOf (L2.CX P w) P w K mg base N qual scope f cdv A outer s H E = X
  have ex : X.xe = fun e s' => wpAny (model X.prog X.w) X.A (leaving X.env e) (fun _ s'' => L2.CX X.prog X.w X.outer X.H_0 X.s_0 E e s'') (fun e' s'' => L2.CX X.prog X.w X.outer X.H_0 X.s_0 E e' s'') s' := by
    rw [← hX] <;> rfl
  have tk : Takes X (fun cls d _ H => E cls d H) := takes_of (by rw [← hX] <;> rfl) (by rw [← hX] <;> rfl) (by rw [← hX] <;> rfl) ex
  have gx : GX T ⟨callN t k, t.flds⟩ { G with ro := ro } N scope (fun _ => true) (fun cls d _ H => E cls d H) X := by
    refine ⟨by rw [← hX]; exact Md.hK, by rw [← hX]; exact Md.hw, by rw [← hX] <;> rfl, by rw [← hX] <;> rfl, S.nd, by rw [← hX] <;> rfl, fun x _ => by rw [← hX] <;> rfl, tk, ?_, fun x j h => ?_, fun x h => by rw [← hX]; exact Md.bi x h, fun x d h => by rw [← hX]; exact Md.con x d h, fun x j ks pm h => ?_⟩
    · have := hr.un
      rw [← hX]
      show (A.deeper _).units + 65 < cLine
      omega
    · obtain ⟨f', fd', ps', a, b, c, d, e⟩ := (Md.fnI x j h).ex
      refine ⟨ps', ⟨⟨f', fd', lv + 1, ?_⟩, e⟩⟩
      rw [← hX]
      exact ⟨a, b, c, hr, d⟩
    · obtain ⟨f', fd', ps', a, b, c, d, e⟩ := (Md.kwI x j ks pm h).ex
      refine ⟨f', fd', ps', lv + 1, ?_⟩
      rw [← hX]
      exact ⟨a, b, hr, c, d, e⟩
  have gs : GS T ⟨callN t k, t.flds⟩ { G with ro := ro } N scope (fun _ => true) (fun cls d _ H => E cls d H) X := ⟨gx, S.kind, passes_of (K := fun e s'' => L2.CX X.prog X.w X.outer X.H_0 X.s_0 E e s'') (E₁ := fun e' s'' => L2.CX X.prog X.w X.outer X.H_0 X.s_0 E e' s'') ex⟩
  refine ⟨tSs T (fun cls d _ H => E cls d H) ⟨callN t k, t.flds⟩ is, cBlk_ok (cS_ok (n := n) (ow := ow) m) gs hc, ⟨startE N.length ds, A0⟩, S0, M0, I.enter rp, ?_⟩
  have hcall : callN t (k + 1) i ds A0 = runDef ⟨callN t k, t.flds⟩ ⟨N.length, ps.length, is⟩ ds A0 := by
    simp only [callN, ht]
    rw [if_pos (by rw [rp.length]; exact hl)]
  rw [hcall] at pc
  unfold runDef at pc
  simp only at pc
  cases e : evSs ⟨callN t k, t.flds⟩ is ⟨startE N.length ds, A0⟩ with
  | stuck =>
    rw [e] at pc
    exact pc.elim
  | exc y st' =>
    rw [e] at pc
    intro cls dd σ' H' S' M' I' x' xr
    exact pc cls dd H' S' M' I'.bare x'.leave xr
  | ok fl st' =>
    rw [e] at pc
    intro σ' H' S' M' I' x'
    cases fl with
    | nx => exact pc .non H' S' M' I'.bare x'.leave .non
    | rt d => exact fun v rv => pc v H' S' M' I'.bare x'.leave rv
    | bk => exact pc.elim
    | ct => exact pc.elim
end IL

set_option Elab.async false
set_option linter.all false
set_option maxRecDepth 100000
set_option maxHeartbeats 4000000
/-! IL23: a whole program of defs; the law. -/
namespace IL
open PySem L2
variable {T : Sta'}
/-- a def of the program: its name, the place in the top, parameters, slots, names that hold own cells, does it give an object -/
structure DD where
  x : Str
  top : Nat
  ps : List Str
  N : List Str
  ow : List Str
  ro : Bool
def stAt (p : Program) (i : Nat) : Stmt := p.main.body.getD i (.Pass ⟨0, 0, 0, 0⟩)
def fnScB (N P : List Str) (sc : Scope) : Bool := (match sc.kind with
  | .function => true
  | _ => false) && !sc.isCoroutine && !sc.isGenerator && decide N.Nodup && decide (N.take P.length = P) && (P.all fun x => match sc.names.lookup x with
  | some .local | some .cell => true
  | _ => false) && sc.names.all fun y => match y.2 with
  | .free => false
  | _ => true
theorem fnScB_ok {N P : List Str} {sc : Scope} (h : fnScB N P sc = true) : FnScope N P sc := by
  unfold fnScB at h
  simp only [Bool.and_eq_true, Bool.not_eq_true', decide_eq_true_eq, List.all_eq_true] at h
  obtain ⟨⟨⟨⟨⟨⟨h1, h2⟩, h3⟩, h4⟩, h5⟩, h6⟩, h7⟩ := h
  refine ⟨?_, h2, h3, h4, h5, fun x hx => ?_, fun y hy e => ?_⟩
  · split at h1
    · assumption
    · cases h1
  · have := h6 x hx
    split at this
    · exact .inl (by assumption)
    · exact .inr (by assumption)
    · cases this
  · have := h7 y hy
    rw [e] at this
    cases this
/-- the text of a def is this code -/
structure DOk (p : Program) (G : GT) (n m : Nat) (d : DD) (b : IDef) : Prop where
  sl : b.slots = d.N.length
  pa : b.pars = d.ps.length
  sc : fnScB d.N d.ps (defScope (stAt p d.top)) = true
  co : cBlk (cS { G with ro := d.ro } d.N (defScope (stAt p d.top)) (fun _ => true) d.ow n m) (defBody (stAt p d.top)) = some b.body
def AllD (p : Program) (G : GT) (n m : Nat) : List DD → List IDef → Prop
  | d :: ds, b :: bs => DOk p G n m d b ∧ AllD p G n m ds bs
  | [], [] => True
  | _, _ => False
theorem AllD.get {p : Program} {G : GT} {n m : Nat} : ∀ {ds : List DD} {bs : List IDef}, AllD p G n m ds bs → ∀ {i : Nat} {d : DD}, ds[i]? = some d → ∃ b, bs[i]? = some b ∧ DOk p G n m d b
  | [], [], _, i, d, e => by simp at e
  | [], _ :: _, h, i, d, e => h.elim
  | _ :: _, [], h, i, d, e => h.elim
  | d' :: ds, b :: bs, h, 0, d, e => by
    simp at e
    subst e
    exact ⟨b, rfl, h.1⟩
  | d' :: ds, b :: bs, h, i + 1, d, e => by
    rw [List.getElem?_cons_succ] at e
    obtain ⟨b', h1, h2⟩ := AllD.get h.2 e
    exact ⟨b', by rw [List.getElem?_cons_succ]; exact h1, h2⟩
/-- a def stands as it is written -/
def Stands (p : Program) (K : PySem.W.Frag) (mg : Str → Option Value) (d : DD) : Prop :=
  ∃ f fd, mg d.x = some (.ref f) ∧ FunD K d.x d.x (defArgs (stAt p d.top)) (defBody (stAt p d.top)) (defScope (stAt p d.top)) [] [] f fd ∧ Binds K fd d.ps []
/-- what is static of the module, at one world -/
structure Mo (p : Program) (w : World) (K : PySem.W.Frag) (mg : Str → Option Value) (T : Sta') (G : GT) (dds : List DD) : Prop where
  hK : K = T.K
  hw : w = T.w
  fn : ∀ (i : Nat) (d : DD), dds[i]? = some d → Stands p K mg d
  nm : ∀ x i, G.nm.lookup x = some (.fn i) → ∃ d, dds[i]? = some d ∧ d.x = x
  bi : ∀ x, G.nm.lookup x = some .bi → mg x = none
  con : ∀ x d, G.nm.lookup x = some (.con d) → ∃ u v, mg x = some u ∧ RelV v u ∧ ∀ M S, Rep T.toSta M S d v
  kw : ∀ x i ks pm, (x, i, ks, pm) ∈ G.kw → ∃ d, dds[i]? = some d ∧ d.x = x ∧ ∀ f fd, FunD K d.x d.x (defArgs (stAt p d.top)) (defBody (stAt p d.top)) (defScope (stAt p d.top)) [] [] f fd →
    ∀ (s : Shared) (us ws : List Value), K.In s.heap → us.length = 0 → ws.length = ks.length → BindsTo s fd ⟨us, ks.zip ws⟩ (d.ps.zip (pickL (us ++ ws) pm))
def tabOf (bs : List IDef) (flds : Nat → Option Nat) : Tab := ⟨fun i => bs[i]?, flds⟩
theorem FunD.kp' {K : PySem.W.Frag} {x qual : Str} {params : Arguments} {body : List Stmt} {scope : Scope} {dvs : List V} {kws : List (Str × V)} {f : Addr} {fd : FuncData} (F : FunD K x qual params body scope dvs kws f fd) : PySem.W.keepIn K (.ref f) = true := F.kp
section
variable {p : Program} {w : World} {K : PySem.W.Frag} {mg : Str → Option Value} {G : GT} {dds : List DD} {bs : List IDef} {flds : Nat → Option Nat} {n m : Nat}
theorem arity (hA : AllD p G n m dds bs) (k i : Nat) (d : DD) (hd : dds[i]? = some d) (ds : List D) (A : List AO) (h : callN (tabOf bs flds) k i ds A ≠ .stuck) : ds.length = d.ps.length := by
  obtain ⟨b, h1, h2⟩ := hA.get hd
  cases k with
  | zero => exact absurd rfl h
  | succ k =>
    simp only [callN, tabOf, h1] at h
    by_cases e : ds.length = b.pars
    · rw [e, h2.pa]
    · rw [if_neg e] at h
      exact absurd rfl h
theorem mods (base : Heap) (hA : AllD p G n m dds bs) (Md : Mo p w K mg T G dds) : ∀ (k : Nat), (∀ (i : Nat) (d : DD) (f : Addr) (fd : FuncData), dds[i]? = some d → FunD K d.x d.x (defArgs (stAt p d.top)) (defBody (stAt p d.top)) (defScope (stAt p d.top)) [] [] f fd →
      FnOk p w K mg base (L2.CX p w) (k + 1) f fd d.ps (spI T (callN (tabOf bs flds) k i) d.ps.length)) ∧ ∀ ro, ModI p w K mg base T { G with ro := ro } (callN (tabOf bs flds) k) (k + 1) := by
  have step : ∀ k, (∀ (i : Nat) (d : DD) (f : Addr) (fd : FuncData), dds[i]? = some d → FunD K d.x d.x (defArgs (stAt p d.top)) (defBody (stAt p d.top)) (defScope (stAt p d.top)) [] [] f fd →
      FnOk p w K mg base (L2.CX p w) (k + 1) f fd d.ps (spI T (callN (tabOf bs flds) k i) d.ps.length)) → ∀ ro, ModI p w K mg base T { G with ro := ro } (callN (tabOf bs flds) k) (k + 1) := fun k h ro => by
    refine ⟨Md.hK, Md.hw, fun x i e => ?_, Md.bi, Md.con, fun x i ks pm e => ?_⟩
    · obtain ⟨d, h1, h2⟩ := Md.nm x i e
      obtain ⟨f, fd, a, b, c⟩ := Md.fn i d h1
      exact ⟨f, fd, d.ps, by rw [← h2]; exact a, b.kp, c, h i d f fd h1 b, fun ds A => arity hA k i d h1 ds A⟩
    · obtain ⟨d, h1, h2, h3⟩ := Md.kw x i ks pm e
      obtain ⟨f, fd, a, b, c⟩ := Md.fn i d h1
      exact ⟨f, fd, d.ps, by rw [← h2]; exact a, b.kp, h i d f fd h1 b, h3 f fd b, fun ds A => arity hA k i d h1 ds A⟩
  intro k
  induction k with
  | zero =>
    have h0 : ∀ (i : Nat) (d : DD) (f : Addr) (fd : FuncData), dds[i]? = some d → FunD K d.x d.x (defArgs (stAt p d.top)) (defBody (stAt p d.top)) (defScope (stAt p d.top)) [] [] f fd →
      FnOk p w K mg base (L2.CX p w) (0 + 1) f fd d.ps (spI T (callN (tabOf bs flds) 0 i) d.ps.length) := fun i d f fd _ _ =>
      ⟨fun vs H Q E h => h.1, fun A outer s H args us vs Q E _ _ _ _ ⟨_, _, _, _, _, _, _, pc⟩ => pc.elim⟩
    exact ⟨h0, step 0 h0⟩
  | succ k ih =>
    have h1 : ∀ (i : Nat) (d : DD) (f : Addr) (fd : FuncData), dds[i]? = some d → FunD K d.x d.x (defArgs (stAt p d.top)) (defBody (stAt p d.top)) (defScope (stAt p d.top)) [] [] f fd →
      FnOk p w K mg base (L2.CX p w) (k + 1 + 1) f fd d.ps (spI T (callN (tabOf bs flds) (k + 1) i) d.ps.length) := fun i d f fd hd F => by
      obtain ⟨b, e1, e2⟩ := hA.get hd
      have hb : b = ⟨d.N.length, d.ps.length, b.body⟩ := by
        obtain ⟨b1, b2, b3⟩ := b
        have s1 := e2.sl
        have s2 := e2.pa
        simp only at s1 s2
        rw [s1, s2]
      refine def_ok (lv := k) (ro := d.ro) (G := G) (n := n) (m := m) (ow := d.ow) (N := d.N) (is := b.body) (ih.2 d.ro) F (fnScB_ok e2.sc) ?_ e2.co
      show bs[i]? = _
      rw [e1]
      congr 1
    exact ⟨h1, step (k + 1) h1⟩
end
theorem reps_fl {M : Ms} {S : Hp} : ∀ ns : List Int, Reps T.toSta M S (ns.map D.int) (ns.map V.int)
  | [] => .nil
  | i :: r => .cons (.int i) (reps_fl r)
/-- the law's own call -/
theorem law_sp {call : List D → List AO → Out} {H : Hp} {a : Addr} {ns : List Int} {A' : List AO} (hS : SqL T.K H a (ns.map V.int)) (h : call [.fl (ns.map D.int)] [] = .ok (.bl true) A') : spI T call 1 [.ref a] H (fun v _ => v = .bl true) fun _ _ _ => False := by
  refine ⟨rfl, H, [], [], [.fl (ns.map .int)], ⟨Same.refl H, fun i d h => by simp at h, fun i d h => by simp at h, fun i j d e a h => by simp at h, fun n ao h => by simp at h, rfl, List.nodup_nil, fun _ _ h => h, rfl⟩, .cons (.fl hS (reps_fl ns)) .nil, ?_⟩
  rw [h]
  intro v H' S' M' _ _ rv
  cases rv
  rfl
end IL

set_option Elab.async false
set_option linter.all false
set_option maxRecDepth 100000
set_option maxHeartbeats 4000000
/-! IL24: from the head's facts to the module. -/
namespace IL
open PySem L2
theorem nsIn_of_keys {K : PySem.W.Frag} {P : Params} {a : Addr} {ks : List Str} {z : Str} (h : He.dicW K a = some (He.keysIn P ks)) (hz : z ∉ ks) : PySem.W.nsIn K a z = some none := by
  unfold He.dicW at h
  unfold PySem.W.nsIn
  cases q : K.lookup a with
  | none =>
    rw [q] at h
    cases h
  | some o =>
    obtain ⟨oc, od, dt, osl⟩ := o
    rw [q] at h
    cases oc with
    | type c =>
      cases od with
      | none =>
        cases dt with
        | dict es n =>
          simp only at h ⊢
          split at h
          · have h1 : es.toList.map He.keyOf = He.keysIn P ks := Option.some.inj h
            have key : ∀ (l : List DictEntry) (ks : List Str), l.map He.keyOf = He.keysIn P ks → z ∉ ks → l.find? (·.key.isStr z) = none ∧ l.any (·.refKey) = false := by
              intro l
              induction l with
              | nil => intro ks _ _; exact ⟨rfl, rfl⟩
              | cons e r ih =>
                intro ks h hz
                cases ks with
                | nil => cases h
                | cons k ks =>
                  have h' : He.keyOf e :: r.map He.keyOf = some (k, PyData.keyHash P k) :: He.keysIn P ks := h
                  injection h' with h2 h3
                  obtain ⟨i1, i2⟩ := ih ks h3 fun m => hz (List.mem_cons_of_mem _ m)
                  have hk : ∃ t, e.key = .str k t := by
                    unfold He.keyOf at h2
                    split at h2
                    · rename_i x t q
                      obtain ⟨h5, _⟩ := Prod.mk.inj (Option.some.inj h2)
                      exact ⟨t, by rw [q, h5]⟩
                    · cases h2
                  obtain ⟨t, hk⟩ := hk
                  have nz : k ≠ z := fun e => hz (by rw [e]; exact List.mem_cons_self)
                  constructor
                  · rw [List.find?_cons]
                    have : e.key.isStr z = false := by
                      rw [hk]
                      show (k == z) = false
                      exact beq_eq_false_iff_ne.mpr nz
                    rw [this]
                    exact i1
                  · rw [List.any_cons, i2]
                    have : e.refKey = false := by
                      unfold DictEntry.refKey
                      rw [hk]
                    rw [this]
                    rfl
            obtain ⟨k1, k2⟩ := key es.toList ks h1 hz
            rw [k1, k2]
            rfl
          · cases h
        | _ => cases h
      | some b => cases dt <;> cases h
    | _ => cases od <;> cases dt <;> cases h
theorem findS_mem : ∀ {ks : List Str} {vs : List Int} {z : Str} {i : Int}, findS ks vs z = some i → (z, He.Dv.int i) ∈ ks.zip (vs.map He.Dv.int)
  | [], _, _, _, h => by cases h
  | _ :: _, [], _, _, h => by cases h
  | k :: ks, v :: vs, z, i, h => by
    unfold findS at h
    rw [List.map_cons, List.zip_cons_cons]
    split at h
    · rename_i e
      cases h
      subst e
      exact List.mem_cons_self
    · exact List.mem_cons_of_mem _ (findS_mem h)
theorem findS_none : ∀ {ks : List Str} {vs : List Int} {z : Str}, ks.length = vs.length → findS ks vs z = none → z ∉ ks
  | [], _, _, _, _ => by simp
  | k :: ks, [], _, h, _ => by simp at h
  | k :: ks, v :: vs, z, hl, h => by
    unfold findS at h
    split at h
    · cases h
    · rename_i e
      intro m
      rcases List.mem_cons.mp m with rfl | m
      · exact e rfl
      · exact findS_none (by simpa using hl) h m
theorem ktb_of {K : PySem.W.Frag} {w : World} {a : Addr} {ks : List Str} {vs : List Int} (h : He.dicW K a = some (He.keysIn w.params ks)) (hl : ks.length = vs.length) (hv : He.valsB K a (ks.zip (vs.map He.Dv.int)) = true) : KTb K w a ks vs := by
  refine ⟨He.dicW_ok h, fun z => ?_⟩
  cases e : findS ks vs z with
  | none => exact nsIn_of_keys h (findS_none hl e)
  | some i =>
    obtain ⟨u, h1, h2⟩ := He.valsB_ok hv (findS_mem e)
    exact ⟨u, h1, h2⟩
/-- the defs of a program as the head wants them -/
def ddOf (p : Program) (d : DD) : He.DefD := ⟨(d.x, none), d.x, d.x, defArgs (stAt p d.top), defBody (stAt p d.top), defScope (stAt p d.top), [], []⟩
/-- the def binds its parameters -/
def BindsB (p : Program) (d : DD) : Prop := ∀ (kV doc pm : Value) (an : Option Addr) (cdv ct : Value) (us : List Value), us.length = d.ps.length → bindArgs (PySem.W.fnOf d.x d.x (defArgs (stAt p d.top)) (defBody (stAt p d.top)) (defScope (stAt p d.top)) .none kV doc pm an cdv ct) ⟨us, []⟩ = pure (d.ps.zip us)
def AllB (p : Program) : List DD → Prop
  | [] => True
  | d :: ds => BindsB p d ∧ AllB p ds
theorem AllB.get {p : Program} : ∀ {ds : List DD}, AllB p ds → ∀ {i : Nat} {d : DD}, ds[i]? = some d → BindsB p d
  | [], _, i, d, e => by simp at e
  | d' :: ds, h, 0, d, e => by
    simp at e
    subst e
    exact h.1
  | d' :: ds, h, i + 1, d, e => AllB.get h.2 (by simpa using e)
theorem stands_of {p : Program} {K : PySem.W.Frag} {h : Heap} {mg : Str → Option Value} {fa : List He.Fa} {fn : List He.DefD} {d : DD} (KX : K.In h) (G : h.Ns mainGlobals mg) (c : He.SaysD fa fn K) (h1 : ddOf p d ∈ fn) (h2 : He.Fa.glo d.x ∈ fa) (hb : BindsB p d) :
    Stands p K mg d := by
  obtain ⟨fd, F⟩ := c.defs h1
  have F' : FunD K d.x d.x (defArgs (stAt p d.top)) (defBody (stAt p d.top)) (defScope (stAt p d.top)) [] [] (He.ga K d.x) fd := F
  exact ⟨He.ga K d.x, fd, He.glo_ok KX G (c.facts h2), F', F'.bindsN hb⟩
theorem lookup_mem' {α : Type} {x : Str} {v : α} : ∀ {l : List (Str × α)}, l.lookup x = some v → (x, v) ∈ l
  | [], h => by cases h
  | (y, w) :: r, h => by
    rw [List.lookup_cons] at h
    split at h
    · rename_i e
      cases h
      rw [beq_iff_eq.mp e]
      exact List.mem_cons_self
    · exact List.mem_cons_of_mem _ (lookup_mem' h)
def mkG (dds : List DD) (frees : List Str) (consts : List (Str × D)) (kw : List (Str × Nat × List Str × List Nat)) : GT :=
  ⟨(dds.zipIdx.map fun q => (q.1.x, NK.fn q.2)) ++ (frees.map fun x => (x, NK.bi)) ++ consts.map fun c => (c.1, NK.con c.2), kw, false⟩
/-- how a def binds its keywords -/
def KwB (p : Program) (d : DD) (ks : List Str) (pm : List Nat) : Prop := ∀ (kV doc pm' : Value) (an : Option Addr) (cdv ct : Value) (ws : List Value), ws.length = ks.length → bindArgs (PySem.W.fnOf d.x d.x (defArgs (stAt p d.top)) (defBody (stAt p d.top)) (defScope (stAt p d.top)) .none kV doc pm' an cdv ct) ⟨[], ks.zip ws⟩ = pure (d.ps.zip (pickL ws pm))
theorem mo_of {p : Program} {w : World} {K : PySem.W.Frag} {h : Heap} {mg : Str → Option Value} {dds : List DD} {frees : List Str} {consts : List (Str × D)} {kw : List (Str × Nat × List Str × List Nat)} {fa more : List He.Fa} {fn : List He.DefD} (KX : K.In h) (G : h.Ns mainGlobals mg) (c : He.SaysD fa fn K)
    (hfn : fn = dds.map (ddOf p)) (hfa : fa = (dds.map fun d => He.Fa.glo d.x) ++ frees.map He.Fa.free ++ more) (hb : AllB p dds) (T : Sta') (hK : K = T.K) (hw : w = T.w)
    (hcon : ∀ q ∈ consts, ∃ u v, mg q.1 = some u ∧ RelV v u ∧ ∀ M S, Rep T.toSta M S q.2 v) (hkw : ∀ q ∈ kw, ∃ d, dds[q.2.1]? = some d ∧ d.x = q.1 ∧ KwB p d q.2.2.1 q.2.2.2) : Mo p w K mg T (mkG dds frees consts kw) dds := by
  have st : ∀ (i : Nat) (d : DD), dds[i]? = some d → Stands p K mg d := fun i d e => by
    have m := List.mem_of_getElem? e
    refine stands_of KX G c (by rw [hfn]; exact List.mem_map.mpr ⟨d, m, rfl⟩) (by rw [hfa]; exact List.mem_append_left _ (List.mem_append_left _ (List.mem_map.mpr ⟨d, m, rfl⟩))) (hb.get e)
  refine ⟨hK, hw, st, fun x i e => ?_, fun x e => ?_, fun x d e => ?_, fun x i ks pm e => ?_⟩
  · have m := lookup_mem' e
    rcases List.mem_append.mp m with m | m
    · rcases List.mem_append.mp m with m | m
      · obtain ⟨q, hq, e1⟩ := List.mem_map.mp m
        injection e1 with e1 e2
        injection e2 with e2
        subst e1 e2
        have := List.mem_zipIdx_iff_getElem?.mp hq
        exact ⟨q.1, this, rfl⟩
      · obtain ⟨q, hq, e1⟩ := List.mem_map.mp m
        injection e1 with e1 e2
        cases e2
    · obtain ⟨q, hq, e1⟩ := List.mem_map.mp m
      injection e1 with e1 e2
      cases e2
  · have m := lookup_mem' e
    rcases List.mem_append.mp m with m | m
    · rcases List.mem_append.mp m with m | m
      · obtain ⟨q, hq, e1⟩ := List.mem_map.mp m
        injection e1 with e1 e2
        cases e2
      · obtain ⟨q, hq, e1⟩ := List.mem_map.mp m
        injection e1 with e1 e2
        subst e1
        exact He.free_ok KX G (c.facts (by rw [hfa]; exact List.mem_append_left _ (List.mem_append_right _ (List.mem_map.mpr ⟨q, hq, rfl⟩))))
    · obtain ⟨q, hq, e1⟩ := List.mem_map.mp m
      injection e1 with e1 e2
      cases e2
  · have m := lookup_mem' e
    rcases List.mem_append.mp m with m | m
    · rcases List.mem_append.mp m with m | m
      · obtain ⟨q, hq, e1⟩ := List.mem_map.mp m
        injection e1 with e1 e2
        cases e2
      · obtain ⟨q, hq, e1⟩ := List.mem_map.mp m
        injection e1 with e1 e2
        cases e2
    · obtain ⟨q, hq, e1⟩ := List.mem_map.mp m
      injection e1 with e1 e2
      injection e2 with e2
      subst e1 e2
      exact hcon q hq
  · obtain ⟨d, h1, h2, h3⟩ := hkw _ e
    refine ⟨d, h1, h2, fun f fd F s us ws _ hu hl => ?_⟩
    obtain ⟨oc, od, dV, kV, doc, pm', an, cdv, ct, osl, rfl, lk, hcd, hD, hK'⟩ := F.ex
    have hu0 : us = [] := List.length_eq_zero_iff.mp hu
    subst hu0
    rcases hD with ⟨_, rfl⟩ | ⟨e', _⟩
    · exact BindsTo.of_eq (h3 kV doc pm' an cdv ct ws hl)
    · exact absurd rfl e'
/-- what a constant is -/
theorem con_int {K : PySem.W.Frag} {h : Heap} {mg : Str → Option Value} {fa : List He.Fa} {fn : List He.DefD} {T : Sta'} {x : Str} {i : Int} (KX : K.In h) (G : h.Ns mainGlobals mg) (c : He.SaysD fa fn K) (hm : He.Fa.int x i ∈ fa) : ∃ u v, mg x = some u ∧ RelV v u ∧ ∀ M S, Rep T.toSta M S (.int i) v := by
  obtain ⟨t, ht⟩ := He.int_ok KX G (c.facts hm)
  exact ⟨_, .int i, ht, ⟨t, rfl⟩, fun _ _ => .int i⟩
theorem reps_ints' {T : Sta'} {M : Ms} {S : Hp} : ∀ is : List Int, Reps T.toSta M S (is.map D.int) (is.map V.int)
  | [] => .nil
  | i :: is => .cons (.int i) (reps_ints' is)
theorem con_kt {K : PySem.W.Frag} {h : Heap} {mg : Str → Option Value} {fa : List He.Fa} {fn : List He.DefD} {T : Sta'} {x : Str} {is : List Int} (hK : K = T.K) (KX : K.In h) (G : h.Ns mainGlobals mg) (c : He.SaysD fa fn K) (hm : He.Fa.glo x ∈ fa) (ht : He.tupB K x (is.map He.Dv.int) = true) :
    ∃ u v, mg x = some u ∧ RelV v u ∧ ∀ M S, Rep T.toSta M S (.kt (is.map D.int)) v := by
  refine ⟨_, .ref (He.ga K x), He.glo_ok KX G (c.facts hm), rfl, fun M S => ?_⟩
  have h1 := He.tupB_ok ht S
  rw [hK] at h1 ⊢
  have e : (is.map He.Dv.int).map (He.Dv.v T.K) = is.map V.int := by rw [List.map_map] <;> rfl
  rw [e] at h1
  exact .kt h1 (reps_ints' is)
theorem con_kd {K : PySem.W.Frag} {w : World} {h : Heap} {mg : Str → Option Value} {fa : List He.Fa} {fn : List He.DefD} {T : Sta'} {x : Str} {ks : List Str} {vs : List Int} (hK : K = T.K) (hw : w = T.w) (KX : K.In h) (G : h.Ns mainGlobals mg) (c : He.SaysD fa fn K) (hm : He.Fa.glo x ∈ fa)
    (hd : He.dicW K (He.ga K x) = some (He.keysIn w.params ks)) (hl : ks.length = vs.length) (hv : He.valsB K (He.ga K x) (ks.zip (vs.map He.Dv.int)) = true) : ∃ u v, mg x = some u ∧ RelV v u ∧ ∀ M S, Rep T.toSta M S (.kd ks vs) v := by
  refine ⟨_, .ref (He.ga K x), He.glo_ok KX G (c.facts hm), rfl, fun M S => .kd ?_⟩
  subst hK hw
  exact ktb_of hd hl hv
/-- the i-th table -/
theorem tab_keys {fa : List He.Fa} {fn : List He.DefD} {ts : List He.Tab} {w : World} {K : PySem.W.Frag} (c : He.SaysT fa fn ts w K) (i : Nat) {t : He.Tab} (h : ts[i]? = some t) : He.dicW K (t.1 K) = some (He.keysIn w.params t.2) := by
  have e : ts.map (fun t => He.dicW K (t.1 K)) = ts.map fun t => some (He.keysIn w.params t.2) := congrArg (fun z : He.AlT => z.2) c
  have e2 : (ts.map fun t => He.dicW K (t.1 K))[i]? = (ts.map fun t => some (He.keysIn w.params t.2))[i]? := by rw [e]
  rw [List.getElem?_map, List.getElem?_map, h] at e2
  exact Option.some.inj e2
/-- an exception lies somehow, at some world -/
def CXw (P : Program) : CXT := fun outer H s E u s' => ∃ w, L2.CX P w outer H s E u s'
theorem fnok_cx {P : Program} {w : World} {K : PySem.W.Frag} {mg : Str → Option Value} {base : Heap} {k : Nat} {f : Addr} {fd : FuncData} {ps : List Str} {sp : Sp} (F : FnOk P w K mg base (L2.CX P w) k f fd ps sp) : FnOk P w K mg base (CXw P) k f fd ps sp :=
  ⟨F.len, fun A outer s H args us vs Q E hr he hb hv hs => codeAny_mono (F.run A outer s H args us vs Q E hr he hb hv hs) fun r s' h => by
    cases r with
    | ok fl => cases fl <;> exact h
    | error e => exact ⟨w, h⟩⟩
end IL

set_option Elab.async false
set_option linter.all false
set_option maxRecDepth 100000
set_option maxHeartbeats 4000000
/-! IL25: the frame: code that makes no objects does the same with more objects. -/
namespace IL
open PySem L2
def up (B : List AO) (st : SS) : SS := { st with A := st.A ++ B }
def Fr {α : Type} (B : List AO) (r r' : R α) : Prop := ∀ a st', r = .ok a st' → r' = .ok a (up B st')
variable {B : List AO} {α β : Type}
theorem Fr.ok {a : α} {st : SS} : Fr B (.ok a st) (.ok a (up B st)) := fun a st' h => by
  cases h
  rfl
theorem Fr.stuck {r : R α} : Fr B (.stuck) r := fun a st' h => by cases h
theorem Fr.bind {r r' : R α} {f f' : α → SS → R β} (h : Fr B r r') (k : ∀ a st, Fr B (f a st) (f' a (up B st))) : Fr B (r.bind f) (r'.bind f') := fun b st' e => by
  obtain ⟨a, st1, e1, e2⟩ := R.bind_ok e
  rw [h a st1 e1]
  exact k a st1 b st' e2
theorem Fr.opt {o : Option α} {st : SS} : Fr B (ofOpt o st) (ofOpt o (up B st)) := by
  cases o with
  | none => exact .stuck
  | some a => exact .ok
theorem Fr.noexc {r r' : R α} (h : Fr B r r') : Fr B (noexc r) (noexc r') := fun a st' e => by
  cases r with
  | ok a' st1 =>
    cases e
    rw [h a st' rfl] <;> rfl
  | exc x st1 => cases e
  | stuck => cases e
theorem Fr.loop {f f' : D → SS → R (Option D)} (h : ∀ x st, Fr B (f x st) (f' x (up B st))) : ∀ (xs acc : List D) (st : SS), Fr B (compLoop f xs acc st) (compLoop f' xs acc (up B st))
  | [], acc, st => .ok
  | x :: xs, acc, st => by
    simp only [compLoop]
    refine Fr.bind (h x st) fun o st1 => ?_
    cases o with
    | none => exact Fr.loop h xs acc st1
    | some d =>
      by_cases hz : acc.length < sizeLine
      · simp only [hz, if_true]
        exact Fr.loop h xs _ st1
      · simp only [hz, if_false]
        exact .stuck
theorem Fr.loop2 {f f' : D → List D → SS → R (List D)} (h : ∀ x acc st, Fr B (f x acc st) (f' x acc (up B st))) : ∀ (xs acc : List D) (st : SS), Fr B (compLoop2 f xs acc st) (compLoop2 f' xs acc (up B st))
  | [], acc, st => .ok
  | x :: xs, acc, st => by
    simp only [compLoop2]
    exact Fr.bind (h x acc st) fun o st1 => Fr.loop2 h xs o st1
theorem Fr.for {f f' : D → SS → R Fl} (h : ∀ x st, Fr B (f x st) (f' x (up B st))) : ∀ (xs : List D) (st : SS), Fr B (forLoop f xs st) (forLoop f' xs (up B st))
  | [], st => .ok
  | x :: xs, st => by
    simp only [forLoop]
    refine Fr.bind (h x st) fun fl st1 => ?_
    cases fl with
    | nx => exact Fr.for h xs st1
    | ct => exact Fr.for h xs st1
    | bk => exact .ok
    | rt d => exact .ok
theorem Fr.while {c c' : SS → R Bool} {f f' : SS → R Fl} (hc : ∀ st, Fr B (c st) (c' (up B st))) (h : ∀ st, Fr B (f st) (f' (up B st))) : ∀ (n : Nat) (st : SS), Fr B (whileLoop c f n st) (whileLoop c' f' n (up B st))
  | 0, st => .stuck
  | n + 1, st => by
    simp only [whileLoop]
    refine Fr.bind (hc st) fun b st1 => ?_
    cases b with
    | false => exact .ok
    | true =>
      refine Fr.bind (h st1) fun fl st2 => ?_
      cases fl with
      | nx => exact Fr.while hc h n st2
      | ct => exact Fr.while hc h n st2
      | bk => exact .ok
      | rt d => exact .ok
/-! ### no objects are made -/
variable (ok : Nat → Bool)
mutual
def noO : IE → Bool
  | .stuck | .con _ | .var _ | .dic0 _ => true
  | .bin _ a b => noO a && noO b
  | .neg a | .nt a => noO a
  | .cmp _ a b => noO a && noO b
  | .chain _ _ a b c => noO a && noO b && noO c
  | .and a b | .or a b => noO a && noO b
  | .ite a b c => noO a && noO b && noO c
  | .tup es | .lst es => noOs es
  | .dic _ _ _ => true
  | .sub a b => noO a && noO b
  | .sli a l h => noO a && noOo l && noOo h
  | .rev a => noO a
  | .pcall _ _ => false
  | .call f es => ok f && noOs es
  | .callP f _ es => ok f && noOs es
  | .mk _ es => noOs es
  | .obj _ => false
  | .dic1 _ a => noO a
  | .dicT k a => noO k && noO a
  | .bi _ es => noOs es
  | .mt _ a es => noO a && noOs es
  | .fld a _ _ => noO a
  | .comp _ _ i ifs a => noOi i && noOs ifs && noO a
  | .comp2 _ _ _ i _ i1 a => noOi i && noOi i1 && noO a
def noOs : IEs → Bool
  | .nil => true
  | .cons a r => noO a && noOs r
def noOo : IO → Bool
  | .no => true
  | .yes a => noO a
def noOi : II → Bool
  | .seq a | .rng1 a | .enum a => noO a
  | .rng2 a b | .rng3 a b | .zip a b => noO a && noO b
end
mutual
def noS : IS → Bool
  | .stuck | .retN | .brk | .cont | .pass | .raise _ _ => true
  | .ex a | .ret a | .asg _ a | .asgF _ a => noO ok a
  | .asgS _ i a => noO ok i && noO ok a
  | .par2 _ _ a b => noO ok a && noO ok b
  | .par3 _ _ _ a b c => noO ok a && noO ok b && noO ok c
  | .tgS _ i _ a => noO ok i && noO ok a
  | .aug _ _ a => noO ok a
  | .augS _ i _ a => noO ok i && noO ok a
  | .app _ a => noO ok a
  | .ins _ i a => noO ok i && noO ok a
  | .ifS c a b => noO ok c && noSs a && noSs b
  | .forS _ i b => noOi ok i && noSs b
  | .whileS c b => noO ok c && noSs b
def noSs : ISs → Bool
  | .nil => true
  | .cons s r => noS s && noSs r
end
variable {ok} {cx : ECx}
/-- the calls that are allowed keep the frame -/
def CxF (ok : Nat → Bool) (cx : ECx) (B : List AO) : Prop := ∀ f, ok f = true → ∀ ds A d A', cx.call f ds A = .ok d A' → cx.call f ds (A ++ B) = .ok d (A' ++ B)
theorem Fr.call (h : CxF ok cx B) {f : Nat} (hf : ok f = true) (ds : List D) (st : SS) : Fr B (match cx.call f ds st.A with
    | .ok d A => R.ok d { st with A := A }
    | .exc x A => .exc x { st with A := A }
    | .stuck => .stuck) (match cx.call f ds (up B st).A with
    | .ok d A => R.ok d { up B st with A := A }
    | .exc x A => .exc x { up B st with A := A }
    | .stuck => .stuck) := fun d st' e => by
  cases q : cx.call f ds st.A with
  | stuck =>
    rw [q] at e
    cases e
  | exc x A =>
    rw [q] at e
    cases e
  | ok d' A =>
    rw [q] at e
    cases e
    rw [show (up B st).A = st.A ++ B from rfl, h f hf ds st.A d A q]
    rfl
theorem Fr.sub (dx di : D) (st : SS) : Fr B (ofOpt (subD (derefD st.A dx) di) st) (ofOpt (subD (derefD (up B st).A dx) di) (up B st)) := fun d st' e => by
  cases q : subD (derefD st.A dx) di with
  | none =>
    rw [q] at e
    cases e
  | some d' =>
    rw [q] at e
    cases e
    have : derefD (up B st).A dx = derefD st.A dx := by
      cases dx with
      | ref n =>
        simp only [derefD] at q ⊢
        cases hA : st.A[n]? with
        | none =>
          rw [hA] at q
          simp [subD] at q
        | some ao =>
          have : (up B st).A[n]? = some ao := by
            show (st.A ++ B)[n]? = some ao
            rw [List.getElem?_append_left (List.getElem?_eq_some_iff.mp hA).1]
            exact hA
          rw [this]
      | _ => rfl
    rw [this, q]
    rfl
mutual
theorem fr_ev (h : CxF ok cx B) (b : Bool) : ∀ (e : IE), noO ok e = true → ∀ st, Fr B (ev cx b e st) (ev cx b e (up B st))
  | .stuck, _, st => .stuck
  | .con d, _, st => .ok
  | .var i, _, st => by
    simp only [ev, up]
    split
    · exact .ok
    · split
      · exact .ok
      · exact .ok
    · exact .stuck
  | .bin o x y, n, st => by
    simp only [noO, Bool.and_eq_true] at n
    simp only [ev]
    exact (fr_ev h true x n.1 st).bind fun dx st => (fr_ev h true y n.2 st).bind fun dy st => .opt
  | .neg x, n, st => by
    simp only [noO] at n
    simp only [ev]
    refine (fr_ev h true x n st).bind fun dx st => ?_
    cases dx <;> first | exact .ok | exact .stuck
  | .nt x, n, st => by
    simp only [noO] at n
    simp only [ev]
    refine (fr_ev h true x n st).bind fun dx st => ?_
    cases dx <;> first | exact .ok | exact .stuck
  | .cmp o x y, n, st => by
    simp only [noO, Bool.and_eq_true] at n
    simp only [ev]
    exact (fr_ev h true x n.1 st).bind fun dx st => (fr_ev h true y n.2 st).bind fun dy st => .opt
  | .chain o p x y z, n, st => by
    simp only [noO, Bool.and_eq_true] at n
    simp only [ev]
    refine (fr_ev h true x n.1.1 st).bind fun dx st => (fr_ev h true y n.1.2 st).bind fun dy st => ?_
    cases cmpD o dx dy with
    | none => exact .stuck
    | some c => cases c with
      | true => exact (fr_ev h true z n.2 st).bind fun dz st => .opt
      | false => exact .ok
  | .and x y, n, st => by
    simp only [noO, Bool.and_eq_true] at n
    simp only [ev]
    refine (fr_ev h true x n.1 st).bind fun dx st => ?_
    cases dx with
    | bl c => cases c with
      | true => exact fr_ev h b y n.2 st
      | false => exact .ok
    | _ => exact .stuck
  | .or x y, n, st => by
    simp only [noO, Bool.and_eq_true] at n
    simp only [ev]
    refine (fr_ev h true x n.1 st).bind fun dx st => ?_
    cases dx with
    | bl c => cases c with
      | true => exact .ok
      | false => exact fr_ev h b y n.2 st
    | _ => exact .stuck
  | .ite c x y, n, st => by
    simp only [noO, Bool.and_eq_true] at n
    simp only [ev]
    refine (fr_ev h true c n.1.1 st).bind fun dx st => ?_
    cases dx with
    | bl c => cases c with
      | true => exact fr_ev h b x n.1.2 st
      | false => exact fr_ev h b y n.2 st
    | _ => exact .stuck
  | .tup es, n, st => by
    simp only [noO] at n
    simp only [ev]
    refine (fr_evs h false es n st).bind fun ds st => ?_
    split
    · exact .ok
    · exact .stuck
  | .lst es, n, st => by
    simp only [noO] at n
    simp only [ev]
    refine (fr_evs h false es n st).bind fun ds st => ?_
    split
    · exact .ok
    · exact .stuck
  | .dic0 tk, _, st => .ok
  | .dic _ _ _, _, st => .stuck
  | .sub x i, n, st => by
    simp only [noO, Bool.and_eq_true] at n
    simp only [ev]
    exact (fr_ev h true x n.1 st).bind fun dx st => (fr_ev h true i n.2 st).bind fun dy st => Fr.sub dx dy st
  | .sli x lo hi, n, st => by
    simp only [noO, Bool.and_eq_true] at n
    simp only [ev]
    exact (fr_ev h true x n.1.1 st).bind fun dx st => (fr_evO h lo n.1.2 st).bind fun l st => (fr_evO h hi n.2 st).bind fun u st => .opt
  | .rev x, n, st => by
    simp only [noO] at n
    simp only [ev]
    exact (fr_ev h true x n st).bind fun dx st => .opt
  | .pcall f es, n, st => by simp [noO] at n
  | .call f es, n, st => by
    simp only [noO, Bool.and_eq_true] at n
    simp only [ev]
    exact (fr_evs h false es n.2 st).bind fun ds st => Fr.call h n.1 ds st
  | .callP f pm es, n, st => by
    simp only [noO, Bool.and_eq_true] at n
    simp only [ev]
    refine (fr_evs h false es n.2 st).bind fun ds st => ?_
    cases pickD ds pm with
    | none => exact .stuck
    | some as => exact Fr.call h n.1 as st
  | .mk c es, n, st => by
    simp only [noO] at n
    simp only [ev]
    refine (fr_evs h false es n st).bind fun ds st => ?_
    cases cx.flds c with
    | none => exact .stuck
    | some k =>
      simp only
      split
      · exact .ok
      · exact .stuck
  | .obj e, n, st => by simp [noO] at n
  | .dic1 k e, n, st => by
    simp only [noO] at n
    simp only [ev]
    exact (fr_ev h false e n st).bind fun d st => .ok
  | .dicT k e, n, st => by
    simp only [noO, Bool.and_eq_true] at n
    simp only [ev]
    refine (fr_ev h true k n.1 st).bind fun dk st => (fr_ev h false e n.2 st).bind fun d st => ?_
    cases tkeyD dk with
    | none => exact .stuck
    | some ks => exact .ok
  | .bi o es, n, st => by
    simp only [noO] at n
    simp only [ev]
    exact (fr_evs h true es n st).bind fun ds st => .opt
  | .mt m x es, n, st => by
    simp only [noO, Bool.and_eq_true] at n
    simp only [ev]
    exact (fr_ev h true x n.1 st).bind fun dx st => (fr_evs h false es n.2 st).bind fun ds st => .opt
  | .fld x c j, n, st => by
    simp only [noO] at n
    simp only [ev]
    refine (fr_ev h true x n st).bind fun dx st => ?_
    cases dx with
    | ins c' ds =>
      simp only
      split
      · exact .opt
      · exact .stuck
    | _ => exact .stuck
  | .comp vs t it ifs elt, n, st => by
    simp only [noO, Bool.and_eq_true] at n
    simp only [ev]
    refine (fr_evI h it n.1.1 st).bind fun xs st => (Fr.noexc (Fr.loop (fun x st => ?_) xs [] _)).bind fun ds st' => .ok
    simp only [up]
    cases asgT t x st.env with
    | none => exact .stuck
    | some env =>
      refine (fr_evT h ifs n.1.2 { st with env := env }).bind fun c st => ?_
      cases c with
      | true => exact (fr_ev h false elt n.2 st).bind fun d st => .ok
      | false => exact .ok
  | .comp2 vs vs1 t it t1 it1 elt, n, st => by
    simp only [noO, Bool.and_eq_true] at n
    simp only [ev]
    refine (fr_evI h it n.1.1 st).bind fun xs st => (Fr.noexc (Fr.loop2 (fun x acc st => ?_) xs [] _)).bind fun ds st' => .ok
    simp only [up]
    cases asgT t x st.env with
    | none => exact .stuck
    | some env =>
      refine (fr_evI h it1 n.1.2 { st with env := env }).bind fun ys st1 => (Fr.loop (fun y st => ?_) ys acc _).bind fun ds st2 => .ok
      simp only [up]
      cases asgT t1 y st.env with
      | none => exact .stuck
      | some env => exact (fr_ev h false elt n.2 { st with env := env }).bind fun d st => .ok
theorem fr_evs (h : CxF ok cx B) (b : Bool) : ∀ (es : IEs), noOs ok es = true → ∀ st, Fr B (evs cx b es st) (evs cx b es (up B st))
  | .nil, _, st => .ok
  | .cons e es, n, st => by
    simp only [noOs, Bool.and_eq_true] at n
    simp only [evs]
    exact (fr_ev h b e n.1 st).bind fun d st => (fr_evs h b es n.2 st).bind fun ds st => .ok
theorem fr_evO (h : CxF ok cx B) : ∀ (o : IO), noOo ok o = true → ∀ st, Fr B (evO cx o st) (evO cx o (up B st))
  | .no, _, st => .ok
  | .yes e, n, st => by
    simp only [noOo] at n
    simp only [evO]
    refine (fr_ev h true e n st).bind fun d st => ?_
    cases d <;> first | exact .ok | exact .stuck
theorem fr_evT (h : CxF ok cx B) : ∀ (es : IEs), noOs ok es = true → ∀ st, Fr B (evT cx es st) (evT cx es (up B st))
  | .nil, _, st => .ok
  | .cons e es, n, st => by
    simp only [noOs, Bool.and_eq_true] at n
    simp only [evT]
    refine (fr_ev h true e n.1 st).bind fun d st => ?_
    cases d with
    | bl c => cases c with
      | true => exact fr_evT h es n.2 st
      | false => exact .ok
    | _ => exact .stuck
theorem fr_evI (h : CxF ok cx B) : ∀ (i : II), noOi ok i = true → ∀ st, Fr B (evI cx i st) (evI cx i (up B st))
  | .seq e, n, st => by
    simp only [noOi] at n
    simp only [evI]
    exact (fr_ev h false e n st).bind fun d st => .opt
  | .rng1 a, n, st => by
    simp only [noOi] at n
    simp only [evI]
    refine (fr_ev h true a n st).bind fun d st => ?_
    cases d with
    | int j =>
      simp only
      split
      · exact .ok
      · exact .stuck
    | _ => exact .stuck
  | .rng2 a b, n, st => by
    simp only [noOi, Bool.and_eq_true] at n
    simp only [evI]
    refine (fr_ev h true a n.1 st).bind fun d st => (fr_ev h true b n.2 st).bind fun e st => ?_
    cases d with
    | int j => cases e with
      | int k =>
        simp only
        split
        · exact .ok
        · exact .stuck
      | _ => exact .stuck
    | _ => exact .stuck
  | .rng3 a b, n, st => by
    simp only [noOi, Bool.and_eq_true] at n
    simp only [evI]
    refine (fr_ev h true a n.1 st).bind fun d st => (fr_ev h true b n.2 st).bind fun e st => ?_
    cases d with
    | int j => cases e with
      | int k =>
        simp only
        split
        · exact .ok
        · exact .stuck
      | _ => exact .stuck
    | _ => exact .stuck
  | .enum e, n, st => by
    simp only [noOi] at n
    simp only [evI]
    exact (fr_ev h false e n st).bind fun d st => .opt
  | .zip a b, n, st => by
    simp only [noOi, Bool.and_eq_true] at n
    simp only [evI]
    refine (fr_ev h false a n.1 st).bind fun d st => (fr_ev h false b n.2 st).bind fun e st => ?_
    cases itemsD d with
    | none => exact .stuck
    | some xs => cases itemsD e with
      | none => exact .stuck
      | some ys => exact .ok
end
end IL

set_option Elab.async false
set_option linter.all false
set_option maxRecDepth 100000
set_option maxHeartbeats 4000000
/-! IL26: the frame: statements, defs. -/
namespace IL
open PySem L2
variable {B : List AO} {ok : Nat → Bool} {cx : ECx}
theorem Fr.upCell (x : Nat) (f : D → Option D) (st : SS) : Fr B (upCell x f st) (upCell x f (up B st)) := fun u st' e => by
  unfold IL.upCell at e ⊢
  simp only [up] at e ⊢
  split at e
  · split at e
    · cases e
      rename_i h1 _ _ h2
      simp only [h1, h2]
    · cases e
  · split at e
    · rename_i n h1 _ ds hA
      split at e
      · cases e
        rename_i h2
        have : (st.A ++ B)[n]? = some (.ls ds) := by
          rw [List.getElem?_append_left (List.getElem?_eq_some_iff.mp hA).1]
          exact hA
        simp only [h1, this, h2]
        congr 2
        rw [List.set_append_left _ _ (List.getElem?_eq_some_iff.mp hA).1]
      · cases e
    · cases e
  · cases e
theorem look_up {x : Nat} {st : SS} {c : D} (e : lookCell x st = some c) : lookCell x (up B st) = some c := by
  unfold lookCell at e ⊢
  simp only [up] at e ⊢
  split at e
  · rename_i h1
    cases e
    simp only [h1]
  · rename_i n h1
    split at e
    · rename_i ds hA
      cases e
      have : (st.A ++ B)[n]? = some (.ls ds) := by
        rw [List.getElem?_append_left (List.getElem?_eq_some_iff.mp hA).1]
        exact hA
      simp only [h1, this]
    · cases e
  · cases e
theorem Fr.look {α : Type} {x : Nat} {st : SS} {k k' : D → R α} (h : ∀ c, lookCell x st = some c → Fr B (k c) (k' c)) : Fr B (match lookCell x st with
    | some c => k c
    | none => .stuck) (match lookCell x (up B st) with
    | some c => k' c
    | none => .stuck) := fun a st' e => by
  cases q : lookCell x st with
  | none =>
    rw [q] at e
    cases e
  | some c =>
    rw [q] at e
    rw [look_up q]
    exact h c q a st' e
theorem Fr.ite {α : Type} {c : Prop} [Decidable c] {x x' : R α} (h : Fr B x x') : Fr B (if c then x else .stuck) (if c then x' else .stuck) := by
  by_cases hc : c
  · rw [if_pos hc, if_pos hc]
    exact h
  · rw [if_neg hc, if_neg hc]
    exact .stuck
mutual
theorem fr_evS (h : CxF ok cx B) : ∀ (s : IS), noS ok s = true → ∀ st, Fr B (evS cx s st) (evS cx s (up B st))
  | .stuck, _, st => .stuck
  | .ex e, n, st => by
    simp only [noS] at n
    simp only [evS]
    exact (fr_ev h true e n st).bind fun d st => .ok
  | .ret e, n, st => by
    simp only [noS] at n
    simp only [evS]
    exact (fr_ev h false e n st).bind fun d st => .ok
  | .retN, _, st => .ok
  | .asg t e, n, st => by
    simp only [noS] at n
    simp only [evS]
    refine (fr_ev h false e n st).bind fun d st => ?_
    simp only [up]
    cases asgT t d st.env with
    | none => exact .stuck
    | some env => exact .ok
  | .asgF i e, n, st => by
    simp only [noS] at n
    simp only [evS]
    refine (fr_ev h false e n st).bind fun d st => ?_
    exact Fr.ite .ok
  | .asgS x i e, n, st => by
    simp only [noS, Bool.and_eq_true] at n
    simp only [evS]
    refine (fr_ev h false e n.2 st).bind fun d st => ?_
    exact Fr.look fun c _ => (fr_ev h true i n.1 st).bind fun di st => (Fr.upCell x _ st).bind fun _ st => .ok
  | .par2 i j a b, n, st => by
    simp only [noS, Bool.and_eq_true] at n
    simp only [evS]
    refine (fr_ev h false a n.1 st).bind fun da st => (fr_ev h false b n.2 st).bind fun db st => ?_
    exact Fr.ite .ok
  | .par3 i j l a b c, n, st => by
    simp only [noS, Bool.and_eq_true] at n
    simp only [evS]
    refine (fr_ev h false a n.1.1 st).bind fun da st => (fr_ev h false b n.1.2 st).bind fun db st => (fr_ev h false c n.2 st).bind fun dc st => ?_
    exact Fr.ite .ok
  | .tgS x i j e, n, st => by
    simp only [noS, Bool.and_eq_true] at n
    simp only [evS]
    refine (fr_ev h false e n.2 st).bind fun d st => ?_
    split
    · refine Fr.look fun c _ => (fr_ev h true i n.1 st).bind fun di st => (Fr.upCell x _ st).bind fun _ st => ?_
      exact Fr.ite .ok
    · exact .stuck
  | .aug i o e, n, st => by
    simp only [noS] at n
    simp only [evS, up]
    split
    · refine (fr_ev h true e n st).bind fun de st => ?_
      exact Fr.opt
    · exact .stuck
  | .augS x i o e, n, st => by
    simp only [noS, Bool.and_eq_true] at n
    simp only [evS]
    refine Fr.look fun c _ => (fr_ev h true i n.1 st).bind fun di st => ?_
    intro a st' q
    cases ql : (lookCell x st).bind fun c => if isCellD c = true then subD c di else none with
    | none =>
      rw [ql] at q
      cases q
    | some old =>
      obtain ⟨c', e1, e2⟩ := Option.bind_eq_some_iff.mp ql
      have e3 : ((lookCell x (up B st)).bind fun c => if isCellD c = true then subD c di else none) = some old := by
        rw [look_up e1]
        exact e2
      rw [ql] at q
      rw [e3]
      revert a st'
      show Fr B _ _
      refine (fr_ev h true e n.2 st).bind fun de st => ?_
      cases augD o old de with
      | none => exact .stuck
      | some d => exact (Fr.upCell x _ st).bind fun _ st => .ok
  | .app x e, n, st => by
    simp only [noS] at n
    simp only [evS]
    intro a st' q
    split at q
    · rename_i ds el
      rw [look_up el]
      revert a st'
      exact (fr_ev h false e n st).bind fun d st => (Fr.upCell x _ st).bind fun _ st => .ok
    · cases q
  | .ins x i e, n, st => by
    simp only [noS, Bool.and_eq_true] at n
    simp only [evS]
    intro a st' q
    split at q
    · rename_i ds el
      rw [look_up el]
      revert a st'
      refine (fr_ev h false i n.1 st).bind fun di st => (fr_ev h false e n.2 st).bind fun d st => ?_
      cases di with
      | int k => exact (Fr.upCell x _ st).bind fun _ st => .ok
      | _ => exact .stuck
    · cases q
  | .ifS c a b, n, st => by
    simp only [noS, Bool.and_eq_true] at n
    simp only [evS]
    refine (fr_ev h true c n.1.1 st).bind fun d st => ?_
    cases d with
    | bl k => cases k with
      | true => exact fr_evSs h a n.1.2 st
      | false => exact fr_evSs h b n.2 st
    | _ => exact .stuck
  | .forS t it body, n, st => by
    simp only [noS, Bool.and_eq_true] at n
    simp only [evS]
    refine (fr_evI h it n.1 st).bind fun xs st => Fr.for (fun x st => ?_) xs st
    simp only [up]
    cases asgT t x st.env with
    | none => exact .stuck
    | some env => exact fr_evSs h body n.2 { st with env := env }
  | .whileS c body, n, st => by
    simp only [noS, Bool.and_eq_true] at n
    simp only [evS]
    refine Fr.while (fun st => ?_) (fun st => fr_evSs h body n.2 st) whileFuel st
    refine (fr_ev h true c n.1 st).bind fun d st => ?_
    cases d <;> first | exact .ok | exact .stuck
  | .brk, _, st => .ok
  | .cont, _, st => .ok
  | .pass, _, st => .ok
  | .raise _ _, _, st => .stuck
theorem fr_evSs (h : CxF ok cx B) : ∀ (ss : ISs), noSs ok ss = true → ∀ st, Fr B (evSs cx ss st) (evSs cx ss (up B st))
  | .nil, _, st => .ok
  | .cons s ss, n, st => by
    simp only [noSs, Bool.and_eq_true] at n
    simp only [evSs]
    refine (fr_evS h s n.1 st).bind fun fl st => ?_
    cases fl with
    | nx => exact fr_evSs h ss n.2 st
    | bk => exact .ok
    | ct => exact .ok
    | rt d => exact .ok
end
/-- the defs that ok tells make no objects -/
def pureT (ok : Nat → Bool) (bs : List IDef) : Bool := bs.zipIdx.all fun q => !ok q.2 || noSs ok q.1.body
theorem call_frame {bs : List IDef} {flds : Nat → Option Nat} (hp : pureT ok bs = true) : ∀ k, CxF ok ⟨callN (tabOf bs flds) k, flds⟩ B
  | 0, f, hf, ds, A, d, A', e => by
    simp only [callN] at e
    cases e
  | k + 1, f, hf, ds, A, d, A', e => by
    simp only [callN, tabOf] at e ⊢
    cases hb : bs[f]? with
    | none =>
      rw [hb] at e
      cases e
    | some b =>
      rw [hb] at e
      simp only at e ⊢
      split at e
      · rename_i hl
        rw [if_pos hl]
        have hm : noSs ok b.body = true := by
          have := List.all_eq_true.mp hp (b, f) (List.mem_zipIdx_iff_getElem?.mpr hb)
          simp only [hf, Bool.not_true, Bool.false_or] at this
          exact this
        have fr := fr_evSs (B := B) (cx := ⟨callN (tabOf bs flds) k, flds⟩) (call_frame hp k) b.body hm ⟨startE b.slots ds, A⟩
        unfold runDef at e ⊢
        cases q : evSs ⟨callN (tabOf bs flds) k, flds⟩ b.body ⟨startE b.slots ds, A⟩ with
        | stuck =>
          rw [show (⟨callN { def_ := fun i => bs[i]?, flds := flds } k, flds⟩ : ECx) = ⟨callN (tabOf bs flds) k, flds⟩ from rfl, q] at e
          cases e
        | exc x st =>
          rw [show (⟨callN { def_ := fun i => bs[i]?, flds := flds } k, flds⟩ : ECx) = ⟨callN (tabOf bs flds) k, flds⟩ from rfl, q] at e
          cases e
        | ok fl st =>
          rw [show (⟨callN { def_ := fun i => bs[i]?, flds := flds } k, flds⟩ : ECx) = ⟨callN (tabOf bs flds) k, flds⟩ from rfl, q] at e
          have q2 := fr fl st q
          rw [show (⟨callN { def_ := fun i => bs[i]?, flds := flds } k, flds⟩ : ECx) = ⟨callN (tabOf bs flds) k, flds⟩ from rfl, show (⟨startE b.slots ds, A ++ B⟩ : SS) = up B ⟨startE b.slots ds, A⟩ from rfl, q2]
          cases fl with
          | nx =>
            cases e
            rfl
          | rt v =>
            cases e
            rfl
          | bk => cases e
          | ct => cases e
      · cases e
end IL

set_option Elab.async false
set_option linter.all false
set_option maxRecDepth 100000
set_option maxHeartbeats 4000000
/-! SL: lemmas to run the small language by simp, in stages: no big match stands open. -/
namespace IL
open PySem L2
theorem bind_ok' {α β : Type} (a : α) (st : SS) (f : α → SS → R β) : (R.ok a st).bind f = f a st := rfl
theorem bind_stuck' {α β : Type} (f : α → SS → R β) : (R.stuck).bind f = .stuck := rfl
theorem ofOpt_some {α : Type} (a : α) (st : SS) : ofOpt (some a) st = .ok a st := rfl
theorem noexc_ok {α : Type} (a : α) (st : SS) : noexc (.ok a st) = .ok a st := rfl
theorem derefD_tup (A : List AO) (ds : List D) : derefD A (.tup ds) = .tup ds := rfl
theorem derefD_kt (A : List AO) (ds : List D) : derefD A (.kt ds) = .kt ds := rfl
theorem derefD_lst (A : List AO) (ds : List D) : derefD A (.lst ds) = .lst ds := rfl
theorem derefD_fl (A : List AO) (ds : List D) : derefD A (.fl ds) = .fl ds := rfl
theorem derefD_dT (A : List AO) (ks) (ds : List D) : derefD A (.dT ks ds) = .dT ks ds := rfl
theorem derefD_dF (A : List AO) (ks) (ds : List D) : derefD A (.dF ks ds) = .dF ks ds := rfl
theorem derefD_dK (A : List AO) (ks) (ds : List D) : derefD A (.dK ks ds) = .dK ks ds := rfl
theorem derefD_kd (A : List AO) (ks) (ds : List Int) : derefD A (.kd ks ds) = .kd ks ds := rfl
def derefA (n : Nat) : Option AO → D
  | some (.ls ds) => .lst ds
  | none => .ref n
theorem derefD_ref (A : List AO) (n : Nat) : derefD A (.ref n) = derefA n A[n]? := by
  cases h : A[n]? with
  | none => simp [derefD, derefA, h]
  | some o => cases o; simp [derefD, derefA, h]
theorem derefA_ls (n : Nat) (ds : List D) : derefA n (some (.ls ds)) = .lst ds := rfl
/-! cells -/
def lookA : Option AO → Option D
  | some (.ls ds) => some (.lst ds)
  | none => none
def lookB (A : List AO) : Option (Option B) → Option D
  | some (some (.own d)) => some d
  | some (some (.fro (.ref n))) => lookA A[n]?
  | _ => none
theorem look_def (x : Nat) (env : Env') (A : List AO) : lookCell x ⟨env, A⟩ = lookB A env[x]? := by
  unfold lookCell lookB lookA
  rfl
theorem lookB_own (A : List AO) (d : D) : lookB A (some (some (.own d))) = some d := rfl
theorem lookB_ref (A : List AO) (n : Nat) : lookB A (some (some (.fro (.ref n)))) = lookA A[n]? := rfl
theorem lookA_ls (ds : List D) : lookA (some (.ls ds)) = some (.lst ds) := rfl
def upO (x : Nat) (env : Env') (A : List AO) : Option D → R Unit
  | some d' => .ok () ⟨env.set x (some (.own d')), A⟩
  | none => .stuck
def upA2 (n : Nat) (env : Env') (A : List AO) : Option D → R Unit
  | some (.lst ds') => .ok () ⟨env, A.set n (.ls ds')⟩
  | _ => .stuck
def upA (n : Nat) (f : D → Option D) (env : Env') (A : List AO) : Option AO → R Unit
  | some (.ls ds) => upA2 n env A (f (.lst ds))
  | none => .stuck
def upB (x : Nat) (f : D → Option D) (env : Env') (A : List AO) : Option (Option B) → R Unit
  | some (some (.own d)) => upO x env A (f d)
  | some (some (.fro (.ref n))) => upA n f env A A[n]?
  | _ => .stuck
theorem up_def (x : Nat) (f : D → Option D) (env : Env') (A : List AO) : upCell x f ⟨env, A⟩ = upB x f env A env[x]? := by
  unfold upCell upB upO upA upA2
  rfl
theorem upB_own (x : Nat) (f : D → Option D) (env : Env') (A : List AO) (d : D) : upB x f env A (some (some (.own d))) = upO x env A (f d) := rfl
theorem upB_ref (x : Nat) (f : D → Option D) (env : Env') (A : List AO) (n : Nat) : upB x f env A (some (some (.fro (.ref n)))) = upA n f env A A[n]? := rfl
theorem upO_some (x : Nat) (env : Env') (A : List AO) (d : D) : upO x env A (some d) = .ok () ⟨env.set x (some (.own d)), A⟩ := rfl
theorem upA_ls (n : Nat) (f : D → Option D) (env : Env') (A : List AO) (ds : List D) : upA n f env A (some (.ls ds)) = upA2 n env A (f (.lst ds)) := rfl
theorem upA2_some (n : Nat) (env : Env') (A : List AO) (ds : List D) : upA2 n env A (some (.lst ds)) = .ok () ⟨env, A.set n (.ls ds)⟩ := rfl
/-! slots -/
def varB (b : Bool) (i : Nat) (env : Env') (A : List AO) : Option (Option B) → R D
  | some (some (.fro d)) => .ok d ⟨env, A⟩
  | some (some (.own d)) => if b = true then .ok d ⟨env, A⟩ else .ok (giveD d) ⟨env.set i (some (.fro (giveD d))), A⟩
  | _ => .stuck
theorem ev_con {cx : ECx} (b : Bool) (d : D) (st : SS) : ev cx b (.con d) st = .ok d st := by simp only [ev]
theorem ev_var {cx : ECx} (b : Bool) (i : Nat) (env : Env') (A : List AO) : ev cx b (.var i) ⟨env, A⟩ = varB b i env A env[i]? := by
  simp only [ev]
  unfold varB
  rfl
theorem varB_fro (b : Bool) (i : Nat) (env : Env') (A : List AO) (d : D) : varB b i env A (some (some (.fro d))) = .ok d ⟨env, A⟩ := rfl
theorem varB_ownT (i : Nat) (env : Env') (A : List AO) (d : D) : varB true i env A (some (some (.own d))) = .ok d ⟨env, A⟩ := rfl
theorem varB_ownF (i : Nat) (env : Env') (A : List AO) (d : D) : varB false i env A (some (some (.own d))) = .ok (giveD d) ⟨env.set i (some (.fro (giveD d))), A⟩ := rfl
theorem give_lst (ds : List D) : giveD (.lst ds) = .lst ds := rfl
theorem give_dK (ks) (ds : List D) : giveD (.dK ks ds) = .dK ks ds := rfl
theorem give_dT (ks) (ds : List D) : giveD (.dT ks ds) = .dF ks ds := rfl
/-! expressions: what goes on behind a part has a name -/
def kBin2 (o : Op2) (dx dy : D) (st : SS) : R D := ofOpt (binD o dx dy) st
def kBin1 (cx : ECx) (o : Op2) (y : IE) (dx : D) (st : SS) : R D := (ev cx true y st).bind (kBin2 o dx)
theorem ev_bin {cx : ECx} (b : Bool) (o : Op2) (x y : IE) (st : SS) : ev cx b (.bin o x y) st = (ev cx true x st).bind (kBin1 cx o y) := by
  simp only [ev]
  rfl
def kNeg : D → SS → R D
  | .int i, st => .ok (.int (-i)) st
  | _, _ => .stuck
theorem ev_neg {cx : ECx} (b : Bool) (x : IE) (st : SS) : ev cx b (.neg x) st = (ev cx true x st).bind kNeg := by
  simp only [ev]
  congr
  funext d st
  cases d <;> rfl
theorem kNeg_int (i : Int) (st : SS) : kNeg (.int i) st = .ok (.int (-i)) st := rfl
def kNt : D → SS → R D
  | .bl i, st => .ok (.bl (!i)) st
  | _, _ => .stuck
theorem ev_nt {cx : ECx} (b : Bool) (x : IE) (st : SS) : ev cx b (.nt x) st = (ev cx true x st).bind kNt := by
  simp only [ev]
  congr
  funext d st
  cases d <;> rfl
theorem kNt_bl (i : Bool) (st : SS) : kNt (.bl i) st = .ok (.bl (!i)) st := rfl
def kCmp2 (o : Cm) (dx dy : D) (st : SS) : R D := ofOpt ((cmpD o dx dy).map .bl) st
def kCmp1 (cx : ECx) (o : Cm) (y : IE) (dx : D) (st : SS) : R D := (ev cx true y st).bind (kCmp2 o dx)
theorem ev_cmp {cx : ECx} (b : Bool) (o : Cm) (x y : IE) (st : SS) : ev cx b (.cmp o x y) st = (ev cx true x st).bind (kCmp1 cx o y) := by
  simp only [ev]
  rfl
def kCh3 (cx : ECx) (p : Cm) (z : IE) (dy : D) (st : SS) : Option Bool → R D
  | some true => (ev cx true z st).bind (kCmp2 p dy)
  | some false => .ok (.bl false) st
  | none => .stuck
def kCh2 (cx : ECx) (o p : Cm) (z : IE) (dx dy : D) (st : SS) : R D := kCh3 cx p z dy st (cmpD o dx dy)
def kCh1 (cx : ECx) (o p : Cm) (y z : IE) (dx : D) (st : SS) : R D := (ev cx true y st).bind (kCh2 cx o p z dx)
theorem ev_chain {cx : ECx} (b : Bool) (o p : Cm) (x y z : IE) (st : SS) : ev cx b (.chain o p x y z) st = (ev cx true x st).bind (kCh1 cx o p y z) := by
  simp only [ev]
  congr
theorem kCh3_t (cx : ECx) (p : Cm) (z : IE) (dy : D) (st : SS) : kCh3 cx p z dy st (some true) = (ev cx true z st).bind (kCmp2 p dy) := rfl
theorem kCh3_f (cx : ECx) (p : Cm) (z : IE) (dy : D) (st : SS) : kCh3 cx p z dy st (some false) = .ok (.bl false) st := rfl
def kAnd (cx : ECx) (b : Bool) (y : IE) : D → SS → R D
  | .bl true, st => ev cx b y st
  | .bl false, st => .ok (.bl false) st
  | _, _ => .stuck
theorem ev_and {cx : ECx} (b : Bool) (x y : IE) (st : SS) : ev cx b (.and x y) st = (ev cx true x st).bind (kAnd cx b y) := by
  simp only [ev]
  congr
  funext dc st
  cases dc with
  | bl p => cases p <;> rfl
  | _ => rfl
theorem kAnd_t (cx : ECx) (b : Bool) (y : IE) (st : SS) : kAnd cx b y (.bl true) st = ev cx b y st := rfl
theorem kAnd_f (cx : ECx) (b : Bool) (y : IE) (st : SS) : kAnd cx b y (.bl false) st = .ok (.bl false) st := rfl
/-- both ways, where the second part is a truth value without a change of the state -/
theorem kAnd_bl {cx : ECx} {b : Bool} {y : IE} {st : SS} {p q : Bool} (h : p = true → ev cx b y st = .ok (.bl q) st) : kAnd cx b y (.bl p) st = .ok (.bl (p && q)) st := by
  cases p
  · rfl
  · exact (h rfl)
def kOr (cx : ECx) (b : Bool) (y : IE) : D → SS → R D
  | .bl true, st => .ok (.bl true) st
  | .bl false, st => ev cx b y st
  | _, _ => .stuck
theorem ev_or {cx : ECx} (b : Bool) (x y : IE) (st : SS) : ev cx b (.or x y) st = (ev cx true x st).bind (kOr cx b y) := by
  simp only [ev]
  congr
  funext dc st
  cases dc with
  | bl p => cases p <;> rfl
  | _ => rfl
theorem kOr_t (cx : ECx) (b : Bool) (y : IE) (st : SS) : kOr cx b y (.bl true) st = .ok (.bl true) st := rfl
theorem kOr_f (cx : ECx) (b : Bool) (y : IE) (st : SS) : kOr cx b y (.bl false) st = ev cx b y st := rfl
theorem kOr_bl {cx : ECx} {b : Bool} {y : IE} {st : SS} {p q : Bool} (h : p = false → ev cx b y st = .ok (.bl q) st) : kOr cx b y (.bl p) st = .ok (.bl (p || q)) st := by
  cases p
  · exact (h rfl)
  · rfl
def kIte (cx : ECx) (b : Bool) (x y : IE) : D → SS → R D
  | .bl true, st => ev cx b x st
  | .bl false, st => ev cx b y st
  | _, _ => .stuck
theorem ev_ite {cx : ECx} (b : Bool) (c x y : IE) (st : SS) : ev cx b (.ite c x y) st = (ev cx true c st).bind (kIte cx b x y) := by
  simp only [ev]
  congr
  funext dc st
  cases dc with
  | bl p => cases p <;> rfl
  | _ => rfl
theorem kIte_t (cx : ECx) (b : Bool) (x y : IE) (st : SS) : kIte cx b x y (.bl true) st = ev cx b x st := rfl
theorem kIte_f (cx : ECx) (b : Bool) (x y : IE) (st : SS) : kIte cx b x y (.bl false) st = ev cx b y st := rfl
def kTup (ds : List D) (st : SS) : R D := if ds.length ≤ sizeLine then .ok (.tup ds) st else .stuck
def kLst (ds : List D) (st : SS) : R D := if ds.length ≤ sizeLine then .ok (.lst ds) st else .stuck
def kLen (n : Nat) (d : D) (st : SS) : R D := if n ≤ sizeLine then .ok d st else .stuck
theorem kTup_def (ds : List D) (st : SS) : kTup ds st = kLen ds.length (.tup ds) st := rfl
theorem kLst_def (ds : List D) (st : SS) : kLst ds st = kLen ds.length (.lst ds) st := rfl
theorem kLen_ok {n : Nat} {d : D} {st : SS} (h : n ≤ 100000) : kLen n d st = .ok d st := by
  have : n ≤ sizeLine := Nat.le_trans h (by decide)
  simp [kLen, this]
theorem ev_tup {cx : ECx} (b : Bool) (es : IEs) (st : SS) : ev cx b (.tup es) st = (evs cx false es st).bind kTup := by
  simp only [ev]
  rfl
theorem ev_lst {cx : ECx} (b : Bool) (es : IEs) (st : SS) : ev cx b (.lst es) st = (evs cx false es st).bind kLst := by
  simp only [ev]
  rfl
theorem ev_dic0 {cx : ECx} (b : Bool) (tk : Bool) (st : SS) : ev cx b (.dic0 tk) st = .ok (if tk = true then .dT [] [] else .dK [] []) st := by simp only [ev]
def kSub2 (dx di : D) (st : SS) : R D := ofOpt (subD (derefD st.A dx) di) st
def kSub1 (cx : ECx) (i : IE) (dx : D) (st : SS) : R D := (ev cx true i st).bind (kSub2 dx)
theorem ev_sub {cx : ECx} (b : Bool) (x i : IE) (st : SS) : ev cx b (.sub x i) st = (ev cx true x st).bind (kSub1 cx i) := by
  simp only [ev]
  rfl
theorem kSub2_def (dx di : D) (env : Env') (A : List AO) : kSub2 dx di ⟨env, A⟩ = ofOpt (subD (derefD A dx) di) ⟨env, A⟩ := rfl
def kSli3 (dx : D) (l h : Option Int) (st : SS) : R D := ofOpt (sliD dx l h) st
def kSli2 (cx : ECx) (hi : IO) (dx : D) (l : Option Int) (st : SS) : R D := (evO cx hi st).bind (kSli3 dx l)
def kSli1 (cx : ECx) (lo hi : IO) (dx : D) (st : SS) : R D := (evO cx lo st).bind (kSli2 cx hi dx)
theorem ev_sli {cx : ECx} (b : Bool) (x : IE) (lo hi : IO) (st : SS) : ev cx b (.sli x lo hi) st = (ev cx true x st).bind (kSli1 cx lo hi) := by
  simp only [ev]
  rfl
def kRev (dx : D) (st : SS) : R D := ofOpt (revD dx) st
theorem ev_rev {cx : ECx} (b : Bool) (x : IE) (st : SS) : ev cx b (.rev x) st = (ev cx true x st).bind kRev := by
  simp only [ev]
  rfl
def callR (env : Env') : Out → R D
  | .ok d A => .ok d ⟨env, A⟩
  | .exc x A => .exc x ⟨env, A⟩
  | .stuck => .stuck
theorem callR_ok (env : Env') (d : D) (A : List AO) : callR env (.ok d A) = .ok d ⟨env, A⟩ := rfl
theorem callR_exc (env : Env') (x : Xn) (A : List AO) : callR env (.exc x A) = .exc x ⟨env, A⟩ := rfl
def kCall (cx : ECx) (f : Nat) (ds : List D) (st : SS) : R D := callR st.env (cx.call f ds st.A)
theorem kCall_def (c : Nat → List D → List AO → Out) (fl : Nat → Option Nat) (f : Nat) (ds : List D) (env : Env') (A : List AO) : kCall ⟨c, fl⟩ f ds ⟨env, A⟩ = callR env (c f ds A) := rfl
theorem ev_call {cx : ECx} (b : Bool) (f : Nat) (es : IEs) (st : SS) : ev cx b (.call f es) st = (evs cx false es st).bind (kCall cx f) := by
  simp only [ev]
  congr
def callP (cx : ECx) (f : Nat) (st : SS) : Option (List D) → R D
  | some as => kCall cx f as st
  | none => .stuck
def kCallP (cx : ECx) (f : Nat) (pm : List Nat) (ds : List D) (st : SS) : R D := callP cx f st (pickD ds pm)
theorem callP_some (cx : ECx) (f : Nat) (st : SS) (as : List D) : callP cx f st (some as) = kCall cx f as st := rfl
theorem ev_callP {cx : ECx} (b : Bool) (f : Nat) (pm : List Nat) (es : IEs) (st : SS) : ev cx b (.callP f pm es) st = (evs cx false es st).bind (kCallP cx f pm) := by
  simp only [ev]
  congr
def kObj : D → SS → R D
  | .lst ds, st => .ok (.ref st.A.length) ⟨st.env, st.A ++ [.ls ds]⟩
  | _, _ => .stuck
theorem ev_obj {cx : ECx} (b : Bool) (e : IE) (st : SS) : ev cx b (.obj e) st = (ev cx false e st).bind kObj := by
  simp only [ev]
  congr
  funext d st
  cases d <;> rfl
theorem kObj_lst (ds : List D) (env : Env') (A : List AO) : kObj (.lst ds) ⟨env, A⟩ = .ok (.ref A.length) ⟨env, A ++ [.ls ds]⟩ := rfl
def kDic1 (k : Str) (d : D) (st : SS) : R D := .ok (.dK [.inr k] [d]) st
theorem ev_dic1 {cx : ECx} (b : Bool) (k : Str) (e : IE) (st : SS) : ev cx b (.dic1 k e) st = (ev cx false e st).bind (kDic1 k) := by
  simp only [ev]
  rfl
def dicTR (d : D) (st : SS) : Option (List Key) → R D
  | some ks => .ok (.dT [ks] [d]) st
  | none => .stuck
def kDicT2 (dk d : D) (st : SS) : R D := dicTR d st (tkeyD dk)
def kDicT1 (cx : ECx) (e : IE) (dk : D) (st : SS) : R D := (ev cx false e st).bind (kDicT2 dk)
theorem ev_dicT {cx : ECx} (b : Bool) (k e : IE) (st : SS) : ev cx b (.dicT k e) st = (ev cx true k st).bind (kDicT1 cx e) := by
  simp only [ev]
  congr
theorem dicTR_some (d : D) (st : SS) (ks : List Key) : dicTR d st (some ks) = .ok (.dT [ks] [d]) st := rfl
def kBi (o : BI) (ds : List D) (st : SS) : R D := ofOpt (biD o ds) st
theorem ev_bi {cx : ECx} (b : Bool) (o : BI) (es : IEs) (st : SS) : ev cx b (.bi o es) st = (evs cx true es st).bind (kBi o) := by
  simp only [ev]
  rfl
def kMt2 (m : Mt) (dx : D) (ds : List D) (st : SS) : R D := ofOpt (mtD m dx ds) st
def kMt1 (cx : ECx) (m : Mt) (es : IEs) (dx : D) (st : SS) : R D := (evs cx false es st).bind (kMt2 m dx)
theorem ev_mt {cx : ECx} (b : Bool) (m : Mt) (x : IE) (es : IEs) (st : SS) : ev cx b (.mt m x es) st = (ev cx true x st).bind (kMt1 cx m es) := by
  simp only [ev]
  rfl
def kCons2 (d : D) (ds : List D) (st : SS) : R (List D) := .ok (d :: ds) st
def kCons1 (cx : ECx) (b : Bool) (es : IEs) (d : D) (st : SS) : R (List D) := (evs cx b es st).bind (kCons2 d)
theorem evs_nil {cx : ECx} (b : Bool) (st : SS) : evs cx b .nil st = .ok [] st := by simp only [evs]
theorem evs_cons {cx : ECx} (b : Bool) (e : IE) (es : IEs) (st : SS) : evs cx b (.cons e es) st = (ev cx b e st).bind (kCons1 cx b es) := by
  simp only [evs]
  rfl
def kO : D → SS → R (Option Int)
  | .int i, st => .ok (some i) st
  | _, _ => .stuck
theorem evO_no {cx : ECx} (st : SS) : evO cx .no st = .ok none st := by simp only [evO]
theorem evO_yes {cx : ECx} (e : IE) (st : SS) : evO cx (.yes e) st = (ev cx true e st).bind kO := by
  simp only [evO]
  congr
  funext d st
  cases d <;> rfl
theorem kO_int (i : Int) (st : SS) : kO (.int i) st = .ok (some i) st := rfl
def kT (cx : ECx) (es : IEs) : D → SS → R Bool
  | .bl true, st => evT cx es st
  | .bl false, st => .ok false st
  | _, _ => .stuck
theorem evT_nil {cx : ECx} (st : SS) : evT cx .nil st = .ok true st := by simp only [evT]
theorem evT_cons {cx : ECx} (e : IE) (es : IEs) (st : SS) : evT cx (.cons e es) st = (ev cx true e st).bind (kT cx es) := by
  simp only [evT]
  congr
  funext dc st
  cases dc with
  | bl p => cases p <;> rfl
  | _ => rfl
theorem kT_t (cx : ECx) (es : IEs) (st : SS) : kT cx es (.bl true) st = evT cx es st := rfl
theorem kT_f (cx : ECx) (es : IEs) (st : SS) : kT cx es (.bl false) st = .ok false st := rfl
/-- a last test -/
theorem kT_nil (cx : ECx) (p : Bool) (st : SS) : kT cx .nil (.bl p) st = .ok p st := by
  cases p
  · rfl
  · exact evT_nil (cx := cx) st
def kSeqI (d : D) (st : SS) : R (List D) := ofOpt (itemsD d) st
theorem evI_seq {cx : ECx} (e : IE) (st : SS) : evI cx (.seq e) st = (ev cx false e st).bind kSeqI := by
  simp only [evI]
  rfl
def kR1 : D → SS → R (List D)
  | .int j, st => if inR j = true then .ok (rngD 0 j.toNat) st else .stuck
  | _, _ => .stuck
theorem evI_rng1 {cx : ECx} (a : IE) (st : SS) : evI cx (.rng1 a) st = (ev cx true a st).bind kR1 := by
  simp only [evI]
  congr
  funext d st
  cases d <;> rfl
def kR2b : D → D → SS → R (List D)
  | .int i, .int j, st => if (inR i && inR j) = true then .ok (rngD i (j - i).toNat) st else .stuck
  | _, _, _ => .stuck
def kR2 (cx : ECx) (b : IE) (da : D) (st : SS) : R (List D) := (ev cx true b st).bind (kR2b da)
theorem evI_rng2 {cx : ECx} (a b : IE) (st : SS) : evI cx (.rng2 a b) st = (ev cx true a st).bind (kR2 cx b) := by
  simp only [evI]
  congr
  funext d st
  unfold kR2
  congr
  funext e st
  cases d <;> cases e <;> rfl
def kR3b : D → D → SS → R (List D)
  | .int i, .int j, st => if (inR i && inR j) = true then .ok (rngU i (i - j).toNat) st else .stuck
  | _, _, _ => .stuck
def kR3 (cx : ECx) (b : IE) (da : D) (st : SS) : R (List D) := (ev cx true b st).bind (kR3b da)
theorem evI_rng3 {cx : ECx} (a b : IE) (st : SS) : evI cx (.rng3 a b) st = (ev cx true a st).bind (kR3 cx b) := by
  simp only [evI]
  congr
  funext d st
  unfold kR3
  congr
  funext e st
  cases d <;> cases e <;> rfl
theorem inR_ok {i : Int} (h0 : -1000000000 ≤ i) (h1 : i ≤ 1000000000) : inR i = true := by
  unfold inR
  rw [decide_eq_true (by omega), decide_eq_true (by omega)]
  rfl
theorem kR1_ok {j : Int} {st : SS} (h0 : -1000000000 ≤ j) (h1 : j ≤ 1000000000) : kR1 (.int j) st = .ok (rngD 0 j.toNat) st := by simp [kR1, inR_ok h0 h1]
theorem kR2_ok {i j : Int} {st : SS} (g0 : -1000000000 ≤ i) (g1 : i ≤ 1000000000) (h0 : -1000000000 ≤ j) (h1 : j ≤ 1000000000) : kR2b (.int i) (.int j) st = .ok (rngD i (j - i).toNat) st := by simp [kR2b, inR_ok h0 h1, inR_ok g0 g1]
theorem kR3_ok {i j : Int} {st : SS} (g0 : -1000000000 ≤ i) (g1 : i ≤ 1000000000) (h0 : -1000000000 ≤ j) (h1 : j ≤ 1000000000) : kR3b (.int i) (.int j) st = .ok (rngU i (i - j).toNat) st := by simp [kR3b, inR_ok h0 h1, inR_ok g0 g1]
def kEnum (d : D) (st : SS) : R (List D) := ofOpt ((itemsS d).map (enumD 0)) st
theorem evI_enum {cx : ECx} (e : IE) (st : SS) : evI cx (.enum e) st = (ev cx false e st).bind kEnum := by
  simp only [evI]
  rfl
/-! comprehensions -/
def kCf2 (vs : List Nat) (d : D) (st : SS) : R (Option D) := .ok (some d) { st with env := wipeE st.env vs }
def kCf1 (cx : ECx) (vs : List Nat) (elt : IE) : Bool → SS → R (Option D)
  | true, st => (ev cx false elt st).bind (kCf2 vs)
  | false, st => .ok none { st with env := wipeE st.env vs }
def kCf0 (cx : ECx) (vs : List Nat) (ifs : IEs) (elt : IE) (A : List AO) : Option Env' → R (Option D)
  | some env => (evT cx ifs ⟨env, A⟩).bind (kCf1 cx vs elt)
  | none => .stuck
def kCf (cx : ECx) (vs : List Nat) (t : Tg) (ifs : IEs) (elt : IE) (x : D) (st : SS) : R (Option D) := kCf0 cx vs ifs elt st.A (asgT t x st.env)
def kCe (vs : List Nat) (env : Env') (ds : List D) (st' : SS) : R D := .ok (.lst ds) { st' with env := backE env st'.env vs }
def kComp (cx : ECx) (vs : List Nat) (t : Tg) (ifs : IEs) (elt : IE) (xs : List D) (st : SS) : R D := (noexc (compLoop (kCf cx vs t ifs elt) xs [] { st with env := wipeE st.env vs })).bind (kCe vs st.env)
theorem ev_comp {cx : ECx} (b : Bool) (vs : List Nat) (t : Tg) (it : II) (ifs : IEs) (elt : IE) (st : SS) : ev cx b (.comp vs t it ifs elt) st = (evI cx it st).bind (kComp cx vs t ifs elt) := by
  simp only [ev]
  congr
  funext xs st
  unfold kComp
  congr
  funext x st
  unfold kCf
  cases asgT t x st.env with
  | none => rfl
  | some env =>
    show _ = (evT cx ifs ⟨env, st.A⟩).bind (kCf1 cx vs elt)
    simp only
    congr
    funext c st
    cases c <;> rfl
theorem kCf1_t (cx : ECx) (vs : List Nat) (elt : IE) (st : SS) : kCf1 cx vs elt true st = (ev cx false elt st).bind (kCf2 vs) := rfl
theorem kCf1_f (cx : ECx) (vs : List Nat) (elt : IE) (env : Env') (A : List AO) : kCf1 cx vs elt false ⟨env, A⟩ = .ok none ⟨wipeE env vs, A⟩ := rfl
theorem kCf2_def (vs : List Nat) (d : D) (env : Env') (A : List AO) : kCf2 vs d ⟨env, A⟩ = .ok (some d) ⟨wipeE env vs, A⟩ := rfl
theorem kCf0_some (cx : ECx) (vs : List Nat) (ifs : IEs) (elt : IE) (A : List AO) (env : Env') : kCf0 cx vs ifs elt A (some env) = (evT cx ifs ⟨env, A⟩).bind (kCf1 cx vs elt) := rfl
theorem kCf_def (cx : ECx) (vs : List Nat) (t : Tg) (ifs : IEs) (elt : IE) (x : D) (env : Env') (A : List AO) : kCf cx vs t ifs elt x ⟨env, A⟩ = kCf0 cx vs ifs elt A (asgT t x env) := rfl
theorem kComp_def (cx : ECx) (vs : List Nat) (t : Tg) (ifs : IEs) (elt : IE) (xs : List D) (env : Env') (A : List AO) : kComp cx vs t ifs elt xs ⟨env, A⟩ = (noexc (compLoop (kCf cx vs t ifs elt) xs [] ⟨wipeE env vs, A⟩)).bind (kCe vs env) := rfl
theorem kCe_def (vs : List Nat) (env env' : Env') (ds : List D) (A : List AO) : kCe vs env ds ⟨env', A⟩ = .ok (.lst ds) ⟨backE env env' vs, A⟩ := rfl
theorem wipe_nil (env : Env') : wipeE env [] = env := rfl
theorem wipe_cons (env : Env') (v : Nat) (vs : List Nat) : wipeE env (v :: vs) = (wipeE env vs).set v none := rfl
theorem back_nil (env env' : Env') : backE env env' [] = env' := rfl
theorem back_cons (env env' : Env') (v : Nat) (vs : List Nat) : backE env env' (v :: vs) = (backE env env' vs).set v (env[v]?.getD none) := rfl
/-! comprehensions of two clauses -/
def kDf2 (vs1 : List Nat) (d : D) (st : SS) : R (Option D) := .ok (some d) { st with env := wipeE st.env vs1 }
def kDf1 (cx : ECx) (vs1 : List Nat) (elt : IE) (A : List AO) : Option Env' → R (Option D)
  | some env => (ev cx false elt ⟨env, A⟩).bind (kDf2 vs1)
  | none => .stuck
def kDf (cx : ECx) (vs1 : List Nat) (t1 : Tg) (elt : IE) (y : D) (st : SS) : R (Option D) := kDf1 cx vs1 elt st.A (asgT t1 y st.env)
def kDg2 (vs : List Nat) (ds : List D) (st : SS) : R (List D) := .ok ds { st with env := wipeE st.env vs }
def kDg1 (cx : ECx) (vs vs1 : List Nat) (t1 : Tg) (elt : IE) (acc : List D) (ys : List D) (st1 : SS) : R (List D) := (compLoop (kDf cx vs1 t1 elt) ys acc { st1 with env := wipeE st1.env vs1 }).bind (kDg2 vs)
def kDg0 (cx : ECx) (vs vs1 : List Nat) (t1 : Tg) (it1 : II) (elt : IE) (acc : List D) (A : List AO) : Option Env' → R (List D)
  | some env => (evI cx it1 ⟨env, A⟩).bind (kDg1 cx vs vs1 t1 elt acc)
  | none => .stuck
def kDg (cx : ECx) (vs vs1 : List Nat) (t : Tg) (t1 : Tg) (it1 : II) (elt : IE) (x : D) (acc : List D) (st : SS) : R (List D) := kDg0 cx vs vs1 t1 it1 elt acc st.A (asgT t x st.env)
def kComp2 (cx : ECx) (vs vs1 : List Nat) (t : Tg) (t1 : Tg) (it1 : II) (elt : IE) (xs : List D) (st : SS) : R D := (noexc (compLoop2 (kDg cx vs vs1 t t1 it1 elt) xs [] { st with env := wipeE st.env vs })).bind (kCe vs st.env)
theorem ev_comp2 {cx : ECx} (b : Bool) (vs vs1 : List Nat) (t : Tg) (it : II) (t1 : Tg) (it1 : II) (elt : IE) (st : SS) : ev cx b (.comp2 vs vs1 t it t1 it1 elt) st = (evI cx it st).bind (kComp2 cx vs vs1 t t1 it1 elt) := by
  simp only [ev]
  congr
theorem kComp2_def (cx : ECx) (vs vs1 : List Nat) (t : Tg) (t1 : Tg) (it1 : II) (elt : IE) (xs : List D) (env : Env') (A : List AO) : kComp2 cx vs vs1 t t1 it1 elt xs ⟨env, A⟩ = (noexc (compLoop2 (kDg cx vs vs1 t t1 it1 elt) xs [] ⟨wipeE env vs, A⟩)).bind (kCe vs env) := rfl
theorem kDg_def (cx : ECx) (vs vs1 : List Nat) (t : Tg) (t1 : Tg) (it1 : II) (elt : IE) (x : D) (acc : List D) (env : Env') (A : List AO) : kDg cx vs vs1 t t1 it1 elt x acc ⟨env, A⟩ = kDg0 cx vs vs1 t1 it1 elt acc A (asgT t x env) := rfl
theorem kDg0_some (cx : ECx) (vs vs1 : List Nat) (t1 : Tg) (it1 : II) (elt : IE) (acc : List D) (A : List AO) (env : Env') : kDg0 cx vs vs1 t1 it1 elt acc A (some env) = (evI cx it1 ⟨env, A⟩).bind (kDg1 cx vs vs1 t1 elt acc) := rfl
theorem kDg1_def (cx : ECx) (vs vs1 : List Nat) (t1 : Tg) (elt : IE) (acc : List D) (ys : List D) (env : Env') (A : List AO) : kDg1 cx vs vs1 t1 elt acc ys ⟨env, A⟩ = (compLoop (kDf cx vs1 t1 elt) ys acc ⟨wipeE env vs1, A⟩).bind (kDg2 vs) := rfl
theorem kDg2_def (vs : List Nat) (ds : List D) (env : Env') (A : List AO) : kDg2 vs ds ⟨env, A⟩ = .ok ds ⟨wipeE env vs, A⟩ := rfl
theorem kDf_def (cx : ECx) (vs1 : List Nat) (t1 : Tg) (elt : IE) (y : D) (env : Env') (A : List AO) : kDf cx vs1 t1 elt y ⟨env, A⟩ = kDf1 cx vs1 elt A (asgT t1 y env) := rfl
theorem kDf1_some (cx : ECx) (vs1 : List Nat) (elt : IE) (A : List AO) (env : Env') : kDf1 cx vs1 elt A (some env) = (ev cx false elt ⟨env, A⟩).bind (kDf2 vs1) := rfl
theorem kDf2_def (vs1 : List Nat) (d : D) (env : Env') (A : List AO) : kDf2 vs1 d ⟨env, A⟩ = .ok (some d) ⟨wipeE env vs1, A⟩ := rfl
/-! targets -/
def asgR (A : List AO) : Option Env' → R Fl
  | some env => .ok .nx ⟨env, A⟩
  | none => .stuck
def kAsg (t : Tg) (d : D) (st : SS) : R Fl := asgR st.A (asgT t d st.env)
theorem evS_asg {cx : ECx} (t : Tg) (e : IE) (st : SS) : evS cx (.asg t e) st = (ev cx false e st).bind (kAsg t) := by
  simp only [evS]
  rfl
theorem kAsg_def (t : Tg) (d : D) (env : Env') (A : List AO) : kAsg t d ⟨env, A⟩ = asgR A (asgT t d env) := rfl
theorem asgR_some (A : List AO) (env : Env') : asgR A (some env) = .ok .nx ⟨env, A⟩ := rfl
theorem asgT_nm (i : Nat) (d : D) (env : Env') : asgT (.nm i) d env = if i < env.length then some (env.set i (some (.fro d))) else none := by simp only [asgT]
theorem asgT_tu (ts : Tgs) (ds : List D) (env : Env') : asgT (.tu ts) (.tup ds) env = asgTs ts ds env := by simp [asgT]
theorem asgT_tuL (ts : Tgs) (ds : List D) (env : Env') : asgT (.tu ts) (.lst ds) env = asgTs ts ds env := by simp [asgT]
theorem asgTs_nil (env : Env') : asgTs .nil [] env = some env := by simp [asgTs]
def asgC (ts : Tgs) (ds : List D) : Option Env' → Option Env'
  | some e => asgTs ts ds e
  | none => none
theorem asgTs_cons (t : Tg) (ts : Tgs) (d : D) (ds : List D) (env : Env') : asgTs (.cons t ts) (d :: ds) env = asgC ts ds (asgT t d env) := by
  simp only [asgTs]
  rfl
theorem asgC_some (ts : Tgs) (ds : List D) (e : Env') : asgC ts ds (some e) = asgTs ts ds e := rfl
/-! statements one after another -/
def kSeq (cx : ECx) (ss : ISs) : Fl → SS → R Fl
  | .nx, st => evSs cx ss st
  | .bk, st => .ok .bk st
  | .ct, st => .ok .ct st
  | .rt d, st => .ok (.rt d) st
theorem evSs_cons {cx : ECx} (s : IS) (ss : ISs) (st : SS) : evSs cx (.cons s ss) st = (evS cx s st).bind (kSeq cx ss) := by
  simp only [evSs]
  congr
  funext fl st
  cases fl <;> rfl
theorem kSeq_nx (cx : ECx) (ss : ISs) (st : SS) : kSeq cx ss .nx st = evSs cx ss st := rfl
theorem kSeq_bk (cx : ECx) (ss : ISs) (st : SS) : kSeq cx ss .bk st = .ok .bk st := rfl
theorem kSeq_ct (cx : ECx) (ss : ISs) (st : SS) : kSeq cx ss .ct st = .ok .ct st := rfl
theorem kSeq_rt (cx : ECx) (ss : ISs) (d : D) (st : SS) : kSeq cx ss (.rt d) st = .ok (.rt d) st := rfl
theorem evSs_nil {cx : ECx} (st : SS) : evSs cx .nil st = .ok .nx st := by simp only [evSs]
def kIf (cx : ECx) (a b : ISs) : D → SS → R Fl
  | .bl true, st => evSs cx a st
  | .bl false, st => evSs cx b st
  | _, _ => .stuck
theorem evS_if {cx : ECx} (c : IE) (a b : ISs) (st : SS) : evS cx (.ifS c a b) st = (ev cx true c st).bind (kIf cx a b) := by
  simp only [evS]
  congr
  funext dc st
  cases dc with
  | bl p => cases p <;> rfl
  | _ => rfl
theorem kIf_t (cx : ECx) (a b : ISs) (st : SS) : kIf cx a b (.bl true) st = evSs cx a st := rfl
theorem kIf_f (cx : ECx) (a b : ISs) (st : SS) : kIf cx a b (.bl false) st = evSs cx b st := rfl
def kRet (d : D) (st : SS) : R Fl := .ok (.rt d) st
theorem evS_ret {cx : ECx} (e : IE) (st : SS) : evS cx (.ret e) st = (ev cx false e st).bind kRet := by
  simp only [evS]
  rfl
def kEx (d : D) (st : SS) : R Fl := .ok .nx st
theorem evS_ex {cx : ECx} (e : IE) (st : SS) : evS cx (.ex e) st = (ev cx true e st).bind kEx := by
  simp only [evS]
  rfl
theorem evS_retN {cx : ECx} (st : SS) : evS cx .retN st = .ok (.rt .non) st := by simp only [evS]
theorem evS_brk {cx : ECx} (st : SS) : evS cx .brk st = .ok .bk st := by simp only [evS]
theorem evS_cont {cx : ECx} (st : SS) : evS cx .cont st = .ok .ct st := by simp only [evS]
theorem evS_pass {cx : ECx} (st : SS) : evS cx .pass st = .ok .nx st := by simp only [evS]
def kAsgF (i : Nat) (d : D) (st : SS) : R Fl := if isCellD d = true ∧ i < st.env.length then .ok .nx { st with env := st.env.set i (some (.own d)) } else .stuck
theorem evS_asgF {cx : ECx} (i : Nat) (e : IE) (st : SS) : evS cx (.asgF i e) st = (ev cx false e st).bind (kAsgF i) := by
  simp only [evS]
  rfl
theorem kAsgF_ok {i : Nat} {d : D} {env : Env'} {A : List AO} (h : isCellD d = true) (h2 : i < env.length) : kAsgF i d ⟨env, A⟩ = .ok .nx ⟨env.set i (some (.own d)), A⟩ := by simp [kAsgF, h, h2]
theorem cell_lst (ds : List D) : isCellD (.lst ds) = true := rfl
theorem cell_dK (ks) (ds : List D) : isCellD (.dK ks ds) = true := rfl
theorem cell_dT (ks) (ds : List D) : isCellD (.dT ks ds) = true := rfl
def kNx (_ : Unit) (st : SS) : R Fl := .ok .nx st
def kUpS (x : Nat) (d di : D) (st : SS) : R Fl := (upCell x (fun c => setD c di d) st).bind kNx
def asgSR (cx : ECx) (x : Nat) (i : IE) (d : D) (st : SS) : Option D → R Fl
  | some _ => (ev cx true i st).bind (kUpS x d)
  | none => .stuck
def kAsgS (cx : ECx) (x : Nat) (i : IE) (d : D) (st : SS) : R Fl := asgSR cx x i d st (lookCell x st)
theorem evS_asgS {cx : ECx} (x : Nat) (i e : IE) (st : SS) : evS cx (.asgS x i e) st = (ev cx false e st).bind (kAsgS cx x i) := by
  simp only [evS]
  congr
theorem asgSR_some (cx : ECx) (x : Nat) (i : IE) (d : D) (st : SS) (c : D) : asgSR cx x i d st (some c) = (ev cx true i st).bind (kUpS x d) := rfl
def kPar2b (i j : Nat) (da db : D) (st : SS) : R Fl := if i < st.env.length ∧ j < st.env.length then .ok .nx { st with env := (st.env.set i (some (.fro da))).set j (some (.fro db)) } else .stuck
def kPar2 (cx : ECx) (i j : Nat) (b : IE) (da : D) (st : SS) : R Fl := (ev cx false b st).bind (kPar2b i j da)
theorem evS_par2 {cx : ECx} (i j : Nat) (a b : IE) (st : SS) : evS cx (.par2 i j a b) st = (ev cx false a st).bind (kPar2 cx i j b) := by
  simp only [evS]
  rfl
theorem kPar2b_def (i j : Nat) (da db : D) (env : Env') (A : List AO) : kPar2b i j da db ⟨env, A⟩ = if i < env.length ∧ j < env.length then .ok .nx ⟨(env.set i (some (.fro da))).set j (some (.fro db)), A⟩ else .stuck := rfl
def kPar3c (i j l : Nat) (da db dc : D) (st : SS) : R Fl := if i < st.env.length ∧ j < st.env.length ∧ l < st.env.length then .ok .nx { st with env := ((st.env.set i (some (.fro da))).set j (some (.fro db))).set l (some (.fro dc)) } else .stuck
def kPar3b (cx : ECx) (i j l : Nat) (c : IE) (da db : D) (st : SS) : R Fl := (ev cx false c st).bind (kPar3c i j l da db)
def kPar3 (cx : ECx) (i j l : Nat) (b c : IE) (da : D) (st : SS) : R Fl := (ev cx false b st).bind (kPar3b cx i j l c da)
theorem evS_par3 {cx : ECx} (i j l : Nat) (a b c : IE) (st : SS) : evS cx (.par3 i j l a b c) st = (ev cx false a st).bind (kPar3 cx i j l b c) := by
  simp only [evS]
  rfl
theorem kPar3c_def (i j l : Nat) (da db dc : D) (env : Env') (A : List AO) : kPar3c i j l da db dc ⟨env, A⟩ = if i < env.length ∧ j < env.length ∧ l < env.length then .ok .nx ⟨((env.set i (some (.fro da))).set j (some (.fro db))).set l (some (.fro dc)), A⟩ else .stuck := rfl
def kTg3 (j : Nat) (b : D) (_ : Unit) (st : SS) : R Fl := if j < st.env.length then .ok .nx { st with env := st.env.set j (some (.fro b)) } else .stuck
def kTg2 (x j : Nat) (a b di : D) (st : SS) : R Fl := (upCell x (fun c => setD c di a) st).bind (kTg3 j b)
def tgC (cx : ECx) (x : Nat) (i : IE) (j : Nat) (st : SS) (a b : D) : Option D → R Fl
  | some _ => (ev cx true i st).bind (kTg2 x j a b)
  | none => .stuck
def kTg (cx : ECx) (x : Nat) (i : IE) (j : Nat) : D → SS → R Fl
  | .tup [a, b], st => tgC cx x i j st a b (lookCell x st)
  | _, _ => .stuck
theorem evS_tgS {cx : ECx} (x : Nat) (i : IE) (j : Nat) (e : IE) (st : SS) : evS cx (.tgS x i j e) st = (ev cx false e st).bind (kTg cx x i j) := by
  simp only [evS]
  congr
  funext d st
  split
  · rename_i a b
    show _ = tgC cx x i j st a b (lookCell x st)
    cases lookCell x st <;> rfl
  · rename_i h
    unfold kTg
    split
    · exact absurd rfl (h _ _)
    · rfl
theorem kTg_tup (cx : ECx) (x : Nat) (i : IE) (j : Nat) (st : SS) (a b : D) : kTg cx x i j (.tup [a, b]) st = tgC cx x i j st a b (lookCell x st) := rfl
theorem tgC_some (cx : ECx) (x : Nat) (i : IE) (j : Nat) (st : SS) (a b c : D) : tgC cx x i j st a b (some c) = (ev cx true i st).bind (kTg2 x j a b) := rfl
theorem kTg3_def (j : Nat) (b : D) (u : Unit) (env : Env') (A : List AO) : kTg3 j b u ⟨env, A⟩ = if j < env.length then .ok .nx ⟨env.set j (some (.fro b)), A⟩ else .stuck := rfl
def kAppU (x : Nat) (d : D) (st : SS) : R Fl := (upCell x (appD d) st).bind kNx
def appR (cx : ECx) (x : Nat) (e : IE) (st : SS) : Option D → R Fl
  | some (.lst _) => (ev cx false e st).bind (kAppU x)
  | _ => .stuck
theorem evS_app {cx : ECx} (x : Nat) (e : IE) (st : SS) : evS cx (.app x e) st = appR cx x e st (lookCell x st) := by
  simp only [evS]
  rfl
theorem appR_lst (cx : ECx) (x : Nat) (e : IE) (st : SS) (ds : List D) : appR cx x e st (some (.lst ds)) = (ev cx false e st).bind (kAppU x) := rfl
def augE (i : Nat) (st : SS) : Option D → R Fl
  | some d => .ok .nx { st with env := st.env.set i (some (.fro d)) }
  | none => .stuck
def kAug (i : Nat) (o : Op2) (d : D) (de : D) (st : SS) : R Fl := augE i st (augD o d de)
def augB (cx : ECx) (i : Nat) (o : Op2) (e : IE) (st : SS) : Option (Option B) → R Fl
  | some (some (.fro d)) => (ev cx true e st).bind (kAug i o d)
  | _ => .stuck
theorem evS_aug {cx : ECx} (i : Nat) (o : Op2) (e : IE) (env : Env') (A : List AO) : evS cx (.aug i o e) ⟨env, A⟩ = augB cx i o e ⟨env, A⟩ env[i]? := by
  simp only [evS]
  cases h : env[i]? with
  | none => rfl
  | some q => cases q with
    | none => rfl
    | some q => cases q with
      | own d => rfl
      | fro d =>
        show (ev cx true e ⟨env, A⟩).bind _ = (ev cx true e ⟨env, A⟩).bind (kAug i o d)
        congr
        funext de st
        unfold kAug
        cases augD o d de <;> rfl
theorem augB_fro (cx : ECx) (i : Nat) (o : Op2) (e : IE) (st : SS) (d : D) : augB cx i o e st (some (some (.fro d))) = (ev cx true e st).bind (kAug i o d) := rfl
theorem augE_some (i : Nat) (env : Env') (A : List AO) (d : D) : augE i ⟨env, A⟩ (some d) = .ok .nx ⟨env.set i (some (.fro d)), A⟩ := rfl
theorem augD_add (i j : Int) : augD .add (.int i) (.int j) = some (.int (i + j)) := rfl
theorem augD_sub (i j : Int) : augD .sub (.int i) (.int j) = some (.int (i - j)) := rfl
def augS2 (x : Nat) (di : D) (st : SS) : Option D → R Fl
  | some d => (upCell x (fun c => setD c di d) st).bind kNx
  | none => .stuck
def kAugS2 (x : Nat) (o : Op2) (di old : D) (de : D) (st : SS) : R Fl := augS2 x di st (augD o old de)
def augS1 (cx : ECx) (x : Nat) (o : Op2) (e : IE) (di : D) (st : SS) : Option D → R Fl
  | some old => (ev cx true e st).bind (kAugS2 x o di old)
  | none => .stuck
def oldD (di : D) : Option D → Option D
  | some c => if isCellD c = true then subD c di else none
  | none => none
def kAugS1 (cx : ECx) (x : Nat) (o : Op2) (e : IE) (di : D) (st : SS) : R Fl := augS1 cx x o e di st (oldD di (lookCell x st))
def augS0 (cx : ECx) (x : Nat) (i : IE) (o : Op2) (e : IE) (st : SS) : Option D → R Fl
  | some _ => (ev cx true i st).bind (kAugS1 cx x o e)
  | none => .stuck
theorem evS_augS {cx : ECx} (x : Nat) (i : IE) (o : Op2) (e : IE) (st : SS) : evS cx (.augS x i o e) st = augS0 cx x i o e st (lookCell x st) := by
  simp only [evS]
  cases lookCell x st with
  | none => rfl
  | some c =>
    show _ = (ev cx true i st).bind (kAugS1 cx x o e)
    simp only
    congr
    funext di st
    unfold kAugS1
    have : ((lookCell x st).bind fun c => if isCellD c = true then subD c di else none) = oldD di (lookCell x st) := by
      cases lookCell x st <;> rfl
    rw [this]
    cases oldD di (lookCell x st) with
    | none => rfl
    | some old =>
      show (ev cx true e st).bind _ = (ev cx true e st).bind (kAugS2 x o di old)
      congr
theorem augS0_some (cx : ECx) (x : Nat) (i : IE) (o : Op2) (e : IE) (st : SS) (d : D) : augS0 cx x i o e st (some d) = (ev cx true i st).bind (kAugS1 cx x o e) := rfl
theorem augS1_some (cx : ECx) (x : Nat) (o : Op2) (e : IE) (di : D) (st : SS) (d : D) : augS1 cx x o e di st (some d) = (ev cx true e st).bind (kAugS2 x o di d) := rfl
theorem augS2_some (x : Nat) (di : D) (st : SS) (d : D) : augS2 x di st (some d) = (upCell x (fun c => setD c di d) st).bind kNx := rfl
theorem oldD_dT (di : D) (ks) (ds : List D) : oldD di (some (.dT ks ds)) = subD (.dT ks ds) di := rfl
theorem oldD_lst (di : D) (ds : List D) : oldD di (some (.lst ds)) = subD (.lst ds) di := rfl
/-! loops -/
def forB (cx : ECx) (body : ISs) (A : List AO) : Option Env' → R Fl
  | some env => evSs cx body ⟨env, A⟩
  | none => .stuck
def kForF (cx : ECx) (t : Tg) (body : ISs) (x : D) (st : SS) : R Fl := forB cx body st.A (asgT t x st.env)
def kFor (cx : ECx) (t : Tg) (body : ISs) (xs : List D) (st : SS) : R Fl := forLoop (kForF cx t body) xs st
theorem evS_for {cx : ECx} (t : Tg) (it : II) (body : ISs) (st : SS) : evS cx (.forS t it body) st = (evI cx it st).bind (kFor cx t body) := by
  simp only [evS]
  congr
theorem kForF_def (cx : ECx) (t : Tg) (body : ISs) (x : D) (env : Env') (A : List AO) : kForF cx t body x ⟨env, A⟩ = forB cx body A (asgT t x env) := rfl
theorem forB_some (cx : ECx) (body : ISs) (A : List AO) (env : Env') : forB cx body A (some env) = evSs cx body ⟨env, A⟩ := rfl
def kWc2 : D → SS → R Bool
  | .bl v, st => .ok v st
  | _, _ => .stuck
def kWc (cx : ECx) (c : IE) (st : SS) : R Bool := (ev cx true c st).bind kWc2
def kWb (cx : ECx) (body : ISs) (st : SS) : R Fl := evSs cx body st
theorem evS_while {cx : ECx} (c : IE) (body : ISs) (st : SS) : evS cx (.whileS c body) st = whileLoop (kWc cx c) (kWb cx body) whileFuel st := by
  simp only [evS]
  congr
  funext st
  unfold kWc
  congr
  funext d st
  cases d <;> rfl
theorem kWc2_bl (v : Bool) (st : SS) : kWc2 (.bl v) st = .ok v st := rfl
def kFl (f : D → SS → R Fl) (xs : List D) : Fl → SS → R Fl
  | .nx, st => forLoop f xs st
  | .ct, st => forLoop f xs st
  | .bk, st => .ok .nx st
  | .rt d, st => .ok (.rt d) st
theorem for_nil (f : D → SS → R Fl) (st : SS) : forLoop f [] st = .ok .nx st := rfl
theorem for_cons (f : D → SS → R Fl) (x : D) (xs : List D) (st : SS) : forLoop f (x :: xs) st = (f x st).bind (kFl f xs) := by
  simp only [forLoop]
  congr
  funext fl st
  cases fl <;> rfl
theorem kFl_nx (f : D → SS → R Fl) (xs : List D) (st : SS) : kFl f xs .nx st = forLoop f xs st := rfl
theorem kFl_ct (f : D → SS → R Fl) (xs : List D) (st : SS) : kFl f xs .ct st = forLoop f xs st := rfl
theorem kFl_bk (f : D → SS → R Fl) (xs : List D) (st : SS) : kFl f xs .bk st = .ok .nx st := rfl
theorem kFl_rt (f : D → SS → R Fl) (xs : List D) (d : D) (st : SS) : kFl f xs (.rt d) st = .ok (.rt d) st := rfl
/-! defs -/
def outR : R Fl → Out
  | .ok (.rt v) st => .ok v st.A
  | .ok .nx st => .ok .non st.A
  | .exc x st => .exc x st.A
  | _ => .stuck
theorem runDef_eq (cx : ECx) (s p : Nat) (body : ISs) (ds : List D) (A : List AO) : runDef cx ⟨s, p, body⟩ ds A = outR (evSs cx body ⟨startE s ds, A⟩) := rfl
theorem outR_rt (v : D) (env : Env') (A : List AO) : outR (.ok (.rt v) ⟨env, A⟩) = .ok v A := rfl
theorem outR_nx (env : Env') (A : List AO) : outR (.ok .nx ⟨env, A⟩) = .ok .non A := rfl
/-! values -/
theorem at_0 {α : Type} (x : α) (xs : List α) : atD (x :: xs) 0 = some x := by simp [atD, ixN]
theorem at_1 {α : Type} (x y : α) (xs : List α) : atD (x :: y :: xs) 1 = some y := by
  have : (1 : Int) < (xs.length : Int) + 1 + 1 := by omega
  simp [atD, ixN, this]
theorem at_2 {α : Type} (x y z : α) (xs : List α) : atD (x :: y :: z :: xs) 2 = some z := by
  have : (2 : Int) < (xs.length : Int) + 1 + 1 + 1 := by omega
  simp [atD, ixN, this]
theorem at_3 {α : Type} (x y z w : α) (xs : List α) : atD (x :: y :: z :: w :: xs) 3 = some w := by
  have : (3 : Int) < (xs.length : Int) + 1 + 1 + 1 + 1 := by omega
  simp [atD, ixN, this]
theorem at_4 {α : Type} (x y z w v : α) (xs : List α) : atD (x :: y :: z :: w :: v :: xs) 4 = some v := by
  have : (4 : Int) < (xs.length : Int) + 1 + 1 + 1 + 1 + 1 := by omega
  simp [atD, ixN, this]
theorem at_nat {α : Type} {xs : List α} {i : Int} (h0 : 0 ≤ i) : atD xs i = xs[i.toNat]? := by
  unfold atD ixN
  rw [if_pos h0]
  by_cases h : i < xs.length
  · rw [if_pos h]
    rfl
  · rw [if_neg h]
    have : xs.length ≤ i.toNat := by omega
    rw [List.getElem?_eq_none this]
    rfl
theorem sub_lst (ds : List D) (i : Int) : subD (.lst ds) (.int i) = atD ds i := rfl
theorem sub_tup (ds : List D) (i : Int) : subD (.tup ds) (.int i) = atD ds i := rfl
theorem sub_kt (ds : List D) (i : Int) : subD (.kt ds) (.int i) = atD ds i := rfl
theorem sub_fl (ds : List D) (i : Int) : subD (.fl ds) (.int i) = atD ds i := rfl
theorem set_0 (x : D) (xs : List D) (d : D) : setD (.lst (x :: xs)) (.int 0) d = some (.lst (d :: xs)) := by simp [setD, ixN]
theorem set_1 (x y : D) (xs : List D) (d : D) : setD (.lst (x :: y :: xs)) (.int 1) d = some (.lst (x :: d :: xs)) := by
  have : (1 : Int) < (xs.length : Int) + 1 + 1 := by omega
  simp [setD, ixN, this]
theorem set_2 (x y z : D) (xs : List D) (d : D) : setD (.lst (x :: y :: z :: xs)) (.int 2) d = some (.lst (x :: y :: d :: xs)) := by
  have : (2 : Int) < (xs.length : Int) + 1 + 1 + 1 := by omega
  simp [setD, ixN, this]
def lenL (n : Nat) (d : D) : Option D := if n < sizeLine then some d else none
theorem app_lst (ds : List D) (d : D) : appD d (.lst ds) = lenL ds.length (.lst (ds ++ [d])) := by simp [appD, lenL]
theorem lenL_ok {n : Nat} {d : D} (h : n ≤ 100000) : lenL n d = some d := by
  have : n < sizeLine := Nat.lt_of_le_of_lt h (by decide)
  simp [lenL, this]
theorem mulOk_l {i j : Int} (h1 : -18446744073709551616 < i) (h2 : i < 18446744073709551616) : mulOk i j = true := by
  unfold mulOk smallI
  rw [decide_eq_true (show -(2 ^ 64) < i by omega), decide_eq_true (show i < 2 ^ 64 by omega)]
  rfl
theorem mulOk_r {i j : Int} (h1 : -18446744073709551616 < j) (h2 : j < 18446744073709551616) : mulOk i j = true := by
  unfold mulOk smallI
  rw [decide_eq_true (show -(2 ^ 64) < j by omega), decide_eq_true (show j < 2 ^ 64 by omega)]
  cases (decide (-(2 ^ 64) < i) && decide (i < 2 ^ 64)) <;> rfl
theorem bin_mul {i j : Int} (h : mulOk i j = true) : binD .mul (.int i) (.int j) = some (.int (i * j)) := by simp [binD, h]
theorem bin_mulL {i j : Int} (h1 : -18446744073709551616 < i) (h2 : i < 18446744073709551616) : binD .mul (.int i) (.int j) = some (.int (i * j)) := bin_mul (mulOk_l h1 h2)
theorem bin_mulR {i j : Int} (h1 : -18446744073709551616 < j) (h2 : j < 18446744073709551616) : binD .mul (.int i) (.int j) = some (.int (i * j)) := bin_mul (mulOk_r h1 h2)
theorem bin_add (i j : Int) : binD .add (.int i) (.int j) = some (.int (i + j)) := rfl
theorem bin_sub (i j : Int) : binD .sub (.int i) (.int j) = some (.int (i - j)) := rfl
theorem bin_mod {i j : Int} (h : 0 < j) : binD .mod (.int i) (.int j) = some (.int (i % j)) := by simp [binD, h]
theorem log_small {j : Int} (h : 0 < j) (h2 : j < 4294967296) : j.natAbs.log2 < 9000 := by
  have h3 : j.natAbs < 2 ^ 32 := by omega
  have h4 : j.natAbs ≠ 0 := by omega
  have := (Nat.log2_lt h4).mpr h3
  omega
theorem bin_fdiv {i j : Int} (h : 0 < j) (h2 : j < 4294967296) : binD .fdiv (.int i) (.int j) = some (.int (i / j)) := by
  simp [binD, h, log_small h h2]
def lenG (n : Nat) (d : D) : Option D := if n ≤ sizeLine then some d else none
theorem bin_addT (xs ys : List D) : binD .add (.tup xs) (.tup ys) = lenG (xs.length + ys.length) (.tup (xs ++ ys)) := by simp [binD, lenG]
theorem bin_addL (xs ys : List D) : binD .add (.lst xs) (.lst ys) = lenG (xs.length + ys.length) (.lst (xs ++ ys)) := by simp [binD, lenG]
theorem lenG_ok {n : Nat} {d : D} (h : n ≤ 100000) : lenG n d = some d := by
  have : n ≤ sizeLine := Nat.le_trans h (by decide)
  simp [lenG, this]
theorem divmod_ok {i j : Int} (h : 0 < j) (h2 : j < 1073741824) : biD .divmod [.int i, .int j] = some (.tup [.int (i / j), .int (i % j)]) := by simp [biD, divmodD, h, h2]
theorem bi_int (i : Int) : biD .int [.int i] = some (.int i) := rfl
theorem bi_abs (i : Int) : biD .abs [.int i] = some (.int (if i < 0 then -i else i)) := rfl
theorem bi_lenT (xs : List D) : biD .len [.tup xs] = some (.int xs.length) := rfl
theorem bi_lenL (xs : List D) : biD .len [.lst xs] = some (.int xs.length) := rfl
theorem bi_lenK (xs : List D) : biD .len [.kt xs] = some (.int xs.length) := rfl
theorem bi_lenF (xs : List D) : biD .len [.fl xs] = some (.int xs.length) := rfl
theorem bi_max2 (i j : Int) : biD .max2 [.int i, .int j] = some (.int (if j > i then j else i)) := rfl
theorem bi_min2 (i j : Int) : biD .min2 [.int i, .int j] = some (.int (if j < i then j else i)) := rfl
theorem bi_listL (xs : List D) : biD .list [.lst xs] = some (.lst xs) := rfl
theorem bi_listT (xs : List D) : biD .list [.tup xs] = some (.lst xs) := rfl
theorem bi_tupleL (xs : List D) : biD .tuple [.lst xs] = some (.tup xs) := rfl
theorem bi_tupleT (xs : List D) : biD .tuple [.tup xs] = some (.tup xs) := rfl
theorem bi_isi (t : Ty) (d : D) : biD (.isi t) [d] = (isiD t d).map .bl := by cases t <;> rfl
theorem isi_tup_non : isiD .tup (.non) = some false := rfl
theorem isi_tup_bl (b : Bool) : isiD .tup (.bl b) = some false := rfl
theorem isi_tup_int (i : Int) : isiD .tup (.int i) = some false := rfl
theorem isi_tup_str (x : Str) : isiD .tup (.str x) = some false := rfl
theorem isi_tup_tup (xs : List D) : isiD .tup (.tup xs) = some true := rfl
theorem isi_tup_kt (xs : List D) : isiD .tup (.kt xs) = some true := rfl
theorem isi_tup_lst (xs : List D) : isiD .tup (.lst xs) = some false := rfl
theorem isi_tup_dK (ks) (xs : List D) : isiD .tup (.dK ks xs) = some false := rfl
theorem isi_tup_dT (ks) (xs : List D) : isiD .tup (.dT ks xs) = some false := rfl
theorem isi_lst_non : isiD .lst (.non) = some false := rfl
theorem isi_lst_bl (b : Bool) : isiD .lst (.bl b) = some false := rfl
theorem isi_lst_int (i : Int) : isiD .lst (.int i) = some false := rfl
theorem isi_lst_str (x : Str) : isiD .lst (.str x) = some false := rfl
theorem isi_lst_tup (xs : List D) : isiD .lst (.tup xs) = some false := rfl
theorem isi_lst_kt (xs : List D) : isiD .lst (.kt xs) = some false := rfl
theorem isi_lst_lst (xs : List D) : isiD .lst (.lst xs) = some true := rfl
theorem isi_lst_dK (ks) (xs : List D) : isiD .lst (.dK ks xs) = some false := rfl
theorem isi_lst_dT (ks) (xs : List D) : isiD .lst (.dT ks xs) = some false := rfl
theorem isi_int_non : isiD .int (.non) = some false := rfl
theorem isi_int_bl (b : Bool) : isiD .int (.bl b) = some true := rfl
theorem isi_int_int (i : Int) : isiD .int (.int i) = some true := rfl
theorem isi_int_str (x : Str) : isiD .int (.str x) = some false := rfl
theorem isi_int_tup (xs : List D) : isiD .int (.tup xs) = some false := rfl
theorem isi_int_kt (xs : List D) : isiD .int (.kt xs) = some false := rfl
theorem isi_int_lst (xs : List D) : isiD .int (.lst xs) = some false := rfl
theorem isi_int_dK (ks) (xs : List D) : isiD .int (.dK ks xs) = some false := rfl
theorem isi_int_dT (ks) (xs : List D) : isiD .int (.dT ks xs) = some false := rfl
theorem isi_bool_non : isiD .bool (.non) = some false := rfl
theorem isi_bool_bl (b : Bool) : isiD .bool (.bl b) = some true := rfl
theorem isi_bool_int (i : Int) : isiD .bool (.int i) = some false := rfl
theorem isi_bool_str (x : Str) : isiD .bool (.str x) = some false := rfl
theorem isi_bool_tup (xs : List D) : isiD .bool (.tup xs) = some false := rfl
theorem isi_bool_kt (xs : List D) : isiD .bool (.kt xs) = some false := rfl
theorem isi_bool_lst (xs : List D) : isiD .bool (.lst xs) = some false := rfl
theorem isi_bool_dK (ks) (xs : List D) : isiD .bool (.dK ks xs) = some false := rfl
theorem isi_bool_dT (ks) (xs : List D) : isiD .bool (.dT ks xs) = some false := rfl
theorem isi_str_non : isiD .str (.non) = some false := rfl
theorem isi_str_bl (b : Bool) : isiD .str (.bl b) = some false := rfl
theorem isi_str_int (i : Int) : isiD .str (.int i) = some false := rfl
theorem isi_str_str (x : Str) : isiD .str (.str x) = some true := rfl
theorem isi_str_tup (xs : List D) : isiD .str (.tup xs) = some false := rfl
theorem isi_str_kt (xs : List D) : isiD .str (.kt xs) = some false := rfl
theorem isi_str_lst (xs : List D) : isiD .str (.lst xs) = some false := rfl
theorem isi_str_dK (ks) (xs : List D) : isiD .str (.dK ks xs) = some false := rfl
theorem isi_str_dT (ks) (xs : List D) : isiD .str (.dT ks xs) = some false := rfl
theorem isi_dict_non : isiD .dict (.non) = some false := rfl
theorem isi_dict_bl (b : Bool) : isiD .dict (.bl b) = some false := rfl
theorem isi_dict_int (i : Int) : isiD .dict (.int i) = some false := rfl
theorem isi_dict_str (x : Str) : isiD .dict (.str x) = some false := rfl
theorem isi_dict_tup (xs : List D) : isiD .dict (.tup xs) = some false := rfl
theorem isi_dict_kt (xs : List D) : isiD .dict (.kt xs) = some false := rfl
theorem isi_dict_lst (xs : List D) : isiD .dict (.lst xs) = some false := rfl
theorem isi_dict_dK (ks) (xs : List D) : isiD .dict (.dK ks xs) = some true := rfl
theorem isi_dict_dT (ks) (xs : List D) : isiD .dict (.dT ks xs) = some true := rfl
theorem intsD_map (xs : List Int) : intsD (xs.map .int) = some xs := by
  induction xs with
  | nil => rfl
  | cons x xs ih => simp [intsD, ih]
theorem blsD_map (xs : List Bool) : blsD (xs.map .bl) = some xs := by
  induction xs with
  | nil => rfl
  | cons x xs ih => simp [blsD, ih]
theorem bi_sumL (xs : List Int) : biD .sum [.lst (xs.map .int)] = some (.int xs.sum) := by simp [biD, sumD, intsD_map]
theorem bi_sumT (xs : List Int) : biD .sum [.tup (xs.map .int)] = some (.int xs.sum) := by simp [biD, sumD, intsD_map]
theorem bi_allL (xs : List Bool) : biD .all [.lst (xs.map .bl)] = some (.bl (xs.all id)) := by simp [biD, allD, blsD_map]
theorem bi_anyL (xs : List Bool) : biD .any [.lst (xs.map .bl)] = some (.bl (xs.any id)) := by simp [biD, anyD, blsD_map]
theorem all_cons_t (xs : List D) : biD .all [.lst (.bl true :: xs)] = biD .all [.lst xs] := by
  simp only [biD, allD, blsD]
  cases blsD xs <;> simp
theorem all_nil : biD .all [.lst []] = some (.bl true) := rfl
theorem bi_allM {α : Type} (xs : List α) (p : α → Bool) : biD .all [.lst (xs.map fun x => .bl (p x))] = some (.bl (xs.all p)) := by
  have := bi_allL (xs.map p)
  rw [List.map_map] at this
  rw [show (fun x => D.bl (p x)) = D.bl ∘ p from rfl, this]
  simp [List.all_map]
theorem bi_anyM {α : Type} (xs : List α) (p : α → Bool) : biD .any [.lst (xs.map fun x => .bl (p x))] = some (.bl (xs.any p)) := by
  have := bi_anyL (xs.map p)
  rw [List.map_map] at this
  rw [show (fun x => D.bl (p x)) = D.bl ∘ p from rfl, this]
  simp [List.any_map]
theorem cmp_lt (i j : Int) : cmpD .lt (.int i) (.int j) = some (decide (i < j)) := rfl
theorem cmp_le (i j : Int) : cmpD .le (.int i) (.int j) = some (decide (i ≤ j)) := rfl
theorem cmp_gt (i j : Int) : cmpD .gt (.int i) (.int j) = some (decide (j < i)) := rfl
theorem cmp_ge (i j : Int) : cmpD .ge (.int i) (.int j) = some (decide (j ≤ i)) := rfl
theorem cmp_eqI (i j : Int) : cmpD .eq (.int i) (.int j) = some (decide (i = j)) := rfl
theorem cmp_neI (i j : Int) : cmpD .ne (.int i) (.int j) = some (!decide (i = j)) := rfl
theorem cmp_eqS (i j : Str) : cmpD .eq (.str i) (.str j) = some (decide (i = j)) := rfl
theorem cmp_neS (i j : Str) : cmpD .ne (.str i) (.str j) = some (!decide (i = j)) := rfl
theorem cmp_isN (d : D) : cmpD .is_ d .non = some (isNonD d) := by cases d <;> rfl
theorem cmp_isnN (d : D) : cmpD .isn d .non = some (!isNonD d) := by cases d <;> rfl
theorem cmp_isB (a b : Bool) : cmpD .is_ (.bl a) (.bl b) = some (decide (a = b)) := rfl
theorem cmp_isnB (a b : Bool) : cmpD .isn (.bl a) (.bl b) = some (!decide (a = b)) := rfl
/-! loops -/
theorem compLoop_map {f : D → SS → R (Option D)} {st : SS} {g : D → D} : ∀ (xs acc : List D), (∀ x ∈ xs, f x st = .ok (some (g x)) st) → acc.length + xs.length ≤ sizeLine → compLoop f xs acc st = .ok (acc ++ xs.map g) st
  | [], acc, _, _ => by simp [compLoop]
  | x :: xs, acc, h, hl => by
    simp only [compLoop]
    rw [h x (List.mem_cons_self ..)]
    simp only [List.length_cons] at hl
    have h1 : acc.length < sizeLine := by omega
    simp only [bind_ok', h1, if_true]
    rw [compLoop_map xs (acc ++ [g x]) (fun y hy => h y (List.mem_cons_of_mem _ hy)) (by simp; omega)]
    simp
theorem compLoop_filter {f : D → SS → R (Option D)} {st : SS} {g : D → Option D} : ∀ (xs acc : List D), (∀ x ∈ xs, f x st = .ok (g x) st) → acc.length + xs.length ≤ sizeLine → compLoop f xs acc st = .ok (acc ++ xs.filterMap g) st
  | [], acc, _, _ => by simp [compLoop]
  | x :: xs, acc, h, hl => by
    simp only [compLoop]
    rw [h x (List.mem_cons_self ..)]
    simp only [List.length_cons] at hl
    have h1 : acc.length < sizeLine := by omega
    simp only [bind_ok']
    cases hg : g x with
    | none =>
      simp only
      rw [compLoop_filter xs acc (fun y hy => h y (List.mem_cons_of_mem _ hy)) (by omega)]
      simp [hg]
    | some d =>
      simp only [h1, if_true]
      rw [compLoop_filter xs (acc ++ [d]) (fun y hy => h y (List.mem_cons_of_mem _ hy)) (by simp; omega)]
      simp [hg]
theorem rngD_eq (lo : Int) (n : Nat) : rngD lo n = (List.range n).map fun (i : Nat) => D.int (lo + i) := by
  induction n generalizing lo with
  | zero => rfl
  | succ n ih =>
    rw [rngD, ih, List.range_succ_eq_map]
    simp only [List.map_cons, List.map_map]
    congr 1
    · simp
    · apply List.map_congr_left
      intro a _
      simp only [Function.comp]
      congr 1
      push_cast
      omega
theorem enumD_eq (k : Nat) (ds : List D) : enumD k ds = ds.zipIdx.map fun q => D.tup [.int ((k : Int) + q.2), q.1] := by
  suffices ∀ j, enumD (k + j) ds = (ds.zipIdx j).map fun q => D.tup [.int ((k : Int) + q.2), q.1] by simpa using this 0
  induction ds with
  | nil => intro j; rfl
  | cons d ds ih =>
    intro j
    simp only [enumD, List.zipIdx_cons, List.map_cons]
    rw [Nat.add_assoc, ih (j + 1)]
    simp
/-- a loop by its state: stp is what one turn makes of the state -/
theorem forLoop_inv {f : D → SS → R Fl} {α : Type} (mk : α → SS) (stp : α → D → α) : ∀ (xs : List D) (a : α), (∀ x ∈ xs, ∀ a, f x (mk a) = .ok .nx (mk (stp a x))) → forLoop f xs (mk a) = .ok .nx (mk (xs.foldl stp a))
  | [], a, _ => rfl
  | x :: xs, a, h => by
    simp only [forLoop]
    rw [h x (List.mem_cons_self ..) a]
    simp only [bind_ok']
    exact forLoop_inv mk stp xs (stp a x) fun y hy => h y (List.mem_cons_of_mem _ hy)
/-- the same, with an invariant -/
theorem forLoop_ex {f : D → SS → R Fl} (P : List D → SS → Prop) : ∀ (xs : List D) (st : SS), P xs st → (∀ x r st, P (x :: r) st → ∃ st', f x st = .ok .nx st' ∧ P r st') → ∃ st', forLoop f xs st = .ok .nx st' ∧ P [] st'
  | [], st, p, _ => ⟨st, rfl, p⟩
  | x :: xs, st, p, h => by
    obtain ⟨st1, e1, p1⟩ := h x xs st p
    obtain ⟨st2, e2, p2⟩ := forLoop_ex P xs st1 p1 h
    refine ⟨st2, ?_, p2⟩
    simp only [forLoop]
    rw [e1]
    simp only [bind_ok']
    exact e2
end IL

namespace Hd
open PySem PySem.Spec PyProof.Rows L2 IL
abbrev prog : Program := PySem.Challenge.pw_hivesums_k78_claims_and_papers_of_any_ki
def d0 : DD := ⟨"is_between", 2, ["value", "least", "most"], ["value", "least", "most"], [], false⟩
def b0 : IDef := ⟨3, 3, (.cons (.ifS (.or (.nt (.bi (.isi .int) (.cons (.var 0) .nil))) (.bi (.isi .bool) (.cons (.var 0) .nil))) (.cons (.ret (.con (.bl false))) .nil) .nil) (.cons (.ret (.and (.or (.cmp .is_ (.var 1) (.con .non)) (.cmp .ge (.var 0) (.var 1))) (.or (.cmp .is_ (.var 2) (.con .non)) (.cmp .le (.var 0) (.var 2))))) .nil))⟩
def d1 : DD := ⟨"common", 3, ["first", "last"], ["first", "last"], [], false⟩
def b1 : IDef := ⟨2, 2, (.cons (.asg (.nm 0) (.bi .abs (.cons (.var 0) .nil))) (.cons (.whileS (.cmp .gt (.var 1) (.con (.int 0))) (.cons (.par2 0 1 (.var 1) (.bin .mod (.bi .int (.cons (.var 0) .nil)) (.var 1))) .nil)) (.cons (.ret (.var 0)) .nil)))⟩
def d2 : DD := ⟨"lowest", 4, ["top", "bottom"], ["top", "bottom", "shared"], [], false⟩
def b2 : IDef := ⟨3, 2, (.cons (.asg (.nm 2) (.call 1 (.cons (.var 0) (.cons (.var 1) .nil)))) (.cons (.ret (.tup (.cons (.bin .fdiv (.var 0) (.var 2)) (.cons (.bin .fdiv (.var 1) (.var 2)) .nil)))) .nil))⟩
def d3 : DD := ⟨"is_fraction", 5, ["value"], ["value"], [], false⟩
def b3 : IDef := ⟨1, 1, (.cons (.ifS (.or (.nt (.bi (.isi .tup) (.cons (.var 0) .nil))) (.cmp .ne (.bi .len (.cons (.var 0) .nil)) (.con (.int 2)))) (.cons (.ret (.con (.bl false))) .nil) .nil) (.cons (.ifS (.or (.nt (.call 0 (.cons (.sub (.var 0) (.con (.int 0))) (.cons (.con .non) (.cons (.con .non) .nil))))) (.nt (.call 0 (.cons (.sub (.var 0) (.con (.int 1))) (.cons (.con (.int 1)) (.cons (.con .non) .nil)))))) (.cons (.ret (.con (.bl false))) .nil) .nil) (.cons (.ret (.cmp .eq (.call 1 (.cons (.sub (.var 0) (.con (.int 0))) (.cons (.sub (.var 0) (.con (.int 1))) .nil))) (.con (.int 1)))) .nil)))⟩
def d4 : DD := ⟨"add", 6, ["one", "other"], ["one", "other"], [], false⟩
def b4 : IDef := ⟨2, 2, (.cons (.ret (.call 2 (.cons (.bin .add (.bin .mul (.sub (.var 0) (.con (.int 0))) (.sub (.var 1) (.con (.int 1)))) (.bin .mul (.sub (.var 1) (.con (.int 0))) (.sub (.var 0) (.con (.int 1))))) (.cons (.bin .mul (.sub (.var 0) (.con (.int 1))) (.sub (.var 1) (.con (.int 1)))) .nil)))) .nil)⟩
def d5 : DD := ⟨"less", 7, ["one", "other"], ["one", "other"], [], false⟩
def b5 : IDef := ⟨2, 2, (.cons (.ret (.call 2 (.cons (.bin .sub (.bin .mul (.sub (.var 0) (.con (.int 0))) (.sub (.var 1) (.con (.int 1)))) (.bin .mul (.sub (.var 1) (.con (.int 0))) (.sub (.var 0) (.con (.int 1))))) (.cons (.bin .mul (.sub (.var 0) (.con (.int 1))) (.sub (.var 1) (.con (.int 1)))) .nil)))) .nil)⟩
def d6 : DD := ⟨"is_below", 8, ["one", "other"], ["one", "other"], [], false⟩
def b6 : IDef := ⟨2, 2, (.cons (.ret (.cmp .lt (.bin .mul (.sub (.var 0) (.con (.int 0))) (.sub (.var 1) (.con (.int 1)))) (.bin .mul (.sub (.var 1) (.con (.int 0))) (.sub (.var 0) (.con (.int 1)))))) .nil)⟩
def d7 : DD := ⟨"are_levels", 12, ["value"], ["value", "place", "number"], [], false⟩
def b7 : IDef := ⟨3, 1, (.cons (.ifS (.or (.nt (.bi (.isi .tup) (.cons (.var 0) .nil))) (.nt (.chain .le .le (.con (.int 1)) (.bi .len (.cons (.var 0) .nil)) (.con (.int 4))))) (.cons (.ret (.con (.bl false))) .nil) .nil) (.cons (.ifS (.nt (.bi .all (.cons (.comp [2] (.nm 2) (.seq (.var 0)) .nil (.call 0 (.cons (.var 2) (.cons (.neg (.con (.int 1000000000000000000000000000000))) (.cons (.con (.int 1000000000000000000000000000000)) .nil))))) .nil))) (.cons (.ret (.con (.bl false))) .nil) .nil) (.cons (.ret (.bi .all (.cons (.comp [1] (.nm 1) (.rng1 (.bin .sub (.bi .len (.cons (.var 0) .nil)) (.con (.int 1)))) .nil (.cmp .ge (.sub (.var 0) (.var 1)) (.sub (.var 0) (.bin .add (.var 1) (.con (.int 1)))))) .nil))) .nil)))⟩
def d8 : DD := ⟨"are_triple", 13, ["first", "second", "third"], ["first", "second", "third", "value"], [], false⟩
def b8 : IDef := ⟨4, 3, (.cons (.ret (.and (.bi .all (.cons (.comp [3] (.nm 3) (.seq (.tup (.cons (.var 0) (.cons (.var 1) (.cons (.var 2) .nil))))) .nil (.call 7 (.cons (.var 3) .nil))) .nil)) (.chain .eq .eq (.bi .len (.cons (.var 0) .nil)) (.bi .len (.cons (.var 1) .nil)) (.bi .len (.cons (.var 2) .nil))))) .nil)⟩
def d9 : DD := ⟨"rhombi_of", 15, ["size"], ["size", "found", "i", "j"], ["found"], false⟩
def b9 : IDef := ⟨4, 1, (.cons (.asgF 1 (.lst .nil)) (.cons (.forS (.nm 2) (.rng1 (.bin .sub (.var 0) (.con (.int 1)))) (.cons (.forS (.nm 3) (.rng1 (.bin .sub (.bin .sub (.var 0) (.con (.int 1))) (.var 2))) (.cons (.app 1 (.tup (.cons (.tup (.cons (.bin .add (.var 2) (.con (.int 1))) (.cons (.var 3) .nil))) (.cons (.tup (.cons (.var 2) (.cons (.bin .add (.var 3) (.con (.int 1))) .nil))) (.cons (.tup (.cons (.var 2) (.cons (.var 3) .nil))) (.cons (.tup (.cons (.bin .add (.var 2) (.con (.int 1))) (.cons (.bin .add (.var 3) (.con (.int 1))) .nil))) .nil)))))) (.cons (.app 1 (.tup (.cons (.tup (.cons (.bin .add (.var 2) (.con (.int 1))) (.cons (.bin .add (.var 3) (.con (.int 1))) .nil))) (.cons (.tup (.cons (.var 2) (.cons (.bin .add (.var 3) (.con (.int 1))) .nil))) (.cons (.tup (.cons (.bin .add (.var 2) (.con (.int 1))) (.cons (.var 3) .nil))) (.cons (.tup (.cons (.var 2) (.cons (.bin .add (.var 3) (.con (.int 2))) .nil))) .nil)))))) (.cons (.app 1 (.tup (.cons (.tup (.cons (.bin .add (.var 2) (.con (.int 1))) (.cons (.bin .add (.var 3) (.con (.int 1))) .nil))) (.cons (.tup (.cons (.bin .add (.var 2) (.con (.int 1))) (.cons (.var 3) .nil))) (.cons (.tup (.cons (.var 2) (.cons (.bin .add (.var 3) (.con (.int 1))) .nil))) (.cons (.tup (.cons (.bin .add (.var 2) (.con (.int 2))) (.cons (.var 3) .nil))) .nil)))))) .nil)))) .nil)) (.cons (.ret (.var 1)) .nil)))⟩
def d10 : DD := ⟨"inner_places", 16, ["size"], ["size", "i", "j"], [], false⟩
def b10 : IDef := ⟨3, 1, (.cons (.ret (.comp2 [1, 2] [2] (.nm 1) (.rng2 (.con (.int 1)) (.bin .sub (.var 0) (.con (.int 1)))) (.nm 2) (.rng2 (.con (.int 1)) (.bin .sub (.var 0) (.var 1))) (.tup (.cons (.var 1) (.cons (.var 2) .nil))))) .nil)⟩
def d11 : DD := ⟨"has_right_rows", 17, ["value"], ["value", "place", "row", "part"], [], false⟩
def b11 : IDef := ⟨4, 1, (.cons (.ifS (.or (.nt (.bi (.isi .tup) (.cons (.var 0) .nil))) (.nt (.chain .le .le (.con (.int 2)) (.bi .len (.cons (.var 0) .nil)) (.bin .add (.con (.int 4)) (.con (.int 1)))))) (.cons (.ret (.con (.bl false))) .nil) .nil) (.cons (.forS (.tu (.cons (.nm 1) (.cons (.nm 2) .nil))) (.enum (.var 0)) (.cons (.ifS (.or (.nt (.bi (.isi .tup) (.cons (.var 2) .nil))) (.or (.cmp .ne (.bi .len (.cons (.var 2) .nil)) (.bin .sub (.bi .len (.cons (.var 0) .nil)) (.var 1))) (.nt (.bi .all (.cons (.comp [3] (.nm 3) (.seq (.var 2)) .nil (.call 3 (.cons (.var 3) .nil))) .nil))))) (.cons (.ret (.con (.bl false))) .nil) .nil) .nil)) (.cons (.ret (.cmp .eq (.sub (.sub (.var 0) (.con (.int 0))) (.con (.int 0))) (.con (.kt [(.int 0), (.int 1)])))) .nil)))⟩
def d12 : DD := ⟨"is_hive", 18, ["value"], ["value", "one", "two", "three", "four", "blunt"], [], false⟩
def b12 : IDef := ⟨6, 1, (.cons (.ifS (.nt (.call 11 (.cons (.var 0) .nil))) (.cons (.ret (.con (.bl false))) .nil) .nil) (.cons (.forS (.tu (.cons (.nm 1) (.cons (.nm 2) (.cons (.nm 3) (.cons (.nm 4) .nil))))) (.seq (.call 9 (.cons (.bin .sub (.bi .len (.cons (.var 0) .nil)) (.con (.int 1))) .nil))) (.cons (.asg (.nm 5) (.call 4 (.cons (.sub (.sub (.var 0) (.sub (.var 1) (.con (.int 0)))) (.sub (.var 1) (.con (.int 1)))) (.cons (.sub (.sub (.var 0) (.sub (.var 2) (.con (.int 0)))) (.sub (.var 2) (.con (.int 1)))) .nil)))) (.cons (.ifS (.call 6 (.cons (.var 5) (.cons (.call 4 (.cons (.sub (.sub (.var 0) (.sub (.var 3) (.con (.int 0)))) (.sub (.var 3) (.con (.int 1)))) (.cons (.sub (.sub (.var 0) (.sub (.var 4) (.con (.int 0)))) (.sub (.var 4) (.con (.int 1)))) .nil))) .nil))) (.cons (.ret (.con (.bl false))) .nil) .nil) .nil))) (.cons (.ret (.con (.bl true))) .nil)))⟩
def d13 : DD := ⟨"sides_of", 19, ["hive"], ["hive", "size", "first", "second", "third", "i", "t", "j"], [], false⟩
def b13 : IDef := ⟨8, 1, (.cons (.asg (.nm 1) (.bin .sub (.bi .len (.cons (.var 0) .nil)) (.con (.int 1)))) (.cons (.asg (.nm 2) (.comp [5] (.nm 5) (.rng1 (.var 1)) .nil (.call 5 (.cons (.sub (.sub (.var 0) (.bin .add (.var 5) (.con (.int 1)))) (.con (.int 0))) (.cons (.sub (.sub (.var 0) (.var 5)) (.con (.int 0))) .nil))))) (.cons (.asg (.nm 3) (.comp [6] (.nm 6) (.rng1 (.var 1)) .nil (.call 5 (.cons (.sub (.sub (.var 0) (.bin .sub (.bin .sub (.var 1) (.var 6)) (.con (.int 1)))) (.bin .add (.var 6) (.con (.int 1)))) (.cons (.sub (.sub (.var 0) (.bin .sub (.var 1) (.var 6))) (.var 6)) .nil))))) (.cons (.asg (.nm 4) (.comp [7] (.nm 7) (.rng1 (.var 1)) .nil (.call 5 (.cons (.sub (.sub (.var 0) (.con (.int 0))) (.bin .add (.var 7) (.con (.int 1)))) (.cons (.sub (.sub (.var 0) (.con (.int 0))) (.var 7)) .nil))))) (.cons (.ret (.tup (.cons (.bi .tuple (.cons (.var 2) .nil)) (.cons (.bi .tuple (.cons (.var 3) .nil)) (.cons (.bi .tuple (.cons (.var 4) .nil)) .nil))))) .nil)))))⟩
def d14 : DD := ⟨"outer_numbers", 20, ["first", "second", "third"], ["first", "second", "third", "size", "found", "i", "j", "t"], ["found"], false⟩
def b14 : IDef := ⟨8, 3, (.cons (.asg (.nm 3) (.bi .len (.cons (.var 0) .nil))) (.cons (.asgF 4 (.dicT (.tup (.cons (.con (.int 0)) (.cons (.con (.int 0)) .nil))) (.con (.int 0)))) (.cons (.forS (.nm 5) (.rng1 (.var 3)) (.cons (.asgS 4 (.tup (.cons (.bin .add (.var 5) (.con (.int 1))) (.cons (.con (.int 0)) .nil))) (.bin .add (.sub (.var 4) (.tup (.cons (.var 5) (.cons (.con (.int 0)) .nil)))) (.sub (.var 0) (.var 5)))) .nil)) (.cons (.forS (.nm 6) (.rng1 (.var 3)) (.cons (.asgS 4 (.tup (.cons (.con (.int 0)) (.cons (.bin .add (.var 6) (.con (.int 1))) .nil))) (.bin .add (.sub (.var 4) (.tup (.cons (.con (.int 0)) (.cons (.var 6) .nil)))) (.sub (.var 2) (.var 6)))) .nil)) (.cons (.forS (.nm 7) (.rng1 (.bin .sub (.var 3) (.con (.int 1)))) (.cons (.asgS 4 (.tup (.cons (.bin .sub (.bin .sub (.var 3) (.var 7)) (.con (.int 1))) (.cons (.bin .add (.var 7) (.con (.int 1))) .nil))) (.bin .add (.sub (.var 4) (.tup (.cons (.bin .sub (.var 3) (.var 7)) (.cons (.var 7) .nil)))) (.sub (.var 1) (.var 7)))) .nil)) (.cons (.ret (.var 4)) .nil))))))⟩
def d15 : DD := ⟨"sums_agree", 21, ["first", "second", "third"], ["first", "second", "third"], [], false⟩
def b15 : IDef := ⟨3, 3, (.cons (.ret (.cmp .eq (.bi .sum (.cons (.var 2) .nil)) (.bin .add (.bi .sum (.cons (.var 0) .nil)) (.bi .sum (.cons (.var 1) .nil))))) .nil)⟩
def d16 : DD := ⟨"lots_of", 23, ["size", "many"], ["size", "many", "found", "step", "lot", "place"], [], false⟩
def b16 : IDef := ⟨6, 2, (.cons (.asg (.nm 2) (.lst (.cons (.tup .nil) .nil))) (.cons (.forS (.nm 3) (.rng1 (.var 1)) (.cons (.asg (.nm 2) (.comp2 [4, 5] [5] (.nm 4) (.seq (.var 2)) (.nm 5) (.rng2 (.ite (.cmp .ne (.var 4) (.tup .nil)) (.bin .add (.sub (.var 4) (.neg (.con (.int 1)))) (.con (.int 1))) (.con (.int 0))) (.var 0)) (.bin .add (.var 4) (.tup (.cons (.var 5) .nil))))) .nil)) (.cons (.ret (.var 2)) .nil)))⟩
def d17 : DD := ⟨"sum_at", 24, ["row", "places"], ["row", "places", "place"], [], false⟩
def b17 : IDef := ⟨3, 2, (.cons (.ret (.bi .sum (.cons (.comp [2] (.nm 2) (.seq (.var 1)) .nil (.sub (.var 0) (.var 2))) .nil))) .nil)⟩
def d18 : DD := ⟨"is_kept", 25, ["one", "two", "three", "smaller"], ["one", "two", "three", "smaller", "lesser_lot", "many", "high"], [], false⟩
def b18 : IDef := ⟨7, 4, (.cons (.forS (.nm 4) (.seq (.var 3)) (.cons (.asg (.nm 5) (.bi .len (.cons (.sub (.var 4) (.con (.int 0))) .nil))) (.cons (.asg (.nm 6) (.bin .add (.call 17 (.cons (.var 2) (.cons (.sub (.var 4) (.con (.int 2))) .nil))) (.bin .fdiv (.bin .mul (.var 5) (.bin .sub (.var 5) (.con (.int 1)))) (.con (.int 2))))) (.cons (.ifS (.cmp .gt (.bin .add (.call 17 (.cons (.var 0) (.cons (.sub (.var 4) (.con (.int 0))) .nil))) (.call 17 (.cons (.var 1) (.cons (.sub (.var 4) (.con (.int 1))) .nil)))) (.var 6)) (.cons (.ret (.con (.bl false))) .nil) .nil) .nil)))) (.cons (.ret (.con (.bl true))) .nil))⟩
def d19 : DD := ⟨"conditions_with", 26, ["size", "many"], ["size", "many", "smaller", "lots", "found", "one", "two", "three"], ["found"], false⟩
def b19 : IDef := ⟨8, 2, (.cons (.asg (.nm 2) (.ite (.cmp .gt (.var 1) (.con (.int 1))) (.call 20 (.cons (.var 1) .nil)) (.lst .nil))) (.cons (.asg (.nm 3) (.call 16 (.cons (.var 0) (.cons (.var 1) .nil)))) (.cons (.asgF 4 (.lst .nil)) (.cons (.forS (.nm 5) (.seq (.var 3)) (.cons (.forS (.nm 6) (.seq (.var 3)) (.cons (.forS (.nm 7) (.seq (.var 3)) (.cons (.ifS (.and (.cmp .eq (.bin .add (.bi .sum (.cons (.var 5) .nil)) (.bi .sum (.cons (.var 6) .nil))) (.bin .add (.bi .sum (.cons (.var 7) .nil)) (.bin .fdiv (.bin .mul (.var 1) (.bin .sub (.var 1) (.con (.int 1)))) (.con (.int 2))))) (.call 18 (.cons (.var 5) (.cons (.var 6) (.cons (.var 7) (.cons (.var 2) .nil)))))) (.cons (.app 4 (.tup (.cons (.var 5) (.cons (.var 6) (.cons (.var 7) .nil))))) .nil) .nil) .nil)) .nil)) .nil)) (.cons (.ret (.var 4)) .nil)))))⟩
def d20 : DD := ⟨"conditions_of", 27, ["size"], ["size", "found", "many"], [], false⟩
def b20 : IDef := ⟨3, 1, (.cons (.asg (.nm 1) (.lst .nil)) (.cons (.forS (.nm 2) (.rng2 (.con (.int 1)) (.var 0)) (.cons (.asg (.nm 1) (.bin .add (.var 1) (.call 19 (.cons (.var 0) (.cons (.var 2) .nil))))) .nil)) (.cons (.ret (.var 1)) .nil)))⟩
def d21 : DD := ⟨"gap_of", 28, ["first", "second", "third", "condition"], ["first", "second", "third", "condition"], [], false⟩
def b21 : IDef := ⟨4, 4, (.cons (.ret (.bin .sub (.bin .add (.call 17 (.cons (.var 0) (.cons (.sub (.var 3) (.con (.int 0))) .nil))) (.call 17 (.cons (.var 1) (.cons (.sub (.var 3) (.con (.int 1))) .nil)))) (.call 17 (.cons (.var 2) (.cons (.sub (.var 3) (.con (.int 2))) .nil))))) .nil)⟩
def d22 : DD := ⟨"is_index_lot", 29, ["value", "size"], ["value", "size", "part"], [], false⟩
def b22 : IDef := ⟨3, 2, (.cons (.ifS (.nt (.bi (.isi .tup) (.cons (.var 0) .nil))) (.cons (.ret (.con (.bl false))) .nil) .nil) (.cons (.ret (.bi .all (.cons (.comp [2] (.nm 2) (.seq (.var 0)) .nil (.and (.bi (.isi .int) (.cons (.var 2) .nil)) (.and (.nt (.bi (.isi .bool) (.cons (.var 2) .nil))) (.chain .le .lt (.con (.int 0)) (.var 2) (.var 1))))) .nil))) .nil))⟩
def d23 : DD := ⟨"is_condition", 30, ["value", "size"], ["value", "size", "lot"], [], false⟩
def b23 : IDef := ⟨3, 2, (.cons (.ifS (.or (.nt (.bi (.isi .tup) (.cons (.var 0) .nil))) (.or (.cmp .ne (.bi .len (.cons (.var 0) .nil)) (.con (.int 3))) (.nt (.bi .all (.cons (.comp [2] (.nm 2) (.seq (.var 0)) .nil (.call 22 (.cons (.var 2) (.cons (.var 1) .nil)))) .nil))))) (.cons (.ret (.con (.bl false))) .nil) .nil) (.cons (.ret (.cmp .inn (.var 0) (.call 20 (.cons (.var 1) .nil)))) .nil))⟩
def d24 : DD := ⟨"has_sides", 33, ["hive", "first", "second", "third"], ["hive", "first", "second", "third", "wanted", "levels", "number"], [], false⟩
def b24 : IDef := ⟨7, 4, (.cons (.ifS (.or (.nt (.call 12 (.cons (.var 0) .nil))) (.cmp .ne (.bi .len (.cons (.var 0) .nil)) (.bin .add (.bi .len (.cons (.var 1) .nil)) (.con (.int 1))))) (.cons (.ret (.con (.bl false))) .nil) .nil) (.cons (.asg (.nm 4) (.bi .tuple (.cons (.comp [5] (.nm 5) (.seq (.tup (.cons (.var 1) (.cons (.var 2) (.cons (.var 3) .nil))))) .nil (.bi .tuple (.cons (.comp [6] (.nm 6) (.seq (.var 5)) .nil (.tup (.cons (.var 6) (.cons (.con (.int 1)) .nil)))) .nil))) .nil))) (.cons (.ret (.cmp .eq (.call 13 (.cons (.var 0) .nil)) (.var 4))) .nil)))⟩
def d25 : DD := ⟨"bars", 34, ["weights", "first", "second", "third"], ["weights", "first", "second", "third", "every", "outer", "inner", "found", "place", "one", "two", "three", "four", "corner", "sign", "weight"], ["inner"], false⟩
def b25 : IDef := ⟨16, 4, (.cons (.asg (.nm 4) (.call 9 (.cons (.bi .len (.cons (.var 1) .nil)) .nil))) (.cons (.ifS (.or (.nt (.bi (.isi .tup) (.cons (.var 0) .nil))) (.cmp .ne (.bi .len (.cons (.var 0) .nil)) (.bi .len (.cons (.var 4) .nil)))) (.cons (.ret (.con (.bl false))) .nil) .nil) (.cons (.ifS (.nt (.bi .all (.cons (.comp [15] (.nm 15) (.seq (.var 0)) .nil (.call 0 (.cons (.var 15) (.cons (.con (.int 0)) (.cons (.con .non) .nil))))) .nil))) (.cons (.ret (.con (.bl false))) .nil) .nil) (.cons (.asg (.nm 5) (.call 14 (.cons (.var 1) (.cons (.var 2) (.cons (.var 3) .nil))))) (.cons (.asgF 6 (.bi .dictT (.cons (.comp [8] (.nm 8) (.seq (.call 10 (.cons (.bi .len (.cons (.var 1) .nil)) .nil))) .nil (.tup (.cons (.var 8) (.cons (.con (.int 0)) .nil)))) .nil))) (.cons (.asg (.nm 7) (.con (.int 0))) (.cons (.forS (.tu (.cons (.nm 8) (.cons (.tu (.cons (.nm 9) (.cons (.nm 10) (.cons (.nm 11) (.cons (.nm 12) .nil))))) .nil))) (.enum (.var 4)) (.cons (.forS (.tu (.cons (.nm 13) (.cons (.nm 14) .nil))) (.seq (.tup (.cons (.tup (.cons (.var 9) (.cons (.con (.int 1)) .nil))) (.cons (.tup (.cons (.var 10) (.cons (.con (.int 1)) .nil))) (.cons (.tup (.cons (.var 11) (.cons (.neg (.con (.int 1))) .nil))) (.cons (.tup (.cons (.var 12) (.cons (.neg (.con (.int 1))) .nil))) .nil)))))) (.cons (.ifS (.cmp .inn (.var 13) (.var 5)) (.cons (.aug 7 .add (.bin .mul (.bin .mul (.var 14) (.sub (.var 0) (.var 8))) (.sub (.var 5) (.var 13)))) .nil) (.cons (.augS 6 (.var 13) .add (.bin .mul (.var 14) (.sub (.var 0) (.var 8)))) .nil)) .nil)) .nil)) (.cons (.ret (.and (.cmp .lt (.var 7) (.con (.int 0))) (.bi .all (.cons (.comp [13] (.nm 13) (.seq (.var 6)) .nil (.cmp .eq (.sub (.var 6) (.var 13)) (.con (.int 0)))) .nil)))) .nil))))))))⟩
def d26 : DD := ⟨"accepts", 35, ["claim", "paper"], ["claim", "paper", "first", "second", "third"], [], false⟩
def b26 : IDef := ⟨5, 2, (.cons (.ifS (.or (.nt (.bi (.isi .tup) (.cons (.var 0) .nil))) (.or (.cmp .eq (.bi .len (.cons (.var 0) .nil)) (.con (.int 0))) (.or (.nt (.bi (.isi .str) (.cons (.sub (.var 0) (.con (.int 0))) .nil))) (.cmp .notin (.sub (.var 0) (.con (.int 0))) (.con (.kd ["possible", "never", "tight"] [4, 4, 5])))))) (.cons (.ret (.con (.bl false))) .nil) .nil) (.cons (.ifS (.or (.cmp .ne (.bi .len (.cons (.var 0) .nil)) (.sub (.con (.kd ["possible", "never", "tight"] [4, 4, 5])) (.sub (.var 0) (.con (.int 0))))) (.nt (.call 8 (.cons (.sub (.var 0) (.con (.int 1))) (.cons (.sub (.var 0) (.con (.int 2))) (.cons (.sub (.var 0) (.con (.int 3))) .nil)))))) (.cons (.ret (.con (.bl false))) .nil) .nil) (.cons (.par3 2 3 4 (.sub (.var 0) (.con (.int 1))) (.sub (.var 0) (.con (.int 2))) (.sub (.var 0) (.con (.int 3)))) (.cons (.ifS (.cmp .eq (.sub (.var 0) (.con (.int 0))) (.con (.str "never"))) (.cons (.ret (.ite (.call 15 (.cons (.var 2) (.cons (.var 3) (.cons (.var 4) .nil)))) (.call 25 (.cons (.var 1) (.cons (.var 2) (.cons (.var 3) (.cons (.var 4) .nil))))) (.cmp .is_ (.var 1) (.con .non)))) .nil) .nil) (.cons (.ifS (.cmp .eq (.sub (.var 0) (.con (.int 0))) (.con (.str "tight"))) (.cons (.ifS (.or (.nt (.call 23 (.cons (.sub (.var 0) (.con (.int 4))) (.cons (.bi .len (.cons (.var 2) .nil)) .nil)))) (.cmp .ne (.call 21 (.cons (.var 2) (.cons (.var 3) (.cons (.var 4) (.cons (.sub (.var 0) (.con (.int 4))) .nil))))) (.con (.int 0)))) (.cons (.ret (.con (.bl false))) .nil) .nil) .nil) .nil) (.cons (.ret (.call 24 (.cons (.var 1) (.cons (.var 2) (.cons (.var 3) (.cons (.var 4) .nil)))))) .nil))))))⟩
def d27 : DD := ⟨"_law_purse", 37, ["_law_script", "_law_k"], ["_law_script", "_law_k", "_law_own", "_law_seed", "_law_cell", "_law_digits"], [], true⟩
def b27 : IDef := ⟨6, 2, (.cons (.asg (.nm 2) (.ite (.cmp .lt (.var 1) (.bi .len (.cons (.var 0) .nil))) (.bi .int (.cons (.sub (.var 0) (.var 1)) .nil)) (.bin .add (.bin .mul (.con (.int 7001)) (.var 1)) (.con (.int 613))))) (.cons (.asg (.nm 3) (.bin .add (.con (.int 52391)) (.bin .mul (.con (.int 1009)) (.var 1)))) (.cons (.forS (.nm 4) (.seq (.sli (.var 0) .no (.yes (.con (.int 63))))) (.cons (.asg (.nm 3) (.bin .mod (.bi .int (.cons (.bin .add (.bin .add (.bin .mul (.var 3) (.con (.int 39373))) (.bin .mod (.bi .int (.cons (.var 4) .nil)) (.con (.int 2147483629)))) (.con (.int 1))) .nil)) (.con (.int 2147483629)))) .nil)) (.cons (.asg (.nm 5) (.ite (.or (.cmp .lt (.var 2) (.con (.int 0))) (.cmp .ge (.var 2) (.bin .pow (.con (.int 10)) (.con (.int 18))))) (.bi .abs (.cons (.var 2) .nil)) (.con (.int 0)))) (.cons (.ret (.obj (.lst (.cons (.var 5) (.cons (.bin .mod (.bi .int (.cons (.bin .add (.bin .mul (.var 3) (.con (.int 48271))) (.bin .mod (.bi .int (.cons (.var 2) .nil)) (.con (.int 2147483629)))) .nil)) (.con (.int 2147483629))) (.cons (.con (.int 0)) .nil)))))) .nil)))))⟩
def d28 : DD := ⟨"_law_take", 38, ["_law_purse_here", "_law_many"], ["_law_purse_here", "_law_many", "_law_seed", "_law_digit"], [], false⟩
def b28 : IDef := ⟨4, 2, (.cons (.asgS 0 (.con (.int 2)) (.bin .add (.sub (.var 0) (.con (.int 2))) (.con (.int 1)))) (.cons (.asg (.nm 2) (.bin .mod (.bi .int (.cons (.bin .add (.bin .add (.bin .mul (.sub (.var 0) (.con (.int 1))) (.con (.int 48271))) (.bin .mul (.bin .mul (.sub (.var 0) (.con (.int 2))) (.sub (.var 0) (.con (.int 2)))) (.con (.int 30269)))) (.con (.int 7))) .nil)) (.con (.int 2147483629)))) (.cons (.asgS 0 (.con (.int 1)) (.bin .mod (.bi .int (.cons (.bin .add (.bin .mul (.var 2) (.bin .add (.bin .mod (.bi .int (.cons (.var 2) .nil)) (.con (.int 9973))) (.con (.int 20011)))) (.sub (.var 0) (.con (.int 2)))) .nil)) (.con (.int 2147483587)))) (.cons (.ifS (.cmp .gt (.sub (.var 0) (.con (.int 0))) (.con (.int 0))) (.cons (.tgS 0 (.con (.int 0)) 3 (.bi .divmod (.cons (.bi .int (.cons (.sub (.var 0) (.con (.int 0))) .nil)) (.cons (.var 1) .nil)))) (.cons (.ret (.var 3)) .nil)) .nil) (.cons (.ret (.bin .mod (.bi .int (.cons (.bin .fdiv (.sub (.var 0) (.con (.int 1))) (.con (.int 128))) .nil)) (.var 1))) .nil)))))⟩
def d29 : DD := ⟨"_law_menu", 39, [], ["_law_small", "_law_wide", "_law_half", "_law_mid", "_law_found"], [], false⟩
def b29 : IDef := ⟨5, 0, (.cons (.asg (.nm 0) (.tup (.cons (.tup (.cons (.tup (.cons (.con (.int 0)) (.cons (.con (.int 1)) .nil))) (.cons (.tup (.cons (.con (.int 4)) (.cons (.con (.int 1)) .nil))) (.cons (.tup (.cons (.con (.int 6)) (.cons (.con (.int 1)) .nil))) .nil)))) (.cons (.tup (.cons (.tup (.cons (.con (.int 3)) (.cons (.con (.int 1)) .nil))) (.cons (.tup (.cons (.con (.int 6)) (.cons (.con (.int 1)) .nil))) .nil))) (.cons (.tup (.cons (.tup (.cons (.con (.int 4)) (.cons (.con (.int 1)) .nil))) .nil)) .nil))))) (.cons (.asg (.nm 1) (.tup (.cons (.tup (.cons (.tup (.cons (.con (.int 0)) (.cons (.con (.int 1)) .nil))) (.cons (.tup (.cons (.con (.int 5)) (.cons (.con (.int 1)) .nil))) (.cons (.tup (.cons (.con (.int 6)) (.cons (.con (.int 1)) .nil))) .nil)))) (.cons (.tup (.cons (.tup (.cons (.con (.int 3)) (.cons (.con (.int 1)) .nil))) (.cons (.tup (.cons (.con (.int 6)) (.cons (.con (.int 1)) .nil))) .nil))) (.cons (.tup (.cons (.tup (.cons (.con (.int 4)) (.cons (.con (.int 1)) .nil))) .nil)) .nil))))) (.cons (.asg (.nm 2) (.tup (.cons (.tup (.cons (.tup (.cons (.con (.int 0)) (.cons (.con (.int 1)) .nil))) (.cons (.tup (.cons (.con (.int 3)) (.cons (.con (.int 1)) .nil))) (.cons (.tup (.cons (.con (.int 5)) (.cons (.con (.int 1)) .nil))) (.cons (.tup (.cons (.con (.int 6)) (.cons (.con (.int 1)) .nil))) .nil))))) (.cons (.tup (.cons (.tup (.cons (.con (.int 2)) (.cons (.con (.int 1)) .nil))) (.cons (.tup (.cons (.con (.int 9)) (.cons (.con (.int 2)) .nil))) (.cons (.tup (.cons (.con (.int 6)) (.cons (.con (.int 1)) .nil))) .nil)))) (.cons (.tup (.cons (.tup (.cons (.con (.int 3)) (.cons (.con (.int 1)) .nil))) (.cons (.tup (.cons (.con (.int 5)) (.cons (.con (.int 1)) .nil))) .nil))) (.cons (.tup (.cons (.tup (.cons (.con (.int 3)) (.cons (.con (.int 1)) .nil))) .nil)) .nil)))))) (.cons (.asg (.nm 3) (.tup (.cons (.con (.int 2)) (.cons (.con (.int 1)) (.cons (.con (.int 0)) .nil))))) (.cons (.asg (.nm 4) (.lst (.cons (.tup (.cons (.tup (.cons (.con (.str "possible")) (.cons (.tup (.cons (.con (.int 3)) (.cons (.con (.int 1)) .nil))) (.cons (.tup (.cons (.con (.int 2)) (.cons (.con (.int 0)) .nil))) (.cons (.tup (.cons (.con (.int 4)) (.cons (.con (.int 2)) .nil))) .nil))))) (.cons (.var 0) .nil))) (.cons (.tup (.cons (.tup (.cons (.con (.str "possible")) (.cons (.var 3) (.cons (.var 3) (.cons (.tup (.cons (.con (.int 3)) (.cons (.con (.int 2)) (.cons (.con (.int 1)) .nil)))) .nil))))) (.cons (.var 2) .nil))) .nil)))) (.cons (.asg (.nm 4) (.bin .add (.var 4) (.lst (.cons (.tup (.cons (.tup (.cons (.con (.str "never")) (.cons (.tup (.cons (.con (.int 3)) (.cons (.con (.int 1)) .nil))) (.cons (.tup (.cons (.con (.int 2)) (.cons (.con (.int 0)) .nil))) (.cons (.tup (.cons (.con (.int 6)) (.cons (.con (.int 0)) .nil))) .nil))))) (.cons (.tup (.cons (.con (.int 0)) (.cons (.con (.int 0)) (.cons (.con (.int 1)) .nil)))) .nil))) (.cons (.tup (.cons (.tup (.cons (.con (.str "never")) (.cons (.var 3) (.cons (.var 3) (.cons (.tup (.cons (.con (.int 9)) (.cons (.con (.int 0)) (.cons (.con (.int 0)) .nil)))) .nil))))) (.cons (.con .non) .nil))) .nil))))) (.cons (.ret (.bin .add (.var 4) (.lst (.cons (.tup (.cons (.tup (.cons (.con (.str "tight")) (.cons (.tup (.cons (.con (.int 3)) (.cons (.con (.int 1)) .nil))) (.cons (.tup (.cons (.con (.int 2)) (.cons (.con (.int 0)) .nil))) (.cons (.tup (.cons (.con (.int 5)) (.cons (.con (.int 1)) .nil))) (.cons (.tup (.cons (.tup (.cons (.con (.int 0)) .nil)) (.cons (.tup (.cons (.con (.int 0)) .nil)) (.cons (.tup (.cons (.con (.int 0)) .nil)) .nil)))) .nil)))))) (.cons (.var 1) .nil))) .nil)))) .nil)))))))⟩
def d30 : DD := ⟨"_law_truths", 40, ["_law_thing"], ["_law_thing", "_law_found", "_law_at", "_law_part", "_law_fresh", "_law_each"], [], false⟩
def b30 : IDef := ⟨6, 1, (.cons (.asg (.nm 1) (.lst .nil)) (.cons (.forS (.nm 2) (.rng1 (.bi .len (.cons (.var 0) .nil))) (.cons (.asg (.nm 3) (.sub (.var 0) (.var 2))) (.cons (.ifS (.bi (.isi .tup) (.cons (.var 3) .nil)) (.cons (.asg (.nm 4) (.call 30 (.cons (.var 3) .nil))) .nil) (.cons (.asg (.nm 4) (.ite (.cmp .inn (.var 3) (.lst (.cons (.con (.int 0)) (.cons (.con (.int 1)) .nil)))) (.lst (.cons (.cmp .eq (.var 3) (.con (.int 1))) .nil)) (.lst .nil))) .nil)) (.cons (.asg (.nm 1) (.bin .add (.var 1) (.comp [5] (.nm 5) (.seq (.var 4)) .nil (.bin .add (.bin .add (.sli (.var 0) .no (.yes (.var 2))) (.tup (.cons (.var 5) .nil))) (.sli (.var 0) (.yes (.bin .add (.var 2) (.con (.int 1)))) .no))))) .nil)))) (.cons (.ret (.var 1)) .nil)))⟩
def d31 : DD := ⟨"_law_lists", 41, ["_law_thing"], ["_law_thing", "_law_found", "_law_at", "_law_each"], [], false⟩
def b31 : IDef := ⟨4, 1, (.cons (.asg (.nm 1) (.lst (.cons (.bi .list (.cons (.var 0) .nil)) .nil))) (.cons (.forS (.nm 2) (.rng1 (.bi .len (.cons (.var 0) .nil))) (.cons (.ifS (.bi (.isi .tup) (.cons (.sub (.var 0) (.var 2)) .nil)) (.cons (.asg (.nm 1) (.bin .add (.var 1) (.comp [3] (.nm 3) (.seq (.call 31 (.cons (.sub (.var 0) (.var 2)) .nil))) .nil (.bin .add (.bin .add (.sli (.var 0) .no (.yes (.var 2))) (.tup (.cons (.var 3) .nil))) (.sli (.var 0) (.yes (.bin .add (.var 2) (.con (.int 1)))) .no))))) .nil) .nil) .nil)) (.cons (.ret (.var 1)) .nil)))⟩
def d32 : DD := ⟨"_law_swapped", 42, ["_law_purse_here", "_law_thing", "_law_odd", "_law_deep"], ["_law_purse_here", "_law_thing", "_law_odd", "_law_deep", "_law_at"], [], false⟩
def b32 : IDef := ⟨5, 4, (.cons (.ifS (.and (.bi (.isi .tup) (.cons (.var 1) .nil)) (.and (.cmp .gt (.bi .len (.cons (.var 1) .nil)) (.con (.int 0))) (.and (.cmp .gt (.var 3) (.con (.int 0))) (.cmp .gt (.call 28 (.cons (.var 0) (.cons (.con (.int 4)) .nil))) (.con (.int 0)))))) (.cons (.asg (.nm 4) (.call 28 (.cons (.var 0) (.cons (.bi .len (.cons (.var 1) .nil)) .nil)))) (.cons (.ret (.bin .add (.bin .add (.sli (.var 1) .no (.yes (.var 4))) (.tup (.cons (.call 32 (.cons (.var 0) (.cons (.sub (.var 1) (.var 4)) (.cons (.var 2) (.cons (.bin .sub (.var 3) (.con (.int 1))) .nil))))) .nil))) (.sli (.var 1) (.yes (.bin .add (.var 4) (.con (.int 1)))) .no))) .nil)) .nil) (.cons (.ret (.var 2)) .nil))⟩
def d33 : DD := ⟨"_law_near", 43, ["_law_mine", "_law_sheet"], ["_law_mine", "_law_sheet", "_law_words", "_law_claims", "_law_papers", "_law_word", "_law_each"], [], false⟩
def b33 : IDef := ⟨7, 2, (.cons (.asg (.nm 2) (.lst (.cons (.con (.str "possible")) (.cons (.con (.str "never")) (.cons (.con (.str "tight")) (.cons (.con (.str "")) (.cons (.con (.str "Never")) (.cons (.con (.str "possible ")) (.cons (.con (.str "count")) (.cons (.con (.str "several")) .nil)))))))))) (.cons (.asg (.nm 3) (.bin .add (.bin .add (.call 30 (.cons (.var 0) .nil)) (.call 31 (.cons (.var 0) .nil))) (.comp [5] (.nm 5) (.seq (.var 2)) (.cons (.cmp .ne (.var 5) (.sub (.var 0) (.con (.int 0)))) .nil) (.bin .add (.tup (.cons (.var 5) .nil)) (.sli (.var 0) (.yes (.con (.int 1))) .no))))) (.cons (.asg (.nm 4) (.ite (.cmp .is_ (.var 1) (.con .non)) (.lst .nil) (.bin .add (.call 30 (.cons (.var 1) .nil)) (.call 31 (.cons (.var 1) .nil))))) (.cons (.ifS (.nt (.bi .all (.cons (.comp [6] (.nm 6) (.seq (.var 3)) .nil (.cmp .is_ (.call 26 (.cons (.var 6) (.cons (.var 1) .nil))) (.con (.bl false)))) .nil))) (.cons (.ret (.con (.bl false))) .nil) .nil) (.cons (.ret (.bi .all (.cons (.comp [6] (.nm 6) (.seq (.var 4)) .nil (.cmp .is_ (.call 26 (.cons (.var 0) (.cons (.var 6) .nil))) (.con (.bl false)))) .nil))) .nil)))))⟩
def d34 : DD := ⟨"_law_right", 44, ["_law_purse_here"], ["_law_purse_here", "_law_menu_here", "_law_turn", "_law_odd", "_law_at", "_law_claims", "_law_papers", "_law_mine", "_law_sheet", "_law_each"], [], false⟩
def b34 : IDef := ⟨10, 1, (.cons (.asg (.nm 1) (.call 29 .nil)) (.cons (.forS (.nm 2) (.rng1 (.con (.int 15))) (.cons (.asg (.tu (.cons (.nm 7) (.cons (.nm 8) .nil))) (.sub (.var 1) (.call 28 (.cons (.var 0) (.cons (.bi .len (.cons (.var 1) .nil)) .nil))))) (.cons (.asg (.nm 3) (.sub (.lst (.cons (.con (.str "x")) (.cons (.dic0 true) (.cons (.lst (.cons (.con (.int 0)) (.cons (.con (.int 1)) .nil))) (.cons (.lst (.cons (.tup .nil) .nil)) (.cons (.dic1 "x" (.con (.int 1))) (.cons (.con (.str "0")) (.cons (.tup (.cons (.tup (.cons (.tup (.cons (.tup .nil) .nil)) .nil)) .nil)) (.cons (.lst (.cons (.con .non) .nil)) .nil))))))))) (.call 28 (.cons (.var 0) (.cons (.con (.int 8)) .nil))))) (.cons (.asg (.nm 4) (.bin .add (.con (.int 1)) (.call 28 (.cons (.var 0) (.cons (.bin .sub (.bi .len (.cons (.var 7) .nil)) (.con (.int 1))) .nil))))) (.cons (.asg (.nm 5) (.lst (.cons (.bin .add (.bin .add (.sli (.var 7) .no (.yes (.var 4))) (.tup (.cons (.call 32 (.cons (.var 0) (.cons (.sub (.var 7) (.var 4)) (.cons (.var 3) (.cons (.con (.int 3)) .nil))))) .nil))) (.sli (.var 7) (.yes (.bin .add (.var 4) (.con (.int 1)))) .no)) (.cons (.bin .add (.var 7) (.tup (.cons (.var 3) .nil))) (.cons (.sli (.var 7) .no (.yes (.neg (.con (.int 1))))) .nil))))) (.cons (.asg (.nm 5) (.bin .add (.var 5) (.lst (.cons (.var 3) (.cons (.con .non) (.cons (.con (.bl true)) (.cons (.sub (.var 7) (.con (.int 0))) (.cons (.tup .nil) (.cons (.bin .add (.tup (.cons (.var 3) .nil)) (.sli (.var 7) (.yes (.con (.int 1))) .no)) (.cons (.tup (.cons (.var 7) .nil)) .nil)))))))))) (.cons (.ifS (.nt (.bi .all (.cons (.comp [9] (.nm 9) (.seq (.var 5)) .nil (.cmp .is_ (.call 26 (.cons (.var 9) (.cons (.var 8) .nil))) (.con (.bl false)))) .nil))) (.cons (.ret (.con (.bl false))) .nil) .nil) (.cons (.asg (.nm 6) (.lst (.cons (.call 32 (.cons (.var 0) (.cons (.var 8) (.cons (.var 3) (.cons (.con (.int 3)) .nil))))) (.cons (.var 3) (.cons (.con (.bl false)) (.cons (.tup (.cons (.var 8) .nil)) (.cons (.var 7) (.cons (.con (.int 0)) .nil)))))))) (.cons (.asg (.nm 6) (.bin .add (.var 6) (.ite (.cmp .is_ (.var 8) (.con .non)) (.lst (.cons (.tup .nil) .nil)) (.lst (.cons (.con .non) (.cons (.bin .add (.var 8) (.tup (.cons (.var 3) .nil))) (.cons (.tup .nil) .nil))))))) (.cons (.ifS (.nt (.bi .all (.cons (.comp [9] (.nm 9) (.seq (.var 6)) .nil (.cmp .is_ (.call 26 (.cons (.var 7) (.cons (.var 9) .nil))) (.con (.bl false)))) .nil))) (.cons (.ret (.con (.bl false))) .nil) .nil) (.cons (.ifS (.cmp .isn (.call 26 (.cons (.var 7) (.cons (.var 8) .nil))) (.con (.bl true))) (.cons (.ret (.con (.bl false))) .nil) .nil) .nil))))))))))) (.cons (.ret (.con (.bl true))) .nil)))⟩
def d35 : DD := ⟨"law", 45, ["_law_script"], ["_law_script", "_law_menu_here", "_law_k", "_law_mine", "_law_sheet"], [], false⟩
def b35 : IDef := ⟨5, 1, (.cons (.asg (.nm 1) (.call 29 .nil)) (.cons (.ifS (.nt (.bi .all (.cons (.comp [3, 4] (.tu (.cons (.nm 3) (.cons (.nm 4) .nil))) (.seq (.var 1)) .nil (.and (.cmp .is_ (.call 26 (.cons (.var 3) (.cons (.var 4) .nil))) (.con (.bl true))) (.cmp .is_ (.callP 26 [1, 0] (.cons (.var 4) (.cons (.var 3) .nil))) (.con (.bl true))))) .nil))) (.cons (.ret (.con (.bl false))) .nil) .nil) (.cons (.ifS (.nt (.bi .all (.cons (.comp [3, 4] (.tu (.cons (.nm 3) (.cons (.nm 4) .nil))) (.seq (.var 1)) .nil (.call 33 (.cons (.var 3) (.cons (.var 4) .nil)))) .nil))) (.cons (.ret (.con (.bl false))) .nil) .nil) (.cons (.ret (.bi .all (.cons (.comp [2] (.nm 2) (.rng1 (.bi .max2 (.cons (.con (.int 2)) (.cons (.bi .min2 (.cons (.bi .len (.cons (.var 0) .nil)) (.cons (.con (.int 8)) .nil))) .nil)))) .nil (.call 34 (.cons (.call 27 (.cons (.var 0) (.cons (.var 2) .nil))) .nil))) .nil))) .nil))))⟩
def dds : List DD := [d0, d1, d2, d3, d4, d5, d6, d7, d8, d9, d10, d11, d12, d13, d14, d15, d16, d17, d18, d19, d20, d21, d22, d23, d24, d25, d26, d27, d28, d29, d30, d31, d32, d33, d34, d35]
def bs : List IDef := [b0, b1, b2, b3, b4, b5, b6, b7, b8, b9, b10, b11, b12, b13, b14, b15, b16, b17, b18, b19, b20, b21, b22, b23, b24, b25, b26, b27, b28, b29, b30, b31, b32, b33, b34, b35]
def frees : List Str := ["abs", "all", "bool", "dict", "divmod", "enumerate", "int", "isinstance", "len", "list", "max", "min", "range", "str", "sum", "tuple"]
def consts : List (Str × D) := [("ZERO", (.kt [(.int 0), (.int 1)])), ("MOST_SIZE", (.int 4)), ("MOST_LEVEL", (.int 1000000000000000000000000000000)), ("LENGTHS", (.kd ["possible", "never", "tight"] [4, 4, 5]))]
def kws : List (Str × Nat × List Str × List Nat) := [("accepts", 26, ["paper", "claim"], [1, 0])]
def GG : GT := mkG dds frees consts kws
theorem ok0 : DOk prog GG 30 30 d0 b0 := ⟨rfl, rfl, by kernel_rfl, by kernel_rfl⟩
theorem bd0 : BindsB prog d0 := fun _ _ _ _ _ _ us hl => match us, hl with | [_, _, _], _ => by kernel_rfl
theorem ok1 : DOk prog GG 30 30 d1 b1 := ⟨rfl, rfl, by kernel_rfl, by kernel_rfl⟩
theorem bd1 : BindsB prog d1 := fun _ _ _ _ _ _ us hl => match us, hl with | [_, _], _ => by kernel_rfl
theorem ok2 : DOk prog GG 30 30 d2 b2 := ⟨rfl, rfl, by kernel_rfl, by kernel_rfl⟩
theorem bd2 : BindsB prog d2 := fun _ _ _ _ _ _ us hl => match us, hl with | [_, _], _ => by kernel_rfl
theorem ok3 : DOk prog GG 30 30 d3 b3 := ⟨rfl, rfl, by kernel_rfl, by kernel_rfl⟩
theorem bd3 : BindsB prog d3 := fun _ _ _ _ _ _ us hl => match us, hl with | [_], _ => by kernel_rfl
theorem ok4 : DOk prog GG 30 30 d4 b4 := ⟨rfl, rfl, by kernel_rfl, by kernel_rfl⟩
theorem bd4 : BindsB prog d4 := fun _ _ _ _ _ _ us hl => match us, hl with | [_, _], _ => by kernel_rfl
theorem ok5 : DOk prog GG 30 30 d5 b5 := ⟨rfl, rfl, by kernel_rfl, by kernel_rfl⟩
theorem bd5 : BindsB prog d5 := fun _ _ _ _ _ _ us hl => match us, hl with | [_, _], _ => by kernel_rfl
theorem ok6 : DOk prog GG 30 30 d6 b6 := ⟨rfl, rfl, by kernel_rfl, by kernel_rfl⟩
theorem bd6 : BindsB prog d6 := fun _ _ _ _ _ _ us hl => match us, hl with | [_, _], _ => by kernel_rfl
theorem ok7 : DOk prog GG 30 30 d7 b7 := ⟨rfl, rfl, by kernel_rfl, by kernel_rfl⟩
theorem bd7 : BindsB prog d7 := fun _ _ _ _ _ _ us hl => match us, hl with | [_], _ => by kernel_rfl
theorem ok8 : DOk prog GG 30 30 d8 b8 := ⟨rfl, rfl, by kernel_rfl, by kernel_rfl⟩
theorem bd8 : BindsB prog d8 := fun _ _ _ _ _ _ us hl => match us, hl with | [_, _, _], _ => by kernel_rfl
theorem ok9 : DOk prog GG 30 30 d9 b9 := ⟨rfl, rfl, by kernel_rfl, by kernel_rfl⟩
theorem bd9 : BindsB prog d9 := fun _ _ _ _ _ _ us hl => match us, hl with | [_], _ => by kernel_rfl
theorem ok10 : DOk prog GG 30 30 d10 b10 := ⟨rfl, rfl, by kernel_rfl, by kernel_rfl⟩
theorem bd10 : BindsB prog d10 := fun _ _ _ _ _ _ us hl => match us, hl with | [_], _ => by kernel_rfl
theorem ok11 : DOk prog GG 30 30 d11 b11 := ⟨rfl, rfl, by kernel_rfl, by kernel_rfl⟩
theorem bd11 : BindsB prog d11 := fun _ _ _ _ _ _ us hl => match us, hl with | [_], _ => by kernel_rfl
theorem ok12 : DOk prog GG 30 30 d12 b12 := ⟨rfl, rfl, by kernel_rfl, by kernel_rfl⟩
theorem bd12 : BindsB prog d12 := fun _ _ _ _ _ _ us hl => match us, hl with | [_], _ => by kernel_rfl
theorem ok13 : DOk prog GG 30 30 d13 b13 := ⟨rfl, rfl, by kernel_rfl, by kernel_rfl⟩
theorem bd13 : BindsB prog d13 := fun _ _ _ _ _ _ us hl => match us, hl with | [_], _ => by kernel_rfl
theorem ok14 : DOk prog GG 30 30 d14 b14 := ⟨rfl, rfl, by kernel_rfl, by kernel_rfl⟩
theorem bd14 : BindsB prog d14 := fun _ _ _ _ _ _ us hl => match us, hl with | [_, _, _], _ => by kernel_rfl
theorem ok15 : DOk prog GG 30 30 d15 b15 := ⟨rfl, rfl, by kernel_rfl, by kernel_rfl⟩
theorem bd15 : BindsB prog d15 := fun _ _ _ _ _ _ us hl => match us, hl with | [_, _, _], _ => by kernel_rfl
theorem ok16 : DOk prog GG 30 30 d16 b16 := ⟨rfl, rfl, by kernel_rfl, by kernel_rfl⟩
theorem bd16 : BindsB prog d16 := fun _ _ _ _ _ _ us hl => match us, hl with | [_, _], _ => by kernel_rfl
theorem ok17 : DOk prog GG 30 30 d17 b17 := ⟨rfl, rfl, by kernel_rfl, by kernel_rfl⟩
theorem bd17 : BindsB prog d17 := fun _ _ _ _ _ _ us hl => match us, hl with | [_, _], _ => by kernel_rfl
theorem ok18 : DOk prog GG 30 30 d18 b18 := ⟨rfl, rfl, by kernel_rfl, by kernel_rfl⟩
theorem bd18 : BindsB prog d18 := fun _ _ _ _ _ _ us hl => match us, hl with | [_, _, _, _], _ => by kernel_rfl
theorem ok19 : DOk prog GG 30 30 d19 b19 := ⟨rfl, rfl, by kernel_rfl, by kernel_rfl⟩
theorem bd19 : BindsB prog d19 := fun _ _ _ _ _ _ us hl => match us, hl with | [_, _], _ => by kernel_rfl
theorem ok20 : DOk prog GG 30 30 d20 b20 := ⟨rfl, rfl, by kernel_rfl, by kernel_rfl⟩
theorem bd20 : BindsB prog d20 := fun _ _ _ _ _ _ us hl => match us, hl with | [_], _ => by kernel_rfl
theorem ok21 : DOk prog GG 30 30 d21 b21 := ⟨rfl, rfl, by kernel_rfl, by kernel_rfl⟩
theorem bd21 : BindsB prog d21 := fun _ _ _ _ _ _ us hl => match us, hl with | [_, _, _, _], _ => by kernel_rfl
theorem ok22 : DOk prog GG 30 30 d22 b22 := ⟨rfl, rfl, by kernel_rfl, by kernel_rfl⟩
theorem bd22 : BindsB prog d22 := fun _ _ _ _ _ _ us hl => match us, hl with | [_, _], _ => by kernel_rfl
theorem ok23 : DOk prog GG 30 30 d23 b23 := ⟨rfl, rfl, by kernel_rfl, by kernel_rfl⟩
theorem bd23 : BindsB prog d23 := fun _ _ _ _ _ _ us hl => match us, hl with | [_, _], _ => by kernel_rfl
theorem ok24 : DOk prog GG 30 30 d24 b24 := ⟨rfl, rfl, by kernel_rfl, by kernel_rfl⟩
theorem bd24 : BindsB prog d24 := fun _ _ _ _ _ _ us hl => match us, hl with | [_, _, _, _], _ => by kernel_rfl
theorem ok25 : DOk prog GG 30 30 d25 b25 := ⟨rfl, rfl, by kernel_rfl, by kernel_rfl⟩
theorem bd25 : BindsB prog d25 := fun _ _ _ _ _ _ us hl => match us, hl with | [_, _, _, _], _ => by kernel_rfl
theorem ok26 : DOk prog GG 30 30 d26 b26 := ⟨rfl, rfl, by kernel_rfl, by kernel_rfl⟩
theorem bd26 : BindsB prog d26 := fun _ _ _ _ _ _ us hl => match us, hl with | [_, _], _ => by kernel_rfl
theorem ok27 : DOk prog GG 30 30 d27 b27 := ⟨rfl, rfl, by kernel_rfl, by kernel_rfl⟩
theorem bd27 : BindsB prog d27 := fun _ _ _ _ _ _ us hl => match us, hl with | [_, _], _ => by kernel_rfl
theorem ok28 : DOk prog GG 30 30 d28 b28 := ⟨rfl, rfl, by kernel_rfl, by kernel_rfl⟩
theorem bd28 : BindsB prog d28 := fun _ _ _ _ _ _ us hl => match us, hl with | [_, _], _ => by kernel_rfl
theorem ok29 : DOk prog GG 30 30 d29 b29 := ⟨rfl, rfl, by kernel_rfl, by kernel_rfl⟩
theorem bd29 : BindsB prog d29 := fun _ _ _ _ _ _ us hl => match us, hl with | [], _ => by kernel_rfl
theorem ok30 : DOk prog GG 30 30 d30 b30 := ⟨rfl, rfl, by kernel_rfl, by kernel_rfl⟩
theorem bd30 : BindsB prog d30 := fun _ _ _ _ _ _ us hl => match us, hl with | [_], _ => by kernel_rfl
theorem ok31 : DOk prog GG 30 30 d31 b31 := ⟨rfl, rfl, by kernel_rfl, by kernel_rfl⟩
theorem bd31 : BindsB prog d31 := fun _ _ _ _ _ _ us hl => match us, hl with | [_], _ => by kernel_rfl
theorem ok32 : DOk prog GG 30 30 d32 b32 := ⟨rfl, rfl, by kernel_rfl, by kernel_rfl⟩
theorem bd32 : BindsB prog d32 := fun _ _ _ _ _ _ us hl => match us, hl with | [_, _, _, _], _ => by kernel_rfl
theorem ok33 : DOk prog GG 30 30 d33 b33 := ⟨rfl, rfl, by kernel_rfl, by kernel_rfl⟩
theorem bd33 : BindsB prog d33 := fun _ _ _ _ _ _ us hl => match us, hl with | [_, _], _ => by kernel_rfl
theorem ok34 : DOk prog GG 30 30 d34 b34 := ⟨rfl, rfl, by kernel_rfl, by kernel_rfl⟩
theorem bd34 : BindsB prog d34 := fun _ _ _ _ _ _ us hl => match us, hl with | [_], _ => by kernel_rfl
theorem ok35 : DOk prog GG 30 30 d35 b35 := ⟨rfl, rfl, by kernel_rfl, by kernel_rfl⟩
theorem bd35 : BindsB prog d35 := fun _ _ _ _ _ _ us hl => match us, hl with | [_], _ => by kernel_rfl
theorem allD : AllD prog GG 30 30 dds bs := ⟨ok0, ok1, ok2, ok3, ok4, ok5, ok6, ok7, ok8, ok9, ok10, ok11, ok12, ok13, ok14, ok15, ok16, ok17, ok18, ok19, ok20, ok21, ok22, ok23, ok24, ok25, ok26, ok27, ok28, ok29, ok30, ok31, ok32, ok33, ok34, ok35, trivial⟩
theorem allB : AllB prog dds := ⟨bd0, bd1, bd2, bd3, bd4, bd5, bd6, bd7, bd8, bd9, bd10, bd11, bd12, bd13, bd14, bd15, bd16, bd17, bd18, bd19, bd20, bd21, bd22, bd23, bd24, bd25, bd26, bd27, bd28, bd29, bd30, bd31, bd32, bd33, bd34, bd35, trivial⟩
theorem kw0 : KwB prog d26 ["paper", "claim"] [1, 0] := fun _ _ _ _ _ _ ws hl => match ws, hl with | [_, _], _ => by kernel_rfl
theorem kwAll : ∀ q ∈ kws, ∃ d, dds[q.2.1]? = some d ∧ d.x = q.1 ∧ KwB prog d q.2.2.1 q.2.2.2 := by
  intro q hq
  unfold kws at hq
  simp only [List.mem_cons, List.not_mem_nil, or_false] at hq
  rcases hq with rfl
  · exact ⟨d26, rfl, rfl, kw0⟩
def more : List He.Fa := [.glo "ZERO", .int "MOST_SIZE" (4), .int "MOST_LEVEL" (1000000000000000000000000000000), .glo "LENGTHS"]
def fa : List He.Fa := (dds.map fun d => He.Fa.glo d.x) ++ frees.map He.Fa.free ++ more
def fn : List He.DefD := dds.map (ddOf prog)
def ts : List He.Tab := [(fun K => He.ga K "LENGTHS", ["possible", "never", "tight"])]
def ex (K : PySem.W.Frag) : Bool := He.tupB K "ZERO" [.int (0), .int (1)] && He.valsB K (He.ga K "LENGTHS") [("possible", .int (4)), ("never", .int (4)), ("tight", .int (5))]
def names0 : List Str := ["ZERO", "is_between", "common", "lowest", "is_fraction", "add", "less", "is_below", "MOST_SIZE", "MOST_LEVEL", "are_levels", "are_triple", "rhombi_of", "inner_places", "has_right_rows", "is_hive", "sides_of", "outer_numbers", "sums_agree", "lots_of", "sum_at", "is_kept", "conditions_with", "conditions_of", "gap_of", "is_index_lot", "is_condition", "LENGTHS", "has_sides", "bars"]
def names1 : List Str := ["accepts", "_law_purse", "_law_take", "_law_menu", "_law_truths", "_law_lists", "_law_swapped", "_law_near", "_law_right"]
def names : List Str := names0 ++ names1
abbrev R : PySem.W.OpenRow := PySem.W.OpenLaw.row PySem.Challenge.rw_hivesums_k78_claims_and_papers_of_any_ki
abbrev hk : PySem.W.Hook := He.hookX 4 fa fn ts [] ex
def ob (s : PySem.W.SharedT) : He.AlX := He.obsX 4 fa fn ts [] ex (HandSHeadRun.getT s)
theorem ob_eq (s : PySem.W.SharedT) : ob s = hk.obs s.abs := He.obsX_eq (HandSHeadRun.getT_eq s)
theorem run0 (w : World) : HandSHeadRun.RunEq R (PySem.W.view R.prog [45]) hk ob 4000 names (w.withFollow "special-get-raises" false) := by
  intro os
  kernel_rfl
theorem run1 (w : World) : HandSHeadRun.RunEq R (PySem.W.view R.prog [45]) hk ob 4000 names (w.withFollow "special-get-raises" true) := by
  intro os
  kernel_rfl
theorem run (w : World) : HandSHeadRun.RunEq R (PySem.W.view R.prog [45]) hk ob 4000 names w :=
  PySem.W.byRow2 "special-get-raises" (P := fun w => HandSHeadRun.RunEq R (PySem.W.view R.prog [45]) hk ob 4000 names w) run0 run1 w
def Ts (K : PySem.W.Frag) (w : World) : Sta' := ⟨⟨K, w, fun _ => none⟩, fun _ => none⟩
abbrev tt : Tab := tabOf bs fun _ => none
theorem ex_ZERO {K : PySem.W.Frag} (h : ex K = true) : He.tupB K "ZERO" [.int (0), .int (1)] = true := by
  unfold ex at h
  simp only [Bool.and_eq_true] at h
  exact h.1
theorem ex_LENGTHS {K : PySem.W.Frag} (h : ex K = true) : He.valsB K (He.ga K "LENGTHS") [("possible", .int (4)), ("never", .int (4)), ("tight", .int (5))] = true := by
  unfold ex at h
  simp only [Bool.and_eq_true] at h
  exact h.2
theorem mo {w : World} {K : PySem.W.Frag} {h : Heap} {mg : Str → Option Value} (KX : K.In h) (G : h.Ns mainGlobals mg) (c : He.SaysX fa fn ts [] ex w h K) : Mo prog w K mg (Ts K w) GG dds := by
  refine mo_of (more := more) KX G c.t.d rfl rfl allB (Ts K w) rfl rfl (fun q hq => ?_) kwAll
  unfold consts at hq
  simp only [List.mem_cons, List.not_mem_nil, or_false] at hq
  rcases hq with rfl | rfl | rfl | rfl
  · exact con_kt (is := [0, 1]) rfl KX G c.t.d (by simp [fa, more]) (ex_ZERO c.more)
  · exact con_int KX G c.t.d (by simp [fa, more])
  · exact con_int KX G c.t.d (by simp [fa, more])
  · exact con_kd (ks := ["possible", "never", "tight"]) (vs := [4, 4, 5]) rfl rfl KX G c.t.d (by simp [fa, more]) (tab_keys c.t 0 rfl) rfl (ex_LENGTHS c.more)
theorem facts {w : World} {K : PySem.W.Frag} {h : Heap} {mg : Str → Option Value} {f : Addr} (k : Nat) (KX : K.In h) (G : h.Ns mainGlobals mg) (hfa : mg ("law" : Str) = some (.ref f)) (c : He.SaysX fa fn ts [] ex w h K) :
    ∃ fd : FuncData, (∀ (s : Shared) (v : Value), BindsTo s fd ⟨[v], []⟩ [("_law_script", v)]) ∧ ∀ base : Heap, K.In base → base.Ns mainGlobals mg → FnOk prog w K mg base (L2.CX prog w) (k + 1) f fd ["_law_script"] (spI (Ts K w) (callN tt k 35) 1) := by
  obtain ⟨fd, F⟩ := c.t.d.defs (d := ddOf prog d35) (List.mem_map.mpr ⟨d35, List.mem_of_getElem? (i := 35) rfl, rfl⟩)
  have F' : FunD K d35.x d35.x (defArgs (stAt prog d35.top)) (defBody (stAt prog d35.top)) (defScope (stAt prog d35.top)) [] [] (He.ga K "law") fd := F
  have e := hfa.symm.trans (He.glo_ok KX G (c.t.d.facts (f := .glo "law") (List.mem_append_left _ (List.mem_append_left _ (List.mem_map.mpr ⟨d35, List.mem_of_getElem? (i := 35) rfl, rfl⟩)))))
  cases e
  have b := FunD.bindsA (ps := ["_law_script"]) F' bd35
  exact ⟨fd, fun s v => b s [v] rfl, fun base _ _ => (mods (dds := dds) (bs := bs) (flds := fun _ => none) base allD (mo KX G c) k).1 35 d35 _ fd rfl F'⟩
end Hd

set_option Elab.async false
set_option linter.all false
set_option maxRecDepth 100000
set_option maxHeartbeats 4000000
/-! Q0: what a call of each def is. -/
open PySem L2 IL
namespace Pl
theorem call0 (n : Nat) (ds : List D) (A : List AO) : callN Hd.tt (n + 1) 0 ds A = if ds.length = 3 then runDef ⟨callN Hd.tt n, fun _ => none⟩ Hd.b0 ds A else .stuck := rfl
theorem call1 (n : Nat) (ds : List D) (A : List AO) : callN Hd.tt (n + 1) 1 ds A = if ds.length = 2 then runDef ⟨callN Hd.tt n, fun _ => none⟩ Hd.b1 ds A else .stuck := rfl
theorem call2 (n : Nat) (ds : List D) (A : List AO) : callN Hd.tt (n + 1) 2 ds A = if ds.length = 2 then runDef ⟨callN Hd.tt n, fun _ => none⟩ Hd.b2 ds A else .stuck := rfl
theorem call3 (n : Nat) (ds : List D) (A : List AO) : callN Hd.tt (n + 1) 3 ds A = if ds.length = 1 then runDef ⟨callN Hd.tt n, fun _ => none⟩ Hd.b3 ds A else .stuck := rfl
theorem call4 (n : Nat) (ds : List D) (A : List AO) : callN Hd.tt (n + 1) 4 ds A = if ds.length = 2 then runDef ⟨callN Hd.tt n, fun _ => none⟩ Hd.b4 ds A else .stuck := rfl
theorem call5 (n : Nat) (ds : List D) (A : List AO) : callN Hd.tt (n + 1) 5 ds A = if ds.length = 2 then runDef ⟨callN Hd.tt n, fun _ => none⟩ Hd.b5 ds A else .stuck := rfl
theorem call6 (n : Nat) (ds : List D) (A : List AO) : callN Hd.tt (n + 1) 6 ds A = if ds.length = 2 then runDef ⟨callN Hd.tt n, fun _ => none⟩ Hd.b6 ds A else .stuck := rfl
theorem call7 (n : Nat) (ds : List D) (A : List AO) : callN Hd.tt (n + 1) 7 ds A = if ds.length = 1 then runDef ⟨callN Hd.tt n, fun _ => none⟩ Hd.b7 ds A else .stuck := rfl
theorem call8 (n : Nat) (ds : List D) (A : List AO) : callN Hd.tt (n + 1) 8 ds A = if ds.length = 3 then runDef ⟨callN Hd.tt n, fun _ => none⟩ Hd.b8 ds A else .stuck := rfl
theorem call9 (n : Nat) (ds : List D) (A : List AO) : callN Hd.tt (n + 1) 9 ds A = if ds.length = 1 then runDef ⟨callN Hd.tt n, fun _ => none⟩ Hd.b9 ds A else .stuck := rfl
theorem call10 (n : Nat) (ds : List D) (A : List AO) : callN Hd.tt (n + 1) 10 ds A = if ds.length = 1 then runDef ⟨callN Hd.tt n, fun _ => none⟩ Hd.b10 ds A else .stuck := rfl
theorem call11 (n : Nat) (ds : List D) (A : List AO) : callN Hd.tt (n + 1) 11 ds A = if ds.length = 1 then runDef ⟨callN Hd.tt n, fun _ => none⟩ Hd.b11 ds A else .stuck := rfl
theorem call12 (n : Nat) (ds : List D) (A : List AO) : callN Hd.tt (n + 1) 12 ds A = if ds.length = 1 then runDef ⟨callN Hd.tt n, fun _ => none⟩ Hd.b12 ds A else .stuck := rfl
theorem call13 (n : Nat) (ds : List D) (A : List AO) : callN Hd.tt (n + 1) 13 ds A = if ds.length = 1 then runDef ⟨callN Hd.tt n, fun _ => none⟩ Hd.b13 ds A else .stuck := rfl
theorem call14 (n : Nat) (ds : List D) (A : List AO) : callN Hd.tt (n + 1) 14 ds A = if ds.length = 3 then runDef ⟨callN Hd.tt n, fun _ => none⟩ Hd.b14 ds A else .stuck := rfl
theorem call15 (n : Nat) (ds : List D) (A : List AO) : callN Hd.tt (n + 1) 15 ds A = if ds.length = 3 then runDef ⟨callN Hd.tt n, fun _ => none⟩ Hd.b15 ds A else .stuck := rfl
theorem call16 (n : Nat) (ds : List D) (A : List AO) : callN Hd.tt (n + 1) 16 ds A = if ds.length = 2 then runDef ⟨callN Hd.tt n, fun _ => none⟩ Hd.b16 ds A else .stuck := rfl
theorem call17 (n : Nat) (ds : List D) (A : List AO) : callN Hd.tt (n + 1) 17 ds A = if ds.length = 2 then runDef ⟨callN Hd.tt n, fun _ => none⟩ Hd.b17 ds A else .stuck := rfl
theorem call18 (n : Nat) (ds : List D) (A : List AO) : callN Hd.tt (n + 1) 18 ds A = if ds.length = 4 then runDef ⟨callN Hd.tt n, fun _ => none⟩ Hd.b18 ds A else .stuck := rfl
theorem call19 (n : Nat) (ds : List D) (A : List AO) : callN Hd.tt (n + 1) 19 ds A = if ds.length = 2 then runDef ⟨callN Hd.tt n, fun _ => none⟩ Hd.b19 ds A else .stuck := rfl
theorem call20 (n : Nat) (ds : List D) (A : List AO) : callN Hd.tt (n + 1) 20 ds A = if ds.length = 1 then runDef ⟨callN Hd.tt n, fun _ => none⟩ Hd.b20 ds A else .stuck := rfl
theorem call21 (n : Nat) (ds : List D) (A : List AO) : callN Hd.tt (n + 1) 21 ds A = if ds.length = 4 then runDef ⟨callN Hd.tt n, fun _ => none⟩ Hd.b21 ds A else .stuck := rfl
theorem call22 (n : Nat) (ds : List D) (A : List AO) : callN Hd.tt (n + 1) 22 ds A = if ds.length = 2 then runDef ⟨callN Hd.tt n, fun _ => none⟩ Hd.b22 ds A else .stuck := rfl
theorem call23 (n : Nat) (ds : List D) (A : List AO) : callN Hd.tt (n + 1) 23 ds A = if ds.length = 2 then runDef ⟨callN Hd.tt n, fun _ => none⟩ Hd.b23 ds A else .stuck := rfl
theorem call24 (n : Nat) (ds : List D) (A : List AO) : callN Hd.tt (n + 1) 24 ds A = if ds.length = 4 then runDef ⟨callN Hd.tt n, fun _ => none⟩ Hd.b24 ds A else .stuck := rfl
theorem call25 (n : Nat) (ds : List D) (A : List AO) : callN Hd.tt (n + 1) 25 ds A = if ds.length = 4 then runDef ⟨callN Hd.tt n, fun _ => none⟩ Hd.b25 ds A else .stuck := rfl
theorem call26 (n : Nat) (ds : List D) (A : List AO) : callN Hd.tt (n + 1) 26 ds A = if ds.length = 2 then runDef ⟨callN Hd.tt n, fun _ => none⟩ Hd.b26 ds A else .stuck := rfl
theorem call27 (n : Nat) (ds : List D) (A : List AO) : callN Hd.tt (n + 1) 27 ds A = if ds.length = 2 then runDef ⟨callN Hd.tt n, fun _ => none⟩ Hd.b27 ds A else .stuck := rfl
theorem call28 (n : Nat) (ds : List D) (A : List AO) : callN Hd.tt (n + 1) 28 ds A = if ds.length = 2 then runDef ⟨callN Hd.tt n, fun _ => none⟩ Hd.b28 ds A else .stuck := rfl
theorem call29 (n : Nat) (ds : List D) (A : List AO) : callN Hd.tt (n + 1) 29 ds A = if ds.length = 0 then runDef ⟨callN Hd.tt n, fun _ => none⟩ Hd.b29 ds A else .stuck := rfl
theorem call30 (n : Nat) (ds : List D) (A : List AO) : callN Hd.tt (n + 1) 30 ds A = if ds.length = 1 then runDef ⟨callN Hd.tt n, fun _ => none⟩ Hd.b30 ds A else .stuck := rfl
theorem call31 (n : Nat) (ds : List D) (A : List AO) : callN Hd.tt (n + 1) 31 ds A = if ds.length = 1 then runDef ⟨callN Hd.tt n, fun _ => none⟩ Hd.b31 ds A else .stuck := rfl
theorem call32 (n : Nat) (ds : List D) (A : List AO) : callN Hd.tt (n + 1) 32 ds A = if ds.length = 4 then runDef ⟨callN Hd.tt n, fun _ => none⟩ Hd.b32 ds A else .stuck := rfl
theorem call33 (n : Nat) (ds : List D) (A : List AO) : callN Hd.tt (n + 1) 33 ds A = if ds.length = 2 then runDef ⟨callN Hd.tt n, fun _ => none⟩ Hd.b33 ds A else .stuck := rfl
theorem call34 (n : Nat) (ds : List D) (A : List AO) : callN Hd.tt (n + 1) 34 ds A = if ds.length = 1 then runDef ⟨callN Hd.tt n, fun _ => none⟩ Hd.b34 ds A else .stuck := rfl
theorem call35 (n : Nat) (ds : List D) (A : List AO) : callN Hd.tt (n + 1) 35 ds A = if ds.length = 1 then runDef ⟨callN Hd.tt n, fun _ => none⟩ Hd.b35 ds A else .stuck := rfl

end Pl

set_option Elab.async false
set_option linter.all false
set_option maxRecDepth 100000
set_option maxHeartbeats 4000000
open PySem L2 IL
namespace Pl
structure Pz (n : Nat) (a b c : Int) : Prop where
  a0 : 0 ≤ a
  b0 : 0 ≤ b
  b1 : b < 2147483648
  c0 : 0 ≤ c
  c1 : c ≤ n
def pz (a b c : Int) : AO := .ls [.int a, .int b, .int c]
def mix (b c : Int) : Int := (b * 48271 + (c + 1) * (c + 1) * 30269 + 7) % 2147483629
def mix2 (b c : Int) : Int := (mix b c * (mix b c % 9973 + 20011) + (c + 1)) % 2147483587
theorem mix_eq (b c : Int) : (b * 48271 + (c + 1) * (c + 1) * 30269 + 7) % 2147483629 = mix b c := rfl
theorem mix2_eq (b c : Int) : (mix b c * (mix b c % 9973 + 20011) + (c + 1)) % 2147483587 = mix2 b c := rfl
theorem take_run {n p : Nat} {a b c many : Int} {A : List AO} (h : A[p]? = some (pz a b c)) (z : Pz n a b c) (hn : n < 1000000) (m0 : 0 < many) (m1 : many < 1000000) (k : Nat) :
    callN Hd.tt (k + 1) 28 [.ref p, .int many] A = if 0 < a then .ok (.int (a % many)) (A.set p (pz (a / many) (mix2 b c) (c + 1))) else .ok (.int (mix2 b c / 128 % many)) (A.set p (pz a (mix2 b c) (c + 1))) := by
  obtain ⟨a0, b0, b1, c0, c1⟩ := z
  have hp : p < A.length := (List.getElem?_eq_some_iff.mp h).1
  have x0 : 0 ≤ mix b c := Int.emod_nonneg _ (by decide)
  have x1 : mix b c < 2147483629 := Int.emod_lt_of_pos _ (by decide)
  have e1 : ∀ x y : AO, (A.set p x).set p y = A.set p y := fun x y => List.set_set ..
  have e2 : ∀ x : AO, (A.set p x)[p]? = some x := fun x => List.getElem?_set_self hp
  rw [call28]
  have c0' : c + 1 < 1000002 := by omega
  unfold pz at h ⊢
  by_cases ha : 0 < a
  · simp (disch := omega) only [Hd.b28, List.length_cons, List.length_nil, List.map_cons, List.map_nil, List.replicate, List.cons_append, List.nil_append, List.append_nil, Nat.reduceAdd, Nat.reduceSub, Nat.reduceLT, Nat.reduceLeDiff, if_true, if_false, Nat.zero_add, ↓reduceIte, and_self, startE, runDef_eq, outR_rt, outR_nx,
    evSs_cons, evSs_nil, kSeq_nx, kSeq_rt, kSeq_bk, kSeq_ct, evS_if, kIf_t, kIf_f, evS_ret, kRet, evS_ex, kEx, evS_retN, evS_brk, evS_cont, evS_pass, evS_asg, kAsg_def, asgR_some, asgT_nm, asgT_tu, asgT_tuL, asgTs_nil, asgTs_cons, asgC_some, evS_asgF, kAsgF_ok, cell_lst, cell_dK, cell_dT, evS_asgS, kAsgS, asgSR_some, kUpS, kNx, evS_par2, kPar2, kPar2b_def, evS_par3, kPar3, kPar3b, kPar3c_def,
    evS_tgS, kTg_tup, tgC_some, kTg2, kTg3_def, evS_app, appR_lst, kAppU, app_lst, lenL_ok, evS_aug, augB_fro, kAug, augE_some, augD_add, augD_sub, evS_augS, augS0_some, kAugS1, augS1_some, kAugS2, augS2_some, oldD_dT, oldD_lst, evS_for, kFor,
    ev_con, ev_var, varB_fro, varB_ownT, varB_ownF, give_lst, give_dK, give_dT, ev_bin, kBin1, kBin2, ev_neg, kNeg_int, ev_nt, kNt_bl, ev_cmp, kCmp1, kCmp2, ev_chain, kCh1, kCh2, kCh3_t, kCh3_f, ev_and, kAnd_t, kAnd_f, ev_or, kOr_t, kOr_f, ev_ite, kIte_t, kIte_f, ev_tup, kTup_def, kLen_ok, ev_lst, kLst_def, ev_dic0, ev_sub, kSub1, kSub2_def, ev_sli, kSli1, kSli2, kSli3, ev_rev, kRev, ev_call, kCall_def, callR_ok, callR_exc, ev_callP, kCallP, callP_some, ev_obj, kObj_lst, ev_dic1, kDic1, ev_dicT, kDicT1, kDicT2, dicTR_some, ev_bi, kBi, ev_mt, kMt1, kMt2, evs_nil, evs_cons, kCons1, kCons2, evO_no, evO_yes, kO_int, evT_nil, evT_cons, kT_t, kT_f, kT_nil,
    evI_seq, kSeqI, evI_rng1, kR1_ok, evI_rng2, kR2, kR2_ok, evI_rng3, kR3, kR3_ok, evI_enum, kEnum, ev_comp, kComp_def, kCe_def, wipe_nil, wipe_cons, back_nil, back_cons, ev_comp2, kComp2_def, Option.getD_some, Option.getD_none, bind_ok', bind_stuck', ofOpt_some, noexc_ok,
    look_def, lookB_own, lookB_ref, lookA_ls, up_def, upB_own, upB_ref, upO_some, upA_ls, upA2_some, List.getElem?_cons_zero, List.getElem?_cons_succ, List.getElem?_nil, List.set_cons_zero, List.set_cons_succ,
    derefD_tup, derefD_kt, derefD_lst, derefD_fl, derefD_dT, derefD_dF, derefD_dK, derefD_kd, derefD_ref, derefA_ls, at_0, at_1, at_2, at_3, at_4, sub_lst, sub_tup, sub_kt, sub_fl, set_0, set_1, set_2, Option.map_some, Option.map_none,
    bin_mulR, bin_mulL, bin_add, bin_sub, bin_mod, bin_addT, bin_addL, lenG_ok, bin_fdiv, divmod_ok, bi_int, bi_abs, bi_lenT, bi_lenL, bi_lenK, bi_lenF, bi_max2, bi_min2, bi_listL, bi_listT, bi_tupleL, bi_tupleT, bi_isi, all_cons_t, all_nil, isi_tup_non, isi_tup_bl, isi_tup_int, isi_tup_str, isi_tup_tup, isi_tup_kt, isi_tup_lst, isi_tup_dK, isi_tup_dT, isi_lst_non, isi_lst_bl, isi_lst_int, isi_lst_str, isi_lst_tup, isi_lst_kt, isi_lst_lst, isi_lst_dK, isi_lst_dT, isi_int_non, isi_int_bl, isi_int_int, isi_int_str, isi_int_tup, isi_int_kt, isi_int_lst, isi_int_dK, isi_int_dT, isi_bool_non, isi_bool_bl, isi_bool_int, isi_bool_str, isi_bool_tup, isi_bool_kt, isi_bool_lst, isi_bool_dK, isi_bool_dT, isi_str_non, isi_str_bl, isi_str_int, isi_str_str, isi_str_tup, isi_str_kt, isi_str_lst, isi_str_dK, isi_str_dT, isi_dict_non, isi_dict_bl, isi_dict_int, isi_dict_str, isi_dict_tup, isi_dict_kt, isi_dict_lst, isi_dict_dK, isi_dict_dT, isNonD, cmp_lt, cmp_le, cmp_gt, cmp_ge, cmp_eqI, cmp_neI, cmp_eqS, cmp_neS, cmp_isN, cmp_isnN, cmp_isB, cmp_isnB, Bool.not_true, Bool.not_false, h, mix_eq, mix2_eq, e1, e2, ha, decide_true]
  · simp (disch := omega) only [Hd.b28, List.length_cons, List.length_nil, List.map_cons, List.map_nil, List.replicate, List.cons_append, List.nil_append, List.append_nil, Nat.reduceAdd, Nat.reduceSub, Nat.reduceLT, Nat.reduceLeDiff, if_true, if_false, Nat.zero_add, ↓reduceIte, and_self, startE, runDef_eq, outR_rt, outR_nx,
    evSs_cons, evSs_nil, kSeq_nx, kSeq_rt, kSeq_bk, kSeq_ct, evS_if, kIf_t, kIf_f, evS_ret, kRet, evS_ex, kEx, evS_retN, evS_brk, evS_cont, evS_pass, evS_asg, kAsg_def, asgR_some, asgT_nm, asgT_tu, asgT_tuL, asgTs_nil, asgTs_cons, asgC_some, evS_asgF, kAsgF_ok, cell_lst, cell_dK, cell_dT, evS_asgS, kAsgS, asgSR_some, kUpS, kNx, evS_par2, kPar2, kPar2b_def, evS_par3, kPar3, kPar3b, kPar3c_def,
    evS_tgS, kTg_tup, tgC_some, kTg2, kTg3_def, evS_app, appR_lst, kAppU, app_lst, lenL_ok, evS_aug, augB_fro, kAug, augE_some, augD_add, augD_sub, evS_augS, augS0_some, kAugS1, augS1_some, kAugS2, augS2_some, oldD_dT, oldD_lst, evS_for, kFor,
    ev_con, ev_var, varB_fro, varB_ownT, varB_ownF, give_lst, give_dK, give_dT, ev_bin, kBin1, kBin2, ev_neg, kNeg_int, ev_nt, kNt_bl, ev_cmp, kCmp1, kCmp2, ev_chain, kCh1, kCh2, kCh3_t, kCh3_f, ev_and, kAnd_t, kAnd_f, ev_or, kOr_t, kOr_f, ev_ite, kIte_t, kIte_f, ev_tup, kTup_def, kLen_ok, ev_lst, kLst_def, ev_dic0, ev_sub, kSub1, kSub2_def, ev_sli, kSli1, kSli2, kSli3, ev_rev, kRev, ev_call, kCall_def, callR_ok, callR_exc, ev_callP, kCallP, callP_some, ev_obj, kObj_lst, ev_dic1, kDic1, ev_dicT, kDicT1, kDicT2, dicTR_some, ev_bi, kBi, ev_mt, kMt1, kMt2, evs_nil, evs_cons, kCons1, kCons2, evO_no, evO_yes, kO_int, evT_nil, evT_cons, kT_t, kT_f, kT_nil,
    evI_seq, kSeqI, evI_rng1, kR1_ok, evI_rng2, kR2, kR2_ok, evI_rng3, kR3, kR3_ok, evI_enum, kEnum, ev_comp, kComp_def, kCe_def, wipe_nil, wipe_cons, back_nil, back_cons, ev_comp2, kComp2_def, Option.getD_some, Option.getD_none, bind_ok', bind_stuck', ofOpt_some, noexc_ok,
    look_def, lookB_own, lookB_ref, lookA_ls, up_def, upB_own, upB_ref, upO_some, upA_ls, upA2_some, List.getElem?_cons_zero, List.getElem?_cons_succ, List.getElem?_nil, List.set_cons_zero, List.set_cons_succ,
    derefD_tup, derefD_kt, derefD_lst, derefD_fl, derefD_dT, derefD_dF, derefD_dK, derefD_kd, derefD_ref, derefA_ls, at_0, at_1, at_2, at_3, at_4, sub_lst, sub_tup, sub_kt, sub_fl, set_0, set_1, set_2, Option.map_some, Option.map_none,
    bin_mulR, bin_mulL, bin_add, bin_sub, bin_mod, bin_addT, bin_addL, lenG_ok, bin_fdiv, divmod_ok, bi_int, bi_abs, bi_lenT, bi_lenL, bi_lenK, bi_lenF, bi_max2, bi_min2, bi_listL, bi_listT, bi_tupleL, bi_tupleT, bi_isi, all_cons_t, all_nil, isi_tup_non, isi_tup_bl, isi_tup_int, isi_tup_str, isi_tup_tup, isi_tup_kt, isi_tup_lst, isi_tup_dK, isi_tup_dT, isi_lst_non, isi_lst_bl, isi_lst_int, isi_lst_str, isi_lst_tup, isi_lst_kt, isi_lst_lst, isi_lst_dK, isi_lst_dT, isi_int_non, isi_int_bl, isi_int_int, isi_int_str, isi_int_tup, isi_int_kt, isi_int_lst, isi_int_dK, isi_int_dT, isi_bool_non, isi_bool_bl, isi_bool_int, isi_bool_str, isi_bool_tup, isi_bool_kt, isi_bool_lst, isi_bool_dK, isi_bool_dT, isi_str_non, isi_str_bl, isi_str_int, isi_str_str, isi_str_tup, isi_str_kt, isi_str_lst, isi_str_dK, isi_str_dT, isi_dict_non, isi_dict_bl, isi_dict_int, isi_dict_str, isi_dict_tup, isi_dict_kt, isi_dict_lst, isi_dict_dK, isi_dict_dT, isNonD, cmp_lt, cmp_le, cmp_gt, cmp_ge, cmp_eqI, cmp_neI, cmp_eqS, cmp_neS, cmp_isN, cmp_isnN, cmp_isB, cmp_isnB, Bool.not_true, Bool.not_false, h, mix_eq, mix2_eq, e1, e2, ha, decide_false]
/-- a number that is drawn -/
theorem take_sp {n p : Nat} {a b c many : Int} {A : List AO} (h : A[p]? = some (pz a b c)) (z : Pz n a b c) (hn : n < 1000000) (m0 : 0 < many) (m1 : many < 1000000) (k : Nat) :
    ∃ t a' b' c', 0 ≤ t ∧ t < many ∧ Pz (n + 1) a' b' c' ∧ callN Hd.tt (k + 1) 28 [.ref p, .int many] A = .ok (.int t) (A.set p (pz a' b' c')) := by
  have e := take_run h z hn m0 m1 k
  obtain ⟨a0, b0, b1, c0, c1⟩ := z
  have y0 : 0 ≤ mix2 b c := Int.emod_nonneg _ (by decide)
  have y1 : mix2 b c < 2147483587 := Int.emod_lt_of_pos _ (by decide)
  by_cases ha : 0 < a
  · rw [if_pos ha] at e
    exact ⟨_, _, _, _, Int.emod_nonneg _ (by omega), Int.emod_lt_of_pos _ m0, ⟨Int.ediv_nonneg a0 (by omega), y0, by omega, by omega, by omega⟩, e⟩
  · rw [if_neg ha] at e
    exact ⟨_, _, _, _, Int.emod_nonneg _ (by omega), Int.emod_lt_of_pos _ m0, ⟨a0, y0, by omega, by omega, by omega⟩, e⟩
end Pl

set_option Elab.async false
set_option linter.all false
set_option maxRecDepth 100000
set_option maxHeartbeats 4000000
open PySem L2 IL
namespace Pl
theorem sli_fl (ds : List D) (h : Option Int) : sliD (.fl ds) none h = some (.lst (cutL ds none h)) := rfl
theorem cut_63 (ns : List Int) (h : ns.length ≤ 63) : cutL (ns.map D.int) none (some 63) = ns.map D.int := by
  have e : HT.sIx (ns.map D.int).length 0 none = 0 := rfl
  have e2 : (ns.map D.int).length ≤ HT.sIx (ns.map D.int).length (ns.map D.int).length (some 63) - 0 := by
    simp only [HT.sIx, List.length_map, show ¬ ((63 : Int) < 0) by decide, if_false]
    have : Int.toNat 63 = 63 := rfl
    omega
  unfold cutL
  rw [e, List.drop_zero, List.take_of_length_le e2]
theorem items_lst (ds : List D) : itemsD (.lst ds) = some ds := rfl
theorem bin_powI {i j : Int} (h0 : 0 ≤ j) (h1 : j ≤ 1000000) (h2 : i.natAbs < 2 ^ 64) : binD .pow (.int i) (.int j) = some (.int (i ^ j.toNat)) := by simp [binD, h0, h1, h2]
theorem pow18 : binD .pow (.int 10) (.int 18) = some (.int 1000000000000000000) := by
  rw [bin_powI (by decide) (by decide) (by decide)]
  rfl
/-- the seed's loop -/
theorem seed_loop (cx : ECx) (e0 e1 e2 e5 : Option B) (A : List AO) : ∀ (ns : List Int) (e4 : Option B) (s : Int), 0 ≤ s → s < 2147483648 → ∃ e4' s', 0 ≤ s' ∧ s' < 2147483648 ∧
    forLoop (kForF cx (.nm 4) (.cons (.asg (.nm 3) (.bin .mod (.bi .int (.cons (.bin .add (.bin .add (.bin .mul (.var 3) (.con (.int 39373))) (.bin .mod (.bi .int (.cons (.var 4) .nil)) (.con (.int 2147483629)))) (.con (.int 1))) .nil)) (.con (.int 2147483629)))) .nil)) (ns.map D.int) ⟨[e0, e1, e2, some (.fro (.int s)), e4, e5], A⟩ = .ok .nx ⟨[e0, e1, e2, some (.fro (.int s')), e4', e5], A⟩
  | [], e4, s, h0, h1 => ⟨e4, s, h0, h1, rfl⟩
  | n :: ns, e4, s, h0, h1 => by
    simp (disch := omega) only [List.length_cons, List.length_nil, List.map_cons, List.map_nil, List.replicate, List.cons_append, List.nil_append, List.append_nil, Nat.reduceAdd, Nat.reduceSub, Nat.reduceLT, Nat.reduceLeDiff, if_true, if_false, Nat.zero_add, ↓reduceIte, and_self, startE, runDef_eq, outR_rt, outR_nx,
    evSs_cons, evSs_nil, kSeq_nx, kSeq_rt, kSeq_bk, kSeq_ct, evS_if, kIf_t, kIf_f, evS_ret, kRet, evS_ex, kEx, evS_retN, evS_brk, evS_cont, evS_pass, evS_asg, kAsg_def, asgR_some, asgT_nm, asgT_tu, asgT_tuL, asgTs_nil, asgTs_cons, asgC_some, evS_asgF, kAsgF_ok, cell_lst, cell_dK, cell_dT, evS_asgS, kAsgS, asgSR_some, kUpS, kNx, evS_par2, kPar2, kPar2b_def, evS_par3, kPar3, kPar3b, kPar3c_def,
    evS_tgS, kTg_tup, tgC_some, kTg2, kTg3_def, evS_app, appR_lst, kAppU, app_lst, lenL_ok, evS_aug, augB_fro, kAug, augE_some, augD_add, augD_sub, evS_augS, augS0_some, kAugS1, augS1_some, kAugS2, augS2_some, oldD_dT, oldD_lst, evS_for, kFor,
    ev_con, ev_var, varB_fro, varB_ownT, varB_ownF, give_lst, give_dK, give_dT, ev_bin, kBin1, kBin2, ev_neg, kNeg_int, ev_nt, kNt_bl, ev_cmp, kCmp1, kCmp2, ev_chain, kCh1, kCh2, kCh3_t, kCh3_f, ev_and, kAnd_t, kAnd_f, ev_or, kOr_t, kOr_f, ev_ite, kIte_t, kIte_f, ev_tup, kTup_def, kLen_ok, ev_lst, kLst_def, ev_dic0, ev_sub, kSub1, kSub2_def, ev_sli, kSli1, kSli2, kSli3, ev_rev, kRev, ev_call, kCall_def, callR_ok, callR_exc, ev_callP, kCallP, callP_some, ev_obj, kObj_lst, ev_dic1, kDic1, ev_dicT, kDicT1, kDicT2, dicTR_some, ev_bi, kBi, ev_mt, kMt1, kMt2, evs_nil, evs_cons, kCons1, kCons2, evO_no, evO_yes, kO_int, evT_nil, evT_cons, kT_t, kT_f, kT_nil,
    evI_seq, kSeqI, evI_rng1, kR1_ok, evI_rng2, kR2, kR2_ok, evI_rng3, kR3, kR3_ok, evI_enum, kEnum, ev_comp, kComp_def, kCe_def, wipe_nil, wipe_cons, back_nil, back_cons, ev_comp2, kComp2_def, Option.getD_some, Option.getD_none, bind_ok', bind_stuck', ofOpt_some, noexc_ok,
    look_def, lookB_own, lookB_ref, lookA_ls, up_def, upB_own, upB_ref, upO_some, upA_ls, upA2_some, List.getElem?_cons_zero, List.getElem?_cons_succ, List.getElem?_nil, List.set_cons_zero, List.set_cons_succ,
    derefD_tup, derefD_kt, derefD_lst, derefD_fl, derefD_dT, derefD_dF, derefD_dK, derefD_kd, derefD_ref, derefA_ls, at_0, at_1, at_2, at_3, at_4, sub_lst, sub_tup, sub_kt, sub_fl, set_0, set_1, set_2, Option.map_some, Option.map_none,
    bin_mulR, bin_mulL, bin_add, bin_sub, bin_mod, bin_addT, bin_addL, lenG_ok, bin_fdiv, divmod_ok, bi_int, bi_abs, bi_lenT, bi_lenL, bi_lenK, bi_lenF, bi_max2, bi_min2, bi_listL, bi_listT, bi_tupleL, bi_tupleT, bi_isi, all_cons_t, all_nil, isi_tup_non, isi_tup_bl, isi_tup_int, isi_tup_str, isi_tup_tup, isi_tup_kt, isi_tup_lst, isi_tup_dK, isi_tup_dT, isi_lst_non, isi_lst_bl, isi_lst_int, isi_lst_str, isi_lst_tup, isi_lst_kt, isi_lst_lst, isi_lst_dK, isi_lst_dT, isi_int_non, isi_int_bl, isi_int_int, isi_int_str, isi_int_tup, isi_int_kt, isi_int_lst, isi_int_dK, isi_int_dT, isi_bool_non, isi_bool_bl, isi_bool_int, isi_bool_str, isi_bool_tup, isi_bool_kt, isi_bool_lst, isi_bool_dK, isi_bool_dT, isi_str_non, isi_str_bl, isi_str_int, isi_str_str, isi_str_tup, isi_str_kt, isi_str_lst, isi_str_dK, isi_str_dT, isi_dict_non, isi_dict_bl, isi_dict_int, isi_dict_str, isi_dict_tup, isi_dict_kt, isi_dict_lst, isi_dict_dK, isi_dict_dT, isNonD, cmp_lt, cmp_le, cmp_gt, cmp_ge, cmp_eqI, cmp_neI, cmp_eqS, cmp_neS, cmp_isN, cmp_isnN, cmp_isB, cmp_isnB, Bool.not_true, Bool.not_false, for_cons, kForF_def, forB_some, kFl_nx]
    exact seed_loop cx e0 e1 e2 e5 A ns _ _ (Int.emod_nonneg _ (by decide)) (by
      have := Int.emod_lt_of_pos (s * 39373 + n % 2147483629 + 1) (show (0 : Int) < 2147483629 by decide)
      omega)
theorem purse_sp (ns : List Int) (hl : ns.length ≤ 63) (j : Int) (j0 : 0 ≤ j) (j1 : j ≤ 1000) (A : List AO) (k : Nat) :
    ∃ a b, Pz 0 a b 0 ∧ callN Hd.tt (k + 1) 27 [.fl (ns.map .int), .int j] A = .ok (.ref A.length) (A ++ [pz a b 0]) := by
  rw [call27]
  have own : ∃ o : Int, ev ⟨callN Hd.tt k, fun _ => none⟩ false (.ite (.cmp .lt (.var 1) (.bi .len (.cons (.var 0) .nil))) (.bi .int (.cons (.sub (.var 0) (.var 1)) .nil)) (.bin .add (.bin .mul (.con (.int 7001)) (.var 1)) (.con (.int 613)))) ⟨[some (.fro (.fl (ns.map .int))), some (.fro (.int j)), none, none, none, none], A⟩ = .ok (.int o) ⟨[some (.fro (.fl (ns.map .int))), some (.fro (.int j)), none, none, none, none], A⟩ := by
    by_cases h : j < ns.length
    · have hj : j.toNat < ns.length := by omega
      refine ⟨ns[j.toNat], ?_⟩
      have e : atD (ns.map D.int) j = some (.int ns[j.toNat]) := by
        rw [at_nat j0, List.getElem?_map, List.getElem?_eq_getElem hj]
        rfl
      simp (disch := omega) only [List.length_cons, List.length_nil, List.map_cons, List.map_nil, List.replicate, List.cons_append, List.nil_append, List.append_nil, Nat.reduceAdd, Nat.reduceSub, Nat.reduceLT, Nat.reduceLeDiff, if_true, if_false, Nat.zero_add, ↓reduceIte, and_self, startE, runDef_eq, outR_rt, outR_nx,
    evSs_cons, evSs_nil, kSeq_nx, kSeq_rt, kSeq_bk, kSeq_ct, evS_if, kIf_t, kIf_f, evS_ret, kRet, evS_ex, kEx, evS_retN, evS_brk, evS_cont, evS_pass, evS_asg, kAsg_def, asgR_some, asgT_nm, asgT_tu, asgT_tuL, asgTs_nil, asgTs_cons, asgC_some, evS_asgF, kAsgF_ok, cell_lst, cell_dK, cell_dT, evS_asgS, kAsgS, asgSR_some, kUpS, kNx, evS_par2, kPar2, kPar2b_def, evS_par3, kPar3, kPar3b, kPar3c_def,
    evS_tgS, kTg_tup, tgC_some, kTg2, kTg3_def, evS_app, appR_lst, kAppU, app_lst, lenL_ok, evS_aug, augB_fro, kAug, augE_some, augD_add, augD_sub, evS_augS, augS0_some, kAugS1, augS1_some, kAugS2, augS2_some, oldD_dT, oldD_lst, evS_for, kFor,
    ev_con, ev_var, varB_fro, varB_ownT, varB_ownF, give_lst, give_dK, give_dT, ev_bin, kBin1, kBin2, ev_neg, kNeg_int, ev_nt, kNt_bl, ev_cmp, kCmp1, kCmp2, ev_chain, kCh1, kCh2, kCh3_t, kCh3_f, ev_and, kAnd_t, kAnd_f, ev_or, kOr_t, kOr_f, ev_ite, kIte_t, kIte_f, ev_tup, kTup_def, kLen_ok, ev_lst, kLst_def, ev_dic0, ev_sub, kSub1, kSub2_def, ev_sli, kSli1, kSli2, kSli3, ev_rev, kRev, ev_call, kCall_def, callR_ok, callR_exc, ev_callP, kCallP, callP_some, ev_obj, kObj_lst, ev_dic1, kDic1, ev_dicT, kDicT1, kDicT2, dicTR_some, ev_bi, kBi, ev_mt, kMt1, kMt2, evs_nil, evs_cons, kCons1, kCons2, evO_no, evO_yes, kO_int, evT_nil, evT_cons, kT_t, kT_f, kT_nil,
    evI_seq, kSeqI, evI_rng1, kR1_ok, evI_rng2, kR2, kR2_ok, evI_rng3, kR3, kR3_ok, evI_enum, kEnum, ev_comp, kComp_def, kCe_def, wipe_nil, wipe_cons, back_nil, back_cons, ev_comp2, kComp2_def, Option.getD_some, Option.getD_none, bind_ok', bind_stuck', ofOpt_some, noexc_ok,
    look_def, lookB_own, lookB_ref, lookA_ls, up_def, upB_own, upB_ref, upO_some, upA_ls, upA2_some, List.getElem?_cons_zero, List.getElem?_cons_succ, List.getElem?_nil, List.set_cons_zero, List.set_cons_succ,
    derefD_tup, derefD_kt, derefD_lst, derefD_fl, derefD_dT, derefD_dF, derefD_dK, derefD_kd, derefD_ref, derefA_ls, at_0, at_1, at_2, at_3, at_4, sub_lst, sub_tup, sub_kt, sub_fl, set_0, set_1, set_2, Option.map_some, Option.map_none,
    bin_mulR, bin_mulL, bin_add, bin_sub, bin_mod, bin_addT, bin_addL, lenG_ok, bin_fdiv, divmod_ok, bi_int, bi_abs, bi_lenT, bi_lenL, bi_lenK, bi_lenF, bi_max2, bi_min2, bi_listL, bi_listT, bi_tupleL, bi_tupleT, bi_isi, all_cons_t, all_nil, isi_tup_non, isi_tup_bl, isi_tup_int, isi_tup_str, isi_tup_tup, isi_tup_kt, isi_tup_lst, isi_tup_dK, isi_tup_dT, isi_lst_non, isi_lst_bl, isi_lst_int, isi_lst_str, isi_lst_tup, isi_lst_kt, isi_lst_lst, isi_lst_dK, isi_lst_dT, isi_int_non, isi_int_bl, isi_int_int, isi_int_str, isi_int_tup, isi_int_kt, isi_int_lst, isi_int_dK, isi_int_dT, isi_bool_non, isi_bool_bl, isi_bool_int, isi_bool_str, isi_bool_tup, isi_bool_kt, isi_bool_lst, isi_bool_dK, isi_bool_dT, isi_str_non, isi_str_bl, isi_str_int, isi_str_str, isi_str_tup, isi_str_kt, isi_str_lst, isi_str_dK, isi_str_dT, isi_dict_non, isi_dict_bl, isi_dict_int, isi_dict_str, isi_dict_tup, isi_dict_kt, isi_dict_lst, isi_dict_dK, isi_dict_dT, isNonD, cmp_lt, cmp_le, cmp_gt, cmp_ge, cmp_eqI, cmp_neI, cmp_eqS, cmp_neS, cmp_isN, cmp_isnN, cmp_isB, cmp_isnB, Bool.not_true, Bool.not_false, List.length_map, h, decide_true, e]
    · refine ⟨7001 * j + 613, ?_⟩
      simp (disch := omega) only [List.length_cons, List.length_nil, List.map_cons, List.map_nil, List.replicate, List.cons_append, List.nil_append, List.append_nil, Nat.reduceAdd, Nat.reduceSub, Nat.reduceLT, Nat.reduceLeDiff, if_true, if_false, Nat.zero_add, ↓reduceIte, and_self, startE, runDef_eq, outR_rt, outR_nx,
    evSs_cons, evSs_nil, kSeq_nx, kSeq_rt, kSeq_bk, kSeq_ct, evS_if, kIf_t, kIf_f, evS_ret, kRet, evS_ex, kEx, evS_retN, evS_brk, evS_cont, evS_pass, evS_asg, kAsg_def, asgR_some, asgT_nm, asgT_tu, asgT_tuL, asgTs_nil, asgTs_cons, asgC_some, evS_asgF, kAsgF_ok, cell_lst, cell_dK, cell_dT, evS_asgS, kAsgS, asgSR_some, kUpS, kNx, evS_par2, kPar2, kPar2b_def, evS_par3, kPar3, kPar3b, kPar3c_def,
    evS_tgS, kTg_tup, tgC_some, kTg2, kTg3_def, evS_app, appR_lst, kAppU, app_lst, lenL_ok, evS_aug, augB_fro, kAug, augE_some, augD_add, augD_sub, evS_augS, augS0_some, kAugS1, augS1_some, kAugS2, augS2_some, oldD_dT, oldD_lst, evS_for, kFor,
    ev_con, ev_var, varB_fro, varB_ownT, varB_ownF, give_lst, give_dK, give_dT, ev_bin, kBin1, kBin2, ev_neg, kNeg_int, ev_nt, kNt_bl, ev_cmp, kCmp1, kCmp2, ev_chain, kCh1, kCh2, kCh3_t, kCh3_f, ev_and, kAnd_t, kAnd_f, ev_or, kOr_t, kOr_f, ev_ite, kIte_t, kIte_f, ev_tup, kTup_def, kLen_ok, ev_lst, kLst_def, ev_dic0, ev_sub, kSub1, kSub2_def, ev_sli, kSli1, kSli2, kSli3, ev_rev, kRev, ev_call, kCall_def, callR_ok, callR_exc, ev_callP, kCallP, callP_some, ev_obj, kObj_lst, ev_dic1, kDic1, ev_dicT, kDicT1, kDicT2, dicTR_some, ev_bi, kBi, ev_mt, kMt1, kMt2, evs_nil, evs_cons, kCons1, kCons2, evO_no, evO_yes, kO_int, evT_nil, evT_cons, kT_t, kT_f, kT_nil,
    evI_seq, kSeqI, evI_rng1, kR1_ok, evI_rng2, kR2, kR2_ok, evI_rng3, kR3, kR3_ok, evI_enum, kEnum, ev_comp, kComp_def, kCe_def, wipe_nil, wipe_cons, back_nil, back_cons, ev_comp2, kComp2_def, Option.getD_some, Option.getD_none, bind_ok', bind_stuck', ofOpt_some, noexc_ok,
    look_def, lookB_own, lookB_ref, lookA_ls, up_def, upB_own, upB_ref, upO_some, upA_ls, upA2_some, List.getElem?_cons_zero, List.getElem?_cons_succ, List.getElem?_nil, List.set_cons_zero, List.set_cons_succ,
    derefD_tup, derefD_kt, derefD_lst, derefD_fl, derefD_dT, derefD_dF, derefD_dK, derefD_kd, derefD_ref, derefA_ls, at_0, at_1, at_2, at_3, at_4, sub_lst, sub_tup, sub_kt, sub_fl, set_0, set_1, set_2, Option.map_some, Option.map_none,
    bin_mulR, bin_mulL, bin_add, bin_sub, bin_mod, bin_addT, bin_addL, lenG_ok, bin_fdiv, divmod_ok, bi_int, bi_abs, bi_lenT, bi_lenL, bi_lenK, bi_lenF, bi_max2, bi_min2, bi_listL, bi_listT, bi_tupleL, bi_tupleT, bi_isi, all_cons_t, all_nil, isi_tup_non, isi_tup_bl, isi_tup_int, isi_tup_str, isi_tup_tup, isi_tup_kt, isi_tup_lst, isi_tup_dK, isi_tup_dT, isi_lst_non, isi_lst_bl, isi_lst_int, isi_lst_str, isi_lst_tup, isi_lst_kt, isi_lst_lst, isi_lst_dK, isi_lst_dT, isi_int_non, isi_int_bl, isi_int_int, isi_int_str, isi_int_tup, isi_int_kt, isi_int_lst, isi_int_dK, isi_int_dT, isi_bool_non, isi_bool_bl, isi_bool_int, isi_bool_str, isi_bool_tup, isi_bool_kt, isi_bool_lst, isi_bool_dK, isi_bool_dT, isi_str_non, isi_str_bl, isi_str_int, isi_str_str, isi_str_tup, isi_str_kt, isi_str_lst, isi_str_dK, isi_str_dT, isi_dict_non, isi_dict_bl, isi_dict_int, isi_dict_str, isi_dict_tup, isi_dict_kt, isi_dict_lst, isi_dict_dK, isi_dict_dT, isNonD, cmp_lt, cmp_le, cmp_gt, cmp_ge, cmp_eqI, cmp_neI, cmp_eqS, cmp_neS, cmp_isN, cmp_isnN, cmp_isB, cmp_isnB, Bool.not_true, Bool.not_false, List.length_map, h, decide_false]
  obtain ⟨o, eo⟩ := own
  simp (disch := omega) only [Hd.b27, List.length_cons, List.length_nil, List.map_cons, List.map_nil, List.replicate, List.cons_append, List.nil_append, List.append_nil, Nat.reduceAdd, Nat.reduceSub, Nat.reduceLT, Nat.reduceLeDiff, if_true, if_false, Nat.zero_add, ↓reduceIte, and_self, startE, runDef_eq, outR_rt, outR_nx,
    evSs_cons, evSs_nil, kSeq_nx, kSeq_rt, kSeq_bk, kSeq_ct, evS_if, kIf_t, kIf_f, evS_ret, kRet, evS_ex, kEx, evS_retN, evS_brk, evS_cont, evS_pass, evS_asg, kAsg_def, asgR_some, asgT_nm, asgT_tu, asgT_tuL, asgTs_nil, asgTs_cons, asgC_some, evS_asgF, kAsgF_ok, cell_lst, cell_dK, cell_dT, evS_asgS, kAsgS, asgSR_some, kUpS, kNx, evS_par2, kPar2, kPar2b_def, evS_par3, kPar3, kPar3b, kPar3c_def,
    evS_tgS, kTg_tup, tgC_some, kTg2, kTg3_def, evS_app, appR_lst, kAppU, app_lst, lenL_ok, evS_aug, augB_fro, kAug, augE_some, augD_add, augD_sub, evS_augS, augS0_some, kAugS1, augS1_some, kAugS2, augS2_some, oldD_dT, oldD_lst, evS_for, kFor,
    ev_con, ev_var, varB_fro, varB_ownT, varB_ownF, give_lst, give_dK, give_dT, ev_bin, kBin1, kBin2, ev_neg, kNeg_int, ev_nt, kNt_bl, ev_cmp, kCmp1, kCmp2, ev_chain, kCh1, kCh2, kCh3_t, kCh3_f, ev_and, kAnd_t, kAnd_f, ev_or, kOr_t, kOr_f, ev_ite, kIte_t, kIte_f, ev_tup, kTup_def, kLen_ok, ev_lst, kLst_def, ev_dic0, ev_sub, kSub1, kSub2_def, ev_sli, kSli1, kSli2, kSli3, ev_rev, kRev, ev_call, kCall_def, callR_ok, callR_exc, ev_callP, kCallP, callP_some, ev_obj, kObj_lst, ev_dic1, kDic1, ev_dicT, kDicT1, kDicT2, dicTR_some, ev_bi, kBi, ev_mt, kMt1, kMt2, evs_nil, evs_cons, kCons1, kCons2, evO_no, evO_yes, kO_int, evT_nil, evT_cons, kT_t, kT_f, kT_nil,
    evI_seq, kSeqI, evI_rng1, kR1_ok, evI_rng2, kR2, kR2_ok, evI_rng3, kR3, kR3_ok, evI_enum, kEnum, ev_comp, kComp_def, kCe_def, wipe_nil, wipe_cons, back_nil, back_cons, ev_comp2, kComp2_def, Option.getD_some, Option.getD_none, bind_ok', bind_stuck', ofOpt_some, noexc_ok,
    look_def, lookB_own, lookB_ref, lookA_ls, up_def, upB_own, upB_ref, upO_some, upA_ls, upA2_some, List.getElem?_cons_zero, List.getElem?_cons_succ, List.getElem?_nil, List.set_cons_zero, List.set_cons_succ,
    derefD_tup, derefD_kt, derefD_lst, derefD_fl, derefD_dT, derefD_dF, derefD_dK, derefD_kd, derefD_ref, derefA_ls, at_0, at_1, at_2, at_3, at_4, sub_lst, sub_tup, sub_kt, sub_fl, set_0, set_1, set_2, Option.map_some, Option.map_none,
    bin_mulR, bin_mulL, bin_add, bin_sub, bin_mod, bin_addT, bin_addL, lenG_ok, bin_fdiv, divmod_ok, bi_int, bi_abs, bi_lenT, bi_lenL, bi_lenK, bi_lenF, bi_max2, bi_min2, bi_listL, bi_listT, bi_tupleL, bi_tupleT, bi_isi, all_cons_t, all_nil, isi_tup_non, isi_tup_bl, isi_tup_int, isi_tup_str, isi_tup_tup, isi_tup_kt, isi_tup_lst, isi_tup_dK, isi_tup_dT, isi_lst_non, isi_lst_bl, isi_lst_int, isi_lst_str, isi_lst_tup, isi_lst_kt, isi_lst_lst, isi_lst_dK, isi_lst_dT, isi_int_non, isi_int_bl, isi_int_int, isi_int_str, isi_int_tup, isi_int_kt, isi_int_lst, isi_int_dK, isi_int_dT, isi_bool_non, isi_bool_bl, isi_bool_int, isi_bool_str, isi_bool_tup, isi_bool_kt, isi_bool_lst, isi_bool_dK, isi_bool_dT, isi_str_non, isi_str_bl, isi_str_int, isi_str_str, isi_str_tup, isi_str_kt, isi_str_lst, isi_str_dK, isi_str_dT, isi_dict_non, isi_dict_bl, isi_dict_int, isi_dict_str, isi_dict_tup, isi_dict_kt, isi_dict_lst, isi_dict_dK, isi_dict_dT, isNonD, cmp_lt, cmp_le, cmp_gt, cmp_ge, cmp_eqI, cmp_neI, cmp_eqS, cmp_neS, cmp_isN, cmp_isnN, cmp_isB, cmp_isnB, Bool.not_true, Bool.not_false, eo, sli_fl, cut_63 ns hl, items_lst]
  obtain ⟨e4, s, s0, s1, es⟩ := seed_loop ⟨callN Hd.tt k, fun _ => none⟩ (some (.fro (.fl (ns.map .int)))) (some (.fro (.int j))) (some (.fro (.int o))) none A ns none (52391 + 1009 * j) (by omega) (by omega)
  have z1 := Int.emod_nonneg (s * 48271 + o % 2147483629) (show (2147483629 : Int) ≠ 0 by decide)
  have z2 := Int.emod_lt_of_pos (s * 48271 + o % 2147483629) (show (0 : Int) < 2147483629 by decide)
  by_cases h1 : o < 0
  · refine ⟨-o, _, ⟨by omega, z1, by omega, by omega, by omega⟩, ?_⟩
    simp (disch := omega) only [List.length_cons, List.length_nil, List.map_cons, List.map_nil, List.replicate, List.cons_append, List.nil_append, List.append_nil, Nat.reduceAdd, Nat.reduceSub, Nat.reduceLT, Nat.reduceLeDiff, if_true, if_false, Nat.zero_add, ↓reduceIte, and_self, startE, runDef_eq, outR_rt, outR_nx,
    evSs_cons, evSs_nil, kSeq_nx, kSeq_rt, kSeq_bk, kSeq_ct, evS_if, kIf_t, kIf_f, evS_ret, kRet, evS_ex, kEx, evS_retN, evS_brk, evS_cont, evS_pass, evS_asg, kAsg_def, asgR_some, asgT_nm, asgT_tu, asgT_tuL, asgTs_nil, asgTs_cons, asgC_some, evS_asgF, kAsgF_ok, cell_lst, cell_dK, cell_dT, evS_asgS, kAsgS, asgSR_some, kUpS, kNx, evS_par2, kPar2, kPar2b_def, evS_par3, kPar3, kPar3b, kPar3c_def,
    evS_tgS, kTg_tup, tgC_some, kTg2, kTg3_def, evS_app, appR_lst, kAppU, app_lst, lenL_ok, evS_aug, augB_fro, kAug, augE_some, augD_add, augD_sub, evS_augS, augS0_some, kAugS1, augS1_some, kAugS2, augS2_some, oldD_dT, oldD_lst, evS_for, kFor,
    ev_con, ev_var, varB_fro, varB_ownT, varB_ownF, give_lst, give_dK, give_dT, ev_bin, kBin1, kBin2, ev_neg, kNeg_int, ev_nt, kNt_bl, ev_cmp, kCmp1, kCmp2, ev_chain, kCh1, kCh2, kCh3_t, kCh3_f, ev_and, kAnd_t, kAnd_f, ev_or, kOr_t, kOr_f, ev_ite, kIte_t, kIte_f, ev_tup, kTup_def, kLen_ok, ev_lst, kLst_def, ev_dic0, ev_sub, kSub1, kSub2_def, ev_sli, kSli1, kSli2, kSli3, ev_rev, kRev, ev_call, kCall_def, callR_ok, callR_exc, ev_callP, kCallP, callP_some, ev_obj, kObj_lst, ev_dic1, kDic1, ev_dicT, kDicT1, kDicT2, dicTR_some, ev_bi, kBi, ev_mt, kMt1, kMt2, evs_nil, evs_cons, kCons1, kCons2, evO_no, evO_yes, kO_int, evT_nil, evT_cons, kT_t, kT_f, kT_nil,
    evI_seq, kSeqI, evI_rng1, kR1_ok, evI_rng2, kR2, kR2_ok, evI_rng3, kR3, kR3_ok, evI_enum, kEnum, ev_comp, kComp_def, kCe_def, wipe_nil, wipe_cons, back_nil, back_cons, ev_comp2, kComp2_def, Option.getD_some, Option.getD_none, bind_ok', bind_stuck', ofOpt_some, noexc_ok,
    look_def, lookB_own, lookB_ref, lookA_ls, up_def, upB_own, upB_ref, upO_some, upA_ls, upA2_some, List.getElem?_cons_zero, List.getElem?_cons_succ, List.getElem?_nil, List.set_cons_zero, List.set_cons_succ,
    derefD_tup, derefD_kt, derefD_lst, derefD_fl, derefD_dT, derefD_dF, derefD_dK, derefD_kd, derefD_ref, derefA_ls, at_0, at_1, at_2, at_3, at_4, sub_lst, sub_tup, sub_kt, sub_fl, set_0, set_1, set_2, Option.map_some, Option.map_none,
    bin_mulR, bin_mulL, bin_add, bin_sub, bin_mod, bin_addT, bin_addL, lenG_ok, bin_fdiv, divmod_ok, bi_int, bi_abs, bi_lenT, bi_lenL, bi_lenK, bi_lenF, bi_max2, bi_min2, bi_listL, bi_listT, bi_tupleL, bi_tupleT, bi_isi, all_cons_t, all_nil, isi_tup_non, isi_tup_bl, isi_tup_int, isi_tup_str, isi_tup_tup, isi_tup_kt, isi_tup_lst, isi_tup_dK, isi_tup_dT, isi_lst_non, isi_lst_bl, isi_lst_int, isi_lst_str, isi_lst_tup, isi_lst_kt, isi_lst_lst, isi_lst_dK, isi_lst_dT, isi_int_non, isi_int_bl, isi_int_int, isi_int_str, isi_int_tup, isi_int_kt, isi_int_lst, isi_int_dK, isi_int_dT, isi_bool_non, isi_bool_bl, isi_bool_int, isi_bool_str, isi_bool_tup, isi_bool_kt, isi_bool_lst, isi_bool_dK, isi_bool_dT, isi_str_non, isi_str_bl, isi_str_int, isi_str_str, isi_str_tup, isi_str_kt, isi_str_lst, isi_str_dK, isi_str_dT, isi_dict_non, isi_dict_bl, isi_dict_int, isi_dict_str, isi_dict_tup, isi_dict_kt, isi_dict_lst, isi_dict_dK, isi_dict_dT, isNonD, cmp_lt, cmp_le, cmp_gt, cmp_ge, cmp_eqI, cmp_neI, cmp_eqS, cmp_neS, cmp_isN, cmp_isnN, cmp_isB, cmp_isnB, Bool.not_true, Bool.not_false, es, h1, decide_true, pz]
  · by_cases h2 : (1000000000000000000 : Int) ≤ o
    · refine ⟨o, _, ⟨by omega, z1, by omega, by omega, by omega⟩, ?_⟩
      simp (disch := omega) only [List.length_cons, List.length_nil, List.map_cons, List.map_nil, List.replicate, List.cons_append, List.nil_append, List.append_nil, Nat.reduceAdd, Nat.reduceSub, Nat.reduceLT, Nat.reduceLeDiff, if_true, if_false, Nat.zero_add, ↓reduceIte, and_self, startE, runDef_eq, outR_rt, outR_nx,
    evSs_cons, evSs_nil, kSeq_nx, kSeq_rt, kSeq_bk, kSeq_ct, evS_if, kIf_t, kIf_f, evS_ret, kRet, evS_ex, kEx, evS_retN, evS_brk, evS_cont, evS_pass, evS_asg, kAsg_def, asgR_some, asgT_nm, asgT_tu, asgT_tuL, asgTs_nil, asgTs_cons, asgC_some, evS_asgF, kAsgF_ok, cell_lst, cell_dK, cell_dT, evS_asgS, kAsgS, asgSR_some, kUpS, kNx, evS_par2, kPar2, kPar2b_def, evS_par3, kPar3, kPar3b, kPar3c_def,
    evS_tgS, kTg_tup, tgC_some, kTg2, kTg3_def, evS_app, appR_lst, kAppU, app_lst, lenL_ok, evS_aug, augB_fro, kAug, augE_some, augD_add, augD_sub, evS_augS, augS0_some, kAugS1, augS1_some, kAugS2, augS2_some, oldD_dT, oldD_lst, evS_for, kFor,
    ev_con, ev_var, varB_fro, varB_ownT, varB_ownF, give_lst, give_dK, give_dT, ev_bin, kBin1, kBin2, ev_neg, kNeg_int, ev_nt, kNt_bl, ev_cmp, kCmp1, kCmp2, ev_chain, kCh1, kCh2, kCh3_t, kCh3_f, ev_and, kAnd_t, kAnd_f, ev_or, kOr_t, kOr_f, ev_ite, kIte_t, kIte_f, ev_tup, kTup_def, kLen_ok, ev_lst, kLst_def, ev_dic0, ev_sub, kSub1, kSub2_def, ev_sli, kSli1, kSli2, kSli3, ev_rev, kRev, ev_call, kCall_def, callR_ok, callR_exc, ev_callP, kCallP, callP_some, ev_obj, kObj_lst, ev_dic1, kDic1, ev_dicT, kDicT1, kDicT2, dicTR_some, ev_bi, kBi, ev_mt, kMt1, kMt2, evs_nil, evs_cons, kCons1, kCons2, evO_no, evO_yes, kO_int, evT_nil, evT_cons, kT_t, kT_f, kT_nil,
    evI_seq, kSeqI, evI_rng1, kR1_ok, evI_rng2, kR2, kR2_ok, evI_rng3, kR3, kR3_ok, evI_enum, kEnum, ev_comp, kComp_def, kCe_def, wipe_nil, wipe_cons, back_nil, back_cons, ev_comp2, kComp2_def, Option.getD_some, Option.getD_none, bind_ok', bind_stuck', ofOpt_some, noexc_ok,
    look_def, lookB_own, lookB_ref, lookA_ls, up_def, upB_own, upB_ref, upO_some, upA_ls, upA2_some, List.getElem?_cons_zero, List.getElem?_cons_succ, List.getElem?_nil, List.set_cons_zero, List.set_cons_succ,
    derefD_tup, derefD_kt, derefD_lst, derefD_fl, derefD_dT, derefD_dF, derefD_dK, derefD_kd, derefD_ref, derefA_ls, at_0, at_1, at_2, at_3, at_4, sub_lst, sub_tup, sub_kt, sub_fl, set_0, set_1, set_2, Option.map_some, Option.map_none,
    bin_mulR, bin_mulL, bin_add, bin_sub, bin_mod, bin_addT, bin_addL, lenG_ok, bin_fdiv, divmod_ok, bi_int, bi_abs, bi_lenT, bi_lenL, bi_lenK, bi_lenF, bi_max2, bi_min2, bi_listL, bi_listT, bi_tupleL, bi_tupleT, bi_isi, all_cons_t, all_nil, isi_tup_non, isi_tup_bl, isi_tup_int, isi_tup_str, isi_tup_tup, isi_tup_kt, isi_tup_lst, isi_tup_dK, isi_tup_dT, isi_lst_non, isi_lst_bl, isi_lst_int, isi_lst_str, isi_lst_tup, isi_lst_kt, isi_lst_lst, isi_lst_dK, isi_lst_dT, isi_int_non, isi_int_bl, isi_int_int, isi_int_str, isi_int_tup, isi_int_kt, isi_int_lst, isi_int_dK, isi_int_dT, isi_bool_non, isi_bool_bl, isi_bool_int, isi_bool_str, isi_bool_tup, isi_bool_kt, isi_bool_lst, isi_bool_dK, isi_bool_dT, isi_str_non, isi_str_bl, isi_str_int, isi_str_str, isi_str_tup, isi_str_kt, isi_str_lst, isi_str_dK, isi_str_dT, isi_dict_non, isi_dict_bl, isi_dict_int, isi_dict_str, isi_dict_tup, isi_dict_kt, isi_dict_lst, isi_dict_dK, isi_dict_dT, isNonD, cmp_lt, cmp_le, cmp_gt, cmp_ge, cmp_eqI, cmp_neI, cmp_eqS, cmp_neS, cmp_isN, cmp_isnN, cmp_isB, cmp_isnB, Bool.not_true, Bool.not_false, es, h1, h2, decide_true, decide_false, pow18, pz]
    · refine ⟨0, _, ⟨by omega, z1, by omega, by omega, by omega⟩, ?_⟩
      simp (disch := omega) only [List.length_cons, List.length_nil, List.map_cons, List.map_nil, List.replicate, List.cons_append, List.nil_append, List.append_nil, Nat.reduceAdd, Nat.reduceSub, Nat.reduceLT, Nat.reduceLeDiff, if_true, if_false, Nat.zero_add, ↓reduceIte, and_self, startE, runDef_eq, outR_rt, outR_nx,
    evSs_cons, evSs_nil, kSeq_nx, kSeq_rt, kSeq_bk, kSeq_ct, evS_if, kIf_t, kIf_f, evS_ret, kRet, evS_ex, kEx, evS_retN, evS_brk, evS_cont, evS_pass, evS_asg, kAsg_def, asgR_some, asgT_nm, asgT_tu, asgT_tuL, asgTs_nil, asgTs_cons, asgC_some, evS_asgF, kAsgF_ok, cell_lst, cell_dK, cell_dT, evS_asgS, kAsgS, asgSR_some, kUpS, kNx, evS_par2, kPar2, kPar2b_def, evS_par3, kPar3, kPar3b, kPar3c_def,
    evS_tgS, kTg_tup, tgC_some, kTg2, kTg3_def, evS_app, appR_lst, kAppU, app_lst, lenL_ok, evS_aug, augB_fro, kAug, augE_some, augD_add, augD_sub, evS_augS, augS0_some, kAugS1, augS1_some, kAugS2, augS2_some, oldD_dT, oldD_lst, evS_for, kFor,
    ev_con, ev_var, varB_fro, varB_ownT, varB_ownF, give_lst, give_dK, give_dT, ev_bin, kBin1, kBin2, ev_neg, kNeg_int, ev_nt, kNt_bl, ev_cmp, kCmp1, kCmp2, ev_chain, kCh1, kCh2, kCh3_t, kCh3_f, ev_and, kAnd_t, kAnd_f, ev_or, kOr_t, kOr_f, ev_ite, kIte_t, kIte_f, ev_tup, kTup_def, kLen_ok, ev_lst, kLst_def, ev_dic0, ev_sub, kSub1, kSub2_def, ev_sli, kSli1, kSli2, kSli3, ev_rev, kRev, ev_call, kCall_def, callR_ok, callR_exc, ev_callP, kCallP, callP_some, ev_obj, kObj_lst, ev_dic1, kDic1, ev_dicT, kDicT1, kDicT2, dicTR_some, ev_bi, kBi, ev_mt, kMt1, kMt2, evs_nil, evs_cons, kCons1, kCons2, evO_no, evO_yes, kO_int, evT_nil, evT_cons, kT_t, kT_f, kT_nil,
    evI_seq, kSeqI, evI_rng1, kR1_ok, evI_rng2, kR2, kR2_ok, evI_rng3, kR3, kR3_ok, evI_enum, kEnum, ev_comp, kComp_def, kCe_def, wipe_nil, wipe_cons, back_nil, back_cons, ev_comp2, kComp2_def, Option.getD_some, Option.getD_none, bind_ok', bind_stuck', ofOpt_some, noexc_ok,
    look_def, lookB_own, lookB_ref, lookA_ls, up_def, upB_own, upB_ref, upO_some, upA_ls, upA2_some, List.getElem?_cons_zero, List.getElem?_cons_succ, List.getElem?_nil, List.set_cons_zero, List.set_cons_succ,
    derefD_tup, derefD_kt, derefD_lst, derefD_fl, derefD_dT, derefD_dF, derefD_dK, derefD_kd, derefD_ref, derefA_ls, at_0, at_1, at_2, at_3, at_4, sub_lst, sub_tup, sub_kt, sub_fl, set_0, set_1, set_2, Option.map_some, Option.map_none,
    bin_mulR, bin_mulL, bin_add, bin_sub, bin_mod, bin_addT, bin_addL, lenG_ok, bin_fdiv, divmod_ok, bi_int, bi_abs, bi_lenT, bi_lenL, bi_lenK, bi_lenF, bi_max2, bi_min2, bi_listL, bi_listT, bi_tupleL, bi_tupleT, bi_isi, all_cons_t, all_nil, isi_tup_non, isi_tup_bl, isi_tup_int, isi_tup_str, isi_tup_tup, isi_tup_kt, isi_tup_lst, isi_tup_dK, isi_tup_dT, isi_lst_non, isi_lst_bl, isi_lst_int, isi_lst_str, isi_lst_tup, isi_lst_kt, isi_lst_lst, isi_lst_dK, isi_lst_dT, isi_int_non, isi_int_bl, isi_int_int, isi_int_str, isi_int_tup, isi_int_kt, isi_int_lst, isi_int_dK, isi_int_dT, isi_bool_non, isi_bool_bl, isi_bool_int, isi_bool_str, isi_bool_tup, isi_bool_kt, isi_bool_lst, isi_bool_dK, isi_bool_dT, isi_str_non, isi_str_bl, isi_str_int, isi_str_str, isi_str_tup, isi_str_kt, isi_str_lst, isi_str_dK, isi_str_dT, isi_dict_non, isi_dict_bl, isi_dict_int, isi_dict_str, isi_dict_tup, isi_dict_kt, isi_dict_lst, isi_dict_dK, isi_dict_dT, isNonD, cmp_lt, cmp_le, cmp_gt, cmp_ge, cmp_eqI, cmp_neI, cmp_eqS, cmp_neS, cmp_isN, cmp_isnN, cmp_isB, cmp_isnB, Bool.not_true, Bool.not_false, es, h1, h2, decide_false, pow18, pz]
end Pl

set_option Elab.async false
set_option linter.all false
set_option maxRecDepth 100000
set_option maxHeartbeats 4000000
open PySem L2 IL
namespace Pl
mutual
def okD : D → Bool
  | .tup xs => decide (xs.length ≤ 100) && okDs xs
  | .int _ => true
  | .non => true
  | .str _ => true
  | .bl _ => true
  | _ => false
def okDs : List D → Bool
  | [] => true
  | d :: ds => okD d && okDs ds
end
theorem okDs_get : ∀ {ds : List D} {i : Nat} {d : D}, okDs ds = true → ds[i]? = some d → okD d = true
  | [], _, _, _, h => by simp at h
  | e :: ds, 0, d, o, h => by
    simp only [okDs, Bool.and_eq_true] at o
    simp at h
    subst h
    exact o.1
  | e :: ds, i + 1, d, o, h => by
    simp only [okDs, Bool.and_eq_true] at o
    exact okDs_get o.2 (by simpa using h)
def isTup : D → Bool
  | .tup _ => true
  | _ => false
theorem isi_tup {d : D} (h : okD d = true) : isiD .tup d = some (isTup d) := by
  cases d <;> first | rfl | (simp [okD] at h)
def putAt (xs : List D) (i : Nat) (r : D) : List D := xs.take i ++ [r] ++ xs.drop (i + 1)
def swaps : Nat → D → D → List D
  | n + 1, .tup xs, odd => odd :: (List.range xs.length).flatMap fun i => (swaps n (xs[i]?.getD .non) odd).map fun r => .tup (putAt xs i r)
  | _, _, odd => [odd]
theorem cut_take {xs : List D} {i : Int} (h0 : 0 ≤ i) (h1 : i ≤ xs.length) : cutL xs none (some i) = xs.take i.toNat := by
  unfold cutL
  have e : HT.sIx xs.length 0 none = 0 := rfl
  have e2 : HT.sIx xs.length xs.length (some i) = i.toNat := by
    simp only [HT.sIx]
    rw [if_neg (by omega)]
    omega
  rw [e, e2, List.drop_zero, Nat.sub_zero]
theorem cut_drop {xs : List D} {i : Int} (h0 : 0 ≤ i) (h1 : i ≤ xs.length) : cutL xs (some i) none = xs.drop i.toNat := by
  unfold cutL
  have e : HT.sIx xs.length xs.length none = xs.length := rfl
  have e2 : HT.sIx xs.length 0 (some i) = i.toNat := by
    simp only [HT.sIx]
    rw [if_neg (by omega)]
    omega
  rw [e, e2]
  apply List.take_of_length_le
  simp
theorem sli_tup (ds : List D) (l h : Option Int) : sliD (.tup ds) l h = some (.tup (cutL ds l h)) := rfl
theorem odd_mem : ∀ (n : Nat) (t odd : D), odd ∈ swaps n t odd
  | 0, t, odd => by cases t <;> simp [swaps]
  | n + 1, t, odd => by cases t <;> simp [swaps]
theorem swapped_sp (odd : D) : ∀ (dp : Nat), dp ≤ 3 → ∀ (thing : D), okD thing = true → ∀ {n p : Nat} {a b c : Int} {A : List AO}, A[p]? = some (pz a b c) → Pz n a b c → n + 2 * dp < 900000 → ∀ k,
    ∃ r a' b' c', r ∈ swaps dp thing odd ∧ Pz (n + 2 * dp) a' b' c' ∧ callN Hd.tt (k + 2 + dp) 32 [.ref p, thing, odd, .int dp] A = .ok r (A.set p (pz a' b' c')) := by
  intro dp
  induction dp with
  | zero =>
    intro _ thing ok n p a b c A h z hn k
    refine ⟨odd, a, b, c, odd_mem _ _ _, z, ?_⟩
    have hA : A.set p (pz a b c) = A := by
      rw [← (List.getElem?_eq_some_iff.mp h).2]
      exact List.set_getElem_self ..
    rw [hA, call32]
    have e1 := isi_tup ok
    have gz : decide ((0 : Int) < ((0 : Nat) : Int)) = false := rfl
    cases ht : isTup thing with
    | false =>
      rw [ht] at e1
      simp (disch := omega) only [Hd.b32, List.length_cons, List.length_nil, List.map_cons, List.map_nil, List.replicate, List.cons_append, List.nil_append, List.append_nil, Nat.reduceAdd, Nat.reduceSub, Nat.reduceLT, Nat.reduceLeDiff, if_true, if_false, Nat.zero_add, ↓reduceIte, and_self, startE, runDef_eq, outR_rt, outR_nx,
    evSs_cons, evSs_nil, kSeq_nx, kSeq_rt, kSeq_bk, kSeq_ct, evS_if, kIf_t, kIf_f, evS_ret, kRet, evS_ex, kEx, evS_retN, evS_brk, evS_cont, evS_pass, evS_asg, kAsg_def, asgR_some, asgT_nm, asgT_tu, asgT_tuL, asgTs_nil, asgTs_cons, asgC_some, evS_asgF, kAsgF_ok, cell_lst, cell_dK, cell_dT, evS_asgS, kAsgS, asgSR_some, kUpS, kNx, evS_par2, kPar2, kPar2b_def, evS_par3, kPar3, kPar3b, kPar3c_def,
    evS_tgS, kTg_tup, tgC_some, kTg2, kTg3_def, evS_app, appR_lst, kAppU, app_lst, lenL_ok, evS_aug, augB_fro, kAug, augE_some, augD_add, augD_sub, evS_augS, augS0_some, kAugS1, augS1_some, kAugS2, augS2_some, oldD_dT, oldD_lst, evS_for, kFor,
    ev_con, ev_var, varB_fro, varB_ownT, varB_ownF, give_lst, give_dK, give_dT, ev_bin, kBin1, kBin2, ev_neg, kNeg_int, ev_nt, kNt_bl, ev_cmp, kCmp1, kCmp2, ev_chain, kCh1, kCh2, kCh3_t, kCh3_f, ev_and, kAnd_t, kAnd_f, ev_or, kOr_t, kOr_f, ev_ite, kIte_t, kIte_f, ev_tup, kTup_def, kLen_ok, ev_lst, kLst_def, ev_dic0, ev_sub, kSub1, kSub2_def, ev_sli, kSli1, kSli2, kSli3, ev_rev, kRev, ev_call, kCall_def, callR_ok, callR_exc, ev_callP, kCallP, callP_some, ev_obj, kObj_lst, ev_dic1, kDic1, ev_dicT, kDicT1, kDicT2, dicTR_some, ev_bi, kBi, ev_mt, kMt1, kMt2, evs_nil, evs_cons, kCons1, kCons2, evO_no, evO_yes, kO_int, evT_nil, evT_cons, kT_t, kT_f, kT_nil,
    evI_seq, kSeqI, evI_rng1, kR1_ok, evI_rng2, kR2, kR2_ok, evI_rng3, kR3, kR3_ok, evI_enum, kEnum, ev_comp, kComp_def, kCe_def, wipe_nil, wipe_cons, back_nil, back_cons, ev_comp2, kComp2_def, Option.getD_some, Option.getD_none, bind_ok', bind_stuck', ofOpt_some, noexc_ok,
    look_def, lookB_own, lookB_ref, lookA_ls, up_def, upB_own, upB_ref, upO_some, upA_ls, upA2_some, List.getElem?_cons_zero, List.getElem?_cons_succ, List.getElem?_nil, List.set_cons_zero, List.set_cons_succ,
    derefD_tup, derefD_kt, derefD_lst, derefD_fl, derefD_dT, derefD_dF, derefD_dK, derefD_kd, derefD_ref, derefA_ls, at_0, at_1, at_2, at_3, at_4, sub_lst, sub_tup, sub_kt, sub_fl, set_0, set_1, set_2, Option.map_some, Option.map_none,
    bin_mulR, bin_mulL, bin_add, bin_sub, bin_mod, bin_addT, bin_addL, lenG_ok, bin_fdiv, divmod_ok, bi_int, bi_abs, bi_lenT, bi_lenL, bi_lenK, bi_lenF, bi_max2, bi_min2, bi_listL, bi_listT, bi_tupleL, bi_tupleT, bi_isi, all_cons_t, all_nil, isi_tup_non, isi_tup_bl, isi_tup_int, isi_tup_str, isi_tup_tup, isi_tup_kt, isi_tup_lst, isi_tup_dK, isi_tup_dT, isi_lst_non, isi_lst_bl, isi_lst_int, isi_lst_str, isi_lst_tup, isi_lst_kt, isi_lst_lst, isi_lst_dK, isi_lst_dT, isi_int_non, isi_int_bl, isi_int_int, isi_int_str, isi_int_tup, isi_int_kt, isi_int_lst, isi_int_dK, isi_int_dT, isi_bool_non, isi_bool_bl, isi_bool_int, isi_bool_str, isi_bool_tup, isi_bool_kt, isi_bool_lst, isi_bool_dK, isi_bool_dT, isi_str_non, isi_str_bl, isi_str_int, isi_str_str, isi_str_tup, isi_str_kt, isi_str_lst, isi_str_dK, isi_str_dT, isi_dict_non, isi_dict_bl, isi_dict_int, isi_dict_str, isi_dict_tup, isi_dict_kt, isi_dict_lst, isi_dict_dK, isi_dict_dT, isNonD, cmp_lt, cmp_le, cmp_gt, cmp_ge, cmp_eqI, cmp_neI, cmp_eqS, cmp_neS, cmp_isN, cmp_isnN, cmp_isB, cmp_isnB, Bool.not_true, Bool.not_false, e1]
    | true =>
      cases thing <;> first | (simp [isTup] at ht; done) | skip
      rename_i xs
      rw [ht] at e1
      by_cases hx : (0 : Int) < xs.length
      · simp (disch := omega) only [Hd.b32, List.length_cons, List.length_nil, List.map_cons, List.map_nil, List.replicate, List.cons_append, List.nil_append, List.append_nil, Nat.reduceAdd, Nat.reduceSub, Nat.reduceLT, Nat.reduceLeDiff, if_true, if_false, Nat.zero_add, ↓reduceIte, and_self, startE, runDef_eq, outR_rt, outR_nx,
    evSs_cons, evSs_nil, kSeq_nx, kSeq_rt, kSeq_bk, kSeq_ct, evS_if, kIf_t, kIf_f, evS_ret, kRet, evS_ex, kEx, evS_retN, evS_brk, evS_cont, evS_pass, evS_asg, kAsg_def, asgR_some, asgT_nm, asgT_tu, asgT_tuL, asgTs_nil, asgTs_cons, asgC_some, evS_asgF, kAsgF_ok, cell_lst, cell_dK, cell_dT, evS_asgS, kAsgS, asgSR_some, kUpS, kNx, evS_par2, kPar2, kPar2b_def, evS_par3, kPar3, kPar3b, kPar3c_def,
    evS_tgS, kTg_tup, tgC_some, kTg2, kTg3_def, evS_app, appR_lst, kAppU, app_lst, lenL_ok, evS_aug, augB_fro, kAug, augE_some, augD_add, augD_sub, evS_augS, augS0_some, kAugS1, augS1_some, kAugS2, augS2_some, oldD_dT, oldD_lst, evS_for, kFor,
    ev_con, ev_var, varB_fro, varB_ownT, varB_ownF, give_lst, give_dK, give_dT, ev_bin, kBin1, kBin2, ev_neg, kNeg_int, ev_nt, kNt_bl, ev_cmp, kCmp1, kCmp2, ev_chain, kCh1, kCh2, kCh3_t, kCh3_f, ev_and, kAnd_t, kAnd_f, ev_or, kOr_t, kOr_f, ev_ite, kIte_t, kIte_f, ev_tup, kTup_def, kLen_ok, ev_lst, kLst_def, ev_dic0, ev_sub, kSub1, kSub2_def, ev_sli, kSli1, kSli2, kSli3, ev_rev, kRev, ev_call, kCall_def, callR_ok, callR_exc, ev_callP, kCallP, callP_some, ev_obj, kObj_lst, ev_dic1, kDic1, ev_dicT, kDicT1, kDicT2, dicTR_some, ev_bi, kBi, ev_mt, kMt1, kMt2, evs_nil, evs_cons, kCons1, kCons2, evO_no, evO_yes, kO_int, evT_nil, evT_cons, kT_t, kT_f, kT_nil,
    evI_seq, kSeqI, evI_rng1, kR1_ok, evI_rng2, kR2, kR2_ok, evI_rng3, kR3, kR3_ok, evI_enum, kEnum, ev_comp, kComp_def, kCe_def, wipe_nil, wipe_cons, back_nil, back_cons, ev_comp2, kComp2_def, Option.getD_some, Option.getD_none, bind_ok', bind_stuck', ofOpt_some, noexc_ok,
    look_def, lookB_own, lookB_ref, lookA_ls, up_def, upB_own, upB_ref, upO_some, upA_ls, upA2_some, List.getElem?_cons_zero, List.getElem?_cons_succ, List.getElem?_nil, List.set_cons_zero, List.set_cons_succ,
    derefD_tup, derefD_kt, derefD_lst, derefD_fl, derefD_dT, derefD_dF, derefD_dK, derefD_kd, derefD_ref, derefA_ls, at_0, at_1, at_2, at_3, at_4, sub_lst, sub_tup, sub_kt, sub_fl, set_0, set_1, set_2, Option.map_some, Option.map_none,
    bin_mulR, bin_mulL, bin_add, bin_sub, bin_mod, bin_addT, bin_addL, lenG_ok, bin_fdiv, divmod_ok, bi_int, bi_abs, bi_lenT, bi_lenL, bi_lenK, bi_lenF, bi_max2, bi_min2, bi_listL, bi_listT, bi_tupleL, bi_tupleT, bi_isi, all_cons_t, all_nil, isi_tup_non, isi_tup_bl, isi_tup_int, isi_tup_str, isi_tup_tup, isi_tup_kt, isi_tup_lst, isi_tup_dK, isi_tup_dT, isi_lst_non, isi_lst_bl, isi_lst_int, isi_lst_str, isi_lst_tup, isi_lst_kt, isi_lst_lst, isi_lst_dK, isi_lst_dT, isi_int_non, isi_int_bl, isi_int_int, isi_int_str, isi_int_tup, isi_int_kt, isi_int_lst, isi_int_dK, isi_int_dT, isi_bool_non, isi_bool_bl, isi_bool_int, isi_bool_str, isi_bool_tup, isi_bool_kt, isi_bool_lst, isi_bool_dK, isi_bool_dT, isi_str_non, isi_str_bl, isi_str_int, isi_str_str, isi_str_tup, isi_str_kt, isi_str_lst, isi_str_dK, isi_str_dT, isi_dict_non, isi_dict_bl, isi_dict_int, isi_dict_str, isi_dict_tup, isi_dict_kt, isi_dict_lst, isi_dict_dK, isi_dict_dT, isNonD, cmp_lt, cmp_le, cmp_gt, cmp_ge, cmp_eqI, cmp_neI, cmp_eqS, cmp_neS, cmp_isN, cmp_isnN, cmp_isB, cmp_isnB, Bool.not_true, Bool.not_false, e1, hx, decide_true, decide_false, gz]
      · simp (disch := omega) only [Hd.b32, List.length_cons, List.length_nil, List.map_cons, List.map_nil, List.replicate, List.cons_append, List.nil_append, List.append_nil, Nat.reduceAdd, Nat.reduceSub, Nat.reduceLT, Nat.reduceLeDiff, if_true, if_false, Nat.zero_add, ↓reduceIte, and_self, startE, runDef_eq, outR_rt, outR_nx,
    evSs_cons, evSs_nil, kSeq_nx, kSeq_rt, kSeq_bk, kSeq_ct, evS_if, kIf_t, kIf_f, evS_ret, kRet, evS_ex, kEx, evS_retN, evS_brk, evS_cont, evS_pass, evS_asg, kAsg_def, asgR_some, asgT_nm, asgT_tu, asgT_tuL, asgTs_nil, asgTs_cons, asgC_some, evS_asgF, kAsgF_ok, cell_lst, cell_dK, cell_dT, evS_asgS, kAsgS, asgSR_some, kUpS, kNx, evS_par2, kPar2, kPar2b_def, evS_par3, kPar3, kPar3b, kPar3c_def,
    evS_tgS, kTg_tup, tgC_some, kTg2, kTg3_def, evS_app, appR_lst, kAppU, app_lst, lenL_ok, evS_aug, augB_fro, kAug, augE_some, augD_add, augD_sub, evS_augS, augS0_some, kAugS1, augS1_some, kAugS2, augS2_some, oldD_dT, oldD_lst, evS_for, kFor,
    ev_con, ev_var, varB_fro, varB_ownT, varB_ownF, give_lst, give_dK, give_dT, ev_bin, kBin1, kBin2, ev_neg, kNeg_int, ev_nt, kNt_bl, ev_cmp, kCmp1, kCmp2, ev_chain, kCh1, kCh2, kCh3_t, kCh3_f, ev_and, kAnd_t, kAnd_f, ev_or, kOr_t, kOr_f, ev_ite, kIte_t, kIte_f, ev_tup, kTup_def, kLen_ok, ev_lst, kLst_def, ev_dic0, ev_sub, kSub1, kSub2_def, ev_sli, kSli1, kSli2, kSli3, ev_rev, kRev, ev_call, kCall_def, callR_ok, callR_exc, ev_callP, kCallP, callP_some, ev_obj, kObj_lst, ev_dic1, kDic1, ev_dicT, kDicT1, kDicT2, dicTR_some, ev_bi, kBi, ev_mt, kMt1, kMt2, evs_nil, evs_cons, kCons1, kCons2, evO_no, evO_yes, kO_int, evT_nil, evT_cons, kT_t, kT_f, kT_nil,
    evI_seq, kSeqI, evI_rng1, kR1_ok, evI_rng2, kR2, kR2_ok, evI_rng3, kR3, kR3_ok, evI_enum, kEnum, ev_comp, kComp_def, kCe_def, wipe_nil, wipe_cons, back_nil, back_cons, ev_comp2, kComp2_def, Option.getD_some, Option.getD_none, bind_ok', bind_stuck', ofOpt_some, noexc_ok,
    look_def, lookB_own, lookB_ref, lookA_ls, up_def, upB_own, upB_ref, upO_some, upA_ls, upA2_some, List.getElem?_cons_zero, List.getElem?_cons_succ, List.getElem?_nil, List.set_cons_zero, List.set_cons_succ,
    derefD_tup, derefD_kt, derefD_lst, derefD_fl, derefD_dT, derefD_dF, derefD_dK, derefD_kd, derefD_ref, derefA_ls, at_0, at_1, at_2, at_3, at_4, sub_lst, sub_tup, sub_kt, sub_fl, set_0, set_1, set_2, Option.map_some, Option.map_none,
    bin_mulR, bin_mulL, bin_add, bin_sub, bin_mod, bin_addT, bin_addL, lenG_ok, bin_fdiv, divmod_ok, bi_int, bi_abs, bi_lenT, bi_lenL, bi_lenK, bi_lenF, bi_max2, bi_min2, bi_listL, bi_listT, bi_tupleL, bi_tupleT, bi_isi, all_cons_t, all_nil, isi_tup_non, isi_tup_bl, isi_tup_int, isi_tup_str, isi_tup_tup, isi_tup_kt, isi_tup_lst, isi_tup_dK, isi_tup_dT, isi_lst_non, isi_lst_bl, isi_lst_int, isi_lst_str, isi_lst_tup, isi_lst_kt, isi_lst_lst, isi_lst_dK, isi_lst_dT, isi_int_non, isi_int_bl, isi_int_int, isi_int_str, isi_int_tup, isi_int_kt, isi_int_lst, isi_int_dK, isi_int_dT, isi_bool_non, isi_bool_bl, isi_bool_int, isi_bool_str, isi_bool_tup, isi_bool_kt, isi_bool_lst, isi_bool_dK, isi_bool_dT, isi_str_non, isi_str_bl, isi_str_int, isi_str_str, isi_str_tup, isi_str_kt, isi_str_lst, isi_str_dK, isi_str_dT, isi_dict_non, isi_dict_bl, isi_dict_int, isi_dict_str, isi_dict_tup, isi_dict_kt, isi_dict_lst, isi_dict_dK, isi_dict_dT, isNonD, cmp_lt, cmp_le, cmp_gt, cmp_ge, cmp_eqI, cmp_neI, cmp_eqS, cmp_neS, cmp_isN, cmp_isnN, cmp_isB, cmp_isnB, Bool.not_true, Bool.not_false, e1, hx, decide_true, decide_false]
  | succ dp ih =>
    intro hd thing ok n p a b c A h z hn k
    have hp : p < A.length := (List.getElem?_eq_some_iff.mp h).1
    have hA : A.set p (pz a b c) = A := by
      rw [← (List.getElem?_eq_some_iff.mp h).2]
      exact List.set_getElem_self ..
    have g0 : (0 : Int) < ((dp + 1 : Nat) : Int) := by omega
    have g1 : ((dp + 1 : Nat) : Int) - 1 = (dp : Int) := by omega
    have e1 := isi_tup ok
    show ∃ r a' b' c', _ ∧ _ ∧ callN Hd.tt ((k + 2 + dp) + 1) 32 _ _ = _
    rw [call32]
    cases ht : isTup thing with
    | false =>
      refine ⟨odd, a, b, c, odd_mem _ _ _, ⟨z.a0, z.b0, z.b1, z.c0, by have := z.c1; omega⟩, ?_⟩
      rw [hA]
      rw [ht] at e1
      simp (disch := omega) only [Hd.b32, List.length_cons, List.length_nil, List.map_cons, List.map_nil, List.replicate, List.cons_append, List.nil_append, List.append_nil, Nat.reduceAdd, Nat.reduceSub, Nat.reduceLT, Nat.reduceLeDiff, if_true, if_false, Nat.zero_add, ↓reduceIte, and_self, startE, runDef_eq, outR_rt, outR_nx,
    evSs_cons, evSs_nil, kSeq_nx, kSeq_rt, kSeq_bk, kSeq_ct, evS_if, kIf_t, kIf_f, evS_ret, kRet, evS_ex, kEx, evS_retN, evS_brk, evS_cont, evS_pass, evS_asg, kAsg_def, asgR_some, asgT_nm, asgT_tu, asgT_tuL, asgTs_nil, asgTs_cons, asgC_some, evS_asgF, kAsgF_ok, cell_lst, cell_dK, cell_dT, evS_asgS, kAsgS, asgSR_some, kUpS, kNx, evS_par2, kPar2, kPar2b_def, evS_par3, kPar3, kPar3b, kPar3c_def,
    evS_tgS, kTg_tup, tgC_some, kTg2, kTg3_def, evS_app, appR_lst, kAppU, app_lst, lenL_ok, evS_aug, augB_fro, kAug, augE_some, augD_add, augD_sub, evS_augS, augS0_some, kAugS1, augS1_some, kAugS2, augS2_some, oldD_dT, oldD_lst, evS_for, kFor,
    ev_con, ev_var, varB_fro, varB_ownT, varB_ownF, give_lst, give_dK, give_dT, ev_bin, kBin1, kBin2, ev_neg, kNeg_int, ev_nt, kNt_bl, ev_cmp, kCmp1, kCmp2, ev_chain, kCh1, kCh2, kCh3_t, kCh3_f, ev_and, kAnd_t, kAnd_f, ev_or, kOr_t, kOr_f, ev_ite, kIte_t, kIte_f, ev_tup, kTup_def, kLen_ok, ev_lst, kLst_def, ev_dic0, ev_sub, kSub1, kSub2_def, ev_sli, kSli1, kSli2, kSli3, ev_rev, kRev, ev_call, kCall_def, callR_ok, callR_exc, ev_callP, kCallP, callP_some, ev_obj, kObj_lst, ev_dic1, kDic1, ev_dicT, kDicT1, kDicT2, dicTR_some, ev_bi, kBi, ev_mt, kMt1, kMt2, evs_nil, evs_cons, kCons1, kCons2, evO_no, evO_yes, kO_int, evT_nil, evT_cons, kT_t, kT_f, kT_nil,
    evI_seq, kSeqI, evI_rng1, kR1_ok, evI_rng2, kR2, kR2_ok, evI_rng3, kR3, kR3_ok, evI_enum, kEnum, ev_comp, kComp_def, kCe_def, wipe_nil, wipe_cons, back_nil, back_cons, ev_comp2, kComp2_def, Option.getD_some, Option.getD_none, bind_ok', bind_stuck', ofOpt_some, noexc_ok,
    look_def, lookB_own, lookB_ref, lookA_ls, up_def, upB_own, upB_ref, upO_some, upA_ls, upA2_some, List.getElem?_cons_zero, List.getElem?_cons_succ, List.getElem?_nil, List.set_cons_zero, List.set_cons_succ,
    derefD_tup, derefD_kt, derefD_lst, derefD_fl, derefD_dT, derefD_dF, derefD_dK, derefD_kd, derefD_ref, derefA_ls, at_0, at_1, at_2, at_3, at_4, sub_lst, sub_tup, sub_kt, sub_fl, set_0, set_1, set_2, Option.map_some, Option.map_none,
    bin_mulR, bin_mulL, bin_add, bin_sub, bin_mod, bin_addT, bin_addL, lenG_ok, bin_fdiv, divmod_ok, bi_int, bi_abs, bi_lenT, bi_lenL, bi_lenK, bi_lenF, bi_max2, bi_min2, bi_listL, bi_listT, bi_tupleL, bi_tupleT, bi_isi, all_cons_t, all_nil, isi_tup_non, isi_tup_bl, isi_tup_int, isi_tup_str, isi_tup_tup, isi_tup_kt, isi_tup_lst, isi_tup_dK, isi_tup_dT, isi_lst_non, isi_lst_bl, isi_lst_int, isi_lst_str, isi_lst_tup, isi_lst_kt, isi_lst_lst, isi_lst_dK, isi_lst_dT, isi_int_non, isi_int_bl, isi_int_int, isi_int_str, isi_int_tup, isi_int_kt, isi_int_lst, isi_int_dK, isi_int_dT, isi_bool_non, isi_bool_bl, isi_bool_int, isi_bool_str, isi_bool_tup, isi_bool_kt, isi_bool_lst, isi_bool_dK, isi_bool_dT, isi_str_non, isi_str_bl, isi_str_int, isi_str_str, isi_str_tup, isi_str_kt, isi_str_lst, isi_str_dK, isi_str_dT, isi_dict_non, isi_dict_bl, isi_dict_int, isi_dict_str, isi_dict_tup, isi_dict_kt, isi_dict_lst, isi_dict_dK, isi_dict_dT, isNonD, cmp_lt, cmp_le, cmp_gt, cmp_ge, cmp_eqI, cmp_neI, cmp_eqS, cmp_neS, cmp_isN, cmp_isnN, cmp_isB, cmp_isnB, Bool.not_true, Bool.not_false, e1]
    | true =>
      cases thing <;> first | (simp [isTup] at ht; done) | skip
      rename_i xs
      rw [ht] at e1
      by_cases hx : (0 : Int) < xs.length
      · have hxl : xs.length ≤ 100 := by
          simp only [okD, Bool.and_eq_true, decide_eq_true_eq] at ok
          exact ok.1
        obtain ⟨t1, a1, b1, c1, t10, t11, z1, q1⟩ := take_sp (many := 4) h z (by omega) (by decide) (by decide) (k + 1 + dp)
        have h1 : (A.set p (pz a1 b1 c1))[p]? = some (pz a1 b1 c1) := List.getElem?_set_self hp
        by_cases ht1 : 0 < t1
        · obtain ⟨t2, a2, b2, c2, t20, t21, z2, q2⟩ := take_sp (many := xs.length) h1 z1 (by omega) hx (by omega) (k + 1 + dp)
          rw [List.set_set] at q2
          have h2 : (A.set p (pz a2 b2 c2))[p]? = some (pz a2 b2 c2) := List.getElem?_set_self hp
          have hlt : t2.toNat < xs.length := by omega
          have hx2 : xs[t2.toNat]? = some xs[t2.toNat] := List.getElem?_eq_getElem hlt
          have ok2 : okD xs[t2.toNat] = true := by
            simp only [okD, Bool.and_eq_true, decide_eq_true_eq] at ok
            exact okDs_get ok.2 hx2
          obtain ⟨r, a3, b3, c3, m3, z3, q3⟩ := ih (by omega) _ ok2 h2 z2 (by omega) k
          rw [List.set_set] at q3
          refine ⟨.tup (putAt xs t2.toNat r), a3, b3, c3, ?_, ⟨z3.a0, z3.b0, z3.b1, z3.c0, by have := z3.c1; omega⟩, ?_⟩
          · simp only [swaps]
            refine List.mem_cons_of_mem _ (List.mem_flatMap.mpr ⟨t2.toNat, List.mem_range.mpr hlt, List.mem_map.mpr ⟨r, ?_, rfl⟩⟩)
            rw [hx2]
            exact m3
          · have eat : atD xs t2 = some xs[t2.toNat] := by rw [at_nat t20, hx2]
            have u1 : callN Hd.tt (k + 2 + dp) 28 [.ref p, .int 4] A = .ok (.int t1) (A.set p (pz a1 b1 c1)) := by
              rw [show k + 2 + dp = k + 1 + dp + 1 by omega]
              exact q1
            have u2 : callN Hd.tt (k + 2 + dp) 28 [.ref p, .int xs.length] (A.set p (pz a1 b1 c1)) = .ok (.int t2) (A.set p (pz a2 b2 c2)) := by
              rw [show k + 2 + dp = k + 1 + dp + 1 by omega]
              exact q2
            have tn : (t2 + 1).toNat = t2.toNat + 1 := by omega
            simp (disch := first | omega | (simp only [List.length_take, List.length_drop, List.length_append, List.length_cons, List.length_nil]; omega)) only [Hd.b32, List.length_cons, List.length_nil, List.map_cons, List.map_nil, List.replicate, List.cons_append, List.nil_append, List.append_nil, Nat.reduceAdd, Nat.reduceSub, Nat.reduceLT, Nat.reduceLeDiff, if_true, if_false, Nat.zero_add, ↓reduceIte, and_self, startE, runDef_eq, outR_rt, outR_nx,
    evSs_cons, evSs_nil, kSeq_nx, kSeq_rt, kSeq_bk, kSeq_ct, evS_if, kIf_t, kIf_f, evS_ret, kRet, evS_ex, kEx, evS_retN, evS_brk, evS_cont, evS_pass, evS_asg, kAsg_def, asgR_some, asgT_nm, asgT_tu, asgT_tuL, asgTs_nil, asgTs_cons, asgC_some, evS_asgF, kAsgF_ok, cell_lst, cell_dK, cell_dT, evS_asgS, kAsgS, asgSR_some, kUpS, kNx, evS_par2, kPar2, kPar2b_def, evS_par3, kPar3, kPar3b, kPar3c_def,
    evS_tgS, kTg_tup, tgC_some, kTg2, kTg3_def, evS_app, appR_lst, kAppU, app_lst, lenL_ok, evS_aug, augB_fro, kAug, augE_some, augD_add, augD_sub, evS_augS, augS0_some, kAugS1, augS1_some, kAugS2, augS2_some, oldD_dT, oldD_lst, evS_for, kFor,
    ev_con, ev_var, varB_fro, varB_ownT, varB_ownF, give_lst, give_dK, give_dT, ev_bin, kBin1, kBin2, ev_neg, kNeg_int, ev_nt, kNt_bl, ev_cmp, kCmp1, kCmp2, ev_chain, kCh1, kCh2, kCh3_t, kCh3_f, ev_and, kAnd_t, kAnd_f, ev_or, kOr_t, kOr_f, ev_ite, kIte_t, kIte_f, ev_tup, kTup_def, kLen_ok, ev_lst, kLst_def, ev_dic0, ev_sub, kSub1, kSub2_def, ev_sli, kSli1, kSli2, kSli3, ev_rev, kRev, ev_call, kCall_def, callR_ok, callR_exc, ev_callP, kCallP, callP_some, ev_obj, kObj_lst, ev_dic1, kDic1, ev_dicT, kDicT1, kDicT2, dicTR_some, ev_bi, kBi, ev_mt, kMt1, kMt2, evs_nil, evs_cons, kCons1, kCons2, evO_no, evO_yes, kO_int, evT_nil, evT_cons, kT_t, kT_f, kT_nil,
    evI_seq, kSeqI, evI_rng1, kR1_ok, evI_rng2, kR2, kR2_ok, evI_rng3, kR3, kR3_ok, evI_enum, kEnum, ev_comp, kComp_def, kCe_def, wipe_nil, wipe_cons, back_nil, back_cons, ev_comp2, kComp2_def, Option.getD_some, Option.getD_none, bind_ok', bind_stuck', ofOpt_some, noexc_ok,
    look_def, lookB_own, lookB_ref, lookA_ls, up_def, upB_own, upB_ref, upO_some, upA_ls, upA2_some, List.getElem?_cons_zero, List.getElem?_cons_succ, List.getElem?_nil, List.set_cons_zero, List.set_cons_succ,
    derefD_tup, derefD_kt, derefD_lst, derefD_fl, derefD_dT, derefD_dF, derefD_dK, derefD_kd, derefD_ref, derefA_ls, at_0, at_1, at_2, at_3, at_4, sub_lst, sub_tup, sub_kt, sub_fl, set_0, set_1, set_2, Option.map_some, Option.map_none,
    bin_mulR, bin_mulL, bin_add, bin_sub, bin_mod, bin_addT, bin_addL, lenG_ok, bin_fdiv, divmod_ok, bi_int, bi_abs, bi_lenT, bi_lenL, bi_lenK, bi_lenF, bi_max2, bi_min2, bi_listL, bi_listT, bi_tupleL, bi_tupleT, bi_isi, all_cons_t, all_nil, isi_tup_non, isi_tup_bl, isi_tup_int, isi_tup_str, isi_tup_tup, isi_tup_kt, isi_tup_lst, isi_tup_dK, isi_tup_dT, isi_lst_non, isi_lst_bl, isi_lst_int, isi_lst_str, isi_lst_tup, isi_lst_kt, isi_lst_lst, isi_lst_dK, isi_lst_dT, isi_int_non, isi_int_bl, isi_int_int, isi_int_str, isi_int_tup, isi_int_kt, isi_int_lst, isi_int_dK, isi_int_dT, isi_bool_non, isi_bool_bl, isi_bool_int, isi_bool_str, isi_bool_tup, isi_bool_kt, isi_bool_lst, isi_bool_dK, isi_bool_dT, isi_str_non, isi_str_bl, isi_str_int, isi_str_str, isi_str_tup, isi_str_kt, isi_str_lst, isi_str_dK, isi_str_dT, isi_dict_non, isi_dict_bl, isi_dict_int, isi_dict_str, isi_dict_tup, isi_dict_kt, isi_dict_lst, isi_dict_dK, isi_dict_dT, isNonD, cmp_lt, cmp_le, cmp_gt, cmp_ge, cmp_eqI, cmp_neI, cmp_eqS, cmp_neS, cmp_isN, cmp_isnN, cmp_isB, cmp_isnB, Bool.not_true, Bool.not_false, e1, hx, g0, g1, u1, u2, q3, ht1, decide_true, decide_false, eat, sli_tup, cut_take, cut_drop, tn, putAt]
        · refine ⟨odd, a1, b1, c1, odd_mem _ _ _, ⟨z1.a0, z1.b0, z1.b1, z1.c0, by have := z1.c1; omega⟩, ?_⟩
          have u1 : callN Hd.tt (k + 2 + dp) 28 [.ref p, .int 4] A = .ok (.int t1) (A.set p (pz a1 b1 c1)) := by
            rw [show k + 2 + dp = k + 1 + dp + 1 by omega]
            exact q1
          simp (disch := omega) only [Hd.b32, List.length_cons, List.length_nil, List.map_cons, List.map_nil, List.replicate, List.cons_append, List.nil_append, List.append_nil, Nat.reduceAdd, Nat.reduceSub, Nat.reduceLT, Nat.reduceLeDiff, if_true, if_false, Nat.zero_add, ↓reduceIte, and_self, startE, runDef_eq, outR_rt, outR_nx,
    evSs_cons, evSs_nil, kSeq_nx, kSeq_rt, kSeq_bk, kSeq_ct, evS_if, kIf_t, kIf_f, evS_ret, kRet, evS_ex, kEx, evS_retN, evS_brk, evS_cont, evS_pass, evS_asg, kAsg_def, asgR_some, asgT_nm, asgT_tu, asgT_tuL, asgTs_nil, asgTs_cons, asgC_some, evS_asgF, kAsgF_ok, cell_lst, cell_dK, cell_dT, evS_asgS, kAsgS, asgSR_some, kUpS, kNx, evS_par2, kPar2, kPar2b_def, evS_par3, kPar3, kPar3b, kPar3c_def,
    evS_tgS, kTg_tup, tgC_some, kTg2, kTg3_def, evS_app, appR_lst, kAppU, app_lst, lenL_ok, evS_aug, augB_fro, kAug, augE_some, augD_add, augD_sub, evS_augS, augS0_some, kAugS1, augS1_some, kAugS2, augS2_some, oldD_dT, oldD_lst, evS_for, kFor,
    ev_con, ev_var, varB_fro, varB_ownT, varB_ownF, give_lst, give_dK, give_dT, ev_bin, kBin1, kBin2, ev_neg, kNeg_int, ev_nt, kNt_bl, ev_cmp, kCmp1, kCmp2, ev_chain, kCh1, kCh2, kCh3_t, kCh3_f, ev_and, kAnd_t, kAnd_f, ev_or, kOr_t, kOr_f, ev_ite, kIte_t, kIte_f, ev_tup, kTup_def, kLen_ok, ev_lst, kLst_def, ev_dic0, ev_sub, kSub1, kSub2_def, ev_sli, kSli1, kSli2, kSli3, ev_rev, kRev, ev_call, kCall_def, callR_ok, callR_exc, ev_callP, kCallP, callP_some, ev_obj, kObj_lst, ev_dic1, kDic1, ev_dicT, kDicT1, kDicT2, dicTR_some, ev_bi, kBi, ev_mt, kMt1, kMt2, evs_nil, evs_cons, kCons1, kCons2, evO_no, evO_yes, kO_int, evT_nil, evT_cons, kT_t, kT_f, kT_nil,
    evI_seq, kSeqI, evI_rng1, kR1_ok, evI_rng2, kR2, kR2_ok, evI_rng3, kR3, kR3_ok, evI_enum, kEnum, ev_comp, kComp_def, kCe_def, wipe_nil, wipe_cons, back_nil, back_cons, ev_comp2, kComp2_def, Option.getD_some, Option.getD_none, bind_ok', bind_stuck', ofOpt_some, noexc_ok,
    look_def, lookB_own, lookB_ref, lookA_ls, up_def, upB_own, upB_ref, upO_some, upA_ls, upA2_some, List.getElem?_cons_zero, List.getElem?_cons_succ, List.getElem?_nil, List.set_cons_zero, List.set_cons_succ,
    derefD_tup, derefD_kt, derefD_lst, derefD_fl, derefD_dT, derefD_dF, derefD_dK, derefD_kd, derefD_ref, derefA_ls, at_0, at_1, at_2, at_3, at_4, sub_lst, sub_tup, sub_kt, sub_fl, set_0, set_1, set_2, Option.map_some, Option.map_none,
    bin_mulR, bin_mulL, bin_add, bin_sub, bin_mod, bin_addT, bin_addL, lenG_ok, bin_fdiv, divmod_ok, bi_int, bi_abs, bi_lenT, bi_lenL, bi_lenK, bi_lenF, bi_max2, bi_min2, bi_listL, bi_listT, bi_tupleL, bi_tupleT, bi_isi, all_cons_t, all_nil, isi_tup_non, isi_tup_bl, isi_tup_int, isi_tup_str, isi_tup_tup, isi_tup_kt, isi_tup_lst, isi_tup_dK, isi_tup_dT, isi_lst_non, isi_lst_bl, isi_lst_int, isi_lst_str, isi_lst_tup, isi_lst_kt, isi_lst_lst, isi_lst_dK, isi_lst_dT, isi_int_non, isi_int_bl, isi_int_int, isi_int_str, isi_int_tup, isi_int_kt, isi_int_lst, isi_int_dK, isi_int_dT, isi_bool_non, isi_bool_bl, isi_bool_int, isi_bool_str, isi_bool_tup, isi_bool_kt, isi_bool_lst, isi_bool_dK, isi_bool_dT, isi_str_non, isi_str_bl, isi_str_int, isi_str_str, isi_str_tup, isi_str_kt, isi_str_lst, isi_str_dK, isi_str_dT, isi_dict_non, isi_dict_bl, isi_dict_int, isi_dict_str, isi_dict_tup, isi_dict_kt, isi_dict_lst, isi_dict_dK, isi_dict_dT, isNonD, cmp_lt, cmp_le, cmp_gt, cmp_ge, cmp_eqI, cmp_neI, cmp_eqS, cmp_neS, cmp_isN, cmp_isnN, cmp_isB, cmp_isnB, Bool.not_true, Bool.not_false, e1, hx, g0, u1, ht1, decide_true, decide_false]
      · refine ⟨odd, a, b, c, odd_mem _ _ _, ⟨z.a0, z.b0, z.b1, z.c0, by have := z.c1; omega⟩, ?_⟩
        rw [hA]
        simp (disch := omega) only [Hd.b32, List.length_cons, List.length_nil, List.map_cons, List.map_nil, List.replicate, List.cons_append, List.nil_append, List.append_nil, Nat.reduceAdd, Nat.reduceSub, Nat.reduceLT, Nat.reduceLeDiff, if_true, if_false, Nat.zero_add, ↓reduceIte, and_self, startE, runDef_eq, outR_rt, outR_nx,
    evSs_cons, evSs_nil, kSeq_nx, kSeq_rt, kSeq_bk, kSeq_ct, evS_if, kIf_t, kIf_f, evS_ret, kRet, evS_ex, kEx, evS_retN, evS_brk, evS_cont, evS_pass, evS_asg, kAsg_def, asgR_some, asgT_nm, asgT_tu, asgT_tuL, asgTs_nil, asgTs_cons, asgC_some, evS_asgF, kAsgF_ok, cell_lst, cell_dK, cell_dT, evS_asgS, kAsgS, asgSR_some, kUpS, kNx, evS_par2, kPar2, kPar2b_def, evS_par3, kPar3, kPar3b, kPar3c_def,
    evS_tgS, kTg_tup, tgC_some, kTg2, kTg3_def, evS_app, appR_lst, kAppU, app_lst, lenL_ok, evS_aug, augB_fro, kAug, augE_some, augD_add, augD_sub, evS_augS, augS0_some, kAugS1, augS1_some, kAugS2, augS2_some, oldD_dT, oldD_lst, evS_for, kFor,
    ev_con, ev_var, varB_fro, varB_ownT, varB_ownF, give_lst, give_dK, give_dT, ev_bin, kBin1, kBin2, ev_neg, kNeg_int, ev_nt, kNt_bl, ev_cmp, kCmp1, kCmp2, ev_chain, kCh1, kCh2, kCh3_t, kCh3_f, ev_and, kAnd_t, kAnd_f, ev_or, kOr_t, kOr_f, ev_ite, kIte_t, kIte_f, ev_tup, kTup_def, kLen_ok, ev_lst, kLst_def, ev_dic0, ev_sub, kSub1, kSub2_def, ev_sli, kSli1, kSli2, kSli3, ev_rev, kRev, ev_call, kCall_def, callR_ok, callR_exc, ev_callP, kCallP, callP_some, ev_obj, kObj_lst, ev_dic1, kDic1, ev_dicT, kDicT1, kDicT2, dicTR_some, ev_bi, kBi, ev_mt, kMt1, kMt2, evs_nil, evs_cons, kCons1, kCons2, evO_no, evO_yes, kO_int, evT_nil, evT_cons, kT_t, kT_f, kT_nil,
    evI_seq, kSeqI, evI_rng1, kR1_ok, evI_rng2, kR2, kR2_ok, evI_rng3, kR3, kR3_ok, evI_enum, kEnum, ev_comp, kComp_def, kCe_def, wipe_nil, wipe_cons, back_nil, back_cons, ev_comp2, kComp2_def, Option.getD_some, Option.getD_none, bind_ok', bind_stuck', ofOpt_some, noexc_ok,
    look_def, lookB_own, lookB_ref, lookA_ls, up_def, upB_own, upB_ref, upO_some, upA_ls, upA2_some, List.getElem?_cons_zero, List.getElem?_cons_succ, List.getElem?_nil, List.set_cons_zero, List.set_cons_succ,
    derefD_tup, derefD_kt, derefD_lst, derefD_fl, derefD_dT, derefD_dF, derefD_dK, derefD_kd, derefD_ref, derefA_ls, at_0, at_1, at_2, at_3, at_4, sub_lst, sub_tup, sub_kt, sub_fl, set_0, set_1, set_2, Option.map_some, Option.map_none,
    bin_mulR, bin_mulL, bin_add, bin_sub, bin_mod, bin_addT, bin_addL, lenG_ok, bin_fdiv, divmod_ok, bi_int, bi_abs, bi_lenT, bi_lenL, bi_lenK, bi_lenF, bi_max2, bi_min2, bi_listL, bi_listT, bi_tupleL, bi_tupleT, bi_isi, all_cons_t, all_nil, isi_tup_non, isi_tup_bl, isi_tup_int, isi_tup_str, isi_tup_tup, isi_tup_kt, isi_tup_lst, isi_tup_dK, isi_tup_dT, isi_lst_non, isi_lst_bl, isi_lst_int, isi_lst_str, isi_lst_tup, isi_lst_kt, isi_lst_lst, isi_lst_dK, isi_lst_dT, isi_int_non, isi_int_bl, isi_int_int, isi_int_str, isi_int_tup, isi_int_kt, isi_int_lst, isi_int_dK, isi_int_dT, isi_bool_non, isi_bool_bl, isi_bool_int, isi_bool_str, isi_bool_tup, isi_bool_kt, isi_bool_lst, isi_bool_dK, isi_bool_dT, isi_str_non, isi_str_bl, isi_str_int, isi_str_str, isi_str_tup, isi_str_kt, isi_str_lst, isi_str_dK, isi_str_dT, isi_dict_non, isi_dict_bl, isi_dict_int, isi_dict_str, isi_dict_tup, isi_dict_kt, isi_dict_lst, isi_dict_dK, isi_dict_dT, isNonD, cmp_lt, cmp_le, cmp_gt, cmp_ge, cmp_eqI, cmp_neI, cmp_eqS, cmp_neS, cmp_isN, cmp_isnN, cmp_isB, cmp_isnB, Bool.not_true, Bool.not_false, e1, hx, decide_true, decide_false]
end Pl

set_option Elab.async false
set_option linter.all false
set_option maxRecDepth 100000
set_option maxHeartbeats 4000000
open PySem L2 IL
namespace Pl
def isB (b : Bool) : Out → Bool
  | .ok (.bl c) [] => b == c
  | _ => false
def hv (l : List (List (Int × Int))) : D := .tup (l.map fun r => .tup (r.map fun p => .tup [.int p.1, .int p.2]))
def lv (l : List Int) : D := .tup (l.map .int)
def small : D := hv [[(0, 1), (4, 1), (6, 1)], [(3, 1), (6, 1)], [(4, 1)]]
def wide : D := hv [[(0, 1), (5, 1), (6, 1)], [(3, 1), (6, 1)], [(4, 1)]]
def half : D := hv [[(0, 1), (3, 1), (5, 1), (6, 1)], [(2, 1), (9, 2), (6, 1)], [(3, 1), (5, 1)], [(3, 1)]]
def mid : D := lv [2, 1, 0]
def m0 : List D := [.str "possible", lv [3, 1], lv [2, 0], lv [4, 2]]
def m1 : List D := [.str "possible", mid, mid, lv [3, 2, 1]]
def m2 : List D := [.str "never", lv [3, 1], lv [2, 0], lv [6, 0]]
def m3 : List D := [.str "never", mid, mid, lv [9, 0, 0]]
def m4 : List D := [.str "tight", lv [3, 1], lv [2, 0], lv [5, 1], .tup [lv [0], lv [0], lv [0]]]
def menu : List (List D × D) := [(m0, small), (m1, half), (m2, lv [0, 0, 1]), (m3, .non), (m4, wide)]
def odds : List D := [.str "x", .dT [] [], .lst [.int 0, .int 1], .lst [.tup []], .dK [.inr "x"] [.int 1], .str "0", .tup [.tup [.tup [.tup []]]], .lst [.non]]
def no (mine sheet : D) : Bool := isB false (callN Hd.tt 58 26 [mine, sheet] [])
def claimsR (mine : List D) (odd : D) : List D := [.tup (mine ++ [odd]), .tup mine.dropLast, odd, .non, .bl true, mine[0]?.getD .non, .tup [], .tup ([odd] ++ mine.drop 1), .tup [.tup mine]]
def papersR (mine : List D) (sheet odd : D) : List D := [odd, .bl false, .tup [sheet], .tup mine, .int 0] ++ match sheet with
  | .tup xs => [.non, .tup (xs ++ [odd]), .tup []]
  | _ => [.tup []]
def chkC (q : List D × D) (odd : D) : Bool := ((List.range (q.1.length - 1)).all fun i => (swaps 3 (q.1[i + 1]?.getD .non) odd).all fun r => no (.tup (putAt q.1 (i + 1) r)) q.2) && (claimsR q.1 odd).all fun m => no m q.2
def chkP (q : List D × D) (odd : D) : Bool := (swaps 3 q.2 odd).all (fun r => no (.tup q.1) r) && (papersR q.1 q.2 odd).all fun r => no (.tup q.1) r
end Pl

set_option Elab.async false
set_option linter.all false
set_option maxRecDepth 100000
set_option maxHeartbeats 4000000
open PySem L2 IL
namespace Pl
theorem c0_0 : chkC (m0, small) (.str "x") = true := by decide +kernel
theorem p0_0 : chkP (m0, small) (.str "x") = true := by decide +kernel
theorem c0_1 : chkC (m0, small) (.dT [] []) = true := by decide +kernel
theorem p0_1 : chkP (m0, small) (.dT [] []) = true := by decide +kernel
theorem c0_2 : chkC (m0, small) (.lst [.int 0, .int 1]) = true := by decide +kernel
theorem p0_2 : chkP (m0, small) (.lst [.int 0, .int 1]) = true := by decide +kernel
theorem c0_3 : chkC (m0, small) (.lst [.tup []]) = true := by decide +kernel
theorem p0_3 : chkP (m0, small) (.lst [.tup []]) = true := by decide +kernel
theorem c0_4 : chkC (m0, small) (.dK [.inr "x"] [.int 1]) = true := by decide +kernel
theorem p0_4 : chkP (m0, small) (.dK [.inr "x"] [.int 1]) = true := by decide +kernel
theorem c0_5 : chkC (m0, small) (.str "0") = true := by decide +kernel
theorem p0_5 : chkP (m0, small) (.str "0") = true := by decide +kernel
theorem c0_6 : chkC (m0, small) (.tup [.tup [.tup [.tup []]]]) = true := by decide +kernel
theorem p0_6 : chkP (m0, small) (.tup [.tup [.tup [.tup []]]]) = true := by decide +kernel
theorem c0_7 : chkC (m0, small) (.lst [.non]) = true := by decide +kernel
theorem p0_7 : chkP (m0, small) (.lst [.non]) = true := by decide +kernel
theorem c0 : ∀ o ∈ odds, chkC (m0, small) o = true := by
  intro o ho
  simp only [odds, List.mem_cons, List.not_mem_nil, or_false] at ho
  rcases ho with rfl | rfl | rfl | rfl | rfl | rfl | rfl | rfl
  · exact c0_0
  · exact c0_1
  · exact c0_2
  · exact c0_3
  · exact c0_4
  · exact c0_5
  · exact c0_6
  · exact c0_7
theorem p0 : ∀ o ∈ odds, chkP (m0, small) o = true := by
  intro o ho
  simp only [odds, List.mem_cons, List.not_mem_nil, or_false] at ho
  rcases ho with rfl | rfl | rfl | rfl | rfl | rfl | rfl | rfl
  · exact p0_0
  · exact p0_1
  · exact p0_2
  · exact p0_3
  · exact p0_4
  · exact p0_5
  · exact p0_6
  · exact p0_7
theorem y0 : isB true (callN Hd.tt 58 26 [.tup ((m0, small) : List D × D).1, ((m0, small) : List D × D).2] []) = true := by decide +kernel
end Pl

set_option Elab.async false
set_option linter.all false
set_option maxRecDepth 100000
set_option maxHeartbeats 4000000
open PySem L2 IL
namespace Pl
theorem c1_0 : chkC (m1, half) (.str "x") = true := by decide +kernel
theorem p1_0 : chkP (m1, half) (.str "x") = true := by decide +kernel
theorem c1_1 : chkC (m1, half) (.dT [] []) = true := by decide +kernel
theorem p1_1 : chkP (m1, half) (.dT [] []) = true := by decide +kernel
theorem c1_2 : chkC (m1, half) (.lst [.int 0, .int 1]) = true := by decide +kernel
theorem p1_2 : chkP (m1, half) (.lst [.int 0, .int 1]) = true := by decide +kernel
theorem c1_3 : chkC (m1, half) (.lst [.tup []]) = true := by decide +kernel
theorem p1_3 : chkP (m1, half) (.lst [.tup []]) = true := by decide +kernel
theorem c1_4 : chkC (m1, half) (.dK [.inr "x"] [.int 1]) = true := by decide +kernel
theorem p1_4 : chkP (m1, half) (.dK [.inr "x"] [.int 1]) = true := by decide +kernel
theorem c1_5 : chkC (m1, half) (.str "0") = true := by decide +kernel
theorem p1_5 : chkP (m1, half) (.str "0") = true := by decide +kernel
theorem c1_6 : chkC (m1, half) (.tup [.tup [.tup [.tup []]]]) = true := by decide +kernel
theorem p1_6 : chkP (m1, half) (.tup [.tup [.tup [.tup []]]]) = true := by decide +kernel
theorem c1_7 : chkC (m1, half) (.lst [.non]) = true := by decide +kernel
theorem p1_7 : chkP (m1, half) (.lst [.non]) = true := by decide +kernel
theorem c1 : ∀ o ∈ odds, chkC (m1, half) o = true := by
  intro o ho
  simp only [odds, List.mem_cons, List.not_mem_nil, or_false] at ho
  rcases ho with rfl | rfl | rfl | rfl | rfl | rfl | rfl | rfl
  · exact c1_0
  · exact c1_1
  · exact c1_2
  · exact c1_3
  · exact c1_4
  · exact c1_5
  · exact c1_6
  · exact c1_7
theorem p1 : ∀ o ∈ odds, chkP (m1, half) o = true := by
  intro o ho
  simp only [odds, List.mem_cons, List.not_mem_nil, or_false] at ho
  rcases ho with rfl | rfl | rfl | rfl | rfl | rfl | rfl | rfl
  · exact p1_0
  · exact p1_1
  · exact p1_2
  · exact p1_3
  · exact p1_4
  · exact p1_5
  · exact p1_6
  · exact p1_7
theorem y1 : isB true (callN Hd.tt 58 26 [.tup ((m1, half) : List D × D).1, ((m1, half) : List D × D).2] []) = true := by decide +kernel
end Pl

set_option Elab.async false
set_option linter.all false
set_option maxRecDepth 100000
set_option maxHeartbeats 4000000
open PySem L2 IL
namespace Pl
theorem c2_0 : chkC (m2, lv [0, 0, 1]) (.str "x") = true := by decide +kernel
theorem p2_0 : chkP (m2, lv [0, 0, 1]) (.str "x") = true := by decide +kernel
theorem c2_1 : chkC (m2, lv [0, 0, 1]) (.dT [] []) = true := by decide +kernel
theorem p2_1 : chkP (m2, lv [0, 0, 1]) (.dT [] []) = true := by decide +kernel
theorem c2_2 : chkC (m2, lv [0, 0, 1]) (.lst [.int 0, .int 1]) = true := by decide +kernel
theorem p2_2 : chkP (m2, lv [0, 0, 1]) (.lst [.int 0, .int 1]) = true := by decide +kernel
theorem c2_3 : chkC (m2, lv [0, 0, 1]) (.lst [.tup []]) = true := by decide +kernel
theorem p2_3 : chkP (m2, lv [0, 0, 1]) (.lst [.tup []]) = true := by decide +kernel
theorem c2_4 : chkC (m2, lv [0, 0, 1]) (.dK [.inr "x"] [.int 1]) = true := by decide +kernel
theorem p2_4 : chkP (m2, lv [0, 0, 1]) (.dK [.inr "x"] [.int 1]) = true := by decide +kernel
theorem c2_5 : chkC (m2, lv [0, 0, 1]) (.str "0") = true := by decide +kernel
theorem p2_5 : chkP (m2, lv [0, 0, 1]) (.str "0") = true := by decide +kernel
theorem c2_6 : chkC (m2, lv [0, 0, 1]) (.tup [.tup [.tup [.tup []]]]) = true := by decide +kernel
theorem p2_6 : chkP (m2, lv [0, 0, 1]) (.tup [.tup [.tup [.tup []]]]) = true := by decide +kernel
theorem c2_7 : chkC (m2, lv [0, 0, 1]) (.lst [.non]) = true := by decide +kernel
theorem p2_7 : chkP (m2, lv [0, 0, 1]) (.lst [.non]) = true := by decide +kernel
theorem c2 : ∀ o ∈ odds, chkC (m2, lv [0, 0, 1]) o = true := by
  intro o ho
  simp only [odds, List.mem_cons, List.not_mem_nil, or_false] at ho
  rcases ho with rfl | rfl | rfl | rfl | rfl | rfl | rfl | rfl
  · exact c2_0
  · exact c2_1
  · exact c2_2
  · exact c2_3
  · exact c2_4
  · exact c2_5
  · exact c2_6
  · exact c2_7
theorem p2 : ∀ o ∈ odds, chkP (m2, lv [0, 0, 1]) o = true := by
  intro o ho
  simp only [odds, List.mem_cons, List.not_mem_nil, or_false] at ho
  rcases ho with rfl | rfl | rfl | rfl | rfl | rfl | rfl | rfl
  · exact p2_0
  · exact p2_1
  · exact p2_2
  · exact p2_3
  · exact p2_4
  · exact p2_5
  · exact p2_6
  · exact p2_7
theorem y2 : isB true (callN Hd.tt 58 26 [.tup ((m2, lv [0, 0, 1]) : List D × D).1, ((m2, lv [0, 0, 1]) : List D × D).2] []) = true := by decide +kernel
end Pl

set_option Elab.async false
set_option linter.all false
set_option maxRecDepth 100000
set_option maxHeartbeats 4000000
open PySem L2 IL
namespace Pl
theorem c3_0 : chkC (m3, .non) (.str "x") = true := by decide +kernel
theorem p3_0 : chkP (m3, .non) (.str "x") = true := by decide +kernel
theorem c3_1 : chkC (m3, .non) (.dT [] []) = true := by decide +kernel
theorem p3_1 : chkP (m3, .non) (.dT [] []) = true := by decide +kernel
theorem c3_2 : chkC (m3, .non) (.lst [.int 0, .int 1]) = true := by decide +kernel
theorem p3_2 : chkP (m3, .non) (.lst [.int 0, .int 1]) = true := by decide +kernel
theorem c3_3 : chkC (m3, .non) (.lst [.tup []]) = true := by decide +kernel
theorem p3_3 : chkP (m3, .non) (.lst [.tup []]) = true := by decide +kernel
theorem c3_4 : chkC (m3, .non) (.dK [.inr "x"] [.int 1]) = true := by decide +kernel
theorem p3_4 : chkP (m3, .non) (.dK [.inr "x"] [.int 1]) = true := by decide +kernel
theorem c3_5 : chkC (m3, .non) (.str "0") = true := by decide +kernel
theorem p3_5 : chkP (m3, .non) (.str "0") = true := by decide +kernel
theorem c3_6 : chkC (m3, .non) (.tup [.tup [.tup [.tup []]]]) = true := by decide +kernel
theorem p3_6 : chkP (m3, .non) (.tup [.tup [.tup [.tup []]]]) = true := by decide +kernel
theorem c3_7 : chkC (m3, .non) (.lst [.non]) = true := by decide +kernel
theorem p3_7 : chkP (m3, .non) (.lst [.non]) = true := by decide +kernel
theorem c3 : ∀ o ∈ odds, chkC (m3, .non) o = true := by
  intro o ho
  simp only [odds, List.mem_cons, List.not_mem_nil, or_false] at ho
  rcases ho with rfl | rfl | rfl | rfl | rfl | rfl | rfl | rfl
  · exact c3_0
  · exact c3_1
  · exact c3_2
  · exact c3_3
  · exact c3_4
  · exact c3_5
  · exact c3_6
  · exact c3_7
theorem p3 : ∀ o ∈ odds, chkP (m3, .non) o = true := by
  intro o ho
  simp only [odds, List.mem_cons, List.not_mem_nil, or_false] at ho
  rcases ho with rfl | rfl | rfl | rfl | rfl | rfl | rfl | rfl
  · exact p3_0
  · exact p3_1
  · exact p3_2
  · exact p3_3
  · exact p3_4
  · exact p3_5
  · exact p3_6
  · exact p3_7
theorem y3 : isB true (callN Hd.tt 58 26 [.tup ((m3, .non) : List D × D).1, ((m3, .non) : List D × D).2] []) = true := by decide +kernel
end Pl

set_option Elab.async false
set_option linter.all false
set_option maxRecDepth 100000
set_option maxHeartbeats 4000000
open PySem L2 IL
namespace Pl
theorem c4_0 : chkC (m4, wide) (.str "x") = true := by decide +kernel
theorem p4_0 : chkP (m4, wide) (.str "x") = true := by decide +kernel
theorem c4_1 : chkC (m4, wide) (.dT [] []) = true := by decide +kernel
theorem p4_1 : chkP (m4, wide) (.dT [] []) = true := by decide +kernel
theorem c4_2 : chkC (m4, wide) (.lst [.int 0, .int 1]) = true := by decide +kernel
theorem p4_2 : chkP (m4, wide) (.lst [.int 0, .int 1]) = true := by decide +kernel
theorem c4_3 : chkC (m4, wide) (.lst [.tup []]) = true := by decide +kernel
theorem p4_3 : chkP (m4, wide) (.lst [.tup []]) = true := by decide +kernel
theorem c4_4 : chkC (m4, wide) (.dK [.inr "x"] [.int 1]) = true := by decide +kernel
theorem p4_4 : chkP (m4, wide) (.dK [.inr "x"] [.int 1]) = true := by decide +kernel
theorem c4_5 : chkC (m4, wide) (.str "0") = true := by decide +kernel
theorem p4_5 : chkP (m4, wide) (.str "0") = true := by decide +kernel
theorem c4_6 : chkC (m4, wide) (.tup [.tup [.tup [.tup []]]]) = true := by decide +kernel
theorem p4_6 : chkP (m4, wide) (.tup [.tup [.tup [.tup []]]]) = true := by decide +kernel
theorem c4_7 : chkC (m4, wide) (.lst [.non]) = true := by decide +kernel
theorem p4_7 : chkP (m4, wide) (.lst [.non]) = true := by decide +kernel
theorem c4 : ∀ o ∈ odds, chkC (m4, wide) o = true := by
  intro o ho
  simp only [odds, List.mem_cons, List.not_mem_nil, or_false] at ho
  rcases ho with rfl | rfl | rfl | rfl | rfl | rfl | rfl | rfl
  · exact c4_0
  · exact c4_1
  · exact c4_2
  · exact c4_3
  · exact c4_4
  · exact c4_5
  · exact c4_6
  · exact c4_7
theorem p4 : ∀ o ∈ odds, chkP (m4, wide) o = true := by
  intro o ho
  simp only [odds, List.mem_cons, List.not_mem_nil, or_false] at ho
  rcases ho with rfl | rfl | rfl | rfl | rfl | rfl | rfl | rfl
  · exact p4_0
  · exact p4_1
  · exact p4_2
  · exact p4_3
  · exact p4_4
  · exact p4_5
  · exact p4_6
  · exact p4_7
theorem y4 : isB true (callN Hd.tt 58 26 [.tup ((m4, wide) : List D × D).1, ((m4, wide) : List D × D).2] []) = true := by decide +kernel
end Pl

set_option Elab.async false
set_option linter.all false
set_option maxRecDepth 100000
set_option maxHeartbeats 4000000
open PySem L2 IL
namespace Pl
def menuD : List D := menu.map fun q => .tup [.tup q.1, q.2]
theorem menu_sp (A : List AO) (k : Nat) : callN Hd.tt (k + 1) 29 [] A = .ok (.lst menuD) A := by
  rw [call29]
  simp (disch := omega) only [Hd.b29, List.length_cons, List.length_nil, List.map_cons, List.map_nil, List.replicate, List.cons_append, List.nil_append, List.append_nil, Nat.reduceAdd, Nat.reduceSub, Nat.reduceLT, Nat.reduceLeDiff, if_true, if_false, Nat.zero_add, ↓reduceIte, and_self, startE, runDef_eq, outR_rt, outR_nx,
    evSs_cons, evSs_nil, kSeq_nx, kSeq_rt, kSeq_bk, kSeq_ct, evS_if, kIf_t, kIf_f, evS_ret, kRet, evS_ex, kEx, evS_retN, evS_brk, evS_cont, evS_pass, evS_asg, kAsg_def, asgR_some, asgT_nm, asgT_tu, asgT_tuL, asgTs_nil, asgTs_cons, asgC_some, evS_asgF, kAsgF_ok, cell_lst, cell_dK, cell_dT, evS_asgS, kAsgS, asgSR_some, kUpS, kNx, evS_par2, kPar2, kPar2b_def, evS_par3, kPar3, kPar3b, kPar3c_def,
    evS_tgS, kTg_tup, tgC_some, kTg2, kTg3_def, evS_app, appR_lst, kAppU, app_lst, lenL_ok, evS_aug, augB_fro, kAug, augE_some, augD_add, augD_sub, evS_augS, augS0_some, kAugS1, augS1_some, kAugS2, augS2_some, oldD_dT, oldD_lst, evS_for, kFor,
    ev_con, ev_var, varB_fro, varB_ownT, varB_ownF, give_lst, give_dK, give_dT, ev_bin, kBin1, kBin2, ev_neg, kNeg_int, ev_nt, kNt_bl, ev_cmp, kCmp1, kCmp2, ev_chain, kCh1, kCh2, kCh3_t, kCh3_f, ev_and, kAnd_t, kAnd_f, ev_or, kOr_t, kOr_f, ev_ite, kIte_t, kIte_f, ev_tup, kTup_def, kLen_ok, ev_lst, kLst_def, ev_dic0, ev_sub, kSub1, kSub2_def, ev_sli, kSli1, kSli2, kSli3, ev_rev, kRev, ev_call, kCall_def, callR_ok, callR_exc, ev_callP, kCallP, callP_some, ev_obj, kObj_lst, ev_dic1, kDic1, ev_dicT, kDicT1, kDicT2, dicTR_some, ev_bi, kBi, ev_mt, kMt1, kMt2, evs_nil, evs_cons, kCons1, kCons2, evO_no, evO_yes, kO_int, evT_nil, evT_cons, kT_t, kT_f, kT_nil,
    evI_seq, kSeqI, evI_rng1, kR1_ok, evI_rng2, kR2, kR2_ok, evI_rng3, kR3, kR3_ok, evI_enum, kEnum, ev_comp, kComp_def, kCe_def, wipe_nil, wipe_cons, back_nil, back_cons, ev_comp2, kComp2_def, Option.getD_some, Option.getD_none, bind_ok', bind_stuck', ofOpt_some, noexc_ok,
    look_def, lookB_own, lookB_ref, lookA_ls, up_def, upB_own, upB_ref, upO_some, upA_ls, upA2_some, List.getElem?_cons_zero, List.getElem?_cons_succ, List.getElem?_nil, List.set_cons_zero, List.set_cons_succ,
    derefD_tup, derefD_kt, derefD_lst, derefD_fl, derefD_dT, derefD_dF, derefD_dK, derefD_kd, derefD_ref, derefA_ls, at_0, at_1, at_2, at_3, at_4, sub_lst, sub_tup, sub_kt, sub_fl, set_0, set_1, set_2, Option.map_some, Option.map_none,
    bin_mulR, bin_mulL, bin_add, bin_sub, bin_mod, bin_addT, bin_addL, lenG_ok, bin_fdiv, divmod_ok, bi_int, bi_abs, bi_lenT, bi_lenL, bi_lenK, bi_lenF, bi_max2, bi_min2, bi_listL, bi_listT, bi_tupleL, bi_tupleT, bi_isi, all_cons_t, all_nil, isi_tup_non, isi_tup_bl, isi_tup_int, isi_tup_str, isi_tup_tup, isi_tup_kt, isi_tup_lst, isi_tup_dK, isi_tup_dT, isi_lst_non, isi_lst_bl, isi_lst_int, isi_lst_str, isi_lst_tup, isi_lst_kt, isi_lst_lst, isi_lst_dK, isi_lst_dT, isi_int_non, isi_int_bl, isi_int_int, isi_int_str, isi_int_tup, isi_int_kt, isi_int_lst, isi_int_dK, isi_int_dT, isi_bool_non, isi_bool_bl, isi_bool_int, isi_bool_str, isi_bool_tup, isi_bool_kt, isi_bool_lst, isi_bool_dK, isi_bool_dT, isi_str_non, isi_str_bl, isi_str_int, isi_str_str, isi_str_tup, isi_str_kt, isi_str_lst, isi_str_dK, isi_str_dT, isi_dict_non, isi_dict_bl, isi_dict_int, isi_dict_str, isi_dict_tup, isi_dict_kt, isi_dict_lst, isi_dict_dK, isi_dict_dT, isNonD, cmp_lt, cmp_le, cmp_gt, cmp_ge, cmp_eqI, cmp_neI, cmp_eqS, cmp_neS, cmp_isN, cmp_isnN, cmp_isB, cmp_isnB, Bool.not_true, Bool.not_false]
  rfl
/-- a call with no objects, lifted to any objects -/
def okF (f : Nat) : Bool := decide (f < 27)
theorem pureF : pureT okF Hd.bs = true := by decide +kernel
theorem lift {k f : Nat} {ds : List D} {d : D} (hf : okF f = true) (h : callN Hd.tt k f ds [] = .ok d []) (A : List AO) : callN Hd.tt k f ds A = .ok d A := by
  have := call_frame (B := A) (flds := fun _ => none) pureF k f hf ds [] d [] h
  simpa using this
theorem isB_eq {b : Bool} {o : Out} (h : isB b o = true) : o = .ok (.bl b) [] := by
  unfold isB at h
  split at h
  · rename_i c
    have : b = c := by simpa using h
    rw [this]
  · cases h
theorem no_sp {mine sheet : D} (h : no mine sheet = true) (A : List AO) : callN Hd.tt 58 26 [mine, sheet] A = .ok (.bl false) A := lift rfl (isB_eq h) A
theorem all_true {α : Type} (xs : List α) : biD .all [.lst (xs.map fun _ => .bl true)] = some (.bl true) := by
  rw [bi_allM]
  simp
theorem all_noC {fl : Nat → Option Nat} {e0 e1 e2 e3 e4 e5 e6 e7 : Option B} {sheet : D} {A : List AO} {xs : List D} (hl : xs.length ≤ 100000) (h : ∀ x ∈ xs, callN Hd.tt 58 26 [x, sheet] A = .ok (.bl false) A) :
    compLoop (kCf ⟨callN Hd.tt 58, fl⟩ [9] (.nm 9) .nil (.cmp .is_ (.call 26 (.cons (.var 9) (.cons (.var 8) .nil))) (.con (.bl false)))) xs [] ⟨[e0, e1, e2, e3, e4, e5, e6, e7, some (.fro sheet), none], A⟩ = .ok (xs.map fun _ => .bl true) ⟨[e0, e1, e2, e3, e4, e5, e6, e7, some (.fro sheet), none], A⟩ := by
  have := compLoop_map (f := kCf ⟨callN Hd.tt 58, fl⟩ [9] (.nm 9) .nil (.cmp .is_ (.call 26 (.cons (.var 9) (.cons (.var 8) .nil))) (.con (.bl false)))) (st := ⟨[e0, e1, e2, e3, e4, e5, e6, e7, some (.fro sheet), none], A⟩) (g := fun _ => .bl true) xs [] (fun x hx => ?_) (by
    have : sizeLine = 16777216 := rfl
    simp
    omega)
  · simpa using this
  · have e := h x hx
    simp (disch := omega) only [kCf_def, List.length_cons, List.length_nil, List.map_cons, List.map_nil, List.replicate, List.cons_append, List.nil_append, List.append_nil, Nat.reduceAdd, Nat.reduceSub, Nat.reduceLT, Nat.reduceLeDiff, if_true, if_false, Nat.zero_add, ↓reduceIte, and_self, startE, runDef_eq, outR_rt, outR_nx,
    evSs_cons, evSs_nil, kSeq_nx, kSeq_rt, kSeq_bk, kSeq_ct, evS_if, kIf_t, kIf_f, evS_ret, kRet, evS_ex, kEx, evS_retN, evS_brk, evS_cont, evS_pass, evS_asg, kAsg_def, asgR_some, asgT_nm, asgT_tu, asgT_tuL, asgTs_nil, asgTs_cons, asgC_some, evS_asgF, kAsgF_ok, cell_lst, cell_dK, cell_dT, evS_asgS, kAsgS, asgSR_some, kUpS, kNx, evS_par2, kPar2, kPar2b_def, evS_par3, kPar3, kPar3b, kPar3c_def,
    evS_tgS, kTg_tup, tgC_some, kTg2, kTg3_def, evS_app, appR_lst, kAppU, app_lst, lenL_ok, evS_aug, augB_fro, kAug, augE_some, augD_add, augD_sub, evS_augS, augS0_some, kAugS1, augS1_some, kAugS2, augS2_some, oldD_dT, oldD_lst, evS_for, kFor,
    ev_con, ev_var, varB_fro, varB_ownT, varB_ownF, give_lst, give_dK, give_dT, ev_bin, kBin1, kBin2, ev_neg, kNeg_int, ev_nt, kNt_bl, ev_cmp, kCmp1, kCmp2, ev_chain, kCh1, kCh2, kCh3_t, kCh3_f, ev_and, kAnd_t, kAnd_f, ev_or, kOr_t, kOr_f, ev_ite, kIte_t, kIte_f, ev_tup, kTup_def, kLen_ok, ev_lst, kLst_def, ev_dic0, ev_sub, kSub1, kSub2_def, ev_sli, kSli1, kSli2, kSli3, ev_rev, kRev, ev_call, kCall_def, callR_ok, callR_exc, ev_callP, kCallP, callP_some, ev_obj, kObj_lst, ev_dic1, kDic1, ev_dicT, kDicT1, kDicT2, dicTR_some, ev_bi, kBi, ev_mt, kMt1, kMt2, evs_nil, evs_cons, kCons1, kCons2, evO_no, evO_yes, kO_int, evT_nil, evT_cons, kT_t, kT_f, kT_nil,
    evI_seq, kSeqI, evI_rng1, kR1_ok, evI_rng2, kR2, kR2_ok, evI_rng3, kR3, kR3_ok, evI_enum, kEnum, ev_comp, kComp_def, kCe_def, wipe_nil, wipe_cons, back_nil, back_cons, ev_comp2, kComp2_def, Option.getD_some, Option.getD_none, bind_ok', bind_stuck', ofOpt_some, noexc_ok,
    look_def, lookB_own, lookB_ref, lookA_ls, up_def, upB_own, upB_ref, upO_some, upA_ls, upA2_some, List.getElem?_cons_zero, List.getElem?_cons_succ, List.getElem?_nil, List.set_cons_zero, List.set_cons_succ,
    derefD_tup, derefD_kt, derefD_lst, derefD_fl, derefD_dT, derefD_dF, derefD_dK, derefD_kd, derefD_ref, derefA_ls, at_0, at_1, at_2, at_3, at_4, sub_lst, sub_tup, sub_kt, sub_fl, set_0, set_1, set_2, Option.map_some, Option.map_none,
    bin_mulR, bin_mulL, bin_add, bin_sub, bin_mod, bin_addT, bin_addL, lenG_ok, bin_fdiv, divmod_ok, bi_int, bi_abs, bi_lenT, bi_lenL, bi_lenK, bi_lenF, bi_max2, bi_min2, bi_listL, bi_listT, bi_tupleL, bi_tupleT, bi_isi, all_cons_t, all_nil, isi_tup_non, isi_tup_bl, isi_tup_int, isi_tup_str, isi_tup_tup, isi_tup_kt, isi_tup_lst, isi_tup_dK, isi_tup_dT, isi_lst_non, isi_lst_bl, isi_lst_int, isi_lst_str, isi_lst_tup, isi_lst_kt, isi_lst_lst, isi_lst_dK, isi_lst_dT, isi_int_non, isi_int_bl, isi_int_int, isi_int_str, isi_int_tup, isi_int_kt, isi_int_lst, isi_int_dK, isi_int_dT, isi_bool_non, isi_bool_bl, isi_bool_int, isi_bool_str, isi_bool_tup, isi_bool_kt, isi_bool_lst, isi_bool_dK, isi_bool_dT, isi_str_non, isi_str_bl, isi_str_int, isi_str_str, isi_str_tup, isi_str_kt, isi_str_lst, isi_str_dK, isi_str_dT, isi_dict_non, isi_dict_bl, isi_dict_int, isi_dict_str, isi_dict_tup, isi_dict_kt, isi_dict_lst, isi_dict_dK, isi_dict_dT, isNonD, cmp_lt, cmp_le, cmp_gt, cmp_ge, cmp_eqI, cmp_neI, cmp_eqS, cmp_neS, cmp_isN, cmp_isnN, cmp_isB, cmp_isnB, Bool.not_true, Bool.not_false, kCf0_some, kCf1_t, kCf2_def, e, decide_true]
theorem all_noP {fl : Nat → Option Nat} {e0 e1 e2 e3 e4 e5 e6 e8 : Option B} {mine : D} {A : List AO} {xs : List D} (hl : xs.length ≤ 100000) (h : ∀ x ∈ xs, callN Hd.tt 58 26 [mine, x] A = .ok (.bl false) A) :
    compLoop (kCf ⟨callN Hd.tt 58, fl⟩ [9] (.nm 9) .nil (.cmp .is_ (.call 26 (.cons (.var 7) (.cons (.var 9) .nil))) (.con (.bl false)))) xs [] ⟨[e0, e1, e2, e3, e4, e5, e6, some (.fro mine), e8, none], A⟩ = .ok (xs.map fun _ => .bl true) ⟨[e0, e1, e2, e3, e4, e5, e6, some (.fro mine), e8, none], A⟩ := by
  have := compLoop_map (f := kCf ⟨callN Hd.tt 58, fl⟩ [9] (.nm 9) .nil (.cmp .is_ (.call 26 (.cons (.var 7) (.cons (.var 9) .nil))) (.con (.bl false)))) (st := ⟨[e0, e1, e2, e3, e4, e5, e6, some (.fro mine), e8, none], A⟩) (g := fun _ => .bl true) xs [] (fun x hx => ?_) (by
    have : sizeLine = 16777216 := rfl
    simp
    omega)
  · simpa using this
  · have e := h x hx
    simp (disch := omega) only [kCf_def, List.length_cons, List.length_nil, List.map_cons, List.map_nil, List.replicate, List.cons_append, List.nil_append, List.append_nil, Nat.reduceAdd, Nat.reduceSub, Nat.reduceLT, Nat.reduceLeDiff, if_true, if_false, Nat.zero_add, ↓reduceIte, and_self, startE, runDef_eq, outR_rt, outR_nx,
    evSs_cons, evSs_nil, kSeq_nx, kSeq_rt, kSeq_bk, kSeq_ct, evS_if, kIf_t, kIf_f, evS_ret, kRet, evS_ex, kEx, evS_retN, evS_brk, evS_cont, evS_pass, evS_asg, kAsg_def, asgR_some, asgT_nm, asgT_tu, asgT_tuL, asgTs_nil, asgTs_cons, asgC_some, evS_asgF, kAsgF_ok, cell_lst, cell_dK, cell_dT, evS_asgS, kAsgS, asgSR_some, kUpS, kNx, evS_par2, kPar2, kPar2b_def, evS_par3, kPar3, kPar3b, kPar3c_def,
    evS_tgS, kTg_tup, tgC_some, kTg2, kTg3_def, evS_app, appR_lst, kAppU, app_lst, lenL_ok, evS_aug, augB_fro, kAug, augE_some, augD_add, augD_sub, evS_augS, augS0_some, kAugS1, augS1_some, kAugS2, augS2_some, oldD_dT, oldD_lst, evS_for, kFor,
    ev_con, ev_var, varB_fro, varB_ownT, varB_ownF, give_lst, give_dK, give_dT, ev_bin, kBin1, kBin2, ev_neg, kNeg_int, ev_nt, kNt_bl, ev_cmp, kCmp1, kCmp2, ev_chain, kCh1, kCh2, kCh3_t, kCh3_f, ev_and, kAnd_t, kAnd_f, ev_or, kOr_t, kOr_f, ev_ite, kIte_t, kIte_f, ev_tup, kTup_def, kLen_ok, ev_lst, kLst_def, ev_dic0, ev_sub, kSub1, kSub2_def, ev_sli, kSli1, kSli2, kSli3, ev_rev, kRev, ev_call, kCall_def, callR_ok, callR_exc, ev_callP, kCallP, callP_some, ev_obj, kObj_lst, ev_dic1, kDic1, ev_dicT, kDicT1, kDicT2, dicTR_some, ev_bi, kBi, ev_mt, kMt1, kMt2, evs_nil, evs_cons, kCons1, kCons2, evO_no, evO_yes, kO_int, evT_nil, evT_cons, kT_t, kT_f, kT_nil,
    evI_seq, kSeqI, evI_rng1, kR1_ok, evI_rng2, kR2, kR2_ok, evI_rng3, kR3, kR3_ok, evI_enum, kEnum, ev_comp, kComp_def, kCe_def, wipe_nil, wipe_cons, back_nil, back_cons, ev_comp2, kComp2_def, Option.getD_some, Option.getD_none, bind_ok', bind_stuck', ofOpt_some, noexc_ok,
    look_def, lookB_own, lookB_ref, lookA_ls, up_def, upB_own, upB_ref, upO_some, upA_ls, upA2_some, List.getElem?_cons_zero, List.getElem?_cons_succ, List.getElem?_nil, List.set_cons_zero, List.set_cons_succ,
    derefD_tup, derefD_kt, derefD_lst, derefD_fl, derefD_dT, derefD_dF, derefD_dK, derefD_kd, derefD_ref, derefA_ls, at_0, at_1, at_2, at_3, at_4, sub_lst, sub_tup, sub_kt, sub_fl, set_0, set_1, set_2, Option.map_some, Option.map_none,
    bin_mulR, bin_mulL, bin_add, bin_sub, bin_mod, bin_addT, bin_addL, lenG_ok, bin_fdiv, divmod_ok, bi_int, bi_abs, bi_lenT, bi_lenL, bi_lenK, bi_lenF, bi_max2, bi_min2, bi_listL, bi_listT, bi_tupleL, bi_tupleT, bi_isi, all_cons_t, all_nil, isi_tup_non, isi_tup_bl, isi_tup_int, isi_tup_str, isi_tup_tup, isi_tup_kt, isi_tup_lst, isi_tup_dK, isi_tup_dT, isi_lst_non, isi_lst_bl, isi_lst_int, isi_lst_str, isi_lst_tup, isi_lst_kt, isi_lst_lst, isi_lst_dK, isi_lst_dT, isi_int_non, isi_int_bl, isi_int_int, isi_int_str, isi_int_tup, isi_int_kt, isi_int_lst, isi_int_dK, isi_int_dT, isi_bool_non, isi_bool_bl, isi_bool_int, isi_bool_str, isi_bool_tup, isi_bool_kt, isi_bool_lst, isi_bool_dK, isi_bool_dT, isi_str_non, isi_str_bl, isi_str_int, isi_str_str, isi_str_tup, isi_str_kt, isi_str_lst, isi_str_dK, isi_str_dT, isi_dict_non, isi_dict_bl, isi_dict_int, isi_dict_str, isi_dict_tup, isi_dict_kt, isi_dict_lst, isi_dict_dK, isi_dict_dT, isNonD, cmp_lt, cmp_le, cmp_gt, cmp_ge, cmp_eqI, cmp_neI, cmp_eqS, cmp_neS, cmp_isN, cmp_isnN, cmp_isB, cmp_isnB, Bool.not_true, Bool.not_false, kCf0_some, kCf1_t, kCf2_def, e, decide_true]
theorem cut_m1 (xs : List D) : cutL xs none (some (-1)) = xs.dropLast := by
  unfold cutL
  have e : HT.sIx xs.length 0 none = 0 := rfl
  have e2 : HT.sIx xs.length xs.length (some (-1)) = xs.length - 1 := by
    simp only [HT.sIx]
    rw [if_pos (by omega)]
    omega
  rw [e, e2, List.drop_zero, Nat.sub_zero, List.dropLast_eq_take]
/-- what is known of a right claim and its paper -/
structure Good (q : List D × D) : Prop where
  len : 4 ≤ q.1.length ∧ q.1.length ≤ 5
  okc : okDs q.1 = true
  okp : okD q.2 = true
  shp : q.2 = .non ∨ ∃ xs, q.2 = .tup xs ∧ xs.length ≤ 100
  c : ∀ o ∈ odds, chkC q o = true
  p : ∀ o ∈ odds, chkP q o = true
  yes : isB true (callN Hd.tt 58 26 [.tup q.1, q.2] []) = true
theorem good : ∀ q ∈ menu, Good q := by
  intro q hq
  simp only [menu, List.mem_cons, List.not_mem_nil, or_false] at hq
  rcases hq with rfl | rfl | rfl | rfl | rfl
  · exact ⟨by decide, by decide +kernel, by decide +kernel, .inr ⟨_, rfl, by decide⟩, c0, p0, y0⟩
  · exact ⟨by decide, by decide +kernel, by decide +kernel, .inr ⟨_, rfl, by decide⟩, c1, p1, y1⟩
  · exact ⟨by decide, by decide +kernel, by decide +kernel, .inr ⟨_, rfl, by decide⟩, c2, p2, y2⟩
  · exact ⟨by decide, by decide +kernel, by decide +kernel, .inl rfl, c3, p3, y3⟩
  · exact ⟨by decide, by decide +kernel, by decide +kernel, .inr ⟨_, rfl, by decide⟩, c4, p4, y4⟩
end Pl

set_option Elab.async false
set_option linter.all false
set_option maxRecDepth 100000
set_option maxHeartbeats 4000000
open PySem L2 IL
namespace Pl
def bodyR : ISs := match Hd.b34.body with
  | .cons _ (.cons (.forS _ _ b) _) => b
  | _ => .nil
theorem bR : Hd.b34 = ⟨10, 1, .cons (.asg (.nm 1) (.call 29 .nil)) (.cons (.forS (.nm 2) (.rng1 (.con (.int 15))) bodyR) (.cons (.ret (.con (.bl true))) .nil))⟩ := rfl
theorem set_id {A : List AO} {p : Nat} {x : AO} (h : A[p]? = some x) : A.set p x = A := by
  rw [← (List.getElem?_eq_some_iff.mp h).2]
  exact List.set_getElem_self ..
theorem okDs_at {xs : List D} {i : Nat} (o : okDs xs = true) (h : i < xs.length) : okD (xs[i]?.getD .non) = true := by
  rw [List.getElem?_eq_getElem h]
  exact okDs_get o (List.getElem?_eq_getElem h)
theorem turn {p n : Nat} {a b c : Int} {A : List AO} (h : A[p]? = some (pz a b c)) (z : Pz n a b c) (hn : n + 40 < 800000) (x : D) (e2 e3 e4 e5 e6 e7 e8 e9 : Option B) :
    ∃ f2 f3 f4 f5 f6 f7 f8 f9 a' b' c', Pz (n + 20) a' b' c' ∧ kForF ⟨callN Hd.tt 58, fun _ => none⟩ (.nm 2) bodyR x ⟨[some (.fro (.ref p)), some (.fro (.lst menuD)), e2, e3, e4, e5, e6, e7, e8, e9], A⟩ = .ok .nx ⟨[some (.fro (.ref p)), some (.fro (.lst menuD)), f2, f3, f4, f5, f6, f7, f8, f9], A.set p (pz a' b' c')⟩ := by
  have hp : p < A.length := (List.getElem?_eq_some_iff.mp h).1
  obtain ⟨t1, a1, b1, c1, t10, t11, z1, u1⟩ := take_sp (many := 5) h z (by omega) (by decide) (by decide) 57
  have h1 : (A.set p (pz a1 b1 c1))[p]? = some (pz a1 b1 c1) := List.getElem?_set_self hp
  obtain ⟨t2, a2, b2, c2, t20, t21, z2, u2⟩ := take_sp (many := 8) h1 z1 (by omega) (by decide) (by decide) 57
  rw [List.set_set] at u2
  have h2 : (A.set p (pz a2 b2 c2))[p]? = some (pz a2 b2 c2) := List.getElem?_set_self hp
  -- the claim that is drawn
  have hm : t1.toNat < menu.length := by
    show t1.toNat < 5
    omega
  obtain ⟨q, hq, hqm⟩ : ∃ q, menu[t1.toNat]? = some q ∧ q ∈ menu := ⟨menu[t1.toNat], List.getElem?_eq_getElem hm, List.getElem_mem hm⟩
  have G := good q hqm
  have em : atD menuD t1 = some (.tup [.tup q.1, q.2]) := by
    rw [at_nat t10, menuD, List.getElem?_map, hq]
    rfl
  have eml : ((menuD.length : Nat) : Int) = 5 := rfl
  have ho : t2.toNat < odds.length := by
    show t2.toNat < 8
    omega
  obtain ⟨odd, hod, hom⟩ : ∃ o, atD odds t2 = some o ∧ o ∈ odds := ⟨odds[t2.toNat], by rw [at_nat t20]; exact List.getElem?_eq_getElem ho, List.getElem_mem ho⟩
  have hod' := hod
  unfold odds at hod
  obtain ⟨⟨l4, l5⟩, okc, okp, shp, hc, hpp, yes⟩ := G
  have hC := hc odd hom
  have hP := hpp odd hom
  obtain ⟨t3, a3, b3, c3, t30, t31, z3, u3⟩ := take_sp (many := (q.1.length : Int) - 1) h2 z2 (by omega) (by omega) (by omega) 57
  rw [List.set_set] at u3
  have h3 : (A.set p (pz a3 b3 c3))[p]? = some (pz a3 b3 c3) := List.getElem?_set_self hp
  have hi : (1 + t3).toNat = t3.toNat + 1 := by omega
  have hi1 : t3.toNat + 1 < q.1.length := by omega
  obtain ⟨r, a4, b4, c4, mr, z4, u4⟩ := swapped_sp odd 3 (by decide) (q.1[t3.toNat + 1]?.getD .non) (okDs_at okc hi1) h3 z3 (by omega) 53
  rw [List.set_set] at u4
  have h4 : (A.set p (pz a4 b4 c4))[p]? = some (pz a4 b4 c4) := List.getElem?_set_self hp
  obtain ⟨r2, a5, b5, c5, mr2, z5, u5⟩ := swapped_sp odd 3 (by decide) q.2 okp h4 z4 (by omega) 53
  rw [List.set_set] at u5
  have e0 : atD q.1 0 = some (q.1[0]?.getD .non) := by
    rw [at_nat (by decide)]
    show q.1[0]? = _
    rw [List.getElem?_eq_getElem (by omega)]
    rfl
  have e3 : atD q.1 (1 + t3) = some (q.1[t3.toNat + 1]?.getD .non) := by
    rw [at_nat (by omega), hi, List.getElem?_eq_getElem hi1]
    rfl
  have hi2 : (1 + t3 + 1).toNat = t3.toNat + 1 + 1 := by omega
  have hone : Int.toNat 1 = 1 := rfl
  simp only [chkC, Bool.and_eq_true, List.all_eq_true] at hC
  obtain ⟨hC1, hC2⟩ := hC
  simp only [chkP, Bool.and_eq_true, List.all_eq_true] at hP
  obtain ⟨hP1, hP2⟩ := hP
  have hC1' := hC1 t3.toNat (List.mem_range.mpr (by omega)) r mr
  have hP1' := hP1 r2 mr2
  have v1 : ∀ A, ∀ m ∈ claimsR q.1 odd, callN Hd.tt 58 26 [m, q.2] A = .ok (.bl false) A := fun A m hm => no_sp (hC2 m hm) A
  have v2 : ∀ A, ∀ m ∈ papersR q.1 q.2 odd, callN Hd.tt 58 26 [.tup q.1, m] A = .ok (.bl false) A := fun A m hm => no_sp (hP2 m hm) A
  have v3 := fun A => lift (f := 26) rfl (isB_eq yes) A
  have v4 := fun A => no_sp hC1' A
  have v5 := fun A => no_sp hP1' A
  have w4 : callN Hd.tt 58 32 [.ref p, q.1[t3.toNat + 1]?.getD .non, odd, .int 3] (A.set p (pz a3 b3 c3)) = .ok r (A.set p (pz a4 b4 c4)) := u4
  have w5 : callN Hd.tt 58 32 [.ref p, q.2, odd, .int 3] (A.set p (pz a4 b4 c4)) = .ok r2 (A.set p (pz a5 b5 c5)) := u5
  simp (disch := first | omega | (simp only [List.length_take, List.length_drop, List.length_append, List.length_cons, List.length_nil]; omega)) only [bodyR, Hd.b34, kForF_def, forB_some, List.length_cons, List.length_nil, List.map_cons, List.map_nil, List.replicate, List.cons_append, List.nil_append, List.append_nil, Nat.reduceAdd, Nat.reduceSub, Nat.reduceLT, Nat.reduceLeDiff, if_true, if_false, Nat.zero_add, ↓reduceIte, and_self, startE, runDef_eq, outR_rt, outR_nx,
    evSs_cons, evSs_nil, kSeq_nx, kSeq_rt, kSeq_bk, kSeq_ct, evS_if, kIf_t, kIf_f, evS_ret, kRet, evS_ex, kEx, evS_retN, evS_brk, evS_cont, evS_pass, evS_asg, kAsg_def, asgR_some, asgT_nm, asgT_tu, asgT_tuL, asgTs_nil, asgTs_cons, asgC_some, evS_asgF, kAsgF_ok, cell_lst, cell_dK, cell_dT, evS_asgS, kAsgS, asgSR_some, kUpS, kNx, evS_par2, kPar2, kPar2b_def, evS_par3, kPar3, kPar3b, kPar3c_def,
    evS_tgS, kTg_tup, tgC_some, kTg2, kTg3_def, evS_app, appR_lst, kAppU, app_lst, lenL_ok, evS_aug, augB_fro, kAug, augE_some, augD_add, augD_sub, evS_augS, augS0_some, kAugS1, augS1_some, kAugS2, augS2_some, oldD_dT, oldD_lst, evS_for, kFor,
    ev_con, ev_var, varB_fro, varB_ownT, varB_ownF, give_lst, give_dK, give_dT, ev_bin, kBin1, kBin2, ev_neg, kNeg_int, ev_nt, kNt_bl, ev_cmp, kCmp1, kCmp2, ev_chain, kCh1, kCh2, kCh3_t, kCh3_f, ev_and, kAnd_t, kAnd_f, ev_or, kOr_t, kOr_f, ev_ite, kIte_t, kIte_f, ev_tup, kTup_def, kLen_ok, ev_lst, kLst_def, ev_dic0, ev_sub, kSub1, kSub2_def, ev_sli, kSli1, kSli2, kSli3, ev_rev, kRev, ev_call, kCall_def, callR_ok, callR_exc, ev_callP, kCallP, callP_some, ev_obj, kObj_lst, ev_dic1, kDic1, ev_dicT, kDicT1, kDicT2, dicTR_some, ev_bi, kBi, ev_mt, kMt1, kMt2, evs_nil, evs_cons, kCons1, kCons2, evO_no, evO_yes, kO_int, evT_nil, evT_cons, kT_t, kT_f, kT_nil,
    evI_seq, kSeqI, evI_rng1, kR1_ok, evI_rng2, kR2, kR2_ok, evI_rng3, kR3, kR3_ok, evI_enum, kEnum, ev_comp, kComp_def, kCe_def, wipe_nil, wipe_cons, back_nil, back_cons, ev_comp2, kComp2_def, Option.getD_some, Option.getD_none, bind_ok', bind_stuck', ofOpt_some, noexc_ok,
    look_def, lookB_own, lookB_ref, lookA_ls, up_def, upB_own, upB_ref, upO_some, upA_ls, upA2_some, List.getElem?_cons_zero, List.getElem?_cons_succ, List.getElem?_nil, List.set_cons_zero, List.set_cons_succ,
    derefD_tup, derefD_kt, derefD_lst, derefD_fl, derefD_dT, derefD_dF, derefD_dK, derefD_kd, derefD_ref, derefA_ls, at_0, at_1, at_2, at_3, at_4, sub_lst, sub_tup, sub_kt, sub_fl, set_0, set_1, set_2, Option.map_some, Option.map_none,
    bin_mulR, bin_mulL, bin_add, bin_sub, bin_mod, bin_addT, bin_addL, lenG_ok, bin_fdiv, divmod_ok, bi_int, bi_abs, bi_lenT, bi_lenL, bi_lenK, bi_lenF, bi_max2, bi_min2, bi_listL, bi_listT, bi_tupleL, bi_tupleT, bi_isi, all_cons_t, all_nil, isi_tup_non, isi_tup_bl, isi_tup_int, isi_tup_str, isi_tup_tup, isi_tup_kt, isi_tup_lst, isi_tup_dK, isi_tup_dT, isi_lst_non, isi_lst_bl, isi_lst_int, isi_lst_str, isi_lst_tup, isi_lst_kt, isi_lst_lst, isi_lst_dK, isi_lst_dT, isi_int_non, isi_int_bl, isi_int_int, isi_int_str, isi_int_tup, isi_int_kt, isi_int_lst, isi_int_dK, isi_int_dT, isi_bool_non, isi_bool_bl, isi_bool_int, isi_bool_str, isi_bool_tup, isi_bool_kt, isi_bool_lst, isi_bool_dK, isi_bool_dT, isi_str_non, isi_str_bl, isi_str_int, isi_str_str, isi_str_tup, isi_str_kt, isi_str_lst, isi_str_dK, isi_str_dT, isi_dict_non, isi_dict_bl, isi_dict_int, isi_dict_str, isi_dict_tup, isi_dict_kt, isi_dict_lst, isi_dict_dK, isi_dict_dT, isNonD, cmp_lt, cmp_le, cmp_gt, cmp_ge, cmp_eqI, cmp_neI, cmp_eqS, cmp_neS, cmp_isN, cmp_isnN, cmp_isB, cmp_isnB, Bool.not_true, Bool.not_false, eml, em, u1, u2, u3, hod, e0, e3, sli_tup, cut_take, cut_drop, cut_m1, hi, hi2, hone, w4, w5, items_lst]
  have kC : ∀ A, ∀ m ∈ (.tup (putAt q.1 (t3.toNat + 1) r)) :: claimsR q.1 odd, callN Hd.tt 58 26 [m, q.2] A = .ok (.bl false) A := by
    intro A m hm
    rcases List.mem_cons.mp hm with rfl | hm
    · exact v4 A
    · exact v1 A m hm
  simp only [claimsR, putAt, List.cons_append, List.nil_append] at kC
  rw [all_noC (by simp) (kC _)]
  simp (disch := first | omega | (simp only [List.length_take, List.length_drop, List.length_append, List.length_cons, List.length_nil]; omega)) only [List.length_cons, List.length_nil, List.map_cons, List.map_nil, List.replicate, List.cons_append, List.nil_append, List.append_nil, Nat.reduceAdd, Nat.reduceSub, Nat.reduceLT, Nat.reduceLeDiff, if_true, if_false, Nat.zero_add, ↓reduceIte, and_self, startE, runDef_eq, outR_rt, outR_nx,
    evSs_cons, evSs_nil, kSeq_nx, kSeq_rt, kSeq_bk, kSeq_ct, evS_if, kIf_t, kIf_f, evS_ret, kRet, evS_ex, kEx, evS_retN, evS_brk, evS_cont, evS_pass, evS_asg, kAsg_def, asgR_some, asgT_nm, asgT_tu, asgT_tuL, asgTs_nil, asgTs_cons, asgC_some, evS_asgF, kAsgF_ok, cell_lst, cell_dK, cell_dT, evS_asgS, kAsgS, asgSR_some, kUpS, kNx, evS_par2, kPar2, kPar2b_def, evS_par3, kPar3, kPar3b, kPar3c_def,
    evS_tgS, kTg_tup, tgC_some, kTg2, kTg3_def, evS_app, appR_lst, kAppU, app_lst, lenL_ok, evS_aug, augB_fro, kAug, augE_some, augD_add, augD_sub, evS_augS, augS0_some, kAugS1, augS1_some, kAugS2, augS2_some, oldD_dT, oldD_lst, evS_for, kFor,
    ev_con, ev_var, varB_fro, varB_ownT, varB_ownF, give_lst, give_dK, give_dT, ev_bin, kBin1, kBin2, ev_neg, kNeg_int, ev_nt, kNt_bl, ev_cmp, kCmp1, kCmp2, ev_chain, kCh1, kCh2, kCh3_t, kCh3_f, ev_and, kAnd_t, kAnd_f, ev_or, kOr_t, kOr_f, ev_ite, kIte_t, kIte_f, ev_tup, kTup_def, kLen_ok, ev_lst, kLst_def, ev_dic0, ev_sub, kSub1, kSub2_def, ev_sli, kSli1, kSli2, kSli3, ev_rev, kRev, ev_call, kCall_def, callR_ok, callR_exc, ev_callP, kCallP, callP_some, ev_obj, kObj_lst, ev_dic1, kDic1, ev_dicT, kDicT1, kDicT2, dicTR_some, ev_bi, kBi, ev_mt, kMt1, kMt2, evs_nil, evs_cons, kCons1, kCons2, evO_no, evO_yes, kO_int, evT_nil, evT_cons, kT_t, kT_f, kT_nil,
    evI_seq, kSeqI, evI_rng1, kR1_ok, evI_rng2, kR2, kR2_ok, evI_rng3, kR3, kR3_ok, evI_enum, kEnum, ev_comp, kComp_def, kCe_def, wipe_nil, wipe_cons, back_nil, back_cons, ev_comp2, kComp2_def, Option.getD_some, Option.getD_none, bind_ok', bind_stuck', ofOpt_some, noexc_ok,
    look_def, lookB_own, lookB_ref, lookA_ls, up_def, upB_own, upB_ref, upO_some, upA_ls, upA2_some, List.getElem?_cons_zero, List.getElem?_cons_succ, List.getElem?_nil, List.set_cons_zero, List.set_cons_succ,
    derefD_tup, derefD_kt, derefD_lst, derefD_fl, derefD_dT, derefD_dF, derefD_dK, derefD_kd, derefD_ref, derefA_ls, at_0, at_1, at_2, at_3, at_4, sub_lst, sub_tup, sub_kt, sub_fl, set_0, set_1, set_2, Option.map_some, Option.map_none,
    bin_mulR, bin_mulL, bin_add, bin_sub, bin_mod, bin_addT, bin_addL, lenG_ok, bin_fdiv, divmod_ok, bi_int, bi_abs, bi_lenT, bi_lenL, bi_lenK, bi_lenF, bi_max2, bi_min2, bi_listL, bi_listT, bi_tupleL, bi_tupleT, bi_isi, all_cons_t, all_nil, isi_tup_non, isi_tup_bl, isi_tup_int, isi_tup_str, isi_tup_tup, isi_tup_kt, isi_tup_lst, isi_tup_dK, isi_tup_dT, isi_lst_non, isi_lst_bl, isi_lst_int, isi_lst_str, isi_lst_tup, isi_lst_kt, isi_lst_lst, isi_lst_dK, isi_lst_dT, isi_int_non, isi_int_bl, isi_int_int, isi_int_str, isi_int_tup, isi_int_kt, isi_int_lst, isi_int_dK, isi_int_dT, isi_bool_non, isi_bool_bl, isi_bool_int, isi_bool_str, isi_bool_tup, isi_bool_kt, isi_bool_lst, isi_bool_dK, isi_bool_dT, isi_str_non, isi_str_bl, isi_str_int, isi_str_str, isi_str_tup, isi_str_kt, isi_str_lst, isi_str_dK, isi_str_dT, isi_dict_non, isi_dict_bl, isi_dict_int, isi_dict_str, isi_dict_tup, isi_dict_kt, isi_dict_lst, isi_dict_dK, isi_dict_dT, isNonD, cmp_lt, cmp_le, cmp_gt, cmp_ge, cmp_eqI, cmp_neI, cmp_eqS, cmp_neS, cmp_isN, cmp_isnN, cmp_isB, cmp_isnB, Bool.not_true, Bool.not_false, w5, items_lst]
  rcases shp with hs | ⟨xs, hs, hxs⟩
  · rw [hs] at v3 v2 ⊢
    have kP : ∀ A, ∀ m ∈ r2 :: papersR q.1 .non odd, callN Hd.tt 58 26 [.tup q.1, m] A = .ok (.bl false) A := by
      intro A m hm
      rcases List.mem_cons.mp hm with rfl | hm
      · exact v5 A
      · exact v2 A m hm
    simp only [papersR, List.cons_append, List.nil_append] at kP
    simp (disch := first | omega | (simp only [List.length_take, List.length_drop, List.length_append, List.length_cons, List.length_nil]; omega)) only [List.length_cons, List.length_nil, List.map_cons, List.map_nil, List.replicate, List.cons_append, List.nil_append, List.append_nil, Nat.reduceAdd, Nat.reduceSub, Nat.reduceLT, Nat.reduceLeDiff, if_true, if_false, Nat.zero_add, ↓reduceIte, and_self, startE, runDef_eq, outR_rt, outR_nx,
    evSs_cons, evSs_nil, kSeq_nx, kSeq_rt, kSeq_bk, kSeq_ct, evS_if, kIf_t, kIf_f, evS_ret, kRet, evS_ex, kEx, evS_retN, evS_brk, evS_cont, evS_pass, evS_asg, kAsg_def, asgR_some, asgT_nm, asgT_tu, asgT_tuL, asgTs_nil, asgTs_cons, asgC_some, evS_asgF, kAsgF_ok, cell_lst, cell_dK, cell_dT, evS_asgS, kAsgS, asgSR_some, kUpS, kNx, evS_par2, kPar2, kPar2b_def, evS_par3, kPar3, kPar3b, kPar3c_def,
    evS_tgS, kTg_tup, tgC_some, kTg2, kTg3_def, evS_app, appR_lst, kAppU, app_lst, lenL_ok, evS_aug, augB_fro, kAug, augE_some, augD_add, augD_sub, evS_augS, augS0_some, kAugS1, augS1_some, kAugS2, augS2_some, oldD_dT, oldD_lst, evS_for, kFor,
    ev_con, ev_var, varB_fro, varB_ownT, varB_ownF, give_lst, give_dK, give_dT, ev_bin, kBin1, kBin2, ev_neg, kNeg_int, ev_nt, kNt_bl, ev_cmp, kCmp1, kCmp2, ev_chain, kCh1, kCh2, kCh3_t, kCh3_f, ev_and, kAnd_t, kAnd_f, ev_or, kOr_t, kOr_f, ev_ite, kIte_t, kIte_f, ev_tup, kTup_def, kLen_ok, ev_lst, kLst_def, ev_dic0, ev_sub, kSub1, kSub2_def, ev_sli, kSli1, kSli2, kSli3, ev_rev, kRev, ev_call, kCall_def, callR_ok, callR_exc, ev_callP, kCallP, callP_some, ev_obj, kObj_lst, ev_dic1, kDic1, ev_dicT, kDicT1, kDicT2, dicTR_some, ev_bi, kBi, ev_mt, kMt1, kMt2, evs_nil, evs_cons, kCons1, kCons2, evO_no, evO_yes, kO_int, evT_nil, evT_cons, kT_t, kT_f, kT_nil,
    evI_seq, kSeqI, evI_rng1, kR1_ok, evI_rng2, kR2, kR2_ok, evI_rng3, kR3, kR3_ok, evI_enum, kEnum, ev_comp, kComp_def, kCe_def, wipe_nil, wipe_cons, back_nil, back_cons, ev_comp2, kComp2_def, Option.getD_some, Option.getD_none, bind_ok', bind_stuck', ofOpt_some, noexc_ok,
    look_def, lookB_own, lookB_ref, lookA_ls, up_def, upB_own, upB_ref, upO_some, upA_ls, upA2_some, List.getElem?_cons_zero, List.getElem?_cons_succ, List.getElem?_nil, List.set_cons_zero, List.set_cons_succ,
    derefD_tup, derefD_kt, derefD_lst, derefD_fl, derefD_dT, derefD_dF, derefD_dK, derefD_kd, derefD_ref, derefA_ls, at_0, at_1, at_2, at_3, at_4, sub_lst, sub_tup, sub_kt, sub_fl, set_0, set_1, set_2, Option.map_some, Option.map_none,
    bin_mulR, bin_mulL, bin_add, bin_sub, bin_mod, bin_addT, bin_addL, lenG_ok, bin_fdiv, divmod_ok, bi_int, bi_abs, bi_lenT, bi_lenL, bi_lenK, bi_lenF, bi_max2, bi_min2, bi_listL, bi_listT, bi_tupleL, bi_tupleT, bi_isi, all_cons_t, all_nil, isi_tup_non, isi_tup_bl, isi_tup_int, isi_tup_str, isi_tup_tup, isi_tup_kt, isi_tup_lst, isi_tup_dK, isi_tup_dT, isi_lst_non, isi_lst_bl, isi_lst_int, isi_lst_str, isi_lst_tup, isi_lst_kt, isi_lst_lst, isi_lst_dK, isi_lst_dT, isi_int_non, isi_int_bl, isi_int_int, isi_int_str, isi_int_tup, isi_int_kt, isi_int_lst, isi_int_dK, isi_int_dT, isi_bool_non, isi_bool_bl, isi_bool_int, isi_bool_str, isi_bool_tup, isi_bool_kt, isi_bool_lst, isi_bool_dK, isi_bool_dT, isi_str_non, isi_str_bl, isi_str_int, isi_str_str, isi_str_tup, isi_str_kt, isi_str_lst, isi_str_dK, isi_str_dT, isi_dict_non, isi_dict_bl, isi_dict_int, isi_dict_str, isi_dict_tup, isi_dict_kt, isi_dict_lst, isi_dict_dK, isi_dict_dT, isNonD, cmp_lt, cmp_le, cmp_gt, cmp_ge, cmp_eqI, cmp_neI, cmp_eqS, cmp_neS, cmp_isN, cmp_isnN, cmp_isB, cmp_isnB, Bool.not_true, Bool.not_false, items_lst]
    rw [all_noP (by simp) (kP _)]
    simp (disch := omega) only [List.length_cons, List.length_nil, List.map_cons, List.map_nil, List.replicate, List.cons_append, List.nil_append, List.append_nil, Nat.reduceAdd, Nat.reduceSub, Nat.reduceLT, Nat.reduceLeDiff, if_true, if_false, Nat.zero_add, ↓reduceIte, and_self, startE, runDef_eq, outR_rt, outR_nx,
    evSs_cons, evSs_nil, kSeq_nx, kSeq_rt, kSeq_bk, kSeq_ct, evS_if, kIf_t, kIf_f, evS_ret, kRet, evS_ex, kEx, evS_retN, evS_brk, evS_cont, evS_pass, evS_asg, kAsg_def, asgR_some, asgT_nm, asgT_tu, asgT_tuL, asgTs_nil, asgTs_cons, asgC_some, evS_asgF, kAsgF_ok, cell_lst, cell_dK, cell_dT, evS_asgS, kAsgS, asgSR_some, kUpS, kNx, evS_par2, kPar2, kPar2b_def, evS_par3, kPar3, kPar3b, kPar3c_def,
    evS_tgS, kTg_tup, tgC_some, kTg2, kTg3_def, evS_app, appR_lst, kAppU, app_lst, lenL_ok, evS_aug, augB_fro, kAug, augE_some, augD_add, augD_sub, evS_augS, augS0_some, kAugS1, augS1_some, kAugS2, augS2_some, oldD_dT, oldD_lst, evS_for, kFor,
    ev_con, ev_var, varB_fro, varB_ownT, varB_ownF, give_lst, give_dK, give_dT, ev_bin, kBin1, kBin2, ev_neg, kNeg_int, ev_nt, kNt_bl, ev_cmp, kCmp1, kCmp2, ev_chain, kCh1, kCh2, kCh3_t, kCh3_f, ev_and, kAnd_t, kAnd_f, ev_or, kOr_t, kOr_f, ev_ite, kIte_t, kIte_f, ev_tup, kTup_def, kLen_ok, ev_lst, kLst_def, ev_dic0, ev_sub, kSub1, kSub2_def, ev_sli, kSli1, kSli2, kSli3, ev_rev, kRev, ev_call, kCall_def, callR_ok, callR_exc, ev_callP, kCallP, callP_some, ev_obj, kObj_lst, ev_dic1, kDic1, ev_dicT, kDicT1, kDicT2, dicTR_some, ev_bi, kBi, ev_mt, kMt1, kMt2, evs_nil, evs_cons, kCons1, kCons2, evO_no, evO_yes, kO_int, evT_nil, evT_cons, kT_t, kT_f, kT_nil,
    evI_seq, kSeqI, evI_rng1, kR1_ok, evI_rng2, kR2, kR2_ok, evI_rng3, kR3, kR3_ok, evI_enum, kEnum, ev_comp, kComp_def, kCe_def, wipe_nil, wipe_cons, back_nil, back_cons, ev_comp2, kComp2_def, Option.getD_some, Option.getD_none, bind_ok', bind_stuck', ofOpt_some, noexc_ok,
    look_def, lookB_own, lookB_ref, lookA_ls, up_def, upB_own, upB_ref, upO_some, upA_ls, upA2_some, List.getElem?_cons_zero, List.getElem?_cons_succ, List.getElem?_nil, List.set_cons_zero, List.set_cons_succ,
    derefD_tup, derefD_kt, derefD_lst, derefD_fl, derefD_dT, derefD_dF, derefD_dK, derefD_kd, derefD_ref, derefA_ls, at_0, at_1, at_2, at_3, at_4, sub_lst, sub_tup, sub_kt, sub_fl, set_0, set_1, set_2, Option.map_some, Option.map_none,
    bin_mulR, bin_mulL, bin_add, bin_sub, bin_mod, bin_addT, bin_addL, lenG_ok, bin_fdiv, divmod_ok, bi_int, bi_abs, bi_lenT, bi_lenL, bi_lenK, bi_lenF, bi_max2, bi_min2, bi_listL, bi_listT, bi_tupleL, bi_tupleT, bi_isi, all_cons_t, all_nil, isi_tup_non, isi_tup_bl, isi_tup_int, isi_tup_str, isi_tup_tup, isi_tup_kt, isi_tup_lst, isi_tup_dK, isi_tup_dT, isi_lst_non, isi_lst_bl, isi_lst_int, isi_lst_str, isi_lst_tup, isi_lst_kt, isi_lst_lst, isi_lst_dK, isi_lst_dT, isi_int_non, isi_int_bl, isi_int_int, isi_int_str, isi_int_tup, isi_int_kt, isi_int_lst, isi_int_dK, isi_int_dT, isi_bool_non, isi_bool_bl, isi_bool_int, isi_bool_str, isi_bool_tup, isi_bool_kt, isi_bool_lst, isi_bool_dK, isi_bool_dT, isi_str_non, isi_str_bl, isi_str_int, isi_str_str, isi_str_tup, isi_str_kt, isi_str_lst, isi_str_dK, isi_str_dT, isi_dict_non, isi_dict_bl, isi_dict_int, isi_dict_str, isi_dict_tup, isi_dict_kt, isi_dict_lst, isi_dict_dK, isi_dict_dT, isNonD, cmp_lt, cmp_le, cmp_gt, cmp_ge, cmp_eqI, cmp_neI, cmp_eqS, cmp_neS, cmp_isN, cmp_isnN, cmp_isB, cmp_isnB, Bool.not_true, Bool.not_false, v3, decide_true]
    exact ⟨_, _, _, _, _, _, _, _, a5, b5, c5, ⟨z5.a0, z5.b0, z5.b1, z5.c0, by have := z5.c1; omega⟩, rfl⟩
  · rw [hs] at v3 v2 ⊢
    have kP : ∀ A, ∀ m ∈ r2 :: papersR q.1 (.tup xs) odd, callN Hd.tt 58 26 [.tup q.1, m] A = .ok (.bl false) A := by
      intro A m hm
      rcases List.mem_cons.mp hm with rfl | hm
      · exact v5 A
      · exact v2 A m hm
    simp only [papersR, List.cons_append, List.nil_append] at kP
    simp (disch := first | omega | (simp only [List.length_take, List.length_drop, List.length_append, List.length_cons, List.length_nil]; omega)) only [List.length_cons, List.length_nil, List.map_cons, List.map_nil, List.replicate, List.cons_append, List.nil_append, List.append_nil, Nat.reduceAdd, Nat.reduceSub, Nat.reduceLT, Nat.reduceLeDiff, if_true, if_false, Nat.zero_add, ↓reduceIte, and_self, startE, runDef_eq, outR_rt, outR_nx,
    evSs_cons, evSs_nil, kSeq_nx, kSeq_rt, kSeq_bk, kSeq_ct, evS_if, kIf_t, kIf_f, evS_ret, kRet, evS_ex, kEx, evS_retN, evS_brk, evS_cont, evS_pass, evS_asg, kAsg_def, asgR_some, asgT_nm, asgT_tu, asgT_tuL, asgTs_nil, asgTs_cons, asgC_some, evS_asgF, kAsgF_ok, cell_lst, cell_dK, cell_dT, evS_asgS, kAsgS, asgSR_some, kUpS, kNx, evS_par2, kPar2, kPar2b_def, evS_par3, kPar3, kPar3b, kPar3c_def,
    evS_tgS, kTg_tup, tgC_some, kTg2, kTg3_def, evS_app, appR_lst, kAppU, app_lst, lenL_ok, evS_aug, augB_fro, kAug, augE_some, augD_add, augD_sub, evS_augS, augS0_some, kAugS1, augS1_some, kAugS2, augS2_some, oldD_dT, oldD_lst, evS_for, kFor,
    ev_con, ev_var, varB_fro, varB_ownT, varB_ownF, give_lst, give_dK, give_dT, ev_bin, kBin1, kBin2, ev_neg, kNeg_int, ev_nt, kNt_bl, ev_cmp, kCmp1, kCmp2, ev_chain, kCh1, kCh2, kCh3_t, kCh3_f, ev_and, kAnd_t, kAnd_f, ev_or, kOr_t, kOr_f, ev_ite, kIte_t, kIte_f, ev_tup, kTup_def, kLen_ok, ev_lst, kLst_def, ev_dic0, ev_sub, kSub1, kSub2_def, ev_sli, kSli1, kSli2, kSli3, ev_rev, kRev, ev_call, kCall_def, callR_ok, callR_exc, ev_callP, kCallP, callP_some, ev_obj, kObj_lst, ev_dic1, kDic1, ev_dicT, kDicT1, kDicT2, dicTR_some, ev_bi, kBi, ev_mt, kMt1, kMt2, evs_nil, evs_cons, kCons1, kCons2, evO_no, evO_yes, kO_int, evT_nil, evT_cons, kT_t, kT_f, kT_nil,
    evI_seq, kSeqI, evI_rng1, kR1_ok, evI_rng2, kR2, kR2_ok, evI_rng3, kR3, kR3_ok, evI_enum, kEnum, ev_comp, kComp_def, kCe_def, wipe_nil, wipe_cons, back_nil, back_cons, ev_comp2, kComp2_def, Option.getD_some, Option.getD_none, bind_ok', bind_stuck', ofOpt_some, noexc_ok,
    look_def, lookB_own, lookB_ref, lookA_ls, up_def, upB_own, upB_ref, upO_some, upA_ls, upA2_some, List.getElem?_cons_zero, List.getElem?_cons_succ, List.getElem?_nil, List.set_cons_zero, List.set_cons_succ,
    derefD_tup, derefD_kt, derefD_lst, derefD_fl, derefD_dT, derefD_dF, derefD_dK, derefD_kd, derefD_ref, derefA_ls, at_0, at_1, at_2, at_3, at_4, sub_lst, sub_tup, sub_kt, sub_fl, set_0, set_1, set_2, Option.map_some, Option.map_none,
    bin_mulR, bin_mulL, bin_add, bin_sub, bin_mod, bin_addT, bin_addL, lenG_ok, bin_fdiv, divmod_ok, bi_int, bi_abs, bi_lenT, bi_lenL, bi_lenK, bi_lenF, bi_max2, bi_min2, bi_listL, bi_listT, bi_tupleL, bi_tupleT, bi_isi, all_cons_t, all_nil, isi_tup_non, isi_tup_bl, isi_tup_int, isi_tup_str, isi_tup_tup, isi_tup_kt, isi_tup_lst, isi_tup_dK, isi_tup_dT, isi_lst_non, isi_lst_bl, isi_lst_int, isi_lst_str, isi_lst_tup, isi_lst_kt, isi_lst_lst, isi_lst_dK, isi_lst_dT, isi_int_non, isi_int_bl, isi_int_int, isi_int_str, isi_int_tup, isi_int_kt, isi_int_lst, isi_int_dK, isi_int_dT, isi_bool_non, isi_bool_bl, isi_bool_int, isi_bool_str, isi_bool_tup, isi_bool_kt, isi_bool_lst, isi_bool_dK, isi_bool_dT, isi_str_non, isi_str_bl, isi_str_int, isi_str_str, isi_str_tup, isi_str_kt, isi_str_lst, isi_str_dK, isi_str_dT, isi_dict_non, isi_dict_bl, isi_dict_int, isi_dict_str, isi_dict_tup, isi_dict_kt, isi_dict_lst, isi_dict_dK, isi_dict_dT, isNonD, cmp_lt, cmp_le, cmp_gt, cmp_ge, cmp_eqI, cmp_neI, cmp_eqS, cmp_neS, cmp_isN, cmp_isnN, cmp_isB, cmp_isnB, Bool.not_true, Bool.not_false, items_lst]
    rw [all_noP (by simp) (kP _)]
    simp (disch := omega) only [List.length_cons, List.length_nil, List.map_cons, List.map_nil, List.replicate, List.cons_append, List.nil_append, List.append_nil, Nat.reduceAdd, Nat.reduceSub, Nat.reduceLT, Nat.reduceLeDiff, if_true, if_false, Nat.zero_add, ↓reduceIte, and_self, startE, runDef_eq, outR_rt, outR_nx,
    evSs_cons, evSs_nil, kSeq_nx, kSeq_rt, kSeq_bk, kSeq_ct, evS_if, kIf_t, kIf_f, evS_ret, kRet, evS_ex, kEx, evS_retN, evS_brk, evS_cont, evS_pass, evS_asg, kAsg_def, asgR_some, asgT_nm, asgT_tu, asgT_tuL, asgTs_nil, asgTs_cons, asgC_some, evS_asgF, kAsgF_ok, cell_lst, cell_dK, cell_dT, evS_asgS, kAsgS, asgSR_some, kUpS, kNx, evS_par2, kPar2, kPar2b_def, evS_par3, kPar3, kPar3b, kPar3c_def,
    evS_tgS, kTg_tup, tgC_some, kTg2, kTg3_def, evS_app, appR_lst, kAppU, app_lst, lenL_ok, evS_aug, augB_fro, kAug, augE_some, augD_add, augD_sub, evS_augS, augS0_some, kAugS1, augS1_some, kAugS2, augS2_some, oldD_dT, oldD_lst, evS_for, kFor,
    ev_con, ev_var, varB_fro, varB_ownT, varB_ownF, give_lst, give_dK, give_dT, ev_bin, kBin1, kBin2, ev_neg, kNeg_int, ev_nt, kNt_bl, ev_cmp, kCmp1, kCmp2, ev_chain, kCh1, kCh2, kCh3_t, kCh3_f, ev_and, kAnd_t, kAnd_f, ev_or, kOr_t, kOr_f, ev_ite, kIte_t, kIte_f, ev_tup, kTup_def, kLen_ok, ev_lst, kLst_def, ev_dic0, ev_sub, kSub1, kSub2_def, ev_sli, kSli1, kSli2, kSli3, ev_rev, kRev, ev_call, kCall_def, callR_ok, callR_exc, ev_callP, kCallP, callP_some, ev_obj, kObj_lst, ev_dic1, kDic1, ev_dicT, kDicT1, kDicT2, dicTR_some, ev_bi, kBi, ev_mt, kMt1, kMt2, evs_nil, evs_cons, kCons1, kCons2, evO_no, evO_yes, kO_int, evT_nil, evT_cons, kT_t, kT_f, kT_nil,
    evI_seq, kSeqI, evI_rng1, kR1_ok, evI_rng2, kR2, kR2_ok, evI_rng3, kR3, kR3_ok, evI_enum, kEnum, ev_comp, kComp_def, kCe_def, wipe_nil, wipe_cons, back_nil, back_cons, ev_comp2, kComp2_def, Option.getD_some, Option.getD_none, bind_ok', bind_stuck', ofOpt_some, noexc_ok,
    look_def, lookB_own, lookB_ref, lookA_ls, up_def, upB_own, upB_ref, upO_some, upA_ls, upA2_some, List.getElem?_cons_zero, List.getElem?_cons_succ, List.getElem?_nil, List.set_cons_zero, List.set_cons_succ,
    derefD_tup, derefD_kt, derefD_lst, derefD_fl, derefD_dT, derefD_dF, derefD_dK, derefD_kd, derefD_ref, derefA_ls, at_0, at_1, at_2, at_3, at_4, sub_lst, sub_tup, sub_kt, sub_fl, set_0, set_1, set_2, Option.map_some, Option.map_none,
    bin_mulR, bin_mulL, bin_add, bin_sub, bin_mod, bin_addT, bin_addL, lenG_ok, bin_fdiv, divmod_ok, bi_int, bi_abs, bi_lenT, bi_lenL, bi_lenK, bi_lenF, bi_max2, bi_min2, bi_listL, bi_listT, bi_tupleL, bi_tupleT, bi_isi, all_cons_t, all_nil, isi_tup_non, isi_tup_bl, isi_tup_int, isi_tup_str, isi_tup_tup, isi_tup_kt, isi_tup_lst, isi_tup_dK, isi_tup_dT, isi_lst_non, isi_lst_bl, isi_lst_int, isi_lst_str, isi_lst_tup, isi_lst_kt, isi_lst_lst, isi_lst_dK, isi_lst_dT, isi_int_non, isi_int_bl, isi_int_int, isi_int_str, isi_int_tup, isi_int_kt, isi_int_lst, isi_int_dK, isi_int_dT, isi_bool_non, isi_bool_bl, isi_bool_int, isi_bool_str, isi_bool_tup, isi_bool_kt, isi_bool_lst, isi_bool_dK, isi_bool_dT, isi_str_non, isi_str_bl, isi_str_int, isi_str_str, isi_str_tup, isi_str_kt, isi_str_lst, isi_str_dK, isi_str_dT, isi_dict_non, isi_dict_bl, isi_dict_int, isi_dict_str, isi_dict_tup, isi_dict_kt, isi_dict_lst, isi_dict_dK, isi_dict_dT, isNonD, cmp_lt, cmp_le, cmp_gt, cmp_ge, cmp_eqI, cmp_neI, cmp_eqS, cmp_neS, cmp_isN, cmp_isnN, cmp_isB, cmp_isnB, Bool.not_true, Bool.not_false, v3, decide_true]
    exact ⟨_, _, _, _, _, _, _, _, a5, b5, c5, ⟨z5.a0, z5.b0, z5.b1, z5.c0, by have := z5.c1; omega⟩, rfl⟩
end Pl

set_option Elab.async false
set_option linter.all false
set_option maxRecDepth 100000
set_option maxHeartbeats 4000000
open PySem L2 IL
namespace Pl
theorem near0 : isB true (callN Hd.tt 59 33 [.tup m0, small] []) = true := by decide +kernel
theorem near1 : isB true (callN Hd.tt 59 33 [.tup m1, half] []) = true := by decide +kernel
theorem near2 : isB true (callN Hd.tt 59 33 [.tup m2, lv [0, 0, 1]] []) = true := by decide +kernel
theorem near3 : isB true (callN Hd.tt 59 33 [.tup m3, .non] []) = true := by decide +kernel
theorem near4 : isB true (callN Hd.tt 59 33 [.tup m4, wide] []) = true := by decide +kernel
theorem yes0 : isB true (callN Hd.tt 59 26 [.tup m0, small] []) = true := by decide +kernel
theorem yes1 : isB true (callN Hd.tt 59 26 [.tup m1, half] []) = true := by decide +kernel
theorem yes2 : isB true (callN Hd.tt 59 26 [.tup m2, lv [0, 0, 1]] []) = true := by decide +kernel
theorem yes3 : isB true (callN Hd.tt 59 26 [.tup m3, .non] []) = true := by decide +kernel
theorem yes4 : isB true (callN Hd.tt 59 26 [.tup m4, wide] []) = true := by decide +kernel
end Pl

set_option Elab.async false
set_option linter.all false
set_option maxRecDepth 100000
set_option maxHeartbeats 4000000
open PySem L2 IL
namespace Pl
theorem turns {p : Nat} : ∀ (xs : List D) (n : Nat) (a b c : Int) (A : List AO) (e2 e3 e4 e5 e6 e7 e8 e9 : Option B), A[p]? = some (pz a b c) → Pz n a b c → n + 20 * xs.length + 40 < 800000 →
    ∃ f2 f3 f4 f5 f6 f7 f8 f9 a' b' c', Pz (n + 20 * xs.length) a' b' c' ∧ forLoop (kForF ⟨callN Hd.tt 58, fun _ => none⟩ (.nm 2) bodyR) xs ⟨[some (.fro (.ref p)), some (.fro (.lst menuD)), e2, e3, e4, e5, e6, e7, e8, e9], A⟩ = .ok .nx ⟨[some (.fro (.ref p)), some (.fro (.lst menuD)), f2, f3, f4, f5, f6, f7, f8, f9], A.set p (pz a' b' c')⟩
  | [], n, a, b, c, A, e2, e3, e4, e5, e6, e7, e8, e9, h, z, _ => ⟨e2, e3, e4, e5, e6, e7, e8, e9, a, b, c, z, by rw [set_id h]; rfl⟩
  | x :: xs, n, a, b, c, A, e2, e3, e4, e5, e6, e7, e8, e9, h, z, hn => by
    simp only [List.length_cons] at hn ⊢
    have hp : p < A.length := (List.getElem?_eq_some_iff.mp h).1
    obtain ⟨f2, f3, f4, f5, f6, f7, f8, f9, a1, b1, c1, z1, q1⟩ := turn h z (by omega) x e2 e3 e4 e5 e6 e7 e8 e9
    obtain ⟨g2, g3, g4, g5, g6, g7, g8, g9, a2, b2, c2, z2, q2⟩ := turns xs (n + 20) a1 b1 c1 (A.set p (pz a1 b1 c1)) f2 f3 f4 f5 f6 f7 f8 f9 (List.getElem?_set_self hp) z1 (by omega)
    rw [List.set_set] at q2
    refine ⟨g2, g3, g4, g5, g6, g7, g8, g9, a2, b2, c2, ⟨z2.a0, z2.b0, z2.b1, z2.c0, by have := z2.c1; omega⟩, ?_⟩
    rw [for_cons, q1]
    simp only [bind_ok', kFl_nx]
    exact q2
theorem right_sp {p : Nat} {a b c : Int} {A : List AO} (h : A[p]? = some (pz a b c)) (z : Pz 0 a b c) : ∃ A', callN Hd.tt 59 34 [.ref p] A = .ok (.bl true) A' := by
  obtain ⟨f2, f3, f4, f5, f6, f7, f8, f9, a1, b1, c1, z1, q1⟩ := turns (rngD 0 15) 0 a b c A none none none none none none none none h z (by decide)
  refine ⟨A.set p (pz a1 b1 c1), ?_⟩
  have u := menu_sp A 57
  show callN Hd.tt (58 + 1) 34 _ _ = _
  rw [call34, bR]
  have h15 : (15 : Int).toNat = 15 := rfl
  simp (disch := omega) only [List.length_cons, List.length_nil, List.map_cons, List.map_nil, List.replicate, List.cons_append, List.nil_append, List.append_nil, Nat.reduceAdd, Nat.reduceSub, Nat.reduceLT, Nat.reduceLeDiff, if_true, if_false, Nat.zero_add, ↓reduceIte, and_self, startE, runDef_eq, outR_rt, outR_nx,
    evSs_cons, evSs_nil, kSeq_nx, kSeq_rt, kSeq_bk, kSeq_ct, evS_if, kIf_t, kIf_f, evS_ret, kRet, evS_ex, kEx, evS_retN, evS_brk, evS_cont, evS_pass, evS_asg, kAsg_def, asgR_some, asgT_nm, asgT_tu, asgT_tuL, asgTs_nil, asgTs_cons, asgC_some, evS_asgF, kAsgF_ok, cell_lst, cell_dK, cell_dT, evS_asgS, kAsgS, asgSR_some, kUpS, kNx, evS_par2, kPar2, kPar2b_def, evS_par3, kPar3, kPar3b, kPar3c_def,
    evS_tgS, kTg_tup, tgC_some, kTg2, kTg3_def, evS_app, appR_lst, kAppU, app_lst, lenL_ok, evS_aug, augB_fro, kAug, augE_some, augD_add, augD_sub, evS_augS, augS0_some, kAugS1, augS1_some, kAugS2, augS2_some, oldD_dT, oldD_lst, evS_for, kFor,
    ev_con, ev_var, varB_fro, varB_ownT, varB_ownF, give_lst, give_dK, give_dT, ev_bin, kBin1, kBin2, ev_neg, kNeg_int, ev_nt, kNt_bl, ev_cmp, kCmp1, kCmp2, ev_chain, kCh1, kCh2, kCh3_t, kCh3_f, ev_and, kAnd_t, kAnd_f, ev_or, kOr_t, kOr_f, ev_ite, kIte_t, kIte_f, ev_tup, kTup_def, kLen_ok, ev_lst, kLst_def, ev_dic0, ev_sub, kSub1, kSub2_def, ev_sli, kSli1, kSli2, kSli3, ev_rev, kRev, ev_call, kCall_def, callR_ok, callR_exc, ev_callP, kCallP, callP_some, ev_obj, kObj_lst, ev_dic1, kDic1, ev_dicT, kDicT1, kDicT2, dicTR_some, ev_bi, kBi, ev_mt, kMt1, kMt2, evs_nil, evs_cons, kCons1, kCons2, evO_no, evO_yes, kO_int, evT_nil, evT_cons, kT_t, kT_f, kT_nil,
    evI_seq, kSeqI, evI_rng1, kR1_ok, evI_rng2, kR2, kR2_ok, evI_rng3, kR3, kR3_ok, evI_enum, kEnum, ev_comp, kComp_def, kCe_def, wipe_nil, wipe_cons, back_nil, back_cons, ev_comp2, kComp2_def, Option.getD_some, Option.getD_none, bind_ok', bind_stuck', ofOpt_some, noexc_ok,
    look_def, lookB_own, lookB_ref, lookA_ls, up_def, upB_own, upB_ref, upO_some, upA_ls, upA2_some, List.getElem?_cons_zero, List.getElem?_cons_succ, List.getElem?_nil, List.set_cons_zero, List.set_cons_succ,
    derefD_tup, derefD_kt, derefD_lst, derefD_fl, derefD_dT, derefD_dF, derefD_dK, derefD_kd, derefD_ref, derefA_ls, at_0, at_1, at_2, at_3, at_4, sub_lst, sub_tup, sub_kt, sub_fl, set_0, set_1, set_2, Option.map_some, Option.map_none,
    bin_mulR, bin_mulL, bin_add, bin_sub, bin_mod, bin_addT, bin_addL, lenG_ok, bin_fdiv, divmod_ok, bi_int, bi_abs, bi_lenT, bi_lenL, bi_lenK, bi_lenF, bi_max2, bi_min2, bi_listL, bi_listT, bi_tupleL, bi_tupleT, bi_isi, all_cons_t, all_nil, isi_tup_non, isi_tup_bl, isi_tup_int, isi_tup_str, isi_tup_tup, isi_tup_kt, isi_tup_lst, isi_tup_dK, isi_tup_dT, isi_lst_non, isi_lst_bl, isi_lst_int, isi_lst_str, isi_lst_tup, isi_lst_kt, isi_lst_lst, isi_lst_dK, isi_lst_dT, isi_int_non, isi_int_bl, isi_int_int, isi_int_str, isi_int_tup, isi_int_kt, isi_int_lst, isi_int_dK, isi_int_dT, isi_bool_non, isi_bool_bl, isi_bool_int, isi_bool_str, isi_bool_tup, isi_bool_kt, isi_bool_lst, isi_bool_dK, isi_bool_dT, isi_str_non, isi_str_bl, isi_str_int, isi_str_str, isi_str_tup, isi_str_kt, isi_str_lst, isi_str_dK, isi_str_dT, isi_dict_non, isi_dict_bl, isi_dict_int, isi_dict_str, isi_dict_tup, isi_dict_kt, isi_dict_lst, isi_dict_dK, isi_dict_dT, isNonD, cmp_lt, cmp_le, cmp_gt, cmp_ge, cmp_eqI, cmp_neI, cmp_eqS, cmp_neS, cmp_isN, cmp_isnN, cmp_isB, cmp_isnB, Bool.not_true, Bool.not_false, u, h15, q1]
theorem menu_yes : ∀ q ∈ menu, callN Hd.tt 59 26 [.tup q.1, q.2] [] = .ok (.bl true) [] ∧ callN Hd.tt 59 33 [.tup q.1, q.2] [] = .ok (.bl true) [] := by
  intro q hq
  simp only [menu, List.mem_cons, List.not_mem_nil, or_false] at hq
  rcases hq with rfl | rfl | rfl | rfl | rfl
  · exact ⟨isB_eq yes0, isB_eq near0⟩
  · exact ⟨isB_eq yes1, isB_eq near1⟩
  · exact ⟨isB_eq yes2, isB_eq near2⟩
  · exact ⟨isB_eq yes3, isB_eq near3⟩
  · exact ⟨isB_eq yes4, isB_eq near4⟩
theorem pick10 (x y : D) : pickD [x, y] [1, 0] = some [y, x] := rfl
/-- the last walk: a purse and a look for each -/
theorem last (ns : List Int) (hl : ns.length ≤ 63) (e1 e3 e4 : Option B) : ∀ (n : Nat) (lo : Int) (acc : List D) (A : List AO), 0 ≤ lo → lo + n ≤ 1000 → acc.length + n ≤ 1000 →
    ∃ A', compLoop (kCf ⟨callN Hd.tt 59, fun _ => none⟩ [2] (.nm 2) .nil (.call 34 (.cons (.call 27 (.cons (.var 0) (.cons (.var 2) .nil))) .nil))) (rngD lo n) acc ⟨[some (.fro (.fl (ns.map .int))), e1, none, e3, e4], A⟩ = .ok (acc ++ List.replicate n (.bl true)) ⟨[some (.fro (.fl (ns.map .int))), e1, none, e3, e4], A'⟩ := by
  intro n
  induction n with
  | zero => exact fun lo acc A _ _ _ => ⟨A, by simp [rngD, compLoop]⟩
  | succ n ih =>
    intro lo acc A h0 h1 h2
    obtain ⟨a, b, z, u⟩ := purse_sp ns hl lo h0 (by omega) A 58
    have hg : (A ++ [pz a b 0])[A.length]? = some (pz a b 0) := by simp
    obtain ⟨A1, v⟩ := right_sp hg z
    have u' : callN Hd.tt 59 27 [.fl (ns.map .int), .int lo] A = .ok (.ref A.length) (A ++ [pz a b 0]) := u
    have hz : acc.length < sizeLine := Nat.lt_of_le_of_lt (show acc.length ≤ 1000 by omega) (by decide)
    obtain ⟨A2, w⟩ := ih (lo + 1) (acc ++ [.bl true]) A1 (by omega) (by omega) (by simp; omega)
    refine ⟨A2, ?_⟩
    rw [rngD]
    simp only [compLoop]
    have e : kCf ⟨callN Hd.tt 59, fun _ => none⟩ [2] (.nm 2) .nil (.call 34 (.cons (.call 27 (.cons (.var 0) (.cons (.var 2) .nil))) .nil)) (.int lo) ⟨[some (.fro (.fl (ns.map .int))), e1, none, e3, e4], A⟩ = .ok (some (.bl true)) ⟨[some (.fro (.fl (ns.map .int))), e1, none, e3, e4], A1⟩ := by
      simp (disch := omega) only [kCf_def, List.length_cons, List.length_nil, List.map_cons, List.map_nil, List.replicate, List.cons_append, List.nil_append, List.append_nil, Nat.reduceAdd, Nat.reduceSub, Nat.reduceLT, Nat.reduceLeDiff, if_true, if_false, Nat.zero_add, ↓reduceIte, and_self, startE, runDef_eq, outR_rt, outR_nx,
    evSs_cons, evSs_nil, kSeq_nx, kSeq_rt, kSeq_bk, kSeq_ct, evS_if, kIf_t, kIf_f, evS_ret, kRet, evS_ex, kEx, evS_retN, evS_brk, evS_cont, evS_pass, evS_asg, kAsg_def, asgR_some, asgT_nm, asgT_tu, asgT_tuL, asgTs_nil, asgTs_cons, asgC_some, evS_asgF, kAsgF_ok, cell_lst, cell_dK, cell_dT, evS_asgS, kAsgS, asgSR_some, kUpS, kNx, evS_par2, kPar2, kPar2b_def, evS_par3, kPar3, kPar3b, kPar3c_def,
    evS_tgS, kTg_tup, tgC_some, kTg2, kTg3_def, evS_app, appR_lst, kAppU, app_lst, lenL_ok, evS_aug, augB_fro, kAug, augE_some, augD_add, augD_sub, evS_augS, augS0_some, kAugS1, augS1_some, kAugS2, augS2_some, oldD_dT, oldD_lst, evS_for, kFor,
    ev_con, ev_var, varB_fro, varB_ownT, varB_ownF, give_lst, give_dK, give_dT, ev_bin, kBin1, kBin2, ev_neg, kNeg_int, ev_nt, kNt_bl, ev_cmp, kCmp1, kCmp2, ev_chain, kCh1, kCh2, kCh3_t, kCh3_f, ev_and, kAnd_t, kAnd_f, ev_or, kOr_t, kOr_f, ev_ite, kIte_t, kIte_f, ev_tup, kTup_def, kLen_ok, ev_lst, kLst_def, ev_dic0, ev_sub, kSub1, kSub2_def, ev_sli, kSli1, kSli2, kSli3, ev_rev, kRev, ev_call, kCall_def, callR_ok, callR_exc, ev_callP, kCallP, callP_some, ev_obj, kObj_lst, ev_dic1, kDic1, ev_dicT, kDicT1, kDicT2, dicTR_some, ev_bi, kBi, ev_mt, kMt1, kMt2, evs_nil, evs_cons, kCons1, kCons2, evO_no, evO_yes, kO_int, evT_nil, evT_cons, kT_t, kT_f, kT_nil,
    evI_seq, kSeqI, evI_rng1, kR1_ok, evI_rng2, kR2, kR2_ok, evI_rng3, kR3, kR3_ok, evI_enum, kEnum, ev_comp, kComp_def, kCe_def, wipe_nil, wipe_cons, back_nil, back_cons, ev_comp2, kComp2_def, Option.getD_some, Option.getD_none, bind_ok', bind_stuck', ofOpt_some, noexc_ok,
    look_def, lookB_own, lookB_ref, lookA_ls, up_def, upB_own, upB_ref, upO_some, upA_ls, upA2_some, List.getElem?_cons_zero, List.getElem?_cons_succ, List.getElem?_nil, List.set_cons_zero, List.set_cons_succ,
    derefD_tup, derefD_kt, derefD_lst, derefD_fl, derefD_dT, derefD_dF, derefD_dK, derefD_kd, derefD_ref, derefA_ls, at_0, at_1, at_2, at_3, at_4, sub_lst, sub_tup, sub_kt, sub_fl, set_0, set_1, set_2, Option.map_some, Option.map_none,
    bin_mulR, bin_mulL, bin_add, bin_sub, bin_mod, bin_addT, bin_addL, lenG_ok, bin_fdiv, divmod_ok, bi_int, bi_abs, bi_lenT, bi_lenL, bi_lenK, bi_lenF, bi_max2, bi_min2, bi_listL, bi_listT, bi_tupleL, bi_tupleT, bi_isi, all_cons_t, all_nil, isi_tup_non, isi_tup_bl, isi_tup_int, isi_tup_str, isi_tup_tup, isi_tup_kt, isi_tup_lst, isi_tup_dK, isi_tup_dT, isi_lst_non, isi_lst_bl, isi_lst_int, isi_lst_str, isi_lst_tup, isi_lst_kt, isi_lst_lst, isi_lst_dK, isi_lst_dT, isi_int_non, isi_int_bl, isi_int_int, isi_int_str, isi_int_tup, isi_int_kt, isi_int_lst, isi_int_dK, isi_int_dT, isi_bool_non, isi_bool_bl, isi_bool_int, isi_bool_str, isi_bool_tup, isi_bool_kt, isi_bool_lst, isi_bool_dK, isi_bool_dT, isi_str_non, isi_str_bl, isi_str_int, isi_str_str, isi_str_tup, isi_str_kt, isi_str_lst, isi_str_dK, isi_str_dT, isi_dict_non, isi_dict_bl, isi_dict_int, isi_dict_str, isi_dict_tup, isi_dict_kt, isi_dict_lst, isi_dict_dK, isi_dict_dT, isNonD, cmp_lt, cmp_le, cmp_gt, cmp_ge, cmp_eqI, cmp_neI, cmp_eqS, cmp_neS, cmp_isN, cmp_isnN, cmp_isB, cmp_isnB, Bool.not_true, Bool.not_false, kCf0_some, kCf1_t, kCf2_def, u', v]
    rw [e]
    simp only [bind_ok', hz, if_true]
    rw [w]
    simp only [List.replicate_succ, List.append_assoc, List.cons_append, List.nil_append]
theorem all_rep (n : Nat) : biD .all [.lst (List.replicate n (.bl true))] = some (.bl true) := by
  induction n with
  | zero => rfl
  | succ n ih => rw [List.replicate_succ, all_cons_t, ih]
theorem gc1 (cl : Nat → List D → List AO → Out) (hml : menuD.length ≤ sizeLine) (ns : List Int) (hc : ∀ q ∈ menu, cl 26 [.tup q.1, q.2] [] = .ok (.bl true) []) (e1 e2 : Option B) : compLoop (kCf ⟨cl, fun _ => none⟩ [3, 4] (.tu (.cons (.nm 3) (.cons (.nm 4) .nil))) .nil (.and (.cmp .is_ (.call 26 (.cons (.var 3) (.cons (.var 4) .nil))) (.con (.bl true))) (.cmp .is_ (.callP 26 [1, 0] (.cons (.var 4) (.cons (.var 3) .nil))) (.con (.bl true))))) menuD [] ⟨[some (.fro (.fl (ns.map .int))), e1, e2, none, none], []⟩ = .ok (menuD.map fun _ => .bl true) ⟨[some (.fro (.fl (ns.map .int))), e1, e2, none, none], []⟩ := by
  have := compLoop_map (f := kCf ⟨cl, fun _ => none⟩ [3, 4] (.tu (.cons (.nm 3) (.cons (.nm 4) .nil))) .nil (.and (.cmp .is_ (.call 26 (.cons (.var 3) (.cons (.var 4) .nil))) (.con (.bl true))) (.cmp .is_ (.callP 26 [1, 0] (.cons (.var 4) (.cons (.var 3) .nil))) (.con (.bl true))))) (st := ⟨[some (.fro (.fl (ns.map .int))), e1, e2, none, none], []⟩) (g := fun _ => .bl true) menuD [] (fun x hx => ?_) (by simpa using hml)
  · simpa using this
  · obtain ⟨q, hq, rfl⟩ := List.mem_map.mp hx
    have w := hc q hq
    simp (disch := omega) only [kCf_def, List.length_cons, List.length_nil, List.map_cons, List.map_nil, List.replicate, List.cons_append, List.nil_append, List.append_nil, Nat.reduceAdd, Nat.reduceSub, Nat.reduceLT, Nat.reduceLeDiff, if_true, if_false, Nat.zero_add, ↓reduceIte, and_self, startE, runDef_eq, outR_rt, outR_nx,
    evSs_cons, evSs_nil, kSeq_nx, kSeq_rt, kSeq_bk, kSeq_ct, evS_if, kIf_t, kIf_f, evS_ret, kRet, evS_ex, kEx, evS_retN, evS_brk, evS_cont, evS_pass, evS_asg, kAsg_def, asgR_some, asgT_nm, asgT_tu, asgT_tuL, asgTs_nil, asgTs_cons, asgC_some, evS_asgF, kAsgF_ok, cell_lst, cell_dK, cell_dT, evS_asgS, kAsgS, asgSR_some, kUpS, kNx, evS_par2, kPar2, kPar2b_def, evS_par3, kPar3, kPar3b, kPar3c_def,
    evS_tgS, kTg_tup, tgC_some, kTg2, kTg3_def, evS_app, appR_lst, kAppU, app_lst, lenL_ok, evS_aug, augB_fro, kAug, augE_some, augD_add, augD_sub, evS_augS, augS0_some, kAugS1, augS1_some, kAugS2, augS2_some, oldD_dT, oldD_lst, evS_for, kFor,
    ev_con, ev_var, varB_fro, varB_ownT, varB_ownF, give_lst, give_dK, give_dT, ev_bin, kBin1, kBin2, ev_neg, kNeg_int, ev_nt, kNt_bl, ev_cmp, kCmp1, kCmp2, ev_chain, kCh1, kCh2, kCh3_t, kCh3_f, ev_and, kAnd_t, kAnd_f, ev_or, kOr_t, kOr_f, ev_ite, kIte_t, kIte_f, ev_tup, kTup_def, kLen_ok, ev_lst, kLst_def, ev_dic0, ev_sub, kSub1, kSub2_def, ev_sli, kSli1, kSli2, kSli3, ev_rev, kRev, ev_call, kCall_def, callR_ok, callR_exc, ev_callP, kCallP, callP_some, ev_obj, kObj_lst, ev_dic1, kDic1, ev_dicT, kDicT1, kDicT2, dicTR_some, ev_bi, kBi, ev_mt, kMt1, kMt2, evs_nil, evs_cons, kCons1, kCons2, evO_no, evO_yes, kO_int, evT_nil, evT_cons, kT_t, kT_f, kT_nil,
    evI_seq, kSeqI, evI_rng1, kR1_ok, evI_rng2, kR2, kR2_ok, evI_rng3, kR3, kR3_ok, evI_enum, kEnum, ev_comp, kComp_def, kCe_def, wipe_nil, wipe_cons, back_nil, back_cons, ev_comp2, kComp2_def, Option.getD_some, Option.getD_none, bind_ok', bind_stuck', ofOpt_some, noexc_ok,
    look_def, lookB_own, lookB_ref, lookA_ls, up_def, upB_own, upB_ref, upO_some, upA_ls, upA2_some, List.getElem?_cons_zero, List.getElem?_cons_succ, List.getElem?_nil, List.set_cons_zero, List.set_cons_succ,
    derefD_tup, derefD_kt, derefD_lst, derefD_fl, derefD_dT, derefD_dF, derefD_dK, derefD_kd, derefD_ref, derefA_ls, at_0, at_1, at_2, at_3, at_4, sub_lst, sub_tup, sub_kt, sub_fl, set_0, set_1, set_2, Option.map_some, Option.map_none,
    bin_mulR, bin_mulL, bin_add, bin_sub, bin_mod, bin_addT, bin_addL, lenG_ok, bin_fdiv, divmod_ok, bi_int, bi_abs, bi_lenT, bi_lenL, bi_lenK, bi_lenF, bi_max2, bi_min2, bi_listL, bi_listT, bi_tupleL, bi_tupleT, bi_isi, all_cons_t, all_nil, isi_tup_non, isi_tup_bl, isi_tup_int, isi_tup_str, isi_tup_tup, isi_tup_kt, isi_tup_lst, isi_tup_dK, isi_tup_dT, isi_lst_non, isi_lst_bl, isi_lst_int, isi_lst_str, isi_lst_tup, isi_lst_kt, isi_lst_lst, isi_lst_dK, isi_lst_dT, isi_int_non, isi_int_bl, isi_int_int, isi_int_str, isi_int_tup, isi_int_kt, isi_int_lst, isi_int_dK, isi_int_dT, isi_bool_non, isi_bool_bl, isi_bool_int, isi_bool_str, isi_bool_tup, isi_bool_kt, isi_bool_lst, isi_bool_dK, isi_bool_dT, isi_str_non, isi_str_bl, isi_str_int, isi_str_str, isi_str_tup, isi_str_kt, isi_str_lst, isi_str_dK, isi_str_dT, isi_dict_non, isi_dict_bl, isi_dict_int, isi_dict_str, isi_dict_tup, isi_dict_kt, isi_dict_lst, isi_dict_dK, isi_dict_dT, isNonD, cmp_lt, cmp_le, cmp_gt, cmp_ge, cmp_eqI, cmp_neI, cmp_eqS, cmp_neS, cmp_isN, cmp_isnN, cmp_isB, cmp_isnB, Bool.not_true, Bool.not_false, kCf0_some, kCf1_t, kCf2_def, w, decide_true, pick10]
theorem gc2 (cl : Nat → List D → List AO → Out) (hml : menuD.length ≤ sizeLine) (ns : List Int) (hc : ∀ q ∈ menu, cl 33 [.tup q.1, q.2] [] = .ok (.bl true) []) (e1 e2 : Option B) : compLoop (kCf ⟨cl, fun _ => none⟩ [3, 4] (.tu (.cons (.nm 3) (.cons (.nm 4) .nil))) .nil (.call 33 (.cons (.var 3) (.cons (.var 4) .nil)))) menuD [] ⟨[some (.fro (.fl (ns.map .int))), e1, e2, none, none], []⟩ = .ok (menuD.map fun _ => .bl true) ⟨[some (.fro (.fl (ns.map .int))), e1, e2, none, none], []⟩ := by
  have := compLoop_map (f := kCf ⟨cl, fun _ => none⟩ [3, 4] (.tu (.cons (.nm 3) (.cons (.nm 4) .nil))) .nil (.call 33 (.cons (.var 3) (.cons (.var 4) .nil)))) (st := ⟨[some (.fro (.fl (ns.map .int))), e1, e2, none, none], []⟩) (g := fun _ => .bl true) menuD [] (fun x hx => ?_) (by simpa using hml)
  · simpa using this
  · obtain ⟨q, hq, rfl⟩ := List.mem_map.mp hx
    have w := hc q hq
    simp (disch := omega) only [kCf_def, List.length_cons, List.length_nil, List.map_cons, List.map_nil, List.replicate, List.cons_append, List.nil_append, List.append_nil, Nat.reduceAdd, Nat.reduceSub, Nat.reduceLT, Nat.reduceLeDiff, if_true, if_false, Nat.zero_add, ↓reduceIte, and_self, startE, runDef_eq, outR_rt, outR_nx,
    evSs_cons, evSs_nil, kSeq_nx, kSeq_rt, kSeq_bk, kSeq_ct, evS_if, kIf_t, kIf_f, evS_ret, kRet, evS_ex, kEx, evS_retN, evS_brk, evS_cont, evS_pass, evS_asg, kAsg_def, asgR_some, asgT_nm, asgT_tu, asgT_tuL, asgTs_nil, asgTs_cons, asgC_some, evS_asgF, kAsgF_ok, cell_lst, cell_dK, cell_dT, evS_asgS, kAsgS, asgSR_some, kUpS, kNx, evS_par2, kPar2, kPar2b_def, evS_par3, kPar3, kPar3b, kPar3c_def,
    evS_tgS, kTg_tup, tgC_some, kTg2, kTg3_def, evS_app, appR_lst, kAppU, app_lst, lenL_ok, evS_aug, augB_fro, kAug, augE_some, augD_add, augD_sub, evS_augS, augS0_some, kAugS1, augS1_some, kAugS2, augS2_some, oldD_dT, oldD_lst, evS_for, kFor,
    ev_con, ev_var, varB_fro, varB_ownT, varB_ownF, give_lst, give_dK, give_dT, ev_bin, kBin1, kBin2, ev_neg, kNeg_int, ev_nt, kNt_bl, ev_cmp, kCmp1, kCmp2, ev_chain, kCh1, kCh2, kCh3_t, kCh3_f, ev_and, kAnd_t, kAnd_f, ev_or, kOr_t, kOr_f, ev_ite, kIte_t, kIte_f, ev_tup, kTup_def, kLen_ok, ev_lst, kLst_def, ev_dic0, ev_sub, kSub1, kSub2_def, ev_sli, kSli1, kSli2, kSli3, ev_rev, kRev, ev_call, kCall_def, callR_ok, callR_exc, ev_callP, kCallP, callP_some, ev_obj, kObj_lst, ev_dic1, kDic1, ev_dicT, kDicT1, kDicT2, dicTR_some, ev_bi, kBi, ev_mt, kMt1, kMt2, evs_nil, evs_cons, kCons1, kCons2, evO_no, evO_yes, kO_int, evT_nil, evT_cons, kT_t, kT_f, kT_nil,
    evI_seq, kSeqI, evI_rng1, kR1_ok, evI_rng2, kR2, kR2_ok, evI_rng3, kR3, kR3_ok, evI_enum, kEnum, ev_comp, kComp_def, kCe_def, wipe_nil, wipe_cons, back_nil, back_cons, ev_comp2, kComp2_def, Option.getD_some, Option.getD_none, bind_ok', bind_stuck', ofOpt_some, noexc_ok,
    look_def, lookB_own, lookB_ref, lookA_ls, up_def, upB_own, upB_ref, upO_some, upA_ls, upA2_some, List.getElem?_cons_zero, List.getElem?_cons_succ, List.getElem?_nil, List.set_cons_zero, List.set_cons_succ,
    derefD_tup, derefD_kt, derefD_lst, derefD_fl, derefD_dT, derefD_dF, derefD_dK, derefD_kd, derefD_ref, derefA_ls, at_0, at_1, at_2, at_3, at_4, sub_lst, sub_tup, sub_kt, sub_fl, set_0, set_1, set_2, Option.map_some, Option.map_none,
    bin_mulR, bin_mulL, bin_add, bin_sub, bin_mod, bin_addT, bin_addL, lenG_ok, bin_fdiv, divmod_ok, bi_int, bi_abs, bi_lenT, bi_lenL, bi_lenK, bi_lenF, bi_max2, bi_min2, bi_listL, bi_listT, bi_tupleL, bi_tupleT, bi_isi, all_cons_t, all_nil, isi_tup_non, isi_tup_bl, isi_tup_int, isi_tup_str, isi_tup_tup, isi_tup_kt, isi_tup_lst, isi_tup_dK, isi_tup_dT, isi_lst_non, isi_lst_bl, isi_lst_int, isi_lst_str, isi_lst_tup, isi_lst_kt, isi_lst_lst, isi_lst_dK, isi_lst_dT, isi_int_non, isi_int_bl, isi_int_int, isi_int_str, isi_int_tup, isi_int_kt, isi_int_lst, isi_int_dK, isi_int_dT, isi_bool_non, isi_bool_bl, isi_bool_int, isi_bool_str, isi_bool_tup, isi_bool_kt, isi_bool_lst, isi_bool_dK, isi_bool_dT, isi_str_non, isi_str_bl, isi_str_int, isi_str_str, isi_str_tup, isi_str_kt, isi_str_lst, isi_str_dK, isi_str_dT, isi_dict_non, isi_dict_bl, isi_dict_int, isi_dict_str, isi_dict_tup, isi_dict_kt, isi_dict_lst, isi_dict_dK, isi_dict_dT, isNonD, cmp_lt, cmp_le, cmp_gt, cmp_ge, cmp_eqI, cmp_neI, cmp_eqS, cmp_neS, cmp_isN, cmp_isnN, cmp_isB, cmp_isnB, Bool.not_true, Bool.not_false, kCf0_some, kCf1_t, kCf2_def, w]
theorem law_body (cl : Nat → List D → List AO → Out) (ns : List Int) (hl : ns.length ≤ 63) (A' : List AO) (u' : cl 29 [] [] = .ok (.lst menuD) [])
    (g1 : ∀ e1 e2 : Option B, compLoop (kCf ⟨cl, fun _ => none⟩ [3, 4] (.tu (.cons (.nm 3) (.cons (.nm 4) .nil))) .nil (.and (.cmp .is_ (.call 26 (.cons (.var 3) (.cons (.var 4) .nil))) (.con (.bl true))) (.cmp .is_ (.callP 26 [1, 0] (.cons (.var 4) (.cons (.var 3) .nil))) (.con (.bl true))))) menuD [] ⟨[some (.fro (.fl (ns.map .int))), e1, e2, none, none], []⟩ = .ok (menuD.map fun _ => .bl true) ⟨[some (.fro (.fl (ns.map .int))), e1, e2, none, none], []⟩)
    (g2 : ∀ e1 e2 : Option B, compLoop (kCf ⟨cl, fun _ => none⟩ [3, 4] (.tu (.cons (.nm 3) (.cons (.nm 4) .nil))) .nil (.call 33 (.cons (.var 3) (.cons (.var 4) .nil)))) menuD [] ⟨[some (.fro (.fl (ns.map .int))), e1, e2, none, none], []⟩ = .ok (menuD.map fun _ => .bl true) ⟨[some (.fro (.fl (ns.map .int))), e1, e2, none, none], []⟩)
    (w : compLoop (kCf ⟨cl, fun _ => none⟩ [2] (.nm 2) .nil (.call 34 (.cons (.call 27 (.cons (.var 0) (.cons (.var 2) .nil))) .nil))) (rngD 0 (if (if (8 : Int) < ns.length then (8 : Int) else ns.length) > 2 then (if (8 : Int) < ns.length then (8 : Int) else ns.length) else 2).toNat) [] ⟨[some (.fro (.fl (ns.map .int))), (some (.fro (.lst menuD))), none, none, none], []⟩ = .ok ([] ++ List.replicate (if (if (8 : Int) < ns.length then (8 : Int) else ns.length) > 2 then (if (8 : Int) < ns.length then (8 : Int) else ns.length) else 2).toNat (.bl true)) ⟨[some (.fro (.fl (ns.map .int))), (some (.fro (.lst menuD))), none, none, none], A'⟩) :
    runDef ⟨cl, fun _ => none⟩ Hd.b35 [.fl (ns.map .int)] [] = .ok (.bl true) A' := by
  simp only [List.nil_append] at w
  simp (disch := first | omega | (split <;> split <;> omega)) only [Hd.b35, List.length_cons, List.length_nil, List.map_cons, List.map_nil, List.replicate, List.cons_append, List.nil_append, List.append_nil, Nat.reduceAdd, Nat.reduceSub, Nat.reduceLT, Nat.reduceLeDiff, if_true, if_false, Nat.zero_add, ↓reduceIte, and_self, startE, runDef_eq, outR_rt, outR_nx,
    evSs_cons, evSs_nil, kSeq_nx, kSeq_rt, kSeq_bk, kSeq_ct, evS_if, kIf_t, kIf_f, evS_ret, kRet, evS_ex, kEx, evS_retN, evS_brk, evS_cont, evS_pass, evS_asg, kAsg_def, asgR_some, asgT_nm, asgT_tu, asgT_tuL, asgTs_nil, asgTs_cons, asgC_some, evS_asgF, kAsgF_ok, cell_lst, cell_dK, cell_dT, evS_asgS, kAsgS, asgSR_some, kUpS, kNx, evS_par2, kPar2, kPar2b_def, evS_par3, kPar3, kPar3b, kPar3c_def,
    evS_tgS, kTg_tup, tgC_some, kTg2, kTg3_def, evS_app, appR_lst, kAppU, app_lst, lenL_ok, evS_aug, augB_fro, kAug, augE_some, augD_add, augD_sub, evS_augS, augS0_some, kAugS1, augS1_some, kAugS2, augS2_some, oldD_dT, oldD_lst, evS_for, kFor,
    ev_con, ev_var, varB_fro, varB_ownT, varB_ownF, give_lst, give_dK, give_dT, ev_bin, kBin1, kBin2, ev_neg, kNeg_int, ev_nt, kNt_bl, ev_cmp, kCmp1, kCmp2, ev_chain, kCh1, kCh2, kCh3_t, kCh3_f, ev_and, kAnd_t, kAnd_f, ev_or, kOr_t, kOr_f, ev_ite, kIte_t, kIte_f, ev_tup, kTup_def, kLen_ok, ev_lst, kLst_def, ev_dic0, ev_sub, kSub1, kSub2_def, ev_sli, kSli1, kSli2, kSli3, ev_rev, kRev, ev_call, kCall_def, callR_ok, callR_exc, ev_callP, kCallP, callP_some, ev_obj, kObj_lst, ev_dic1, kDic1, ev_dicT, kDicT1, kDicT2, dicTR_some, ev_bi, kBi, ev_mt, kMt1, kMt2, evs_nil, evs_cons, kCons1, kCons2, evO_no, evO_yes, kO_int, evT_nil, evT_cons, kT_t, kT_f, kT_nil,
    evI_seq, kSeqI, evI_rng1, kR1_ok, evI_rng2, kR2, kR2_ok, evI_rng3, kR3, kR3_ok, evI_enum, kEnum, ev_comp, kComp_def, kCe_def, wipe_nil, wipe_cons, back_nil, back_cons, ev_comp2, kComp2_def, Option.getD_some, Option.getD_none, bind_ok', bind_stuck', ofOpt_some, noexc_ok,
    look_def, lookB_own, lookB_ref, lookA_ls, up_def, upB_own, upB_ref, upO_some, upA_ls, upA2_some, List.getElem?_cons_zero, List.getElem?_cons_succ, List.getElem?_nil, List.set_cons_zero, List.set_cons_succ,
    derefD_tup, derefD_kt, derefD_lst, derefD_fl, derefD_dT, derefD_dF, derefD_dK, derefD_kd, derefD_ref, derefA_ls, at_0, at_1, at_2, at_3, at_4, sub_lst, sub_tup, sub_kt, sub_fl, set_0, set_1, set_2, Option.map_some, Option.map_none,
    bin_mulR, bin_mulL, bin_add, bin_sub, bin_mod, bin_addT, bin_addL, lenG_ok, bin_fdiv, divmod_ok, bi_int, bi_abs, bi_lenT, bi_lenL, bi_lenK, bi_lenF, bi_max2, bi_min2, bi_listL, bi_listT, bi_tupleL, bi_tupleT, bi_isi, all_cons_t, all_nil, isi_tup_non, isi_tup_bl, isi_tup_int, isi_tup_str, isi_tup_tup, isi_tup_kt, isi_tup_lst, isi_tup_dK, isi_tup_dT, isi_lst_non, isi_lst_bl, isi_lst_int, isi_lst_str, isi_lst_tup, isi_lst_kt, isi_lst_lst, isi_lst_dK, isi_lst_dT, isi_int_non, isi_int_bl, isi_int_int, isi_int_str, isi_int_tup, isi_int_kt, isi_int_lst, isi_int_dK, isi_int_dT, isi_bool_non, isi_bool_bl, isi_bool_int, isi_bool_str, isi_bool_tup, isi_bool_kt, isi_bool_lst, isi_bool_dK, isi_bool_dT, isi_str_non, isi_str_bl, isi_str_int, isi_str_str, isi_str_tup, isi_str_kt, isi_str_lst, isi_str_dK, isi_str_dT, isi_dict_non, isi_dict_bl, isi_dict_int, isi_dict_str, isi_dict_tup, isi_dict_kt, isi_dict_lst, isi_dict_dK, isi_dict_dT, isNonD, cmp_lt, cmp_le, cmp_gt, cmp_ge, cmp_eqI, cmp_neI, cmp_eqS, cmp_neS, cmp_isN, cmp_isnN, cmp_isB, cmp_isnB, Bool.not_true, Bool.not_false, u', items_lst, g1, g2, all_true, List.length_map, w, all_rep]
theorem law_eval : ∀ ns : List Int, ns.length ≤ 63 → ∃ A', callN Hd.tt 60 35 [.fl (ns.map .int)] [] = .ok (.bl true) A' := by
  intro ns hl
  have u := menu_sp [] 58
  have u' : callN Hd.tt 59 29 [] [] = .ok (.lst menuD) [] := u
  have hml : menuD.length ≤ sizeLine := by
    rw [show menuD.length = 5 from rfl]
    decide
  have g1 := gc1 (callN Hd.tt 59) hml ns fun q hq => (menu_yes q hq).1
  have g2 := gc2 (callN Hd.tt 59) hml ns fun q hq => (menu_yes q hq).2
  obtain ⟨A', w⟩ := last ns hl (some (.fro (.lst menuD))) none none (if (if (8 : Int) < ns.length then (8 : Int) else ns.length) > 2 then (if (8 : Int) < ns.length then (8 : Int) else ns.length) else 2).toNat 0 [] [] (by decide) (by split <;> split <;> omega) (by simp only [List.length_nil]; split <;> split <;> omega)
  refine ⟨A', ?_⟩
  have e : callN Hd.tt 60 35 [.fl (ns.map .int)] [] = _ := call35 59 [.fl (ns.map .int)] []
  exact e.trans ((if_pos (show [D.fl (ns.map .int)].length = 1 from rfl)).trans (law_body (callN Hd.tt 59) ns hl A' u' g1 g2 w))
end Pl

open PySem PySem.W PySem.Calls PyProof.Rows
theorem PySem.Challenge.cw_hivesums_k78_claims_and_papers_of_any_ki_holds : PySem.Challenge.rw_hivesums_k78_claims_and_papers_of_any_ki.Holds := by
  w_on; o_law
  refine HandSHeadRun.head_any (r := OpenLaw.row PySem.Challenge.rw_hivesums_k78_claims_and_papers_of_any_ki) (q := view (OpenLaw.row PySem.Challenge.rw_hivesums_k78_claims_and_papers_of_any_ki).prog [45]) (H := Hd.hk) (ob := Hd.ob) (M := 4000) (loose := Hd.names) (d := HandSHeadRun.topDef (OpenLaw.row PySem.Challenge.rw_hivesums_k78_claims_and_papers_of_any_ki).prog 45) (kwd := []) Hd.ob_eq
    (by kernel_rfl) (fun s => by kernel_rfl) Hd.run (by kernel_rfl) (by kernel_rfl) (by kernel_rfl) (by rfl) (by first | assumption | decide +kernel) (by decide +kernel) ⟨rfl, rfl, rfl, rfl, rfl, by decide +kernel⟩ ?hw ?hc
  case hw => w_witness2
  case hc =>
    refine L2.walk_ofE (l := PySem.Challenge.rw_hivesums_k78_claims_and_papers_of_any_ki) (n := 63) (k := 61) (x := "_law_script") (CX := IL.CXw PySem.Challenge.pw_hivesums_k78_claims_and_papers_of_any_ki) rfl (by decide) (by kernel_rfl) ⟨rfl, by decide, by decide⟩ ?F ?G
    case F =>
      intro w mg fa h Y G hmg0
      obtain ⟨K, KX, c⟩ := Y
      have hmg : mg ("law" : PySem.Str) = some (.ref fa) := by
        have e : (HandSHeadRun.topDef (OpenLaw.row PySem.Challenge.rw_hivesums_k78_claims_and_papers_of_any_ki).prog 45).name = ("law" : PySem.Str) := by kernel_rfl
        rw [← e]
        exact hmg0
      obtain ⟨fd, hb, hF⟩ := Hd.facts (w := w) 60 KX G hmg c
      refine ⟨K, fd, IL.spI (Hd.Ts K w) (IL.callN Hd.tt 60 35) 1, KX, hb, fun H a ns hl _ hS => ?_, fun base b1 b2 => IL.fnok_cx (hF base b1 b2)⟩
      obtain ⟨A', e⟩ := Pl.law_eval ns hl
      exact IL.law_sp hS e
    case G =>
      intro H s e s' z
      obtain ⟨_, _, _, _, _, _, _, _, _, _, _, _, _, z⟩ := z
      exact z.elim

