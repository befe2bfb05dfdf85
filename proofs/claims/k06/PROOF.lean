import PyProof.Rows.All
import Wide.All
import OpenK.AllK
import Wide.FinOn
import KE.KStateDown
import Lean
import HandS.ForMost
import HandS.ForExc
import HandS.Defaults
import HandS.Zip
import HandS.Flow
import PyProof.ToksMono
import HandS.Wide
import HandS.IsInst
import HandS.Strs
import HandS.Iter
import KE.GoesNew
import HandS.SortInts
import HandS.Style
import HandS.Replace
import HandS.More
import PyProof.Rows.StrStrike
import PyProof.Rows.StrCountLaw
import PyProof.ListStr
import PyProof.TupleOfStr
import PyProof.StrOps2
import PyProof.SliceStr2
import KE.KRevSl
import PyProof.Rows.SetFrom
import PyProof.SetRoads
import PyProof.DictStraight
import PyProof.CollectStr
import HandS.Head0
import HandS.Head1
import HandS.Head2
import HandS.HeadEnd
import HandS.HeadHook1
import HandS.HeadHook2
import HandS.HeadHook4
import HandS.EndBits
import OpenK.ZHead
import PyProof.ListRange
import HandS.Deep
import HandS.WordsDict
import PySem.Challenge.RW_bagdraws_k06_whole_waits_for_a_letter
set_option Elab.async false
set_option linter.all false
set_option maxRecDepth 100000
set_option maxHeartbeats 0
/-! Dl1: the data layer: values as data, memory, states, the judgements. -/
namespace Dl
open PySem PySem.Spec PyProof.Rows L2

/-- a list that nobody writes to -/
def SqE (K : PySem.W.Frag) (H : Hp) (a : Addr) (xs : List V) : Prop :=
  Rd H a (.lst xs) ∨ ∃ (its : Array Value) (n : Nat), K.lookup a = some { cls := .type "list", dict := none, data := .seq its n, slots := #[] } ∧ its.size ≤ sizeLine ∧ Vals xs its.toList
theorem SqE.sqL {K : PySem.W.Frag} {H : Hp} {a : Addr} {xs : List V} (h : SqE K H a xs) : SqL K H a xs := by
  rcases h with h | ⟨its, n, h1, h2, h3⟩
  · exact .inl h
  · exact .inr ⟨_, its, n, h1, rfl, rfl, rfl, h2, h3⟩
theorem SqE.of {K : PySem.W.Frag} {H : Hp} {a : Addr} {xs : List V} (h : H a = some (.lst xs)) : SqE K H a xs := .inl (.inl h)
theorem Same.sqE {K : PySem.W.Frag} {B B' : Hp} (e : Same B B') {a : Addr} {xs : List V} (h : SqE K B a xs) : SqE K B' a xs := by
  rcases h with (h | ⟨o, h⟩) | h
  · exact .inl (.inl (e _ _ h))
  · exact .inl (.inr ⟨o, e _ _ h⟩)
  · exact .inr h
/-- values as data; adr: an object by its place -/
inductive D where
  | non | bl (b : Bool) | int (i : Int) | str (s : List Nat) | tup (xs : List D) | lst (xs : List D) | adr (a : Addr) | ty (n : String)

mutual
def rep (K : PySem.W.Frag) (B : Hp) : D → V → Prop
  | .non, v => v = .non
  | .bl b, v => v = .bl b
  | .int i, v => v = .int i
  | .str s, v => v = .str ⟨s.toArray⟩
  | .tup ds, v => ∃ a vs, v = .ref a ∧ B a = some (.tup vs) ∧ repL K B ds vs
  | .lst ds, v => ∃ a vs, v = .ref a ∧ SqE K B a vs ∧ repL K B ds vs
  | .adr a, v => v = .ref a
  | .ty n, v => v = .ty n
def repL (K : PySem.W.Frag) (B : Hp) : List D → List V → Prop
  | [], vs => vs = []
  | d :: ds, vs => ∃ v r, vs = v :: r ∧ rep K B d v ∧ repL K B ds r
end

section
variable {K : PySem.W.Frag} {B B' : Hp}
theorem Same.sqT (e : Same B B') {a : Addr} {xs : List V} (h : SqT K B a xs) : SqT K B' a xs := by
  rcases h with (h | ⟨o, h⟩) | h
  · exact .inl (.inl (e _ _ h))
  · exact .inl (.inr ⟨o, e _ _ h⟩)
  · exact .inr h
mutual
theorem rep.mono (e : Same B B') : ∀ {d : D} {v : V}, rep K B d v → rep K B' d v
  | .non, v, h => by unfold rep at h ⊢; exact h
  | .bl b, v, h => by unfold rep at h ⊢; exact h
  | .int i, v, h => by unfold rep at h ⊢; exact h
  | .str s, v, h => by unfold rep at h ⊢; exact h
  | .tup ds, v, h => by
    unfold rep at h ⊢
    obtain ⟨a, vs, h1, h2, h3⟩ := h
    exact ⟨a, vs, h1, e _ _ h2, repL.mono e h3⟩
  | .lst ds, v, h => by
    unfold rep at h ⊢
    obtain ⟨a, vs, h1, h2, h3⟩ := h
    exact ⟨a, vs, h1, Same.sqE e h2, repL.mono e h3⟩
  | .adr a, v, h => by unfold rep at h ⊢; exact h
  | .ty n, v, h => by unfold rep at h ⊢; exact h
theorem repL.mono (e : Same B B') : ∀ {ds : List D} {vs : List V}, repL K B ds vs → repL K B' ds vs
  | [], vs, h => by unfold repL at h ⊢; exact h
  | d :: ds, vs, h => by
    unfold repL at h ⊢
    obtain ⟨v, r, h1, h2, h3⟩ := h
    exact ⟨v, r, h1, rep.mono e h2, repL.mono e h3⟩
end
theorem repL.nil : repL K B [] [] := by unfold repL; rfl
theorem repL.cons {d : D} {v : V} {ds : List D} {vs : List V} (h : rep K B d v) (t : repL K B ds vs) : repL K B (d :: ds) (v :: vs) := by
  unfold repL
  exact ⟨v, vs, rfl, h, t⟩
theorem repL.nil_inv {vs : List V} (h : repL K B [] vs) : vs = [] := by unfold repL at h; exact h
theorem repL.cons_inv {d : D} {ds : List D} {vs : List V} (h : repL K B (d :: ds) vs) : ∃ v r, vs = v :: r ∧ rep K B d v ∧ repL K B ds r := by unfold repL at h; exact h
theorem repL.length : ∀ {ds : List D} {vs : List V}, repL K B ds vs → vs.length = ds.length
  | [], vs, h => by rw [h.nil_inv]; rfl
  | d :: ds, vs, h => by
    obtain ⟨v, r, rfl, _, t⟩ := h.cons_inv
    simp [repL.length t]
theorem repL.get : ∀ {ds : List D} {vs : List V} {i : Nat} {d : D}, repL K B ds vs → ds[i]? = some d → ∃ v, vs[i]? = some v ∧ rep K B d v
  | [], _, _, _, _, e => by simp at e
  | d :: ds, vs, i, x, h, e => by
    obtain ⟨v, r, rfl, h1, t⟩ := h.cons_inv
    cases i with
    | zero => simp at e; subst e; exact ⟨v, by simp, h1⟩
    | succ i =>
      obtain ⟨u, e1, e2⟩ := repL.get (i := i) t (by simpa using e)
      exact ⟨u, by simpa using e1, e2⟩
theorem repL.getV : ∀ {ds : List D} {vs : List V} {i : Nat} {v : V}, repL K B ds vs → vs[i]? = some v → ∃ d, ds[i]? = some d ∧ rep K B d v
  | [], vs, _, _, h, e => by rw [h.nil_inv] at e; simp at e
  | d :: ds, vs, i, x, h, e => by
    obtain ⟨v, r, rfl, h1, t⟩ := h.cons_inv
    cases i with
    | zero => simp at e; subst e; exact ⟨d, by simp, h1⟩
    | succ i =>
      obtain ⟨u, e1, e2⟩ := repL.getV (i := i) t (by simpa using e)
      exact ⟨u, by simpa using e1, e2⟩
theorem repL.append : ∀ {ds es : List D} {vs us : List V}, repL K B ds vs → repL K B es us → repL K B (ds ++ es) (vs ++ us)
  | [], _, _, _, h, t => by rw [h.nil_inv]; exact t
  | d :: ds, _, _, _, h, t => by
    obtain ⟨v, r, rfl, h1, h2⟩ := h.cons_inv
    exact repL.cons h1 (repL.append h2 t)
theorem repL.take : ∀ {ds : List D} {vs : List V} (n : Nat), repL K B ds vs → repL K B (ds.take n) (vs.take n)
  | _, _, 0, _ => by simpa using repL.nil
  | [], _, n + 1, h => by rw [h.nil_inv]; exact repL.nil
  | d :: ds, _, n + 1, h => by
    obtain ⟨v, r, rfl, h1, h2⟩ := h.cons_inv
    exact repL.cons h1 (repL.take n h2)
theorem repL.drop : ∀ {ds : List D} {vs : List V} (n : Nat), repL K B ds vs → repL K B (ds.drop n) (vs.drop n)
  | _, _, 0, h => by simpa using h
  | [], _, n + 1, h => by rw [h.nil_inv]; exact repL.nil
  | d :: ds, _, n + 1, h => by
    obtain ⟨v, r, rfl, h1, h2⟩ := h.cons_inv
    exact repL.drop n h2
theorem repL.set {d : D} {v : V} (h : rep K B d v) : ∀ {ds : List D} {vs : List V} (n : Nat), repL K B ds vs → repL K B (ds.set n d) (vs.set n v)
  | [], _, n, t => by rw [t.nil_inv]; exact repL.nil
  | e :: ds, _, 0, t => by
    obtain ⟨u, r, rfl, h1, h2⟩ := t.cons_inv
    exact repL.cons h h2
  | e :: ds, _, n + 1, t => by
    obtain ⟨u, r, rfl, h1, h2⟩ := t.cons_inv
    exact repL.cons h1 (repL.set h n h2)
theorem repL.reverse : ∀ {ds : List D} {vs : List V}, repL K B ds vs → repL K B ds.reverse vs.reverse
  | [], _, h => by rw [h.nil_inv]; exact repL.nil
  | d :: ds, _, h => by
    obtain ⟨v, r, rfl, h1, h2⟩ := h.cons_inv
    rw [List.reverse_cons, List.reverse_cons]
    exact repL.append (repL.reverse h2) (repL.cons h1 repL.nil)
theorem repL.of_map {α : Type} {f : α → D} {g : α → V} (h : ∀ x, rep K B (f x) (g x)) : ∀ xs : List α, repL K B (xs.map f) (xs.map g)
  | [] => repL.nil
  | x :: xs => repL.cons (h x) (repL.of_map h xs)
theorem repL.map_inv {α : Type} {f : α → D} {g : α → V} (h : ∀ x v, rep K B (f x) v → v = g x) : ∀ {xs : List α} {vs : List V}, repL K B (xs.map f) vs → vs = xs.map g
  | [], _, r => r.nil_inv
  | x :: xs, _, r => by
    obtain ⟨v, r', rfl, h1, h2⟩ := repL.cons_inv r
    rw [h x v h1, repL.map_inv h h2, List.map_cons]
theorem rep_int {i : Int} {v : V} : rep K B (.int i) v ↔ v = .int i := by unfold rep; exact Iff.rfl
theorem rep_str {i : List Nat} {v : V} : rep K B (.str i) v ↔ v = .str ⟨i.toArray⟩ := by unfold rep; exact Iff.rfl
theorem rep_bl {i : Bool} {v : V} : rep K B (.bl i) v ↔ v = .bl i := by unfold rep; exact Iff.rfl
theorem rep_non {v : V} : rep K B .non v ↔ v = .non := by unfold rep; exact Iff.rfl
theorem rep_ty {n : String} {v : V} : rep K B (.ty n) v ↔ v = .ty n := by unfold rep; exact Iff.rfl
theorem rep_adr {a : Addr} {v : V} : rep K B (.adr a) v ↔ v = .ref a := by unfold rep; exact Iff.rfl
structure RepTup (K : PySem.W.Frag) (B : Hp) (ds : List D) (v : V) : Prop where
  mp : rep K B (.tup ds) v → ∃ a vs, v = .ref a ∧ SqT K B a vs ∧ repL K B ds vs
  mpr : (∃ a vs, v = .ref a ∧ B a = some (.tup vs) ∧ repL K B ds vs) → rep K B (.tup ds) v
theorem rep_tupE {ds : List D} {v : V} (h : rep K B (.tup ds) v) : ∃ a vs, v = .ref a ∧ B a = some (.tup vs) ∧ repL K B ds vs := by unfold rep at h; exact h
theorem rep_tup {ds : List D} {v : V} : RepTup K B ds v := ⟨fun h => by
  obtain ⟨a, vs, h1, h2, h3⟩ := rep_tupE h
  exact ⟨a, vs, h1, SqT.of h2, h3⟩, fun h => by unfold rep; exact h⟩
structure RepLst (K : PySem.W.Frag) (B : Hp) (ds : List D) (v : V) : Prop where
  mp : rep K B (.lst ds) v → ∃ a vs, v = .ref a ∧ SqL K B a vs ∧ repL K B ds vs
  mpr : (∃ a vs, v = .ref a ∧ SqE K B a vs ∧ repL K B ds vs) → rep K B (.lst ds) v
theorem rep_lstE {ds : List D} {v : V} (h : rep K B (.lst ds) v) : ∃ a vs, v = .ref a ∧ SqE K B a vs ∧ repL K B ds vs := by unfold rep at h; exact h
theorem rep_lst {ds : List D} {v : V} : RepLst K B ds v := ⟨fun h => by
  obtain ⟨a, vs, h1, h2, h3⟩ := rep_lstE h
  exact ⟨a, vs, h1, h2.sqL, h3⟩, fun h => by unfold rep; exact h⟩
end

/-! ### memory -/
/-- what stands at an own place -/
inductive MO where
  | lst (xs : List D)
  | dK (kvs : List (Key × D))
  | dT (kvs : List (List Key × D))
  | raw (o : HO)
  | ins (C dx : Addr) (fs : List (Str × D))
abbrev Mem := Addr → Option MO
def mset (M : Mem) (a : Addr) (o : MO) : Mem := fun b => if b = a then some o else M b
theorem mset_same {M : Mem} {a : Addr} {o : MO} : mset M a o a = some o := by unfold mset; rw [if_pos rfl]
theorem mset_ne {M : Mem} {a b : Addr} {o : MO} (h : b ≠ a) : mset M a o b = M b := by unfold mset; rw [if_neg h]
theorem mset_mset {M : Mem} {a : Addr} {o u : MO} : mset (mset M a o) a u = mset M a u := by
  funext b; unfold mset; split <;> rfl
theorem mset_comm {M : Mem} {a b : Addr} {o u : MO} (h : a ≠ b) : mset (mset M a o) b u = mset (mset M b u) a o := by
  funext c
  unfold mset
  by_cases e1 : c = a
  · by_cases e2 : c = b
    · exact absurd (e1.symm.trans e2) h
    · rw [if_neg e2, if_pos e1, if_pos e1]
  · by_cases e2 : c = b
    · rw [if_pos e2, if_neg e1, if_pos e2]
    · rw [if_neg e2, if_neg e1, if_neg e1, if_neg e2]
theorem mset_self {M : Mem} {a : Addr} {o : MO} (h : M a = some o) : mset M a o = M := by
  funext c
  unfold mset
  by_cases e : c = a
  · rw [if_pos e, e, h]
  · rw [if_neg e]
def rKV {κ : Type} (K : PySem.W.Frag) (B : Hp) : List (κ × D) → List (κ × V) → Prop
  | [], vs => vs = []
  | d :: ds, vs => ∃ v r, vs = (d.1, v) :: r ∧ rep K B d.2 v ∧ rKV K B ds r
def repO (K : PySem.W.Frag) (B : Hp) : MO → HO → Prop
  | .lst ds, o => ∃ vs, o = .lst vs ∧ repL K B ds vs
  | .dK kvs, o => ∃ vs, o = .dK vs ∧ rKV K B kvs vs
  | .dT kvs, o => ∃ vs, o = .dT vs ∧ rKV K B kvs vs
  | .raw u, o => o = u
  | .ins C dx fs, o => ∃ vs, o = .ins C dx vs ∧ rKV K B fs vs
section
variable {K : PySem.W.Frag} {B B' : Hp}
theorem rKV.mono {κ : Type} (e : Same B B') : ∀ {ds : List (κ × D)} {vs : List (κ × V)}, rKV K B ds vs → rKV K B' ds vs
  | [], _, h => h
  | d :: ds, _, ⟨v, r, h1, h2, h3⟩ => ⟨v, r, h1, h2.mono e, rKV.mono e h3⟩
theorem repO.mono (e : Same B B') : ∀ {m : MO} {o : HO}, repO K B m o → repO K B' m o
  | .lst _, _, ⟨vs, h1, h2⟩ => ⟨vs, h1, h2.mono e⟩
  | .dK _, _, ⟨vs, h1, h2⟩ => ⟨vs, h1, h2.mono e⟩
  | .dT _, _, ⟨vs, h1, h2⟩ => ⟨vs, h1, h2.mono e⟩
  | .raw _, _, h => h
  | .ins _ _ _, _, ⟨vs, h1, h2⟩ => ⟨vs, h1, h2.mono e⟩
end
/-- the heap H: the ground B (read only), the own memory M, the rest -/
structure Hd (K : PySem.W.Frag) (H B : Hp) (M : Mem) : Prop where
  sub : Same B H
  own : ∀ a m, M a = some m → B a = none ∧ ∃ o, H a = some o ∧ repO K B m o
/-- from one state to a later one -/
structure Stp (B : Hp) (M : Mem) (H B' : Hp) (M' : Mem) (H' : Hp) : Prop where
  same : Same B B'
  rest : ∀ a o, H a = some o → B a = none → M a = none → H' a = some o ∧ B' a = none ∧ M' a = none
theorem Stp.refl {B : Hp} {M : Mem} {H : Hp} : Stp B M H B M H := ⟨Same.refl B, fun a o h1 h2 h3 => ⟨h1, h2, h3⟩⟩
theorem Stp.trans {B B1 B2 : Hp} {M M1 M2 : Mem} {H H1 H2 : Hp} (a : Stp B M H B1 M1 H1) (b : Stp B1 M1 H1 B2 M2 H2) : Stp B M H B2 M2 H2 :=
  ⟨a.same.trans b.same, fun x o h1 h2 h3 => by
    obtain ⟨q1, q2, q3⟩ := a.rest x o h1 h2 h3
    exact b.rest x o q1 q2 q3⟩
/-- a new read-only object -/
theorem Hd.newB {K : PySem.W.Frag} {H B : Hp} {M : Mem} (h : Hd K H B M) {p : Addr} (o : HO) (hp : H p = none) : Hd K (upd H p o) (upd B p o) M := by
  have bp : B p = none := h.sub.free hp
  have mp : ∀ a m, M a = some m → a ≠ p := fun a m e z => by
    subst z
    obtain ⟨_, o, e2, _⟩ := h.own _ m e
    rw [hp] at e2; cases e2
  have sm : Same B (upd B p o) := fun b u e => by
    rw [upd_ne (ne_of_none e bp)]; exact e
  refine ⟨fun b u e => ?_, fun a m e => ?_⟩
  · by_cases hb : b = p
    · subst hb; rw [upd_same] at e ⊢; exact e
    · rw [upd_ne hb] at e ⊢; exact h.sub b u e
  · obtain ⟨q1, u, q2, q3⟩ := h.own a m e
    exact ⟨by rw [upd_ne (mp a m e)]; exact q1, u, by rw [upd_ne (mp a m e)]; exact q2, q3.mono sm⟩
theorem Stp.newB {K : PySem.W.Frag} {H B : Hp} {M : Mem} (h : Hd K H B M) {p : Addr} {o : HO} (hp : H p = none) : Stp B M H (upd B p o) M (upd H p o) := by
  have bp : B p = none := h.sub.free hp
  refine ⟨fun b u e => by rw [upd_ne (ne_of_none e bp)]; exact e, fun a u h1 h2 h3 => ?_⟩
  have ne : a ≠ p := ne_of_none h1 hp
  exact ⟨by rw [upd_ne ne]; exact h1, by rw [upd_ne ne]; exact h2, h3⟩
/-- a new own object -/
theorem Hd.newM {K : PySem.W.Frag} {H B : Hp} {M : Mem} (h : Hd K H B M) {p : Addr} {o : HO} {m : MO} (hp : H p = none) (r : repO K B m o) : Hd K (upd H p o) B (mset M p m) := by
  have bp : B p = none := h.sub.free hp
  refine ⟨fun b u e => by rw [upd_ne (ne_of_none e bp)]; exact h.sub b u e, fun a x e => ?_⟩
  by_cases ha : a = p
  · subst ha
    rw [mset_same] at e; cases e
    exact ⟨bp, o, upd_same, r⟩
  · rw [mset_ne ha] at e
    obtain ⟨q1, u, q2, q3⟩ := h.own a x e
    exact ⟨q1, u, by rw [upd_ne ha]; exact q2, q3⟩
theorem Stp.newM {B : Hp} {M : Mem} {H : Hp} {p : Addr} {o : HO} {m : MO} (hp : H p = none) : Stp B M H B (mset M p m) (upd H p o) := by
  refine ⟨Same.refl B, fun a u h1 h2 h3 => ?_⟩
  have ne : a ≠ p := ne_of_none h1 hp
  exact ⟨by rw [upd_ne ne]; exact h1, h2, by rw [mset_ne ne]; exact h3⟩
/-- an own object is written -/
theorem Hd.write {K : PySem.W.Frag} {H B : Hp} {M : Mem} (h : Hd K H B M) {p : Addr} {m0 m : MO} {o : HO} (hp : M p = some m0) (r : repO K B m o) : Hd K (upd H p o) B (mset M p m) := by
  have bp : B p = none := (h.own p m0 hp).1
  refine ⟨fun b u e => by rw [upd_ne (ne_of_none e bp)]; exact h.sub b u e, fun a x e => ?_⟩
  by_cases ha : a = p
  · subst ha
    rw [mset_same] at e; cases e
    exact ⟨bp, o, upd_same, r⟩
  · rw [mset_ne ha] at e
    obtain ⟨q1, u, q2, q3⟩ := h.own a x e
    exact ⟨q1, u, by rw [upd_ne ha]; exact q2, q3⟩
theorem Stp.write {B : Hp} {M : Mem} {H : Hp} {p : Addr} {m0 m : MO} {o : HO} (hp : M p = some m0) : Stp B M H B (mset M p m) (upd H p o) := by
  refine ⟨Same.refl B, fun a u h1 h2 h3 => ?_⟩
  have ne : a ≠ p := fun z => by subst z; rw [hp] at h3; cases h3
  exact ⟨by rw [upd_ne ne]; exact h1, h2, by rw [mset_ne ne]; exact h3⟩
theorem Hd.free {K : PySem.W.Frag} {H B : Hp} {M : Mem} (h : Hd K H B M) {p : Addr} (hp : H p = none) : M p = none := by
  cases e : M p with
  | none => rfl
  | some m =>
    obtain ⟨_, o, q, _⟩ := h.own p m e
    rw [hp] at q; cases q
/-- an own list that nobody writes again -/
def mdel (M : Mem) (a : Addr) : Mem := fun b => if b = a then none else M b
theorem mdel_mset {M : Mem} {a : Addr} {o : MO} (h : M a = none) : mdel (mset M a o) a = M := by
  funext b
  unfold mdel mset
  by_cases e : b = a
  · rw [if_pos e, e, h]
  · rw [if_neg e, if_neg e]
theorem Hd.freeze {K : PySem.W.Frag} {H B : Hp} {M : Mem} (h : Hd K H B M) {p : Addr} {m : MO} {o : HO} (hm : M p = some m) (ho : H p = some o) : Hd K H (upd B p o) (mdel M p) := by
  have bp : B p = none := (h.own p m hm).1
  have sm : Same B (upd B p o) := fun b u e => by rw [upd_ne (ne_of_none e bp)]; exact e
  refine ⟨fun b u e => ?_, fun a x e => ?_⟩
  · by_cases hb : b = p
    · subst hb; rw [upd_same] at e; cases e; exact ho
    · rw [upd_ne hb] at e; exact h.sub b u e
  · unfold mdel at e
    by_cases ha : a = p
    · rw [if_pos ha] at e; cases e
    · rw [if_neg ha] at e
      obtain ⟨q1, u, q2, q3⟩ := h.own a x e
      exact ⟨by rw [upd_ne ha]; exact q1, u, q2, q3.mono sm⟩
theorem Stp.freeze {K : PySem.W.Frag} {B : Hp} {M : Mem} {H : Hp} (h : Hd K H B M) {p : Addr} {m : MO} {o : HO} (hm : M p = some m) (ho : H p = some o) : Stp B M H (upd B p o) (mdel M p) H := by
  have bp : B p = none := (h.own p m hm).1
  refine ⟨fun b u e => by rw [upd_ne (ne_of_none e bp)]; exact e, fun a u h1 h2 h3 => ?_⟩
  have ne : a ≠ p := fun z => by subst z; rw [hm] at h3; cases h3
  exact ⟨h1, by rw [upd_ne ne]; exact h2, by unfold mdel; rw [if_neg ne]; exact h3⟩
/-- a part of the memory given to a callee, the rest put by: B M of the whole -/
theorem Hd.weak {K : PySem.W.Frag} {H B : Hp} {M M' : Mem} (h : Hd K H B M) (s : ∀ a m, M' a = some m → M a = some m) : Hd K H B M' := ⟨h.sub, fun a m e => h.own a m (s a m e)⟩
end Dl
/-! Dl2: contexts, judgements, the rules that any text wants. -/
namespace Dl
open PySem PySem.Spec PyProof.Rows L2

structure Glob where
  P : Program
  w : World
  K : PySem.W.Frag
  mg : Str → Option Value
  base : Heap
  T : Nat
/-- a def's (a block's) names, scope and room -/
structure Sc where
  N : List Str
  sc : Scope
  k : Nat
  cap : List Str
abbrev Gm := List (Str × Option D)
abbrev XPost := Value → Option (List (Str × V)) → Mem → Prop
def XNo : XPost := fun _ _ _ => False
def locB (sc : Scope) (x : Str) : Bool := match sc.names.lookup x with
  | some .local => true
  | some .cell => true
  | _ => false
theorem loc_of {sc : Scope} {x : Str} (h : locB sc x = true) : L2.Loc sc x := by
  unfold locB at h
  unfold L2.Loc
  split at h <;> first | (rename_i e; simp [e]) | cases h
/-- may be stored to: an own name that is not taken from around -/
def stoB (C : Sc) (x : Str) : Bool := locB C.sc x && !C.cap.contains x
theorem stoB_loc {C : Sc} {x : Str} (h : stoB C x = true) : locB C.sc x = true := (Bool.and_eq_true_iff.mp h).1
structure Ctx (G : Glob) (C : Sc) (X : Cx) : Prop where
  P : X.prog = G.P
  w : X.w = G.w
  K : X.K = G.K
  mg : X.mg = G.mg
  base : X.base = G.base
  N : X.N = C.N
  sc : X.env.scope = C.sc
  nd : C.N.Nodup
  calm : X.calm = true
  room : Room C.k X.A
  fn : ∀ x, stoB C x = true → X.fn x = true ∨ X.env.scope.names.lookup x = some .local
  pass : PassesOwn (model X.prog X.w) X.A X.env X.xe
def dOk (fs : Option (List (Str × V))) (d : Option Addr) (H : Hp) : Prop := match fs with
  | none => d = none
  | some fs => ∃ a, d = some a ∧ H a = some (.xd fs)
def ConX (K : PySem.W.Frag) (Ex : XPost) (B : Hp) (M : Mem) (H : Hp) : XK := fun cls d H' => ∃ fs B' M', Hd K H' B' M' ∧ Stp B M H B' M' H' ∧ dOk fs d H' ∧ Ex cls fs M'
def XOK (X : Cx) (Ex : XPost) (B : Hp) (M : Mem) (H : Hp) : Prop := ∃ W : WX, Takes X W ∧ ∀ cls d σ H', ConX X.K Ex B M H cls d H' → W cls d σ H'
theorem XOK.step {X : Cx} {Ex : XPost} {B B' : Hp} {M M' : Mem} {H H' : Hp} (x : XOK X Ex B M H) (s : Stp B M H B' M' H') : XOK X Ex B' M' H' := by
  obtain ⟨W, t, h⟩ := x
  refine ⟨W, t, fun cls d σ H2 ⟨fs, B2, M2, q1, q2, q3⟩ => h cls d σ H2 ⟨fs, B2, M2, q1, s.trans q2, q3⟩⟩
theorem XOK.no {X : Cx} {B : Hp} {M : Mem} {H : Hp} : XOK X XNo B M H := ⟨fun _ _ _ _ => False, takes0, fun _ _ _ _ ⟨_, _, _, _, _, _, z⟩ => z⟩
theorem XOK.imp {X : Cx} {Ex Ex' : XPost} {B : Hp} {M : Mem} {H : Hp} (x : XOK X Ex B M H) (h : ∀ c fs M, Ex' c fs M → Ex c fs M) : XOK X Ex' B M H := by
  obtain ⟨W, t, q⟩ := x
  exact ⟨W, t, fun cls d σ H2 ⟨fs, B2, M2, q1, q2, q3, q4⟩ => q cls d σ H2 ⟨fs, B2, M2, q1, q2, q3, h _ _ _ q4⟩⟩
structure Reps (K : PySem.W.Frag) (N : List Str) (B : Hp) (σ : L2.St) (Γ : Gm) : Prop where
  nm : Γ.map (·.1) = N
  ln : σ.length = N.length
  at_ : ∀ (i : Nat) (x : Str) (d : D), Γ[i]? = some (x, some d) → ∃ v, σ[i]? = some (some v) ∧ rep K B d v
theorem Reps.mono {K : PySem.W.Frag} {N : List Str} {B B' : Hp} {σ : L2.St} {Γ : Gm} (r : Reps K N B σ Γ) (e : Same B B') : Reps K N B' σ Γ :=
  ⟨r.nm, r.ln, fun i x d h => let ⟨v, h1, h2⟩ := r.at_ i x d h; ⟨v, h1, h2.mono e⟩⟩
/-- a state -/
structure S0 (G : Glob) (C : Sc) (X : Cx) (Γ : Gm) (M : Mem) (Ex : XPost) (σ : L2.St) (H B : Hp) : Prop where
  cx : Ctx G C X
  hd : Hd G.K H B M
  gm : Reps G.K C.N B σ Γ
  xo : XOK X Ex B M H
theorem S0.step {G : Glob} {C : Sc} {X : Cx} {Γ : Gm} {M M' : Mem} {Ex : XPost} {σ : L2.St} {H B H' B' : Hp} (s : S0 G C X Γ M Ex σ H B) (h : Hd G.K H' B' M') (t : Stp B M H B' M' H') : S0 G C X Γ M' Ex σ H' B' :=
  ⟨s.cx, h, s.gm.mono t.same, s.xo.step t⟩

/-! ### the strongest readings: at states that have given out T tokens -/
section
variable {X : Cx} {e : Expr} {es : List Expr} {st : Stmt} {sts : List Stmt} {σ : L2.St} {H : Hp} {T : Nat}
theorem thnT {α : Type} {t : Sem α} {Q Q' : α → Shared → Prop} {M : Model} {A : Around} {F : Value → Shared → Prop} {s : Shared} (k : T ≤ s.toks) (h : wpAny M A t Q F s) (hQ : ∀ a s', T ≤ s'.toks → Q a s' → Q' a s') : wpAny M A t Q' F s :=
  PySem.wpAny_with_toks k (wpAny_mono h (fun a s' q k' => hQ a s' k' q) fun _ _ x _ => x)
def sE (T : Nat) (X : Cx) (e : Expr) : TE := fun σ H Q => ∀ pins s, T ≤ s.toks → Inv X pins σ H s → wpAny (model X.prog X.w) X.A (eval e X.env) (EP X pins σ Q) X.xe s
def sT (T : Nat) (X : Cx) (e : Expr) : TT := fun σ H Q => ∀ pins s, T ≤ s.toks → Inv X pins σ H s → wpAny (model X.prog X.w) X.A (isTrue e X.env (eval e X.env)) (TP X pins σ Q) X.xe s
def sW (T : Nat) (X : Cx) (e : Expr) : TT := fun σ H Q => ∀ whole pins s, T ≤ s.toks → Inv X pins σ H s → wpAny (model X.prog X.w) X.A (isTrue e X.env whole) (TP X pins σ Q) X.xe s
def sA (T : Nat) (X : Cx) (es : List Expr) : TA := fun σ H Q => ∀ pos pins s, T ≤ s.toks → Inv X pins σ H s → wpAny (model X.prog X.w) X.A (spliced (backTo pos (starEach es X.env))) (AP X pins σ Q) X.xe s
def sSs (T : Nat) (X : Cx) (sts : List Stmt) : TS := fun D σ H => ∀ pins s, T ≤ s.toks → Inv X pins σ H s → wpAny (model X.prog X.w) X.A (execs sts X.env) (SP X pins D) X.xe s
def sG (T : Nat) (X : Cx) (tg : Expr) : TG := fun v σ H Q => ∀ pins s u, T ≤ s.toks → Inv X pins σ H s → RelV v u → wpAny (model X.prog X.w) X.A (assign tg X.env u) (fun _ s' => ∃ σ' H', Inv X pins σ' H' s' ∧ Q σ' H') X.xe s
def sI (T : Nat) (X : Cx) (tg iter : Expr) : TI := fun σ H R => ∀ pins s, T ≤ s.toks → Inv X pins σ H s → wpAny (model X.prog X.w) X.A (eval iter X.env) (fun v s1 => wpAny (model X.prog X.w) X.A (pyIter v) (PIE X pins σ tg R) X.xe s1) X.xe s
def sO (T : Nat) (X : Cx) (f : Value → Value → Sem Value) : R2 := fun x y H Q => ∀ pins s σ v u, T ≤ s.toks → Inv X pins σ H s → RelV x v → RelV y u → wpAny (model X.prog X.w) X.A (f v u) (EP X pins σ Q) X.xe s
def sF (T : Nat) (X : Cx) (f : Value) : List V → Hp → VK → Prop := fun xs H Q => ∀ pins s σ us, T ≤ s.toks → Inv X pins σ H s → Vals xs us → wpAny (model X.prog X.w) X.A (call f us) (EP X pins σ Q) X.xe s
theorem sE_of {t : TE} {Q : VK} (h : PE X e t) (q : t σ H Q) : sE T X e σ H Q := fun pins s _ I => h.run pins s σ H Q I q
theorem sT_of {t : TT} {Q : Bool → Hp → Prop} (h : PT X e t) (q : t σ H Q) : sT T X e σ H Q := fun pins s _ I => h.run pins s σ H Q I q
theorem sA_of {t : TA} {Q : List V → Hp → Prop} (h : PA X es t) (q : t σ H Q) : sA T X es σ H Q := fun pos pins s _ I => h.run pos pins s σ H Q I q
theorem sSs_of {t : TS} {D : Ends} (h : PSs X sts t) (q : t D σ H) : sSs T X sts D σ H := fun pins s _ I => h.run pins s σ H D I q
theorem sG_of {tg : Expr} {t : TG} {v : V} {Q : L2.St → Hp → Prop} (h : PG X tg t) (q : t v σ H Q) : sG T X tg v σ H Q := fun pins s u _ I r => h.run pins s σ H v u Q I r q
theorem sI_of {tg iter : Expr} {t : TI} {R : It → Hp → Prop} (h : PI X tg iter t) (q : t σ H R) : sI T X tg iter σ H R := fun pins s _ I => h.run pins s σ H R I q
theorem sO_of {f : Value → Value → Sem Value} {r : R2} {x y : V} {Q : VK} (h : OpR X f r) (q : r x y H Q) : sO T X f x y H Q := fun pins s σ v u _ I r1 r2 => h pins s σ H x y v u Q I r1 r2 q
theorem sF_of {f : Value} {r : List V → Hp → VK → Prop} {xs : List V} {Q : VK} (h : CallR X f r) (q : r xs H Q) : sF T X f xs H Q := fun pins s σ us _ I r1 => h pins s σ H xs us Q I r1 q
theorem sE.mono {Q Q' : VK} (h : sE T X e σ H Q) (q : ∀ v H', Q v H' → Q' v H') : sE T X e σ H Q' := fun pins s k I => thn (h pins s k I) fun u s1 ⟨v, H1, I1, r1, q1⟩ => ⟨v, H1, I1, r1, q _ _ q1⟩
theorem sT.mono {Q Q' : Bool → Hp → Prop} (h : sT T X e σ H Q) (q : ∀ v H', Q v H' → Q' v H') : sT T X e σ H Q' := fun pins s k I => thn (h pins s k I) fun u s1 ⟨H1, I1, q1⟩ => ⟨H1, I1, q _ _ q1⟩
theorem sW.mono {Q Q' : Bool → Hp → Prop} (h : sW T X e σ H Q) (q : ∀ v H', Q v H' → Q' v H') : sW T X e σ H Q' := fun wh pins s k I => thn (h wh pins s k I) fun u s1 ⟨H1, I1, q1⟩ => ⟨H1, I1, q _ _ q1⟩
theorem sA.mono {Q Q' : List V → Hp → Prop} (h : sA T X es σ H Q) (q : ∀ v H', Q v H' → Q' v H') : sA T X es σ H Q' := fun pos pins s k I => thn (h pos pins s k I) fun u s1 ⟨v, H1, I1, r1, q1⟩ => ⟨v, H1, I1, r1, q _ _ q1⟩
theorem sO.mono {f : Value → Value → Sem Value} {x y : V} {Q Q' : VK} (h : sO T X f x y H Q) (q : ∀ v H', Q v H' → Q' v H') : sO T X f x y H Q' := fun pins s σ v u k I r1 r2 => thn (h pins s σ v u k I r1 r2) fun u s1 ⟨v, H1, I1, r1, q1⟩ => ⟨v, H1, I1, r1, q _ _ q1⟩
theorem sF.mono {f : Value} {xs : List V} {Q Q' : VK} (h : sF T X f xs H Q) (q : ∀ v H', Q v H' → Q' v H') : sF T X f xs H Q' := fun pins s σ us k I r1 => thn (h pins s σ us k I r1) fun u s1 ⟨v, H1, I1, r1, q1⟩ => ⟨v, H1, I1, r1, q _ _ q1⟩
theorem sG.mono {tg : Expr} {v : V} {Q Q' : L2.St → Hp → Prop} (h : sG T X tg v σ H Q) (q : ∀ σ H', Q σ H' → Q' σ H') : sG T X tg v σ H Q' := fun pins s u k I r => thn (h pins s u k I r) fun _ s1 ⟨σ1, H1, I1, q1⟩ => ⟨σ1, H1, I1, q _ _ q1⟩
theorem sI.mono {tg iter : Expr} {R R' : It → Hp → Prop} (h : sI T X tg iter σ H R) (q : ∀ J H', R J H' → R' J H') : sI T X tg iter σ H R' := fun pins s k I =>
  thn (h pins s k I) fun v s1 h1 => thn h1 fun itv s2 ⟨it, fp, tn, J, H', e, I2, T, st2, f2, r⟩ => ⟨it, fp, tn, J, H', e, I2, T, st2, f2, q _ _ r⟩
theorem sSs.mono {D D' : Ends} (h : sSs T X sts D σ H) (n : ∀ σ H, D.nx σ H → D'.nx σ H) (r : ∀ v H, D.rt v H → D'.rt v H) (b : ∀ σ H, D.bk σ H → D'.bk σ H) (c : ∀ σ H, D.ct σ H → D'.ct σ H) : sSs T X sts D' σ H := fun pins s k I =>
  thn (h pins s k I) fun f s1 q => by
    cases f with
    | next => obtain ⟨σ', H', I', q⟩ := q; exact ⟨σ', H', I', n _ _ q⟩
    | brk => obtain ⟨σ', H', I', q⟩ := q; exact ⟨σ', H', I', b _ _ q⟩
    | cont => obtain ⟨σ', H', I', q⟩ := q; exact ⟨σ', H', I', c _ _ q⟩
    | ret u => obtain ⟨v, σ', H', I', rr, q⟩ := q; exact ⟨v, σ', H', I', rr, r _ _ q⟩

/-! ### the same for what stands under an operator, a call, a statement -/
variable {a b c : Expr} {rs : List Expr} {pos : Pos}
theorem s_two {Q : Value → Shared → Prop} {R : V → V → Hp → Prop} {f : Value → Value → Sem Value} {pins : List (Addr × Obj)} {s : Shared} (k : T ≤ s.toks) (I : Inv X pins σ H s) (h : sE T X a σ H fun x H1 => sE T X b σ H1 fun y H2 => R x y H2)
    (hf : ∀ v u s2 x y H2, T ≤ s2.toks → Inv X pins σ H2 s2 → RelV x v → RelV y u → R x y H2 → wpAny (model X.prog X.w) X.A (f v u) Q X.xe s2) :
    wpAny (model X.prog X.w) X.A (eval a X.env) (fun v s1 => wpAny (model X.prog X.w) X.A (eval b X.env) (fun u s2 => wpAny (model X.prog X.w) X.A (f v u) Q X.xe s2) X.xe s1) X.xe s :=
  thnT k (h pins s k I) fun v s1 k1 ⟨x, H1, I1, r1, q1⟩ => thnT k1 (q1 pins s1 k1 I1) fun u s2 k2 ⟨y, H2, I2, r2, q2⟩ => hf v u s2 x y H2 k2 I2 r1 r2 q2
theorem s_bin {op : Operator} {Q : VK} (h : sE T X a σ H fun x H1 => sE T X b σ H1 fun y H2 => sO T X (binaryOp op) x y H2 Q) : sE T X (.BinOp a op b pos) σ H Q := fun pins s k I =>
  wpAny_BinOp (s_two k I h fun v u s2 x y H2 k2 I2 rx ry q => q pins s2 σ v u k2 I2 rx ry)
theorem s_cmp {op : CmpOp} {Q : VK} (hm : behindInMarks op b = false) (h : sE T X a σ H fun x H1 => sE T X b σ H1 fun y H2 => sO T X (compareOp op) x y H2 Q) : sE T X (.Compare a [op] [b] pos) σ H Q := fun pins s k I =>
  wpAny_Compare1 (s_two k I h fun v u s2 x y H2 k2 I2 rx ry q => q pins s2 σ v u k2 I2 rx ry) hm
theorem s_tcmp {op : CmpOp} {Q : Bool → Hp → Prop} (hm : behindInMarks op b = false) (h : sE T X a σ H fun x H1 => sE T X b σ H1 fun y H2 => sO T X (compareOp op) x y H2 fun z H3 => ∃ k, z = .bl k ∧ Q k H3) : sT T X (.Compare a [op] [b] pos) σ H Q := fun pins s k I =>
  wpAny_isTrue_Compare1 (thnT k (h pins s k I) fun v s1 k1 ⟨x, H1, I1, r1, q1⟩ => thnT k1 (q1 pins s1 k1 I1) fun u s2 k2 ⟨y, H2, I2, r2, q2⟩ => thn (q2 pins s2 σ v u k2 I2 r1 r2) fun d s3 ⟨z, H3, I3, r3, j, ej, q3⟩ => by
    rw [ej] at r3
    cases r3
    exact wpAny_truthy_bool ⟨H3, I3, q3⟩) hm
theorem s_chain {op op' : CmpOp} {Q : VK} (hm : lastMarks [op, op'] [b, c] = false) (h : sE T X a σ H fun x H1 => sE T X b σ H1 fun y H2 => sO T X (compareOp op) x y H2 fun z H3 => ∃ k, z = .bl k ∧
    if k = true then sE T X c σ H3 fun w H4 => sO T X (compareOp op') y w H4 Q else Q (.bl false) H3) : sE T X (.Compare a [op, op'] [b, c] pos) σ H Q := fun pins s k I => by
  refine Compare_chain (thnT k (h pins s k I) fun v s1 k1 ⟨x, H1, I1, r1, q1⟩ => chain_link (thnT k1 (q1 pins s1 k1 I1) fun u s2 k2 ⟨y, H2, I2, r2, q2⟩ => thnT k2 (q2 pins s2 σ v u k2 I2 r1 r2) fun d s3 k3 ⟨z, H3, I3, r3, j, ej, q3⟩ => ?_)) hm
  rw [ej] at r3
  cases r3
  refine wpAny_truthy_bool ?_
  cases j with
  | false => exact ite_ff ⟨.bl false, H3, I3, rfl, q3⟩
  | true => exact ite_tt (chain_last (thnT k3 (q3 pins s3 k3 I3) fun w s4 k4 ⟨z4, H4, I4, r4, q4⟩ => q4 pins s4 σ u w k4 I4 r2 r4))
theorem s_tchain {op op' : CmpOp} {Q : Bool → Hp → Prop} (hm : lastMarks [op, op'] [b, c] = false) (h : sE T X a σ H fun x H1 => sE T X b σ H1 fun y H2 => sO T X (compareOp op) x y H2 fun z H3 => ∃ k, z = .bl k ∧
    if k = true then sE T X c σ H3 fun w H4 => sO T X (compareOp op') y w H4 fun z H5 => ∃ k, z = .bl k ∧ Q k H5 else Q false H3) : sT T X (.Compare a [op, op'] [b, c] pos) σ H Q := fun pins s k I => by
  refine isTrue_chain (thnT k (h pins s k I) fun v s1 k1 ⟨x, H1, I1, r1, q1⟩ => test_link (thnT k1 (q1 pins s1 k1 I1) fun u s2 k2 ⟨y, H2, I2, r2, q2⟩ => thnT k2 (q2 pins s2 σ v u k2 I2 r1 r2) fun d s3 k3 ⟨z, H3, I3, r3, j, ej, q3⟩ => ?_)) hm
  rw [ej] at r3
  cases r3
  refine wpAny_truthy_bool ?_
  cases j with
  | false => exact ite_ff ⟨H3, I3, q3⟩
  | true =>
    refine ite_tt (test_last (thnT k3 (q3 pins s3 k3 I3) fun w s4 k4 ⟨z4, H4, I4, r4, q4⟩ => thn (q4 pins s4 σ u w k4 I4 r2 r4) fun d5 s5 ⟨z5, H5, I5, r5, j5, e5, q5⟩ => ?_))
    rw [e5] at r5
    cases r5
    exact wpAny_truthy_bool ⟨H5, I5, q5⟩
theorem s_val {Q : Bool → Hp → Prop} (he : ∀ whole, isTrue e X.env whole = (do let v ← whole; standAt e.pos; holding [v] (truthy v))) (h : sE T X e σ H fun x H1 => ∃ k, x = .bl k ∧ Q k H1) : sT T X e σ H Q := fun pins s k I =>
  isTrue_plain (thn (h pins s k I) fun v s1 ⟨x, H1, I1, r1, j, ej, q1⟩ => by
    rw [ej] at r1
    cases r1
    exact wpAny_truthy_bool ⟨H1, I1, q1⟩) (he _)
theorem s_tnot {Q : Bool → Hp → Prop} (h : sT T X a σ H fun k H1 => Q (!k) H1) : sT T X (.UnaryOp .Not a pos) σ H Q := fun pins s k I => isTrue_not (h pins s k I)
theorem s_not {Q : VK} (h : sE T X a σ H fun x H1 => ∃ k, x = .bl k ∧ Q (.bl (!k)) H1) : sE T X (.UnaryOp .Not a pos) σ H Q := fun pins s k I =>
  UnaryOp_ (thn (h pins s k I) fun v s1 ⟨x, H1, I1, r1, j, ej, q1⟩ => by
    rw [ej] at r1
    cases r1
    exact not_of (wpAny_truthy_bool ⟨.bl (!j), H1, I1, rfl, q1⟩))
theorem s_and1 {Q : Bool → Hp → Prop} (h : sT T X a σ H Q) : sW T X (.BoolOp .And [a] pos) σ H Q := fun wh pins s k I => isTrue_and (thn (h pins s k I) fun j s1 q => by
  cases j with
  | false => exact q
  | true => exact isTrue_and_nil q)
theorem s_or1 {Q : Bool → Hp → Prop} (h : sT T X a σ H Q) : sW T X (.BoolOp .Or [a] pos) σ H Q := fun wh pins s k I => isTrue_or (thn (h pins s k I) fun j s1 q => by
  cases j with
  | true => exact q
  | false => exact isTrue_or_nil q)
theorem s_and {Q : Bool → Hp → Prop} (h : sT T X a σ H fun j H1 => if j = true then sW T X (.BoolOp .And (b :: rs) pos) σ H1 Q else Q false H1) : sW T X (.BoolOp .And (a :: b :: rs) pos) σ H Q := fun wh pins s k I =>
  isTrue_and (thnT k (h pins s k I) fun j s1 k1 ⟨H1, I1, q1⟩ => by
    cases j with
    | false => exact ⟨H1, I1, q1⟩
    | true => exact q1 wh pins s1 k1 I1)
theorem s_or {Q : Bool → Hp → Prop} (h : sT T X a σ H fun j H1 => if j = true then Q true H1 else sW T X (.BoolOp .Or (b :: rs) pos) σ H1 Q) : sW T X (.BoolOp .Or (a :: b :: rs) pos) σ H Q := fun wh pins s k I =>
  isTrue_or (thnT k (h pins s k I) fun j s1 k1 ⟨H1, I1, q1⟩ => by
    cases j with
    | true => exact ⟨H1, I1, q1⟩
    | false => exact q1 wh pins s1 k1 I1)
theorem s_pt {Q : Bool → Hp → Prop} (h : sW T X e σ H Q) : sT T X e σ H Q := fun pins s k I => h _ pins s k I
theorem s_one {op : BoolOp} {Q : VK} (h : sE T X a σ H Q) : sE T X (.BoolOp op [a] pos) σ H Q := fun pins s k I => BoolOp_one (h pins s k I)
theorem s_andV {Q : VK} (h : sE T X a σ H fun x H1 => ∃ j, x = .bl j ∧ if j = true then sE T X (.BoolOp .And (b :: rs) pos) σ H1 Q else Q (.bl false) H1) : sE T X (.BoolOp .And (a :: b :: rs) pos) σ H Q := fun pins s k I =>
  BoolOp_and (thnT k (h pins s k I) fun v s1 k1 ⟨x, H1, I1, r1, j, ej, q1⟩ => by
    rw [ej] at r1
    cases r1
    refine wpAny_truthy_bool ?_
    cases j with
    | false => exact ⟨.bl false, H1, I1, rfl, q1⟩
    | true => exact q1 pins s1 k1 I1)
theorem s_orV {Q : VK} (h : sE T X a σ H fun x H1 => ∃ j, x = .bl j ∧ if j = true then Q (.bl true) H1 else sE T X (.BoolOp .Or (b :: rs) pos) σ H1 Q) : sE T X (.BoolOp .Or (a :: b :: rs) pos) σ H Q := fun pins s k I =>
  BoolOp_or (thnT k (h pins s k I) fun v s1 k1 ⟨x, H1, I1, r1, j, ej, q1⟩ => by
    rw [ej] at r1
    cases r1
    refine wpAny_truthy_bool ?_
    cases j with
    | true => exact ⟨.bl true, H1, I1, rfl, q1⟩
    | false => exact q1 pins s1 k1 I1)
theorem s_ife {Q : VK} (h : sT T X c σ H fun j H1 => if j = true then sE T X a σ H1 Q else sE T X b σ H1 Q) : sE T X (.IfExp c a b pos) σ H Q := fun pins s k I =>
  wpAny_IfExp (thnT k (h pins s k I) fun j s1 k1 ⟨H1, I1, q1⟩ => by
    cases j with
    | true => exact q1 pins s1 k1 I1
    | false => exact q1 pins s1 k1 I1)
theorem s_neg {Q : VK} (h : sE T X a σ H fun x H1 => ∃ i, x = .int i ∧ Q (.int (-i)) H1) : sE T X (.UnaryOp .USub a pos) σ H Q := fun pins s k I =>
  UnaryOp_ (thn (h pins s k I) fun v s1 ⟨x, H1, I1, r1, q1⟩ => un_neg pins s1 σ H1 x v Q I1 r1 q1)
theorem s_cons {Q : List V → Hp → Prop} (hs : starEach (e :: es) X.env = (false, eval e X.env) :: starEach es X.env) (h : sE T X e σ H fun x H1 => sA T X es σ H1 fun xs H2 => Q (x :: xs) H2) : sA T X (e :: es) σ H Q := fun pos pins s k I => by
  rw [hs]
  show wpAny _ _ (spliced ((false, eval e X.env) :: backTo pos (starEach es X.env))) _ _ s
  exact Calls.spliced_cons (thnT k (h pins s k I) fun u s1 k1 ⟨x, H1, I1, r1, q1⟩ => thn (q1 pos pins s1 k1 I1) fun us s2 ⟨xs, H2, I2, r2, q2⟩ => ⟨_, H2, I2, .cons r1 r2, q2⟩)
theorem s_tup {x1} {Q : VK} (h : sA T X es σ H fun xs H1 => xs.length ≤ sizeLine ∧ ∀ p, H1 p = none → Q (.ref p) (upd H1 p (.tup xs))) : sE T X (.Tuple es x1 pos) σ H Q := fun pins s k I =>
  wpAny_Tuple_spliced (thn (h pos pins s k I) fun us s1 ⟨xs, H1, I1, r, z, q⟩ => ⟨by rw [← r.length]; exact z, .ref s1.heap.objs.size, upd H1 s1.heap.objs.size (.tup xs),
    I1.laid (t' := s1.toks) (fun b u e => Heap.get?_push_of_some _ e) (Nat.le_refl _) (by exact ⟨z, us, r, ⟨_, Heap.get?_push_size _ rfl, rfl, _, rfl⟩⟩), rfl, q _ (I1.hok.fresh (Nat.le_refl _))⟩)
theorem s_lst {Q : VK} (h : sA T X es σ H fun xs H1 => xs.length ≤ sizeLine ∧ ∀ p, H1 p = none → Q (.ref p) (upd H1 p (.lst xs))) : sE T X (.List es pos) σ H Q := fun pins s k I =>
  wpAny_List_spliced (thn (h pos pins s k I) fun us s1 ⟨xs, H1, I1, r, z, q⟩ => ⟨by rw [← r.length]; exact z, .ref s1.heap.objs.size, upd H1 s1.heap.objs.size (.lst xs),
    I1.laid (t' := s1.toks) (fun b u e => Heap.get?_push_of_some _ e) (Nat.le_refl _) (by exact ⟨z, us, 0, r, Heap.get?_push_size _ rfl⟩), rfl, q _ (I1.hok.fresh (Nat.le_refl _))⟩)
/-- a def's promise, at such states -/
structure FnT (T : Nat) (P : Program) (w : World) (K : PySem.W.Frag) (mg : Str → Option Value) (base : Heap) (k : Nat) (f : Addr) (ps : List Str) (fd : FuncData) (sp : Sp) : Prop where
  len : ∀ vs H Q E, sp vs H Q E → vs.length = ps.length
  run : ∀ (A : Around) (outer : List Env) (s : Shared) (H : Hp) (args : Args) (us : List Value) (vs : List V) (Q : VK) (E : XK), T ≤ s.toks → Room k A → Env0 P w K mg base A outer s H → BindsTo s fd args (ps.zip us) → Vals vs us → sp vs H Q E →
    codeAny (model P w) A (.call (.ref f) args) (CR (L2.CX P w) outer P w H s Q E) s
theorem FnT.imp {T : Nat} {P : Program} {w : World} {K : PySem.W.Frag} {mg : Str → Option Value} {base : Heap} {k : Nat} {f : Addr} {ps : List Str} {fd : FuncData} {sp sp' : Sp} (F : FnT T P w K mg base k f ps fd sp) (h : ∀ vs H Q E, sp' vs H Q E → sp vs H Q E) : FnT T P w K mg base k f ps fd sp' :=
  ⟨fun vs H Q E q => F.len vs H Q E (h _ _ _ _ q), fun A outer s H args us vs Q E k r e b rv q => F.run A outer s H args us vs Q E k r e b rv (h _ _ _ _ q)⟩
theorem FnT.mono {T : Nat} {P : Program} {w : World} {K : PySem.W.Frag} {mg : Str → Option Value} {base : Heap} {j k : Nat} {f : Addr} {ps : List Str} {fd : FuncData} {sp : Sp} (F : FnT T P w K mg base j f ps fd sp) (h : j ≤ k) : FnT T P w K mg base k f ps fd sp :=
  ⟨F.len, fun A outer s H args us vs Q E kt r e b rv q => F.run A outer s H args us vs Q E kt (r.mono h) e b rv q⟩
theorem s_run {pins : List (Addr × Obj)} {s : Shared} {Q : VK} {us : List Value} {vs : List V} {f : Addr} {fd : FuncData} {ps : List Str} {sp : Sp} {k : Nat} {E : L2.St → XK} (F : FnT T X.prog X.w X.K X.mg X.base k f ps fd sp) (hr : Room k X.A) (hb : Binds X.K fd ps []) (hx : PassesAt (L2.CX X.prog X.w) X σ (E σ))
    (kt : T ≤ s.toks) (I : Inv X pins σ H s) (r : Vals vs us) (h : sp vs H Q (E σ)) : wpAny (model X.prog X.w) X.A (call (.ref f) us) (EP X pins σ Q) X.xe s := by
  have b := hb s us I.kIn (by rw [List.append_nil, ← r.length]; exact F.len _ _ _ _ h)
  rw [List.append_nil] at b
  refine wpAny_call (codeAny_mono (F.run X.A X.stack s H ⟨us, []⟩ us vs Q (E σ) kt hr I.env0 b r h) fun r s' hq => ?_)
  match r, hq with
  | .error e, hq => exact hx pins H s e s' I hq
  | .ok (.ret u), hq => exact I.after hq
  | .ok .next, hq => exact hq.elim
  | .ok .brk, hq => exact hq.elim
  | .ok .cont, hq => exact hq.elim
theorem s_call {x : Str} {p : Pos} {Q : VK} {f : Addr} {fd : FuncData} {ps : List Str} {sp : Sp} {k : Nat} {E : L2.St → XK} (F : FnT T X.prog X.w X.K X.mg X.base k f ps fd sp) (hr : Room k X.A) (hg : Gl X x) (hm : X.mg x = some (.ref f)) (hk : PySem.W.keepIn X.K (.ref f) = true) (hb : Binds X.K fd ps []) (hx : ∀ σ, PassesAt (L2.CX X.prog X.w) X σ (E σ))
    (hdb : (x == ("__debug__" : Str)) = false) (he : starEach (e :: es) X.env = (false, eval e X.env) :: starEach es X.env) (hpl : (backTo pos (starEach es X.env)).any (·.1) = false)
    (h : sA T X (e :: es) σ H fun vs H1 => sp vs H1 Q (E σ)) : sE T X (.Call (.Name x p) (e :: es) [] pos) σ H Q := fun pins s kt I =>
  wpAny_Call_Name_kw (ld_glob I hg hm (PySem.W.callWith_K (h₀ := X.base) I.ok.mod.kin hk (thnT kt (h pos pins s kt I) fun us s1 k1 ⟨vs, H1, I1, r, q⟩ => ⟨I1.kIn, s_run F hr hb (hx σ) k1 I1 r q⟩) he hpl) hdb)
theorem s_callB {x : Str} {id : String} {p : Pos} {Q : VK} (hg : Gl X x) (hm : X.mg x = none) (hv : bootBuiltins x = some (.builtin id)) (hn : x ≠ "__name__") (hdb : (x == ("__debug__" : Str)) = false) (he : starEach (e :: es) X.env = (false, eval e X.env) :: starEach es X.env) (hpl : (backTo pos (starEach es X.env)).any (·.1) = false)
    (h : sA T X (e :: es) σ H fun vs H1 => sF T X (.builtin id) vs H1 Q) : sE T X (.Call (.Name x p) (e :: es) [] pos) σ H Q := fun pins s k I =>
  wpAny_Call_Name_kw (ld_blt I hg hm hv (PyProof.Rows.callWith_builtin1 (thnT k (h pos pins s k I) fun us s1 k1 ⟨vs, H1, I1, r1, q1⟩ => q1 pins s1 σ us k1 I1 r1) he hpl) hn hdb)
theorem s_callTy {x : Str} {id : String} {p : Pos} {Q : VK} (hg : Gl X x) (hm : X.mg x = none) (hv : bootBuiltins x = some (.type id)) (hn : x ≠ "__name__") (hdb : (x == ("__debug__" : Str)) = false) (he : starEach (e :: es) X.env = (false, eval e X.env) :: starEach es X.env) (hpl : (backTo pos (starEach es X.env)).any (·.1) = false)
    (h : sA T X (e :: es) σ H fun vs H1 => sF T X (.type id) vs H1 Q) : sE T X (.Call (.Name x p) (e :: es) [] pos) σ H Q := fun pins s k I =>
  wpAny_Call_Name_kw (ld_blt I hg hm hv (PyProof.Rows.callWith_type1 (thnT k (h pos pins s k I) fun us s1 k1 ⟨vs, H1, I1, r1, q1⟩ => q1 pins s1 σ us k1 I1 r1) he hpl) hn hdb)
/-- a statement, the rest behind it -/
theorem s_then {D : Ends} (h : ∀ pins s, T ≤ s.toks → Inv X pins σ H s → wpAny (model X.prog X.w) X.A (exec st X.env) (SP X pins { D with nx := sSs T X sts D }) X.xe s) : sSs T X (st :: sts) D σ H := fun pins s k I =>
  wpAny_execs_cons (thnT k (h pins s k I) fun f s1 k1 q => by
    cases f with
    | ret v => exact q
    | brk => exact q
    | cont => exact q
    | next =>
      obtain ⟨σ1, H1, I1, q⟩ := q
      exact q pins s1 k1 I1)
theorem s_leaf {t : TS} {D : Ends} (h : PS X st t) (q : t { D with nx := sSs T X sts D } σ H) : sSs T X (st :: sts) D σ H := s_then fun pins s _ I => h.run pins s σ H _ I q
theorem s_asg {tg : Expr} {D : Ends} (hs : swapsWithSole [tg] e pos.line X.env = pure false) (hw : swappedStores [tg] e X.env = pure none) (h1 : (assignEach [tg] X.env).map (·.2) = [assign tg X.env])
    (h : sE T X e σ H fun v H1 => sG T X tg v σ H1 fun σ2 H2 => sSs T X sts D σ2 H2) : sSs T X (.Assign [tg] e pos :: sts) D σ H := s_then fun pins s k I => by
  refine wpAny_Assign_stores (thnT k (h pins s k I) fun v s1 k1 ⟨x, H1, I1, r1, q1⟩ => ?_) hs hw
  rw [h1]
  exact thn (q1 pins s1 v k1 I1 r1) fun _ _ q => q
theorem s_expr {D : Ends} (hs : swapsWith e none pos.line X.env = pure false) (h : sE T X e σ H fun _ H1 => sSs T X sts D σ H1) : sSs T X (.Expr e pos :: sts) D σ H := s_then fun pins s k I =>
  wpAny_Expr_any (thn (h pins s k I) fun v s1 ⟨x, H1, I1, r1, q1⟩ => ⟨σ, H1, I1, q1⟩) I.quiet hs
theorem s_ret {D : Ends} (h : sE T X e σ H D.rt) : sSs T X (.Return (some e) pos :: sts) D σ H := s_then fun pins s k I =>
  wpAny_Return_some (thn (h pins s k I) fun v s1 ⟨x, H1, I1, r1, q1⟩ => ⟨x, σ, H1, I1, r1, q1⟩)
theorem s_if {ta tb : List Stmt} {D : Ends} (h : sT T X c σ H fun j H1 => if j = true then sSs T X ta { D with nx := sSs T X sts D } σ H1 else sSs T X tb { D with nx := sSs T X sts D } σ H1) : sSs T X (.If c ta tb pos :: sts) D σ H := s_then fun pins s k I =>
  wpAny_If (thnT k (h pins s k I) fun j s1 k1 ⟨H1, I1, q1⟩ => by
    cases j with
    | true => exact q1 pins s1 k1 I1
    | false => exact q1 pins s1 k1 I1)
theorem s_iter {tg iter : Expr} {R : It → Hp → Prop} (h : sE T X iter σ H fun x H1 => (∃ a, x = .ref a ∧ (∃ xs, SqL X.K H1 a xs) ∧ R (Itl X.K a) H1) ∨ ∃ a, x = .ref a ∧ (∃ xs, SqT X.K H1 a xs) ∧ R (Itt X.K a) H1) : sI T X tg iter σ H R := fun pins s k I =>
  thn (h pins s k I) fun v s1 ⟨x, H1, I1, r1, q1⟩ => by
    have fp : ∀ b ∈ [s1.heap.objs.size], FpOk X pins H1 b := fun b hb => by
      have e : b = s1.heap.objs.size := by simpa using hb
      rw [e]
      exact I1.fpOk (Nat.le_refl _) (I1.hok.fresh (Nat.le_refl _))
    rcases q1 with ⟨a, ex, ⟨xs, hq⟩, q⟩ | ⟨a, ex, ⟨xs, hq⟩, q⟩
    · rw [ex] at r1
      cases r1
      obtain ⟨its, rv, p, hz⟩ := I1.list hq
      exact wpAny_pyIter_list p.isList ⟨_, _, _, _, H1, rfl, I1.kept (t' := s1.toks) fun b o e => Heap.get?_push_of_some _ e, turn_list a _, ⟨_, Heap.get?_push_size _ rfl, rfl, rfl⟩, fp, q⟩
    · rw [ex] at r1
      cases r1
      obtain ⟨its, rv, p, hz⟩ := I1.tuple hq
      exact wpAny_pyIter_tuple (show s1.heap.IsTuple a its.toArray from p) ⟨_, _, _, _, H1, rfl, I1.kept (t' := s1.toks) fun b o e => Heap.get?_push_of_some _ e, turn_tuple a _, ⟨_, Heap.get?_push_size _ rfl, rfl, rfl⟩, fp, q⟩
theorem s_range1 {tg : Expr} {p : Pos} {R : It → Hp → Prop} (hg : Gl X "range") (hm : X.mg "range" = none) (hs : starEach [a] X.env = [(false, eval a X.env)]) (h : sA T X [a] σ H fun vs H1 => ∃ j : Int, vs = [.int j] ∧ -(2 ^ 62) ≤ j ∧ j < 2 ^ 62 ∧ R (Itr 0 j.toNat) H1) : sI T X tg (.Call (.Name "range" p) [a] [] pos) σ H R := fun pins s k I =>
  Call_ (ld_blt I hg hm boot_range (PyProof.Rows.callWith_type1 (thn (h pos pins s k I) fun us s1 ⟨vs, H1, I1, r1, j, ej, l1, l2, q⟩ => by
    rw [ej] at r1
    obtain ⟨t, rfl⟩ : ∃ t, us = [.int j t] := by
      cases r1 with
      | cons r rr =>
        cases rr
        obtain ⟨t, rfl⟩ := r
        exact ⟨t, rfl⟩
    exact call_range_1 (range_it I1 (by omega) (by omega) l1 l2 (by rw [Int.sub_zero]; exact q))) hs rfl))
theorem s_range2 {tg : Expr} {p : Pos} {R : It → Hp → Prop} (hg : Gl X "range") (hm : X.mg "range" = none) (hs : starEach [a, b] X.env = [(false, eval a X.env), (false, eval b X.env)]) (hs2 : starEach [b] X.env = [(false, eval b X.env)])
    (h : sA T X [a, b] σ H fun vs H1 => ∃ i j : Int, vs = [.int i, .int j] ∧ (-(2 ^ 62) ≤ i ∧ i < 2 ^ 62 ∧ -(2 ^ 62) ≤ j ∧ j < 2 ^ 62) ∧ R (Itr i (j - i).toNat) H1) : sI T X tg (.Call (.Name "range" p) [a, b] [] pos) σ H R := fun pins s k I =>
  Call_ (ld_blt I hg hm boot_range (PyProof.Rows.callWith_type1 (thn (h pos pins s k I) fun us s1 ⟨vs, H1, I1, r1, i, j, ej, ⟨l1, l2, l3, l4⟩, q⟩ => by
    rw [ej] at r1
    obtain ⟨t, t', rfl⟩ : ∃ t t', us = [.int i t, .int j t'] := by
      cases r1 with
      | cons r rr =>
        cases rr with
        | cons r' rr =>
          cases rr
          obtain ⟨t, rfl⟩ := r
          obtain ⟨t', rfl⟩ := r'
          exact ⟨t, t', rfl⟩
    exact call_range_2 (range_it I1 l1 l2 l3 l4 q)) (by rw [hs, hs2]) (by rw [hs2]; rfl)))
end

/-! ### the data judgements -/
/-- behind a value -/
def VP (G : Glob) (B : Hp) (M : Mem) (H : Hp) (Q : D → Mem → Prop) : VK := fun v H' => ∃ d B' M', Hd G.K H' B' M' ∧ Stp B M H B' M' H' ∧ rep G.K B' d v ∧ Q d M'
def BP (G : Glob) (B : Hp) (M : Mem) (H : Hp) (Q : Bool → Mem → Prop) : Bool → Hp → Prop := fun b H' => ∃ B' M', Hd G.K H' B' M' ∧ Stp B M H B' M' H' ∧ Q b M'
def LP (G : Glob) (B : Hp) (M : Mem) (H : Hp) (Q : List D → Mem → Prop) : List V → Hp → Prop := fun vs H' => ∃ ds B' M', Hd G.K H' B' M' ∧ Stp B M H B' M' H' ∧ repL G.K B' ds vs ∧ Q ds M'
def NP (G : Glob) (N : List Str) (B : Hp) (M : Mem) (H : Hp) (Q : Gm → Mem → Prop) : L2.St → Hp → Prop := fun σ H' => ∃ Γ' B' M', Hd G.K H' B' M' ∧ Stp B M H B' M' H' ∧ Reps G.K N B' σ Γ' ∧ Q Γ' M'
structure DE where
  nx : Gm → Mem → Prop
  rt : D → Mem → Prop
  bk : Gm → Mem → Prop := fun _ _ => False
  ct : Gm → Mem → Prop := fun _ _ => False
  ex : XPost := XNo
def DE.con (G : Glob) (N : List Str) (B : Hp) (M : Mem) (H : Hp) (P : DE) : Ends := { nx := NP G N B M H P.nx, rt := VP G B M H P.rt, bk := NP G N B M H P.bk, ct := NP G N B M H P.ct }
section
variable (G : Glob) (C : Sc)
structure E (e : Expr) (Γ : Gm) (M : Mem) (Ex : XPost) (Q : D → Mem → Prop) : Prop where
  run : ∀ X σ H B, S0 G C X Γ M Ex σ H B → sE G.T X e σ H (VP G B M H Q)
structure T (e : Expr) (Γ : Gm) (M : Mem) (Ex : XPost) (Q : Bool → Mem → Prop) : Prop where
  run : ∀ X σ H B, S0 G C X Γ M Ex σ H B → sT G.T X e σ H (BP G B M H Q)
structure TB (e : Expr) (Γ : Gm) (M : Mem) (Ex : XPost) (Q : Bool → Mem → Prop) : Prop where
  run : ∀ X σ H B, S0 G C X Γ M Ex σ H B → sW G.T X e σ H (BP G B M H Q)
structure A (es : List Expr) (Γ : Gm) (M : Mem) (Ex : XPost) (Q : List D → Mem → Prop) : Prop where
  run : ∀ X σ H B, S0 G C X Γ M Ex σ H B → sA G.T X es σ H (LP G B M H Q)
structure W (sts : List Stmt) (Γ : Gm) (M : Mem) (P : DE) : Prop where
  run : ∀ X σ H B, S0 G C X Γ M P.ex σ H B → sSs G.T X sts (P.con G C.N B M H) σ H
/-- a target -/
structure Tg (tg : Expr) (d : D) (Γ : Gm) (M : Mem) (Ex : XPost) (Q : Gm → Mem → Prop) : Prop where
  run : ∀ X σ H B v, S0 G C X Γ M Ex σ H B → rep G.K B d v → sG G.T X tg v σ H (NP G C.N B M H Q)
/-- an operator -/
structure O2 (f : Value → Value → Sem Value) (d1 d2 : D) (M : Mem) (Q : D → Mem → Prop) : Prop where
  run : ∀ X H B x y, Ctx G C X → Hd G.K H B M → rep G.K B d1 x → rep G.K B d2 y → sO G.T X f x y H (VP G B M H Q)
/-- a built-in function, a method by values -/
structure F1 (f : Value) (ds : List D) (M : Mem) (Q : D → Mem → Prop) : Prop where
  run : ∀ X H B xs, Ctx G C X → Hd G.K H B M → repL G.K B ds xs → sF G.T X f xs H (VP G B M H Q)
end
instance {G : Glob} {C : Sc} {e : Expr} {Γ : Gm} {M : Mem} {Ex : XPost} {Q : D → Mem → Prop} : CoeFun (E G C e Γ M Ex Q) fun _ => ∀ X σ H B, S0 G C X Γ M Ex σ H B → sE G.T X e σ H (VP G B M H Q) := ⟨E.run⟩
instance {G : Glob} {C : Sc} {e : Expr} {Γ : Gm} {M : Mem} {Ex : XPost} {Q : Bool → Mem → Prop} : CoeFun (T G C e Γ M Ex Q) fun _ => ∀ X σ H B, S0 G C X Γ M Ex σ H B → sT G.T X e σ H (BP G B M H Q) := ⟨T.run⟩
instance {G : Glob} {C : Sc} {e : Expr} {Γ : Gm} {M : Mem} {Ex : XPost} {Q : Bool → Mem → Prop} : CoeFun (TB G C e Γ M Ex Q) fun _ => ∀ X σ H B, S0 G C X Γ M Ex σ H B → sW G.T X e σ H (BP G B M H Q) := ⟨TB.run⟩
instance {G : Glob} {C : Sc} {es : List Expr} {Γ : Gm} {M : Mem} {Ex : XPost} {Q : List D → Mem → Prop} : CoeFun (A G C es Γ M Ex Q) fun _ => ∀ X σ H B, S0 G C X Γ M Ex σ H B → sA G.T X es σ H (LP G B M H Q) := ⟨A.run⟩
instance {G : Glob} {C : Sc} {sts : List Stmt} {Γ : Gm} {M : Mem} {P : DE} : CoeFun (W G C sts Γ M P) fun _ => ∀ X σ H B, S0 G C X Γ M P.ex σ H B → sSs G.T X sts (P.con G C.N B M H) σ H := ⟨W.run⟩
instance {G : Glob} {C : Sc} {tg : Expr} {d : D} {Γ : Gm} {M : Mem} {Ex : XPost} {Q : Gm → Mem → Prop} : CoeFun (Tg G C tg d Γ M Ex Q) fun _ => ∀ X σ H B v, S0 G C X Γ M Ex σ H B → rep G.K B d v → sG G.T X tg v σ H (NP G C.N B M H Q) := ⟨Tg.run⟩
instance {G : Glob} {C : Sc} {f : Value → Value → Sem Value} {d1 d2 : D} {M : Mem} {Q : D → Mem → Prop} : CoeFun (O2 G C f d1 d2 M Q) fun _ => ∀ X H B x y, Ctx G C X → Hd G.K H B M → rep G.K B d1 x → rep G.K B d2 y → sO G.T X f x y H (VP G B M H Q) := ⟨O2.run⟩
instance {G : Glob} {C : Sc} {f : Value} {ds : List D} {M : Mem} {Q : D → Mem → Prop} : CoeFun (F1 G C f ds M Q) fun _ => ∀ X H B xs, Ctx G C X → Hd G.K H B M → repL G.K B ds xs → sF G.T X f xs H (VP G B M H Q) := ⟨F1.run⟩
section
variable {G : Glob} {C : Sc} {B B' : Hp} {M M' : Mem} {H H' : Hp}
theorem VP.step {Q : D → Mem → Prop} {v : V} {H2 : Hp} (t : Stp B M H B' M' H') (h : VP G B' M' H' Q v H2) : VP G B M H Q v H2 := let ⟨d, B2, M2, q1, q2, q3⟩ := h; ⟨d, B2, M2, q1, t.trans q2, q3⟩
theorem BP.step {Q : Bool → Mem → Prop} {v : Bool} {H2 : Hp} (t : Stp B M H B' M' H') (h : BP G B' M' H' Q v H2) : BP G B M H Q v H2 := let ⟨B2, M2, q1, q2, q3⟩ := h; ⟨B2, M2, q1, t.trans q2, q3⟩
theorem LP.step {Q : List D → Mem → Prop} {v : List V} {H2 : Hp} (t : Stp B M H B' M' H') (h : LP G B' M' H' Q v H2) : LP G B M H Q v H2 := let ⟨d, B2, M2, q1, q2, q3⟩ := h; ⟨d, B2, M2, q1, t.trans q2, q3⟩
theorem NP.step {N : List Str} {Q : Gm → Mem → Prop} {σ : L2.St} {H2 : Hp} (t : Stp B M H B' M' H') (h : NP G N B' M' H' Q σ H2) : NP G N B M H Q σ H2 := let ⟨d, B2, M2, q1, q2, q3⟩ := h; ⟨d, B2, M2, q1, t.trans q2, q3⟩
theorem VP.here {Q : D → Mem → Prop} {v : V} {d : D} (h : Hd G.K H B M) (r : rep G.K B d v) (q : Q d M) : VP G B M H Q v H := ⟨d, B, M, h, Stp.refl, r, q⟩
theorem BP.here {Q : Bool → Mem → Prop} {b : Bool} (h : Hd G.K H B M) (q : Q b M) : BP G B M H Q b H := ⟨B, M, h, Stp.refl, q⟩
/-- a new list or tuple, read only -/
theorem VP.lst {Q : D → Mem → Prop} {ds : List D} {vs : List V} {p : Addr} (h : Hd G.K H B M) (r : repL G.K B ds vs) (hp : H p = none) (q : Q (.lst ds) M) : VP G B M H Q (.ref p) (upd H p (.lst vs)) :=
  ⟨.lst ds, upd B p (.lst vs), M, h.newB _ hp, Stp.newB h hp, rep_lst.mpr ⟨p, vs, rfl, SqE.of upd_same, r.mono (Stp.newB h hp).same⟩, q⟩
theorem VP.tup {Q : D → Mem → Prop} {ds : List D} {vs : List V} {p : Addr} (h : Hd G.K H B M) (r : repL G.K B ds vs) (hp : H p = none) (q : Q (.tup ds) M) : VP G B M H Q (.ref p) (upd H p (.tup vs)) :=
  ⟨.tup ds, upd B p (.tup vs), M, h.newB _ hp, Stp.newB h hp, rep_tup.mpr ⟨p, vs, rfl, upd_same, r.mono (Stp.newB h hp).same⟩, q⟩
/-- a new own object -/
theorem VP.own {Q : D → Mem → Prop} {m : MO} {o : HO} {p : Addr} (h : Hd G.K H B M) (r : repO G.K B m o) (hp : H p = none) (q : ∀ p, M p = none → Q (.adr p) (mset M p m)) : VP G B M H Q (.ref p) (upd H p o) :=
  ⟨.adr p, B, mset M p m, h.newM hp r, Stp.newM hp, rep_adr.mpr rfl, q p (h.free hp)⟩
/-- an own list, never to be written again -/
theorem VP.freeze {Q : D → Mem → Prop} {v : V} (h : VP G B M H (fun d M' => ∃ p ds M0, d = .adr p ∧ M0 p = none ∧ M' = mset M0 p (.lst ds) ∧ Q (.lst ds) M0) v H') : VP G B M H Q v H' := by
  obtain ⟨d, B', M', h1, h2, h3, p, ds, M0, rfl, h4, rfl, h5⟩ := h
  have e := rep_adr.mp h3
  subst e
  obtain ⟨q1, o, q2, vs, rfl, q4⟩ := h1.own p _ mset_same
  have t := Stp.freeze h1 (m := .lst ds) mset_same q2
  have h6 := h1.freeze (m := .lst ds) mset_same q2
  rw [mdel_mset h4] at t h6
  exact ⟨.lst ds, _, M0, h6, h2.trans t, rep_lst.mpr ⟨p, vs, rfl, SqE.of upd_same, q4.mono t.same⟩, h5⟩
end

/-! ### consequence -/
section
variable {G : Glob} {C : Sc} {Γ : Gm} {M : Mem} {Ex : XPost}
theorem E.mono {e : Expr} {Q Q' : D → Mem → Prop} (h : E G C e Γ M Ex Q) (q : ∀ d M', Q d M' → Q' d M') : E G C e Γ M Ex Q' := .mk fun X σ H B s => (h X σ H B s).mono fun v H' ⟨d, B', M', q1, q2, q3, q4⟩ => ⟨d, B', M', q1, q2, q3, q _ _ q4⟩
theorem T.mono {e : Expr} {Q Q' : Bool → Mem → Prop} (h : T G C e Γ M Ex Q) (q : ∀ d M', Q d M' → Q' d M') : T G C e Γ M Ex Q' := .mk fun X σ H B s => (h X σ H B s).mono fun v H' ⟨B', M', q1, q2, q4⟩ => ⟨B', M', q1, q2, q _ _ q4⟩
theorem TB.mono {e : Expr} {Q Q' : Bool → Mem → Prop} (h : TB G C e Γ M Ex Q) (q : ∀ d M', Q d M' → Q' d M') : TB G C e Γ M Ex Q' := .mk fun X σ H B s => (h X σ H B s).mono fun v H' ⟨B', M', q1, q2, q4⟩ => ⟨B', M', q1, q2, q _ _ q4⟩
theorem A.mono {es : List Expr} {Q Q' : List D → Mem → Prop} (h : A G C es Γ M Ex Q) (q : ∀ d M', Q d M' → Q' d M') : A G C es Γ M Ex Q' := .mk fun X σ H B s => (h X σ H B s).mono fun v H' ⟨d, B', M', q1, q2, q3, q4⟩ => ⟨d, B', M', q1, q2, q3, q _ _ q4⟩
theorem E.freeze {e : Expr} {Q : D → Mem → Prop} (h : E G C e Γ M Ex (fun d M' => ∃ p ds M0, d = .adr p ∧ M0 p = none ∧ M' = mset M0 p (.lst ds) ∧ Q (.lst ds) M0)) : E G C e Γ M Ex Q := .mk fun X σ H B s => (h X σ H B s).mono fun v H' q => q.freeze

/-! ### names and constants -/
inductive Look : Gm → Str → D → Prop where
  | here {x : Str} {d : D} {Γ : Gm} : Look ((x, some d) :: Γ) x d
  | there {x : Str} {d : D} {p : Str × Option D} {Γ : Gm} (h : Look Γ x d) : Look (p :: Γ) x d
theorem Look.ix {Γ : Gm} {x : Str} {d : D} (h : Look Γ x d) : ∃ i : Nat, Γ[i]? = some (x, some d) := by
  induction h with
  | here => exact ⟨0, by simp⟩
  | there _ ih => obtain ⟨i, e⟩ := ih; exact ⟨i + 1, by simpa using e⟩
def visB (sc : Scope) (x : Str) : Bool := match sc.names.lookup x with
  | some .local => true
  | some .cell => true
  | some .free => true
  | _ => false
theorem vis_of {sc : Scope} {x : Str} (h : visB sc x = true) : Vis sc x := by
  unfold visB at h
  unfold Vis
  split at h <;> first | (rename_i e; simp [e]) | cases h
theorem Reps.look {K : PySem.W.Frag} {N : List Str} {B : Hp} {σ : L2.St} {x : Str} {d : D} (r : Reps K N B σ Γ) (h : Look Γ x d) : ∃ (i : Nat) (v : V), N[i]? = some x ∧ σ[i]? = some (some v) ∧ rep K B d v := by
  obtain ⟨i, e⟩ := h.ix
  obtain ⟨v, h1, h2⟩ := r.at_ i x d e
  refine ⟨i, v, ?_, h1, h2⟩
  rw [← r.nm, List.getElem?_map, e]
  rfl
theorem E.var {x : Str} {pos : Pos} {d : D} {Q : D → Mem → Prop} (h : Look Γ x d) (q : Q d M) (hv : visB C.sc x = true := by decide +kernel) (hd : (x == ("__debug__" : Str)) = false := by decide +kernel) (hcd : (x == ("__classdict__" : Str)) = false := by decide +kernel) : E G C (.Name x pos) Γ M Ex Q := by
  constructor
  intro X σ H B s
  obtain ⟨i, v, h1, h2, h3⟩ := s.gm.look h
  refine sE_of (pe_var (i := i) (by rw [s.cx.N]; exact h1) (by rw [s.cx.sc]; exact vis_of hv) hd hcd) ⟨v, h2, VP.here s.hd h3 q⟩
theorem E.int {i j pos} {Q : D → Mem → Prop} (q : Q (.int i) M) : E G C (.Constant (.int i) j pos) Γ M Ex Q := .mk fun X σ H B s => sE_of pe_int (VP.here s.hd (rep_int.mpr rfl) q)
theorem E.bl {b j pos} {Q : D → Mem → Prop} (q : Q (.bl b) M) : E G C (.Constant (.bool b) j pos) Γ M Ex Q := .mk fun X σ H B s => sE_of pe_bl (VP.here s.hd (rep_bl.mpr rfl) q)
theorem E.non {j pos} {Q : D → Mem → Prop} (q : Q .non M) : E G C (.Constant .none j pos) Γ M Ex Q := .mk fun X σ H B s => sE_of pe_non (VP.here s.hd (rep_non.mpr rfl) q)
theorem E.str {x : Str} {l : List Nat} {j pos} {Q : D → Mem → Prop} (e : x.cps.toList = l) (q : Q (.str l) M) : E G C (.Constant (.str x) j pos) Γ M Ex Q := .mk fun X σ H B s => sE_of pe_str (VP.here s.hd (rep_str.mpr (by rw [← e])) q)
def glB (sc : Scope) (x : Str) : Bool := match sc.names.lookup x with
  | some .globalImplicit => true
  | _ => false
theorem gl_of {X : Cx} {x : Str} (cx : Ctx G C X) (h : glB C.sc x = true) : Gl X x := by
  show X.env.scope.names.lookup x = _
  rw [cx.sc]
  unfold glB at h
  split at h <;> first | assumption | cases h
/-- a module's constant -/
theorem E.gint {x : Str} {pos : Pos} {i : Int} {Q : D → Mem → Prop} (h : ∃ t, G.mg x = some (.int i t)) (q : Q (.int i) M) (hg : glB C.sc x = true := by decide +kernel) (hd : (x == ("__debug__" : Str)) = false := by decide +kernel) : E G C (.Name x pos) Γ M Ex Q := .mk fun X σ H B s => by
  obtain ⟨t, e⟩ := h
  exact sE_of (pe_glob (v := .int i) (gl_of s.cx hg) (by rw [s.cx.mg]; exact e) ⟨t, rfl⟩ hd) (VP.here s.hd (rep_int.mpr rfl) q)
theorem E.gstr {x z : Str} {l : List Nat} {pos : Pos} {Q : D → Mem → Prop} (h : ∃ t, G.mg x = some (.str z t)) (e : z.cps.toList = l) (q : Q (.str l) M) (hg : glB C.sc x = true := by decide +kernel) (hd : (x == ("__debug__" : Str)) = false := by decide +kernel) : E G C (.Name x pos) Γ M Ex Q := .mk fun X σ H B s => by
  obtain ⟨t, e2⟩ := h
  exact sE_of (pe_glob (v := .str z) (gl_of s.cx hg) (by rw [s.cx.mg]; exact e2) ⟨t, rfl⟩ hd) (VP.here s.hd (rep_str.mpr (by rw [← e])) q)
/-- a built-in class as a value -/
theorem E.ty {x : Str} {n : String} {pos : Pos} {Q : D → Mem → Prop} (hm : G.mg x = none) (hv : bootBuiltins x = some (.type n)) (q : Q (.ty n) M) (hg : glB C.sc x = true := by decide +kernel) (hn : x ≠ "__name__" := by decide +kernel) (hd : (x == ("__debug__" : Str)) = false := by decide +kernel) : E G C (.Name x pos) Γ M Ex Q := .mk fun X σ H B s =>
  sE_of (pe_bltn (v := .ty n) (gl_of s.cx hg) (by rw [s.cx.mg]; exact hm) hv rfl hn hd) (VP.here s.hd (rep_ty.mpr rfl) q)

/-! ### operators -/
theorem E.bin {op : Operator} {a b : Expr} {pos : Pos} {Q : D → Mem → Prop} (h : E G C a Γ M Ex fun d1 M1 => E G C b Γ M1 Ex fun d2 M2 => O2 G C (binaryOp op) d1 d2 M2 Q) : E G C (.BinOp a op b pos) Γ M Ex Q := by
  constructor
  intro X σ H B s
  refine s_bin ?_
  refine (h X σ H B s).mono fun v1 H1 ⟨d1, B1, M1, g1, t1, r1, q1⟩ => ?_
  refine (q1 X σ H1 B1 (s.step g1 t1)).mono fun v2 H2 ⟨d2, B2, M2, g2, t2, r2, q2⟩ => ?_
  exact (q2 X H2 B2 v1 v2 s.cx g2 (r1.mono t2.same) r2).mono fun v H3 q => VP.step (t1.trans t2) q
theorem E.cmp {op : CmpOp} {a b : Expr} {pos : Pos} {Q : D → Mem → Prop} (h : E G C a Γ M Ex fun d1 M1 => E G C b Γ M1 Ex fun d2 M2 => O2 G C (compareOp op) d1 d2 M2 Q) (hm : behindInMarks op b = false := by rfl) : E G C (.Compare a [op] [b] pos) Γ M Ex Q := by
  constructor
  intro X σ H B s
  refine s_cmp hm ?_
  refine (h X σ H B s).mono fun v1 H1 ⟨d1, B1, M1, g1, t1, r1, q1⟩ => ?_
  refine (q1 X σ H1 B1 (s.step g1 t1)).mono fun v2 H2 ⟨d2, B2, M2, g2, t2, r2, q2⟩ => ?_
  exact (q2 X H2 B2 v1 v2 s.cx g2 (r1.mono t2.same) r2).mono fun v H3 q => VP.step (t1.trans t2) q
def QB (Q : Bool → Mem → Prop) : D → Mem → Prop := fun d M => ∃ b, d = .bl b ∧ Q b M
theorem T.cmp {op : CmpOp} {a b : Expr} {pos : Pos} {Q : Bool → Mem → Prop} (h : E G C a Γ M Ex fun d1 M1 => E G C b Γ M1 Ex fun d2 M2 => O2 G C (compareOp op) d1 d2 M2 (QB Q)) (hm : behindInMarks op b = false := by rfl) : T G C (.Compare a [op] [b] pos) Γ M Ex Q := by
  constructor
  intro X σ H B s
  refine s_tcmp hm ?_
  refine (h X σ H B s).mono fun v1 H1 ⟨d1, B1, M1, g1, t1, r1, q1⟩ => ?_
  refine (q1 X σ H1 B1 (s.step g1 t1)).mono fun v2 H2 ⟨d2, B2, M2, g2, t2, r2, q2⟩ => ?_
  refine (q2 X H2 B2 v1 v2 s.cx g2 (r1.mono t2.same) r2).mono fun v H3 ⟨d, B3, M3, g3, t3, r3, b, e, q3⟩ => ?_
  subst e
  exact ⟨b, rep_bl.mp r3, B3, M3, g3, (t1.trans t2).trans t3, q3⟩
theorem E.chain {op op' : CmpOp} {a b c : Expr} {pos : Pos} {Q : D → Mem → Prop} (h : E G C a Γ M Ex fun d1 M1 => E G C b Γ M1 Ex fun d2 M2 => O2 G C (compareOp op) d1 d2 M2 (QB fun k M3 => if k = true then E G C c Γ M3 Ex fun d3 M4 => O2 G C (compareOp op') d2 d3 M4 Q else Q (.bl false) M3))
    (hm : behindInMarks op' c = false := by rfl) : E G C (.Compare a [op, op'] [b, c] pos) Γ M Ex Q := by
  constructor
  intro X σ H B s
  refine s_chain hm ?_
  refine (h X σ H B s).mono fun v1 H1 ⟨d1, B1, M1, g1, t1, r1, q1⟩ => ?_
  refine (q1 X σ H1 B1 (s.step g1 t1)).mono fun v2 H2 ⟨d2, B2, M2, g2, t2, r2, q2⟩ => ?_
  refine (q2 X H2 B2 v1 v2 s.cx g2 (r1.mono t2.same) r2).mono fun v H3 ⟨d, B3, M3, g3, t3, r3, b, e, q3⟩ => ?_
  subst e
  refine ⟨b, rep_bl.mp r3, ?_⟩
  cases b with
  | true =>
    rw [if_pos rfl] at q3 ⊢
    refine (q3 X σ H3 B3 (s.step g3 ((t1.trans t2).trans t3))).mono fun v4 H4 ⟨d4, B4, M4, g4, t4, r4, q4⟩ => ?_
    exact (q4 X H4 B4 v2 v4 s.cx g4 ((r2.mono t3.same).mono t4.same) r4).mono fun v H5 q => VP.step (((t1.trans t2).trans t3).trans t4) q
  | false =>
    rw [if_neg (by decide)] at q3 ⊢
    exact ⟨.bl false, B3, M3, g3, (t1.trans t2).trans t3, rep_bl.mpr rfl, q3⟩
theorem T.chain {op op' : CmpOp} {a b c : Expr} {pos : Pos} {Q : Bool → Mem → Prop} (h : E G C a Γ M Ex fun d1 M1 => E G C b Γ M1 Ex fun d2 M2 => O2 G C (compareOp op) d1 d2 M2 (QB fun k M3 => if k = true then E G C c Γ M3 Ex fun d3 M4 => O2 G C (compareOp op') d2 d3 M4 (QB Q) else Q false M3))
    (hm : behindInMarks op' c = false := by rfl) : T G C (.Compare a [op, op'] [b, c] pos) Γ M Ex Q := by
  constructor
  intro X σ H B s
  refine s_tchain hm ?_
  refine (h X σ H B s).mono fun v1 H1 ⟨d1, B1, M1, g1, t1, r1, q1⟩ => ?_
  refine (q1 X σ H1 B1 (s.step g1 t1)).mono fun v2 H2 ⟨d2, B2, M2, g2, t2, r2, q2⟩ => ?_
  refine (q2 X H2 B2 v1 v2 s.cx g2 (r1.mono t2.same) r2).mono fun v H3 ⟨d, B3, M3, g3, t3, r3, b, e, q3⟩ => ?_
  subst e
  refine ⟨b, rep_bl.mp r3, ?_⟩
  cases b with
  | true =>
    rw [if_pos rfl] at q3 ⊢
    refine (q3 X σ H3 B3 (s.step g3 ((t1.trans t2).trans t3))).mono fun v4 H4 ⟨d4, B4, M4, g4, t4, r4, q4⟩ => ?_
    refine (q4 X H4 B4 v2 v4 s.cx g4 ((r2.mono t3.same).mono t4.same) r4).mono fun v H5 ⟨d5, B5, M5, g5, t5, r5, b5, e5, q5⟩ => ?_
    subst e5
    exact ⟨b5, rep_bl.mp r5, B5, M5, g5, (((t1.trans t2).trans t3).trans t4).trans t5, q5⟩
  | false =>
    rw [if_neg (by decide)] at q3 ⊢
    exact ⟨B3, M3, g3, (t1.trans t2).trans t3, q3⟩
/-- a value that is a bool, as a test -/
theorem T.val {e : Expr} {Q : Bool → Mem → Prop} (h : E G C e Γ M Ex (QB Q)) (he : ∀ env whole, isTrue e env whole = (do let v ← whole; standAt e.pos; holding [v] (truthy v)) := by intro _ _; rfl) : T G C e Γ M Ex Q := by
  constructor
  intro X σ H B s
  refine s_val (he _) ?_
  refine (h X σ H B s).mono fun v H1 ⟨d, B1, M1, g1, t1, r1, b, e, q1⟩ => ?_
  subst e
  exact ⟨b, rep_bl.mp r1, B1, M1, g1, t1, q1⟩
theorem T.not {e : Expr} {pos : Pos} {Q : Bool → Mem → Prop} (h : T G C e Γ M Ex fun b M' => Q (!b) M') : T G C (.UnaryOp .Not e pos) Γ M Ex Q := by
  constructor
  intro X σ H B s
  exact s_tnot ((h X σ H B s).mono fun b H1 q => q)
theorem E.not {e : Expr} {pos : Pos} {Q : D → Mem → Prop} (h : E G C e Γ M Ex (QB fun b M' => Q (.bl (!b)) M')) : E G C (.UnaryOp .Not e pos) Γ M Ex Q := by
  constructor
  intro X σ H B s
  refine s_not ?_
  refine (h X σ H B s).mono fun v H1 ⟨d, B1, M1, g1, t1, r1, b, e, q1⟩ => ?_
  subst e
  exact ⟨b, rep_bl.mp r1, .bl (!b), B1, M1, g1, t1, rep_bl.mpr rfl, q1⟩
theorem TB.and1 {e : Expr} {pos : Pos} {Q : Bool → Mem → Prop} (h : T G C e Γ M Ex Q) : TB G C (.BoolOp .And [e] pos) Γ M Ex Q := .mk fun X σ H B s => s_and1 (h X σ H B s)
theorem TB.or1 {e : Expr} {pos : Pos} {Q : Bool → Mem → Prop} (h : T G C e Γ M Ex Q) : TB G C (.BoolOp .Or [e] pos) Γ M Ex Q := .mk fun X σ H B s => s_or1 (h X σ H B s)
theorem TB.and {a b : Expr} {rest : List Expr} {pos : Pos} {Q : Bool → Mem → Prop} (h : T G C a Γ M Ex fun c M1 => if c = true then TB G C (.BoolOp .And (b :: rest) pos) Γ M1 Ex Q else Q false M1) : TB G C (.BoolOp .And (a :: b :: rest) pos) Γ M Ex Q := by
  constructor
  intro X σ H B s
  refine s_and ?_
  refine (h X σ H B s).mono fun c H1 ⟨B1, M1, g1, t1, q1⟩ => ?_
  cases c with
  | true =>
    rw [if_pos rfl] at q1 ⊢
    exact (q1 X σ H1 B1 (s.step g1 t1)).mono fun b H2 q => BP.step t1 q
  | false =>
    rw [if_neg (by decide)] at q1 ⊢
    exact ⟨B1, M1, g1, t1, q1⟩
theorem TB.or {a b : Expr} {rest : List Expr} {pos : Pos} {Q : Bool → Mem → Prop} (h : T G C a Γ M Ex fun c M1 => if c = true then Q true M1 else TB G C (.BoolOp .Or (b :: rest) pos) Γ M1 Ex Q) : TB G C (.BoolOp .Or (a :: b :: rest) pos) Γ M Ex Q := by
  constructor
  intro X σ H B s
  refine s_or ?_
  refine (h X σ H B s).mono fun c H1 ⟨B1, M1, g1, t1, q1⟩ => ?_
  cases c with
  | true =>
    rw [if_pos rfl] at q1 ⊢
    exact ⟨B1, M1, g1, t1, q1⟩
  | false =>
    rw [if_neg (by decide)] at q1 ⊢
    exact (q1 X σ H1 B1 (s.step g1 t1)).mono fun b H2 q => BP.step t1 q
theorem T.bool {op : BoolOp} {es : List Expr} {pos : Pos} {Q : Bool → Mem → Prop} (h : TB G C (.BoolOp op es pos) Γ M Ex Q) : T G C (.BoolOp op es pos) Γ M Ex Q := .mk fun X σ H B s => s_pt (h X σ H B s)
theorem E.one {op : BoolOp} {e : Expr} {pos : Pos} {Q : D → Mem → Prop} (h : E G C e Γ M Ex Q) : E G C (.BoolOp op [e] pos) Γ M Ex Q := .mk fun X σ H B s => s_one (h X σ H B s)
theorem E.and {a b : Expr} {rest : List Expr} {pos : Pos} {Q : D → Mem → Prop} (h : E G C a Γ M Ex (QB fun c M1 => if c = true then E G C (.BoolOp .And (b :: rest) pos) Γ M1 Ex Q else Q (.bl false) M1)) : E G C (.BoolOp .And (a :: b :: rest) pos) Γ M Ex Q := by
  constructor
  intro X σ H B s
  refine s_andV ?_
  refine (h X σ H B s).mono fun v H1 ⟨d, B1, M1, g1, t1, r1, c, e, q1⟩ => ?_
  subst e
  refine ⟨c, rep_bl.mp r1, ?_⟩
  cases c with
  | true =>
    rw [if_pos rfl] at q1 ⊢
    exact (q1 X σ H1 B1 (s.step g1 t1)).mono fun b H2 q => VP.step t1 q
  | false =>
    rw [if_neg (by decide)] at q1 ⊢
    exact ⟨.bl false, B1, M1, g1, t1, rep_bl.mpr rfl, q1⟩
theorem E.or {a b : Expr} {rest : List Expr} {pos : Pos} {Q : D → Mem → Prop} (h : E G C a Γ M Ex (QB fun c M1 => if c = true then Q (.bl true) M1 else E G C (.BoolOp .Or (b :: rest) pos) Γ M1 Ex Q)) : E G C (.BoolOp .Or (a :: b :: rest) pos) Γ M Ex Q := by
  constructor
  intro X σ H B s
  refine s_orV ?_
  refine (h X σ H B s).mono fun v H1 ⟨d, B1, M1, g1, t1, r1, c, e, q1⟩ => ?_
  subst e
  refine ⟨c, rep_bl.mp r1, ?_⟩
  cases c with
  | true =>
    rw [if_pos rfl] at q1 ⊢
    exact ⟨.bl true, B1, M1, g1, t1, rep_bl.mpr rfl, q1⟩
  | false =>
    rw [if_neg (by decide)] at q1 ⊢
    exact (q1 X σ H1 B1 (s.step g1 t1)).mono fun b H2 q => VP.step t1 q
theorem E.ife {c a b : Expr} {pos : Pos} {Q : D → Mem → Prop} (h : T G C c Γ M Ex fun k M1 => if k = true then E G C a Γ M1 Ex Q else E G C b Γ M1 Ex Q) : E G C (.IfExp c a b pos) Γ M Ex Q := by
  constructor
  intro X σ H B s
  refine s_ife ?_
  refine (h X σ H B s).mono fun c H1 ⟨B1, M1, g1, t1, q1⟩ => ?_
  cases c with
  | true =>
    rw [if_pos rfl] at q1 ⊢
    exact (q1 X σ H1 B1 (s.step g1 t1)).mono fun b H2 q => VP.step t1 q
  | false =>
    rw [if_neg (by decide)] at q1 ⊢
    exact (q1 X σ H1 B1 (s.step g1 t1)).mono fun b H2 q => VP.step t1 q
theorem E.neg {e : Expr} {pos : Pos} {Q : D → Mem → Prop} (h : E G C e Γ M Ex fun d M' => ∃ i, d = .int i ∧ Q (.int (-i)) M') : E G C (.UnaryOp .USub e pos) Γ M Ex Q := by
  constructor
  intro X σ H B s
  refine s_neg ?_
  refine (h X σ H B s).mono fun v H1 ⟨d, B1, M1, g1, t1, r1, i, e, q1⟩ => ?_
  subst e
  exact ⟨i, rep_int.mp r1, .int (-i), B1, M1, g1, t1, rep_int.mpr rfl, q1⟩

/-! ### arguments, displays -/
theorem A.nil {Q : List D → Mem → Prop} (q : Q [] M) : A G C [] Γ M Ex Q := .mk fun X σ H B s => sA_of pa_nil ⟨[], B, M, s.hd, Stp.refl, repL.nil, q⟩
theorem A.cons {e : Expr} {es : List Expr} {Q : List D → Mem → Prop} (h : E G C e Γ M Ex fun d M1 => A G C es Γ M1 Ex fun ds M2 => Q (d :: ds) M2) (hs : ∀ env, starEach (e :: es) env = (false, eval e env) :: starEach es env := by intro _; rfl) : A G C (e :: es) Γ M Ex Q := by
  constructor
  intro X σ H B s
  refine s_cons (hs _) ?_
  refine (h X σ H B s).mono fun v H1 ⟨d, B1, M1, g1, t1, r1, q1⟩ => ?_
  refine (q1 X σ H1 B1 (s.step g1 t1)).mono fun vs H2 ⟨ds, B2, M2, g2, t2, r2, q2⟩ => ?_
  exact ⟨d :: ds, B2, M2, g2, t1.trans t2, repL.cons (r1.mono t2.same) r2, q2⟩
theorem size1000 {n : Nat} (h : n ≤ 1000) : n ≤ sizeLine := Nat.le_trans h (by rw [sizeLine_eq]; decide)
theorem E.tup {es : List Expr} {x1} {pos : Pos} {Q : D → Mem → Prop} (h : A G C es Γ M Ex fun ds M1 => ds.length ≤ 1000 ∧ Q (.tup ds) M1) : E G C (.Tuple es x1 pos) Γ M Ex Q := by
  constructor
  intro X σ H B s
  refine s_tup ?_
  refine (h X σ H B s).mono fun vs H1 ⟨ds, B1, M1, g1, t1, r1, l1, q1⟩ => ⟨size1000 (by rw [r1.length]; exact l1), fun p hp => VP.step t1 (VP.tup g1 r1 hp q1)⟩
theorem E.lst {es : List Expr} {pos : Pos} {Q : D → Mem → Prop} (h : A G C es Γ M Ex fun ds M1 => ds.length ≤ 1000 ∧ Q (.lst ds) M1) : E G C (.List es pos) Γ M Ex Q := by
  constructor
  intro X σ H B s
  refine s_lst ?_
  refine (h X σ H B s).mono fun vs H1 ⟨ds, B1, M1, g1, t1, r1, l1, q1⟩ => ⟨size1000 (by rw [r1.length]; exact l1), fun p hp => VP.step t1 (VP.lst g1 r1 hp q1)⟩
/-- a list of one's own -/
theorem E.lstO {es : List Expr} {pos : Pos} {Q : D → Mem → Prop} (h : A G C es Γ M Ex fun ds M1 => ds.length ≤ 1000 ∧ ∀ p, M1 p = none → Q (.adr p) (mset M1 p (.lst ds))) : E G C (.List es pos) Γ M Ex Q := by
  constructor
  intro X σ H B s
  refine s_lst ?_
  refine (h X σ H B s).mono fun vs H1 ⟨ds, B1, M1, g1, t1, r1, l1, q1⟩ => ⟨size1000 (by rw [r1.length]; exact l1), fun p hp => VP.step t1 (VP.own (m := .lst ds) g1 ⟨vs, rfl, r1⟩ hp q1)⟩

/-! ### calls -/
/-- a promise over data -/
abbrev DSpec := List D → Mem → XPost → (D → Mem → Prop) → Prop
def DSpec.con (G : Glob) (sp : DSpec) : Sp := fun vs H Q Ew => ∃ B M ds Ex Qd, Hd G.K H B M ∧ repL G.K B ds vs ∧ sp ds M Ex Qd ∧ (∀ v H', VP G B M H Qd v H' → Q v H') ∧ ∀ cls d H', ConX G.K Ex B M H cls d H' → Ew cls d H'
/-- the def at the name x keeps the promise at level k -/
def Cal (G : Glob) (x : Str) (k : Nat) (sp : DSpec) : Prop := ∃ f fd ps, G.mg x = some (.ref f) ∧ PySem.W.keepIn G.K (.ref f) = true ∧ FnT G.T G.P G.w G.K G.mg G.base k f ps fd (sp.con G) ∧ Binds G.K fd ps []
theorem Cal.imp {x : Str} {k : Nat} {sp sp' : DSpec} (c : Cal G x k sp) (h : ∀ ds M Ex Q, sp' ds M Ex Q → sp ds M Ex Q) : Cal G x k sp' := by
  obtain ⟨f, fd, ps, h1, h2, F, b⟩ := c
  exact ⟨f, fd, ps, h1, h2, F.imp fun vs H Q Ew ⟨B, M, ds, Ex, Qd, q1, q2, q3, q4⟩ => ⟨B, M, ds, Ex, Qd, q1, q2, h _ _ _ _ q3, q4⟩, b⟩
theorem Cal.mono {x : Str} {j k : Nat} {sp : DSpec} (c : Cal G x j sp) (h : j ≤ k) : Cal G x k sp := by
  obtain ⟨f, fd, ps, h1, h2, F, b⟩ := c
  exact ⟨f, fd, ps, h1, h2, F.mono h, b⟩
/-- the promise with its new own list never written again -/
def DSpec.frz (sp : DSpec) : DSpec := fun ds M Ex Q => sp ds M Ex fun d M' => ∃ p ds M0, d = .adr p ∧ M0 p = none ∧ M' = mset M0 p (.lst ds) ∧ Q (.lst ds) M0
theorem Cal.frz {x : Str} {k : Nat} {sp : DSpec} (c : Cal G x k sp) : Cal G x k sp.frz := by
  obtain ⟨f, fd, ps, h1, h2, F, b⟩ := c
  exact ⟨f, fd, ps, h1, h2, F.imp fun vs H Q Ew ⟨B, M, ds, Ex, Qd, q1, q2, q3, q4, q5⟩ => ⟨B, M, ds, Ex, _, q1, q2, q3, fun v H' q => q4 v H' q.freeze, q5⟩, b⟩
theorem E.call {x : Str} {p pos : Pos} {e : Expr} {es : List Expr} {k : Nat} {sp : DSpec} {Q : D → Mem → Prop} (c : Cal G x k sp) (hk : k ≤ C.k) (h : A G C (e :: es) Γ M Ex fun ds M1 => sp ds M1 Ex Q)
    (hg : glB C.sc x = true := by decide +kernel) (hdb : (x == ("__debug__" : Str)) = false := by decide +kernel) (he : ∀ env, starEach (e :: es) env = (false, eval e env) :: starEach es env := by intro _; rfl) (hpl : ∀ env, (backTo pos (starEach es env)).any (·.1) = false := by intro _; rfl) :
    E G C (.Call (.Name x p) (e :: es) [] pos) Γ M Ex Q := by
  constructor
  intro X σ H B s
  obtain ⟨f, fd, ps, h1, h2, F, b⟩ := c
  obtain ⟨cP, cw, cK, cmg, cb, cN, csc, cnd, cc, cr, cf, cp⟩ := s.cx
  obtain ⟨Wx, tk, hW⟩ := s.xo
  refine s_call (k := k) (f := f) (fd := fd) (ps := ps) (sp := sp.con G) (E := WE Wx) (by rw [cP, cw, cK, cmg, cb]; exact F) (cr.mono hk) (gl_of s.cx hg) (by rw [cmg]; exact h1) (by rw [cK]; exact h2) (by rw [cK]; exact b) (fun σ => passAt tk σ) hdb (he _) (hpl _) ?_
  refine (h X σ H B s).mono fun vs H1 ⟨ds, B1, M1, g1, t1, r1, q1⟩ => ?_
  refine ⟨B1, M1, ds, Ex, Q, g1, r1, q1, fun v H' q => VP.step t1 q, fun cls d H' ⟨fs, B2, M2, z1, z2, z3⟩ => ?_⟩
  exact hW cls d σ H' ⟨fs, B2, M2, by rw [cK]; exact z1, t1.trans z2, z3⟩
/-- a built-in function -/
theorem E.callB {x : Str} {id : String} {p pos : Pos} {e : Expr} {es : List Expr} {Q : D → Mem → Prop} (hm : G.mg x = none) (hv : bootBuiltins x = some (.builtin id)) (h : A G C (e :: es) Γ M Ex fun ds M1 => F1 G C (.builtin id) ds M1 Q)
    (hg : glB C.sc x = true := by decide +kernel) (hn : x ≠ "__name__" := by decide +kernel) (hdb : (x == ("__debug__" : Str)) = false := by decide +kernel) (he : ∀ env, starEach (e :: es) env = (false, eval e env) :: starEach es env := by intro _; rfl) (hpl : ∀ env, (backTo pos (starEach es env)).any (·.1) = false := by intro _; rfl) :
    E G C (.Call (.Name x p) (e :: es) [] pos) Γ M Ex Q := by
  constructor
  intro X σ H B s
  refine s_callB (gl_of s.cx hg) (by rw [s.cx.mg]; exact hm) hv hn hdb (he _) (hpl _) ?_
  refine (h X σ H B s).mono fun vs H1 ⟨ds, B1, M1, g1, t1, r1, q1⟩ => ?_
  exact (q1 X H1 B1 vs s.cx g1 r1).mono fun v H' q => VP.step t1 q
/-- a built-in type -/
theorem E.callTy {x : Str} {id : String} {p pos : Pos} {e : Expr} {es : List Expr} {Q : D → Mem → Prop} (hm : G.mg x = none) (hv : bootBuiltins x = some (.type id)) (h : A G C (e :: es) Γ M Ex fun ds M1 => F1 G C (.type id) ds M1 Q)
    (hg : glB C.sc x = true := by decide +kernel) (hn : x ≠ "__name__" := by decide +kernel) (hdb : (x == ("__debug__" : Str)) = false := by decide +kernel) (he : ∀ env, starEach (e :: es) env = (false, eval e env) :: starEach es env := by intro _; rfl) (hpl : ∀ env, (backTo pos (starEach es env)).any (·.1) = false := by intro _; rfl) :
    E G C (.Call (.Name x p) (e :: es) [] pos) Γ M Ex Q := by
  constructor
  intro X σ H B s
  refine s_callTy (gl_of s.cx hg) (by rw [s.cx.mg]; exact hm) hv hn hdb (he _) (hpl _) ?_
  refine (h X σ H B s).mono fun vs H1 ⟨ds, B1, M1, g1, t1, r1, q1⟩ => ?_
  exact (q1 X H1 B1 vs s.cx g1 r1).mono fun v H' q => VP.step t1 q
end

/-! ### statements -/
section
variable {G : Glob} {C : Sc} {Γ : Gm} {M : Mem} {P : DE} {rest : List Stmt}
theorem NP.here {N : List Str} {B H : Hp} {Q : Gm → Mem → Prop} {σ : L2.St} (h : Hd G.K H B M) (r : Reps G.K N B σ Γ) (q : Q Γ M) : NP G N B M H Q σ H := ⟨Γ, B, M, h, Stp.refl, r, q⟩
theorem DE.step {N : List Str} {B B' H H' : Hp} {M' : Mem} {st : List Stmt} {X : Cx} {σ : L2.St} (t : Stp B M H B' M' H') (h : sSs G.T X st (P.con G N B' M' H') σ H') : sSs G.T X st (P.con G N B M H) σ H' :=
  h.mono (fun _ _ q => NP.step t q) (fun _ _ q => VP.step t q) (fun _ _ q => NP.step t q) (fun _ _ q => NP.step t q)
theorem W.nil (q : P.nx Γ M) : W G C [] Γ M P := .mk fun X σ H B s => sSs_of pss_nil (NP.here s.hd s.gm q)
/-- an item in a state's names -/
inductive Upd : Gm → Str → D → Gm → Prop where
  | here {x : Str} {o : Option D} {d : D} {Γ : Gm} : Upd ((x, o) :: Γ) x d ((x, some d) :: Γ)
  | there {x : Str} {d : D} {p : Str × Option D} {Γ Γ' : Gm} (h : Upd Γ x d Γ') : Upd (p :: Γ) x d (p :: Γ')
theorem Upd.ix {Γ Γ' : Gm} {x : Str} {d : D} (h : Upd Γ x d Γ') : ∃ i : Nat, Γ.length = Γ'.length ∧ (∃ o, Γ[i]? = some (x, o)) ∧ Γ' = Γ.set i (x, some d) := by
  induction h with
  | here => exact ⟨0, by simp, ⟨_, by simp; rfl⟩, by simp⟩
  | there _ ih =>
    obtain ⟨i, e1, ⟨o, e2⟩, e3⟩ := ih
    exact ⟨i + 1, by simp [e1], ⟨o, by simpa using e2⟩, by simp [e3]⟩
theorem Reps.upd {K : PySem.W.Frag} {N : List Str} {B : Hp} {σ : L2.St} {Γ' : Gm} {x : Str} {d : D} {v : V} (r : Reps K N B σ Γ) (h : Upd Γ x d Γ') (q : rep K B d v) : ∃ i : Nat, N[i]? = some x ∧ Reps K N B (σ.set i (some v)) Γ' := by
  obtain ⟨i, hl, ⟨o, e⟩, rfl⟩ := h.ix
  have hi : i < Γ.length := (List.getElem?_eq_some_iff.mp e).1
  have hN : N.length = Γ.length := by rw [← r.nm, List.length_map]
  have hx : N[i]? = some x := by rw [← r.nm, List.getElem?_map, e]; rfl
  refine ⟨i, hx, ⟨?_, by rw [List.length_set]; exact r.ln, fun j y d' hj => ?_⟩⟩
  · rw [List.map_set]
    have : Γ.map (·.1) = N := r.nm
    rw [this]
    apply List.ext_getElem?
    intro j
    by_cases hj : i = j
    · subst hj
      rw [List.getElem?_set_self (by rw [hN]; exact hi), hx]
    · rw [List.getElem?_set_ne hj]
  · by_cases hij : i = j
    · subst hij
      rw [List.getElem?_set_self hi] at hj
      cases hj
      exact ⟨v, by rw [List.getElem?_set_self (by rw [r.ln, hN]; exact hi)], q⟩
    · rw [List.getElem?_set_ne hij] at hj
      obtain ⟨u, h1, h2⟩ := r.at_ j y d' hj
      exact ⟨u, by rw [List.getElem?_set_ne hij]; exact h1, h2⟩
theorem Tg.name {x : Str} {pos : Pos} {d : D} {Ex : XPost} {Q : Gm → Mem → Prop} {Γ' : Gm} (h : Upd Γ x d Γ') (q : Q Γ' M) (hl : stoB C x = true := by decide +kernel) : Tg G C (.Name x pos) d Γ M Ex Q := by
  constructor
  intro X σ H B v s r
  obtain ⟨i, hi, r'⟩ := s.gm.upd h r
  exact sG_of (pg_name (by rw [s.cx.N]; exact s.cx.nd) (i := i) (by rw [s.cx.N]; exact hi) (by rw [s.cx.sc]; exact loc_of (stoB_loc hl)) (s.cx.fn x hl)) ⟨Γ', B, M, s.hd, Stp.refl, r', q⟩
/-- several targets -/
def Tgs (G : Glob) (C : Sc) (tgs : List Expr) (ds : List D) (Γ : Gm) (M : Mem) (Ex : XPost) (Q : Gm → Mem → Prop) : Prop := ∀ X σ H B vs, S0 G C X Γ M Ex σ H B → repL G.K B ds vs → ∃ t, PGs X tgs t ∧ t vs σ H (NP G C.N B M H Q)
theorem Tgs.nil {Ex : XPost} {Q : Gm → Mem → Prop} (q : Q Γ M) : Tgs G C [] [] Γ M Ex Q := fun X σ H B vs s r => ⟨_, pgs_nil, r.nil_inv, NP.here s.hd s.gm q⟩
theorem Tgs.cons {e : Expr} {es : List Expr} {d : D} {ds : List D} {Ex : XPost} {Q : Gm → Mem → Prop} {Γ' : Gm} {x : Str} {pos : Pos} (he : e = .Name x pos) (h : Upd Γ x d Γ') (q : Tgs G C es ds Γ' M Ex Q) (hl : stoB C x = true := by decide +kernel)
    (hs : ∀ env, (assignEach (e :: es) env).map (·.2) = assign e env :: (assignEach es env).map (·.2) := by intro _; rfl) : Tgs G C (e :: es) (d :: ds) Γ M Ex Q := by
  subst he
  intro X σ H B vs s r
  obtain ⟨v, vr, rfl, r1, r2⟩ := r.cons_inv
  obtain ⟨i, hi, r'⟩ := s.gm.upd h r1
  obtain ⟨t, h1, h2⟩ := q X (σ.set i (some v)) H B vr ⟨s.cx, s.hd, r', s.xo⟩ r2
  exact ⟨_, pgs_cons (pg_name (by rw [s.cx.N]; exact s.cx.nd) (i := i) (by rw [s.cx.N]; exact hi) (by rw [s.cx.sc]; exact loc_of (stoB_loc hl)) (s.cx.fn x hl)) h1 (hs _), v, vr, rfl, h2⟩
theorem Same.seqT {K : PySem.W.Frag} {B H : Hp} (e : Same B H) {a : Addr} {xs : List V} (h : SqT K B a xs) : SqT K H a xs := Same.sqT e h
theorem Tg.tup {es : List Expr} {k : Nat} {pos : Pos} {ds : List D} {Ex : XPost} {Q : Gm → Mem → Prop} (h : Tgs G C es ds Γ M Ex Q)
    (hn : ∀ env, (assignEach es env).length = ds.length := by intro _; rfl) (hst : ∀ env, (assignEach es env).findIdx? (·.1) = none := by intro _; rfl) : Tg G C (.Tuple es k pos) (.tup ds) Γ M Ex Q := by
  constructor
  intro X σ H B v s r
  obtain ⟨a, vs, rfl, r1, r2⟩ := rep_tup.mp r
  obtain ⟨t, h1, h2⟩ := h X σ H B vs s r2
  exact sG_of (pg_tup s.cx.calm h1 (hn _) (hst _)) ⟨a, vs, rfl, by rw [s.cx.K]; exact Same.sqT s.hd.sub r1, r2.length, h2⟩
theorem W.asg {tg e : Expr} {pos : Pos} (h : E G C e Γ M P.ex fun d M1 => Tg G C tg d Γ M1 P.ex fun Γ' M2 => W G C rest Γ' M2 P)
    (hs : ∀ env : Env, env.scope = C.sc → swapsWithSole [tg] e pos.line env = pure false := by intro _ _; rfl) (hw : ∀ env : Env, env.scope = C.sc → swappedStores [tg] e env = pure none := by intro _ _; rfl)
    (h1 : ∀ env : Env, (assignEach [tg] env).map (·.2) = [assign tg env] := by intro _; rfl) : W G C (.Assign [tg] e pos :: rest) Γ M P := by
  constructor
  intro X σ H B s
  refine s_asg (hs _ s.cx.sc) (hw _ s.cx.sc) (h1 _) ?_
  refine (h X σ H B s).mono fun v H1 ⟨d, B1, M1, g1, t1, r1, q1⟩ => ?_
  refine (q1 X σ H1 B1 v (s.step g1 t1) r1).mono fun σ2 H2 ⟨Γ', B2, M2, g2, t2, r2, q2⟩ => ?_
  exact DE.step (t1.trans t2) (q2 X σ2 H2 B2 ⟨s.cx, g2, r2, (s.xo.step t1).step t2⟩)
/-- name = value -/
theorem W.set {x : Str} {px pos : Pos} {e : Expr} (h : E G C e Γ M P.ex fun d M1 => ∃ Γ', Upd Γ x d Γ' ∧ W G C rest Γ' M1 P) (hl : stoB C x = true := by decide +kernel)
    (hs : ∀ env : Env, env.scope = C.sc → swapsWithSole [.Name x px] e pos.line env = pure false := by intro _ _; rfl) : W G C (.Assign [.Name x px] e pos :: rest) Γ M P :=
  W.asg (h.mono fun d M1 ⟨Γ', h1, h2⟩ => Tg.name h1 h2 hl) hs (fun _ _ => rfl) fun _ => rfl
theorem W.expr {e : Expr} {pos : Pos} (h : E G C e Γ M P.ex fun _ M1 => W G C rest Γ M1 P) (hs : ∀ env : Env, swapsWith e none pos.line env = pure false := by intro _; rfl) : W G C (.Expr e pos :: rest) Γ M P := by
  constructor
  intro X σ H B s
  refine s_expr (hs _) ?_
  refine (h X σ H B s).mono fun v H1 ⟨d, B1, M1, g1, t1, r1, q1⟩ => ?_
  exact DE.step t1 (q1 X σ H1 B1 (s.step g1 t1))
theorem W.ret {e : Expr} {pos : Pos} (h : E G C e Γ M P.ex P.rt) : W G C (.Return (some e) pos :: rest) Γ M P := by
  constructor
  intro X σ H B s
  exact s_ret (h X σ H B s)
theorem W.retN {pos : Pos} (h : P.rt .non M) : W G C (.Return none pos :: rest) Γ M P := by
  constructor
  intro X σ H B s
  exact s_leaf ps_retN (VP.here s.hd (rep_non.mpr rfl) h)
theorem W.pass {pos : Pos} (h : W G C rest Γ M P) : W G C (.Pass pos :: rest) Γ M P := .mk fun X σ H B s => s_leaf ps_pass (h X σ H B s)
theorem W.brk {pos : Pos} (h : P.bk Γ M) : W G C (.Break pos :: rest) Γ M P := .mk fun X σ H B s => s_leaf ps_break (NP.here s.hd s.gm h)
theorem W.cont {pos : Pos} (h : P.ct Γ M) : W G C (.Continue pos :: rest) Γ M P := .mk fun X σ H B s => s_leaf ps_continue (NP.here s.hd s.gm h)
/-- if: the rest behind either branch -/
theorem W.ite {c : Expr} {a b : List Stmt} {pos : Pos} (h : T G C c Γ M P.ex fun k M1 => if k = true then W G C a Γ M1 { P with nx := fun Γ' M' => W G C rest Γ' M' P } else W G C b Γ M1 { P with nx := fun Γ' M' => W G C rest Γ' M' P }) : W G C (.If c a b pos :: rest) Γ M P := by
  constructor
  intro X σ H B s
  refine s_if ?_
  refine (h X σ H B s).mono fun k H1 ⟨B1, M1, g1, t1, q1⟩ => ?_
  have fin : ∀ st, W G C st Γ M1 { P with nx := fun Γ' M' => W G C rest Γ' M' P } → sSs G.T X st { (P.con G C.N B M H) with nx := sSs G.T X rest (P.con G C.N B M H) } σ H1 := fun st q =>
    (q X σ H1 B1 (s.step g1 t1)).mono (fun σ2 H2 ⟨Γ', B2, M2, g2, t2, r2, q2⟩ => DE.step (t1.trans t2) (q2 X σ2 H2 B2 ⟨s.cx, g2, r2, (s.xo.step t1).step t2⟩)) (fun _ _ q => VP.step t1 q) (fun _ _ q => NP.step t1 q) (fun _ _ q => NP.step t1 q)
  cases k with
  | true =>
    rw [if_pos rfl] at q1 ⊢
    exact fin _ q1
  | false =>
    rw [if_neg (by decide)] at q1 ⊢
    exact fin _ q1
theorem W.mono {st : List Stmt} {P' : DE} (h : W G C st Γ M P) (n : ∀ Γ M, P.nx Γ M → P'.nx Γ M) (r : ∀ d M, P.rt d M → P'.rt d M) (b : ∀ Γ M, P.bk Γ M → P'.bk Γ M) (c : ∀ Γ M, P.ct Γ M → P'.ct Γ M) (x : P.ex = P'.ex) : W G C st Γ M P' := by
  constructor
  intro X σ H B s
  rw [← x] at s
  exact (h X σ H B s).mono (fun _ _ ⟨Γ', B', M', q1, q2, q3, q4⟩ => ⟨Γ', B', M', q1, q2, q3, n _ _ q4⟩) (fun _ _ ⟨Γ', B', M', q1, q2, q3, q4⟩ => ⟨Γ', B', M', q1, q2, q3, r _ _ q4⟩)
    (fun _ _ ⟨Γ', B', M', q1, q2, q3, q4⟩ => ⟨Γ', B', M', q1, q2, q3, b _ _ q4⟩) (fun _ _ ⟨Γ', B', M', q1, q2, q3, q4⟩ => ⟨Γ', B', M', q1, q2, q3, c _ _ q4⟩)
/-- names forgotten -/
theorem S0.forget {X : Cx} {Ex : XPost} {σ : L2.St} {H B : Hp} {Γ' : Gm} (s : S0 G C X Γ M Ex σ H B) (hn : Γ'.map (·.1) = Γ.map (·.1)) (hl : ∀ (i : Nat) (x : Str) (d : D), Γ'[i]? = some (x, some d) → Γ[i]? = some (x, some d)) : S0 G C X Γ' M Ex σ H B :=
  ⟨s.cx, s.hd, ⟨hn.trans s.gm.nm, s.gm.ln, fun i x d h => s.gm.at_ i x d (hl i x d h)⟩, s.xo⟩
/-- code that is never come to -/
theorem W.never {st : List Stmt} (h : False) : W G C st Γ M P := h.elim
end

/-! ### what a for walks -/
/-- J yields the ds, one a turn, as long as ok holds of the memory -/
def Walks (G : Glob) (J : It) (ds : List D) (ok : Mem → Prop) (B0 : Hp) : Prop :=
  ∀ H B M, Same B0 B → Hd G.K H B M → ok M →
    (∀ i d, ds[i]? = some d → J.go i H ∧ ∀ x H', J.yld i H x H' → ∃ B', Hd G.K H' B' M ∧ Stp B M H B' M H' ∧ rep G.K B' d x) ∧ J.stop ds.length H
def IP (G : Glob) (B : Hp) (M : Mem) (H : Hp) (Q : List D → (Mem → Prop) → Mem → Prop) : It → Hp → Prop := fun J H' => ∃ ds ok B' M', Hd G.K H' B' M' ∧ Stp B M H B' M' H' ∧ Walks G J ds ok B' ∧ Q ds ok M'
structure I1 (G : Glob) (C : Sc) (tg iter : Expr) (Γ : Gm) (M : Mem) (Ex : XPost) (Q : List D → (Mem → Prop) → Mem → Prop) : Prop where
  run : ∀ X σ H B, S0 G C X Γ M Ex σ H B → sI G.T X tg iter σ H (IP G B M H Q)
instance {G : Glob} {C : Sc} {tg iter : Expr} {Γ : Gm} {M : Mem} {Ex : XPost} {Q : List D → (Mem → Prop) → Mem → Prop} : CoeFun (I1 G C tg iter Γ M Ex Q) fun _ => ∀ X σ H B, S0 G C X Γ M Ex σ H B → sI G.T X tg iter σ H (IP G B M H Q) := ⟨I1.run⟩
section
variable {G : Glob} {C : Sc} {Γ : Gm} {M : Mem} {Ex : XPost} {tg iter : Expr}
/-- a list at d: read only, or own -/
def IsL (M : Mem) (d : D) (ds : List D) : Prop := d = .lst ds ∨ ∃ p, d = .adr p ∧ M p = some (.lst ds)
theorem IsL.sq {K : PySem.W.Frag} {H B : Hp} {d : D} {ds : List D} {v : V} (h : IsL M d ds) (g : Hd K H B M) (r : rep K B d v) : ∃ a vs, v = .ref a ∧ SqL K H a vs ∧ repL K B ds vs := by
  rcases h with rfl | ⟨p, rfl, hp⟩
  · obtain ⟨a, vs, rfl, h1, h2⟩ := rep_lst.mp r
    exact ⟨a, vs, rfl, g.sub.seq h1, h2⟩
  · have e := rep_adr.mp r
    subst e
    obtain ⟨_, o, e, vs, rfl, q⟩ := g.own p _ hp
    exact ⟨p, vs, rfl, SqL.of e, q⟩
/-- for x in a list -/
theorem I1.list {Q : List D → (Mem → Prop) → Mem → Prop} (h : E G C iter Γ M Ex fun d M1 => (∃ ds, d = .lst ds ∧ Q ds (fun _ => True) M1) ∨ ∃ p ds, d = .adr p ∧ M1 p = some (.lst ds) ∧ Q ds (fun M' => M' p = some (.lst ds)) M1) : I1 G C tg iter Γ M Ex Q := by
  constructor
  intro X σ H B s
  refine s_iter ?_
  refine (h X σ H B s).mono fun v H1 ⟨d, B1, M1, g1, t1, r1, q1⟩ => ?_
  rcases q1 with ⟨ds, rfl, q1⟩ | ⟨p, ds, rfl, hp, q1⟩
  · obtain ⟨a, vs, rfl, h1, h2⟩ := rep_lst.mp r1
    refine .inl ⟨a, rfl, ⟨vs, by rw [s.cx.K]; exact g1.sub.seq h1⟩, ds, _, B1, M1, g1, t1, ?_, q1⟩
    rw [s.cx.K]
    intro H2 B2 M2 e g2 _
    have sq : SqL G.K H2 a vs := g2.sub.seq (e.seq h1)
    refine ⟨fun i d hd => ?_, vs, sq, by rw [h2.length]; exact Nat.le_refl _⟩
    obtain ⟨x, e1, e2⟩ := h2.get hd
    refine ⟨⟨vs, x, sq, e1⟩, fun y H' ⟨eH, hy⟩ => ?_⟩
    subst eH
    have : y = x := Option.some.inj ((hy vs sq).symm.trans e1)
    subst this
    exact ⟨B2, g2, Stp.refl, e2.mono e⟩
  · have e := rep_adr.mp r1
    subst e
    have sqp : ∀ {H2 B2 M2}, Hd G.K H2 B2 M2 → M2 p = some (.lst ds) → ∃ vs, SqL G.K H2 p vs ∧ repL G.K B2 ds vs := fun g2 hp2 => by
      obtain ⟨_, o, e, vs, rfl, q⟩ := g2.own p _ hp2
      exact ⟨vs, SqL.of e, q⟩
    obtain ⟨vs0, sq0, _⟩ := sqp g1 hp
    refine .inl ⟨p, rfl, ⟨vs0, by rw [s.cx.K]; exact sq0⟩, ds, _, B1, M1, g1, t1, ?_, q1⟩
    rw [s.cx.K]
    intro H2 B2 M2 e g2 hp2
    obtain ⟨vs, sq, h2⟩ := sqp g2 hp2
    refine ⟨fun i d hd => ?_, vs, sq, by rw [h2.length]; exact Nat.le_refl _⟩
    obtain ⟨x, e1, e2⟩ := h2.get hd
    refine ⟨⟨vs, x, sq, e1⟩, fun y H' ⟨eH, hy⟩ => ?_⟩
    subst eH
    have : y = x := Option.some.inj ((hy vs sq).symm.trans e1)
    subst this
    exact ⟨B2, g2, Stp.refl, e2⟩
theorem I1.tup {Q : List D → (Mem → Prop) → Mem → Prop} (h : E G C iter Γ M Ex fun d M1 => ∃ ds, d = .tup ds ∧ Q ds (fun _ => True) M1) : I1 G C tg iter Γ M Ex Q := by
  constructor
  intro X σ H B s
  refine s_iter ?_
  refine (h X σ H B s).mono fun v H1 ⟨d, B1, M1, g1, t1, r1, q1⟩ => ?_
  obtain ⟨ds, rfl, q1⟩ := q1
  obtain ⟨a, vs, rfl, h1, h2⟩ := rep_tup.mp r1
  refine .inr ⟨a, rfl, ⟨vs, by rw [s.cx.K]; exact Same.sqT g1.sub h1⟩, ds, _, B1, M1, g1, t1, ?_, q1⟩
  rw [s.cx.K]
  intro H2 B2 M2 e g2 _
  have sq : SqT G.K H2 a vs := Same.sqT g2.sub (Same.sqT e h1)
  refine ⟨fun i d hd => ?_, vs, sq, by rw [h2.length]; exact Nat.le_refl _⟩
  obtain ⟨x, e1, e2⟩ := h2.get hd
  refine ⟨⟨vs, x, sq, e1⟩, fun y H' ⟨eH, hy⟩ => ?_⟩
  subst eH
  have : y = x := Option.some.inj ((hy vs sq).symm.trans e1)
  subst this
  exact ⟨B2, g2, Stp.refl, e2.mono e⟩
/-- lo, lo + 1, .. -/
def rngD (lo : Int) (n : Nat) : List D := (List.range n).map fun (i : Nat) => D.int (lo + (i : Int))
theorem rngD_length (lo : Int) (n : Nat) : (rngD lo n).length = n := by simp [rngD]
theorem rngD_get {lo : Int} {n i : Nat} {d : D} (h : (rngD lo n)[i]? = some d) : i < n ∧ d = .int (lo + (i : Int)) := by
  unfold rngD at h
  rw [List.getElem?_map] at h
  by_cases hi : i < n
  · rw [List.getElem?_range hi] at h
    exact ⟨hi, (Option.some.inj h).symm⟩
  · rw [List.getElem?_eq_none (by simpa using hi)] at h
    cases h
theorem walks_range {lo : Int} {n : Nat} {B0 : Hp} : Walks G (Itr lo n) (rngD lo n) (fun _ => True) B0 := by
  intro H B M _ g _
  refine ⟨fun i d hd => ?_, by show n ≤ (rngD lo n).length; rw [rngD_length]; exact Nat.le_refl _⟩
  obtain ⟨h1, rfl⟩ := rngD_get hd
  refine ⟨h1, fun x H' ⟨e1, e2⟩ => ?_⟩
  subst e1 e2
  exact ⟨B, g, Stp.refl, rep_int.mpr rfl⟩
theorem I1.range1 {a : Expr} {p pos : Pos} {Q : List D → (Mem → Prop) → Mem → Prop} (hm : G.mg "range" = none) (h : E G C a Γ M Ex fun d M1 => ∃ j : Int, d = .int j ∧ -(2 ^ 62) ≤ j ∧ j < 2 ^ 62 ∧ Q (rngD 0 j.toNat) (fun _ => True) M1) (hg : glB C.sc "range" = true := by decide +kernel)
    (hs : ∀ env, starEach [a] env = [(false, eval a env)] := by intro _; rfl) : I1 G C tg (.Call (.Name "range" p) [a] [] pos) Γ M Ex Q := by
  constructor
  intro X σ H B s
  refine s_range1 (gl_of s.cx hg) (by rw [s.cx.mg]; exact hm) (hs _) (s_cons (by rw [hs]; rfl) ?_)
  refine (h X σ H B s).mono fun v H1 ⟨d, B1, M1, g1, t1, r1, j, e, l1, l2, q1⟩ => ?_
  subst e
  have e := rep_int.mp r1
  subst e
  exact sA_of pa_nil ⟨j, rfl, l1, l2, _, _, B1, M1, g1, t1, walks_range, q1⟩
theorem I1.range2 {a b : Expr} {p pos : Pos} {Q : List D → (Mem → Prop) → Mem → Prop} (hm : G.mg "range" = none) (h : E G C a Γ M Ex fun d0 M0 => E G C b Γ M0 Ex fun d M1 => ∃ i j : Int, d0 = .int i ∧ d = .int j ∧ (-(2 ^ 62) ≤ i ∧ i < 2 ^ 62 ∧ -(2 ^ 62) ≤ j ∧ j < 2 ^ 62) ∧ Q (rngD i (j - i).toNat) (fun _ => True) M1) (hg : glB C.sc "range" = true := by decide +kernel)
    (hs : ∀ env, starEach [a, b] env = [(false, eval a env), (false, eval b env)] := by intro _; rfl) (hs2 : ∀ env, starEach [b] env = [(false, eval b env)] := by intro _; rfl) : I1 G C tg (.Call (.Name "range" p) [a, b] [] pos) Γ M Ex Q := by
  constructor
  intro X σ H B s
  refine s_range2 (gl_of s.cx hg) (by rw [s.cx.mg]; exact hm) (hs _) (hs2 _) (s_cons (by rw [hs, hs2]) ?_)
  refine (h X σ H B s).mono fun v0 H0 ⟨d0, B0, M0, g0, t0, r0, q0⟩ => ?_
  refine s_cons (hs2 _) ?_
  refine (q0 X σ H0 B0 (s.step g0 t0)).mono fun v H1 ⟨d, B1, M1, g1, t1, r1, i, j, e0, e, l, q1⟩ => ?_
  subst e0 e
  have e := rep_int.mp r1
  subst e
  have e := rep_int.mp r0
  subst e
  exact sA_of pa_nil ⟨i, j, rfl, l, _, _, B1, M1, g1, t0.trans t1, walks_range, q1⟩
end
end Dl
/-! Dl3: loops, comprehensions, defs. -/
namespace Dl
open PySem PySem.Spec PyProof.Rows L2

/-! ### the kit's loop, block and def rules, at states that have given out T tokens -/
section
variable {X : Cx} {σ : L2.St} {H : Hp} {T : Nat}
theorem thnTF {α : Type} {t : Sem α} {Q Q' : α → Shared → Prop} {M : Model} {A : Around} {F : Value → Shared → Prop} {s : Shared} (k : T ≤ s.toks) (h : wpAny M A t Q (fun _ _ => False) s) (hQ : ∀ a s', T ≤ s'.toks → Q a s' → Q' a s') : wpAny M A t Q' F s :=
  thnT k (thnF h fun _ _ q => q) hQ
theorem s_for {tg iter : Expr} {body rest : List Stmt} {pos : Pos} {D : Ends} (hp : PassesOwn (model X.prog X.w) X.A X.env X.xe) (hc : X.calm = true) (hs : ∀ x, foldedSetIterable iter X.env x = pure x)
    (h : sI T X tg iter σ H fun J H1 => ∃ W : Nat → Nat → L2.St → Hp → Prop, (∃ m, W 0 m σ H1) ∧ ∀ i m σ H, W i m σ H → (J.stop i H ∧ sSs T X rest D σ H) ∨ (J.go i H ∧ ∃ N : L2.St → Hp → Prop, (∀ σ' H', N σ' H' → ∃ m', m' < m ∧ W (i + 1) m' σ' H') ∧
      ∀ x H', J.yld i H x H' → sG T X tg x σ H' fun σ2 H2 => sSs T X body { D with nx := N, ct := N, bk := sSs T X rest D } σ2 H2)) : sSs T X (.For tg iter body [] pos :: rest) D σ H := s_then fun pins s k I => by
  refine wpAny_For (thnT k (h pins s k I) fun v s1 k1 h1 => thnT k1 h1 fun itv s2 k2 h2 => ?_) hs
  obtain ⟨it, fp, tn, J, H2, rfl, I2, Tn, st2, f2, W, ⟨m0, w0⟩, turn⟩ := h2
  have fpk : ∀ {Hq : Hp}, (∀ b ∈ fp, Hq b = none) → ∀ b ∈ fp, FpOk X pins Hq b := fun hn b hb => ⟨hn b hb, (f2 b hb).2⟩
  refine codeAny_forLoop_any (fun n s' => T ≤ s'.toks ∧ ∃ i σ' H', Inv X pins σ' H' s' ∧ tn i s'.heap ∧ (∀ b ∈ fp, H' b = none) ∧ W i n σ' H') ?_ m0 ⟨k2, 0, σ, H2, I2, st2, fun b hb => (f2 b hb).1, w0⟩
  rintro n s3 ⟨k3, i, σ3, H3, I3, st3, fr3, w3⟩
  rcases turn i n σ3 H3 w3 with ⟨stop, qn⟩ | ⟨go, N, hN, step⟩
  · refine wpAny_passesOwn hp (thn (Tn.done X rfl rfl rfl hc i pins s3 σ3 H3 X.xe I3 (fpk fr3) st3 stop) fun r s4 ⟨hr, I4⟩ => ?_)
    rw [hr]
    exact wpAny_execs_nil ⟨σ3, H3, I4, qn⟩
  · refine wpAny_passesOwn hp (thnT k3 (Tn.item X rfl rfl rfl hc i pins s3 σ3 H3 X.xe I3 (fpk fr3) st3 go) fun r s4 k4 ⟨u, hr, h4⟩ => ?_)
    rw [hr]
    refine wpAny_passesOwn hp (thnT k4 h4 fun _ s5 k5 ⟨x, H5, I5, r5, y5, st5, fr5⟩ => ?_)
    have I6 := I5.pinned (fpk fr5) (Tn.obj _ _ st5)
    refine wpAny_passesOwn hp (thnT k5 (step x H5 y5 _ s5 u k5 I6 r5) fun _ s6 k6 ⟨σ6, H6, I6, q6⟩ => ?_)
    refine wpAny_passesOwn hp (thnT k6 (q6 _ s6 k6 I6) fun f s7 k7 q7 => ?_)
    have more : ∀ {σ7 : L2.St} {H7 : Hp}, Inv X (pins ++ pinsAt fp s5.heap) σ7 H7 s7 → N σ7 H7 → ∃ m, m < n ∧ T ≤ s7.toks ∧ ∃ i σ' H', Inv X pins σ' H' s7 ∧ tn i s7.heap ∧ (∀ b ∈ fp, H' b = none) ∧ W i m σ' H' := fun {σ7 H7} I7 n7 => by
      obtain ⟨m7, hm, w7⟩ := hN σ7 H7 n7
      have pn : ∀ b ∈ fp, ∀ o, s5.heap.get? b = some o → s7.heap.get? b = some o ∧ H7 b = none := fun b hb o eo =>
        have z := I7.pin (b, o) (List.mem_append_right _ (List.mem_append_right _ (mem_pinsAt hb eo)))
        ⟨z.1, z.2.1⟩
      exact ⟨m7, hm, k7, i + 1, σ7, H7, I7.unpinned, Tn.keep _ _ _ st5 fun b hb o eo => (pn b hb o eo).1, fun b hb => have ⟨o, eo, _⟩ := Tn.obj _ _ st5 b hb; (pn b hb o eo).2, w7⟩
    match f, q7 with
    | .next, ⟨σ7, H7, I7, n7⟩ => exact more I7 n7
    | .cont, ⟨σ7, H7, I7, n7⟩ => exact more I7 n7
    | .brk, ⟨σ7, H7, I7, q⟩ => exact ⟨σ7, H7, I7.unpinned, q⟩
    | .ret v, ⟨x7, σ7, H7, I7, r7, q⟩ => exact ⟨x7, σ7, H7, I7.unpinned, r7, q⟩
theorem s_while {c : Expr} {body rest : List Stmt} {pos : Pos} {D : Ends} (hp : PassesOwn (model X.prog X.w) X.A X.env X.xe) (h : ∃ W : Nat → L2.St → Hp → Prop, (∃ m, W m σ H) ∧ ∀ m σ H, W m σ H →
    sT T X c σ H fun b H1 => if b = true then ∃ N : L2.St → Hp → Prop, (∀ σ' H', N σ' H' → ∃ m', m' < m ∧ W m' σ' H') ∧ sSs T X body { D with nx := N, ct := N, bk := sSs T X rest D } σ H1 else sSs T X rest D σ H1) : sSs T X (.While c body [] pos :: rest) D σ H := s_then fun pins s k I => by
  obtain ⟨W, ⟨m0, w0⟩, turn⟩ := h
  refine wpAny_While (codeAny_whileLoop (fun n s' => T ≤ s'.toks ∧ ∃ σ' H', Inv X pins σ' H' s' ∧ W n σ' H') ?_ m0 ⟨k, σ, H, I, w0⟩)
  rintro n s1 ⟨k1, σ1, H1, I1, w1⟩
  refine wpAny_passesOwn hp (thnT k1 (turn n σ1 H1 w1 pins s1 k1 I1) fun b s2 k2 ⟨H2, I2, q2⟩ => ?_)
  cases b with
  | false =>
    rw [if_neg Bool.false_ne_true] at q2 ⊢
    exact wpAny_execs_nil ⟨σ1, H2, I2, q2⟩
  | true =>
    rw [if_pos rfl] at q2 ⊢
    obtain ⟨N, hN, q2⟩ := q2
    refine wpAny_passesOwn hp (thnT k2 (q2 pins s2 k2 I2) fun f s3 k3 q3 => ?_)
    match f, q3 with
    | .next, ⟨σ3, H3, I3, n3⟩ =>
      obtain ⟨m3, hm, w3⟩ := hN σ3 H3 n3
      exact ⟨m3, hm, k3, σ3, H3, I3, w3⟩
    | .cont, ⟨σ3, H3, I3, n3⟩ =>
      obtain ⟨m3, hm, w3⟩ := hN σ3 H3 n3
      exact ⟨m3, hm, k3, σ3, H3, I3, w3⟩
    | .brk, q3 => exact q3
    | .ret v, q3 => exact q3
def sTs (T : Nat) (X : Cx) (ifs : List Expr) : TT := fun σ H Q => ∀ pins s, T ≤ s.toks → Inv X pins σ H s →
  wpAny (model X.prog X.w) X.A (forIn ifs true fun c r => if r = true then do let ok ← isTrue c X.env (eval c X.env); pure (ForInStep.yield ok) else pure (ForInStep.yield r)) (TP X pins σ Q) X.xe s
theorem sTs_one {c : Expr} {Q : Bool → Hp → Prop} (h : sT T X c σ H Q) : sTs T X [c] σ H Q := fun pins s k I => wpAny_tests_one (h pins s k I)
theorem sTs_nil {Q : Bool → Hp → Prop} (h : Q true H) : sTs T X [] σ H Q := fun pins s k I => wpAny_tests_nil ⟨H, I, h⟩
/-- a block's readings, wherever it starts -/
abbrev bG (T : Nat) (X : Cx) (scope : Scope) (tg : Expr) : TG := fun v σ H Q => ∀ s Hb D cl fp, sG T (X.blk s Hb scope (compEnvC scope cl D X.env) fp) tg v σ H Q
abbrev bE (T : Nat) (X : Cx) (scope : Scope) (e : Expr) : TE := fun σ H Q => ∀ s Hb D cl fp, sE T (X.blk s Hb scope (compEnvC scope cl D X.env) fp) e σ H Q
abbrev bT (T : Nat) (X : Cx) (scope : Scope) (e : Expr) : TT := fun σ H Q => ∀ s Hb D cl fp, sT T (X.blk s Hb scope (compEnvC scope cl D X.env) fp) e σ H Q
theorem s_lcG {pins : List (Addr × Obj)} {s : Shared} {Q : VK} {elt tg iter : Expr} {ifs : List Expr} {scope : Scope} {own : List (Str × Nat)} {pos pos' : Pos} {tt : TT} {use : Option (Value → Sem Unit)} {Qf : Value → Shared → Prop}
    (hc : X.calm = true) (hN : X.N.Nodup) (k : T ≤ s.toks) (I : Inv X pins σ H s) (ok : BlkOk X.N X.env.scope scope own)
    (ht : ∀ s Hb D cl fp σ H Q, tt σ H Q → sTs T (X.blk s Hb scope (compEnvC scope cl D X.env) fp) ifs σ H Q) (hs : ∀ x, foldedSetIterable iter X.env x = pure x)
    (h : tLc (sI T X tg iter) (bG T X scope tg) tt (bE T X scope elt) (own.map (·.2)) σ H Q)
    (fin : ∀ D L s' m H', T ≤ s'.toks → Inv X pins σ H' s' → Q (.ref D) H' → s'.heap.Ns L m → FpOk X pins H' L → compPost (model X.prog X.w) X.A X.xe use Qf (.ref D) L (.ok .next) s') :
    wpAny (model X.prog X.w) X.A (comprehension (.ListComp elt [⟨tg, iter, ifs, 0⟩] scope pos) scope X.env pos' (newList []) false (eval iter X.env) use) Qf X.xe s := by
  have fr : ∀ y ∈ scope.names, y.2 = .free → ∃ c, X.env.cells.lookup y.1 = some c := fun y hy e => I.ok.has _ (ok.free y hy e)
  refine wpAny_comprehension_free (use := use) rfl hs (closure_ok fr) ok.kind (fun y hy e => (ok.uniq y hy).trans (by rw [e]))
    (thnT k (h pins s k I) fun xv s1 k1 hx => thnT k1 hx fun itv s2 k2 h2 => ?_)
  obtain ⟨it, fp, tn, J, H2, rfl, I2, Tn, st2, f2, q⟩ := h2
  refine wpAny_newObj_type (newEnv_comp ?_) (Nat.zero_le _)
  generalize hD : s2.heap.objs.size = D
  have hDn : H2 D = none := I2.hok.fresh (Nat.le_of_eq hD)
  obtain ⟨W, ⟨m0, w0⟩, turn⟩ := q D hDn
  generalize hs3 : ({ s2 with heap := s2.heap.push { cls := .type "list", data := .seq ([] : List Value).toArray } } : Shared) = s3
  have k3 : T ≤ s3.toks := by rw [← hs3]; exact k2
  have I3 : Inv X pins σ (upd H2 D (.lst [])) s3 := by
    rw [← hs3]
    exact I2.laid (t' := s2.toks) (fun b o e => Heap.get?_push_of_some _ e) (Nat.le_of_eq hD) (by exact ⟨Nat.zero_le _, [], 0, .nil, by rw [← hD]; exact Heap.get?_push_size _ rfl⟩)
  have h3 : s3.heap = s2.heap.push { cls := .type "list", data := .seq ([] : List Value).toArray } := by rw [← hs3]
  have f3 : ∀ b ∈ fp, FpOk X pins (upd H2 D (.lst [])) b ∧ b < s3.heap.objs.size := fun b hb => by
    obtain ⟨o, eo, _⟩ := Tn.obj _ _ st2 b hb
    have hlt := Heap.lt_size eo
    exact ⟨⟨by rw [upd_ne (by rw [← hD]; exact Nat.ne_of_lt hlt)]; exact (f2 b hb).1, (f2 b hb).2⟩, by rw [h3, Heap.size_push]; exact Nat.lt_succ_of_lt hlt⟩
  have st3 : tn 0 s3.heap := Tn.keep _ _ _ st2 fun b _ o e => by rw [h3]; exact Heap.get?_push_of_some _ e
  have I4 := block_start I3 ok hN f3
  have hG : ∀ {v σ H Q}, bG T X scope tg v σ H Q → _ := fun {v σ H Q} g => g s3 (upd H2 D (.lst [])) s3.heap.objs.size (cellsFrom (s3.heap.objs.size + 1) scope.names (cloFrom X.env.cells scope.names [])) fp
  have hE : ∀ {σ H Q}, bE T X scope elt σ H Q → _ := fun {σ H Q} g => g s3 (upd H2 D (.lst [])) s3.heap.objs.size (cellsFrom (s3.heap.objs.size + 1) scope.names (cloFrom X.env.cells scope.names [])) fp
  have hT := ht s3 (upd H2 D (.lst [])) s3.heap.objs.size (cellsFrom (s3.heap.objs.size + 1) scope.names (cloFrom X.env.cells scope.names [])) fp
  show codeAny _ _ (.compStart (.ListComp elt [⟨tg, iter, ifs, 0⟩] scope pos) 0 (.ref it) (.ref D) (compEnvC scope (cellsFrom (s3.heap.objs.size + 1) scope.names (cloFrom X.env.cells scope.names [])) s3.heap.objs.size X.env))
    (compPost (model X.prog X.w) X.A X.xe use Qf (.ref D) s3.heap.objs.size) { s3 with heap := pushCells (s3.heap.push { cls := .type "dict", data := .dict #[] }) scope.names }
  have nfp : ∀ b ∈ fp, (upd H2 D (.lst [])) b = none := fun b hb => (f3 b hb).1.1
  generalize hce : compEnvC scope (cellsFrom (s3.heap.objs.size + 1) scope.names (cloFrom X.env.cells scope.names [])) s3.heap.objs.size X.env = ce at I4 hG hE hT ⊢
  have cL : ce.locals = s3.heap.objs.size := by rw [← hce]; rfl
  generalize hH3 : upd H2 D (.lst []) = H3 at I3 I4 hG hE hT w0 nfp f3
  generalize hs4 : ({ s3 with heap := pushCells (s3.heap.push { cls := .type "dict", data := .dict #[] }) scope.names } : Shared) = s4 at I4 ⊢
  have k4 : T ≤ s4.toks := by rw [← hs4]; exact k3
  have st4 : tn 0 s4.heap := Tn.keep _ _ _ st3 fun b _ o e => by rw [← hs4]; exact pushCells_keeps _ _ _ _ (Heap.get?_push_of_some _ e)
  have fpk : ∀ {σ' : L2.St} {H' : Hp} {s' : Shared}, Inv (X.blk s3 H3 scope ce fp) [] σ' H' s' → (∀ b ∈ fp, H' b = none) → ∀ b ∈ fp, FpOk (X.blk s3 H3 scope ce fp) [] H' b := fun {σ' H' s'} Iq hn b hb =>
    ⟨hn b hb, (Iq.ok.exf b hb).1, Iq.ok.exfs b hb, .inl hb, fun x c e => (Iq.ok.exf b hb).2 x c e, fun p hp => absurd (show p ∈ ([] : List (Addr × Obj)) from hp) List.not_mem_nil⟩
  have loop : codeAny (model X.prog X.w) X.A (.compLoop (.ListComp elt [⟨tg, iter, ifs, 0⟩] scope pos) 0 (.ref it) (.ref D) ce) (compPost (model X.prog X.w) X.A X.xe use Qf (.ref D) s3.heap.objs.size) s4 := by
    refine compLoop_any (fun n s' => T ≤ s'.toks ∧ ∃ i H', Inv (X.blk s3 H3 scope ce fp) [] (wipe σ (own.map (·.2))) H' s' ∧ tn i s'.heap ∧ (∀ b ∈ fp, H' b = none) ∧ W i n H') ?_ m0 ⟨k4, 0, H3, I4, st4, nfp, w0⟩
    rintro n s5 ⟨k5, i, H5, I5, st5, n5, w5⟩
    rcases turn i n H5 w5 with ⟨stop, qq⟩ | ⟨go, Nx, hNx, step⟩
    · refine thnTF k5 (Tn.done (X.blk s3 H3 scope ce fp) rfl rfl rfl hc i [] s5 _ H5 (fun _ _ => False) I5 (fpk I5 n5) st5 stop) fun r s6 k6 ⟨hr, I6⟩ => ?_
      rw [hr]
      have I7 : Inv X pins σ H5 s6 := I3.call' (ch := fp) I6.os I6.base I6.hok I6.bare fun b hb => have z := (f3 b hb).1; ⟨z.2.2.2.1, z.2.1, z.2.2.2.2.1, z.2.2.2.2.2⟩
      obtain ⟨m, hn, _⟩ := I6.loc
      have hn : s6.heap.Ns ce.locals m := hn
      have fr6 : H5 ce.locals = none := I6.free
      rw [cL] at hn fr6
      exact fin D s3.heap.objs.size s6 m H5 k6 I7 qq hn (I3.fpOk (Nat.le_refl _) fr6)
    · refine thnTF k5 (Tn.item (X.blk s3 H3 scope ce fp) rfl rfl rfl hc i [] s5 _ H5 (fun _ _ => False) I5 (fpk I5 n5) st5 go) fun r s6 k6 ⟨u, hr, h6⟩ => ?_
      rw [hr]
      refine thnTF k6 h6 fun _ s7 k7 ⟨x, H7, I7, r7, y7, st7, n7⟩ => ?_
      refine thnTF k7 (hG (step x H7 y7) _ s7 u k7 (I7.pinned (fpk I7 n7) (Tn.obj _ _ st7)) r7) fun _ s8 k8 ⟨σ8, H8, I8, hw8, q8⟩ => ?_
      refine thnTF k8 (hT _ _ _ q8 _ s8 k8 I8) fun b s9 k9 ⟨H9, I9, q9⟩ => ?_
      have more : ∀ {s' : Shared} {H' : Hp}, T ≤ s'.toks → Inv (X.blk s3 H3 scope ce fp) ([] ++ pinsAt fp s7.heap) σ8 H' s' → Nx H' → ∃ m, m < n ∧ T ≤ s'.toks ∧ ∃ i H', Inv (X.blk s3 H3 scope ce fp) [] (wipe σ (own.map (·.2))) H' s' ∧ tn i s'.heap ∧ (∀ b ∈ fp, H' b = none) ∧ W i m H' := fun {s' H'} kq Iq nx => by
        obtain ⟨m7, hm, w7⟩ := hNx H' nx
        have pn : ∀ b ∈ fp, ∀ o, s7.heap.get? b = some o → s'.heap.get? b = some o ∧ H' b = none := fun b hb o eo =>
          have z := Iq.pin (b, o) (List.mem_append_right _ (List.mem_append_right _ (mem_pinsAt hb eo)))
          ⟨z.1, z.2.1⟩
        exact ⟨m7, hm, kq, i + 1, H', (Iq.unpinned (pins := [])).weak (by rw [← hw8, wipe_length]) (fun j v e => (wipe_some (by rw [hw8]; exact e)).1), Tn.keep _ _ _ st7 fun b hb o eo => (pn b hb o eo).1, fun b hb => have ⟨o, eo, _⟩ := Tn.obj _ _ st7 b hb; (pn b hb o eo).2, w7⟩
      cases b with
      | false =>
        rw [if_neg Bool.false_ne_true] at q9
        exact more k9 I9 q9
      | true =>
        rw [if_pos rfl] at q9
        refine thnTF k9 (hE q9 _ s9 k9 I9) fun z s10 k10 ⟨yv, H10, I10, r10, acc, hD10, hz10, nx⟩ => ?_
        exact PySem.wpAny_with_toks k10 (app_ok (X := X.blk s3 H3 scope ce fp) I10 hD10 hz10 r10 fun s11 I11 k11 => more k11 I11 nx)
  exact codeAny_compStart_list loop (Tn.self X.A 0 _ _ _ st4 loop)
theorem s_lc {elt tg iter : Expr} {ifs : List Expr} {scope : Scope} {own : List (Str × Nat)} {pos : Pos} {tt : TT} {Q : VK} (hc : X.calm = true) (hN : X.N.Nodup) (ok : BlkOk X.N X.env.scope scope own)
    (ht : ∀ s Hb D cl fp σ H Q, tt σ H Q → sTs T (X.blk s Hb scope (compEnvC scope cl D X.env) fp) ifs σ H Q) (hs : ∀ x, foldedSetIterable iter X.env x = pure x)
    (h : tLc (sI T X tg iter) (bG T X scope tg) tt (bE T X scope elt) (own.map (·.2)) σ H Q) : sE T X (.ListComp elt [⟨tg, iter, ifs, 0⟩] scope pos) σ H Q := fun pins s k I => by
  rw [eval_ListComp]
  exact s_lcG hc hN k I ok ht hs h fun D L s' m H' k' I' q hn ⟨f0, f1, f2, f3, f4, f5⟩ => ⟨m, hn, fun h2 sb => ⟨.ref D, H', I'.turned (t' := s'.toks) (fun b o hb e => (sb.2 b hb).trans e) f0 f1 f3 f4 f5, rfl, q⟩⟩
theorem s_setLc {i : Nat} {y : Str} {py : Pos} {elt tg iter : Expr} {ifs : List Expr} {scope : Scope} {own : List (Str × Nat)} {pos spos : Pos} {tt : TT} {rest : List Stmt} {D : Ends} (hc : X.calm = true) (hN : X.N.Nodup) (hy : X.N[i]? = some y) (hyl : X.env.scope.names.lookup y = some .local)
    (hsw : swapsWith (.ListComp elt [⟨tg, iter, ifs, 0⟩] scope pos) (some (.Name y py)) spos.line X.env = pure true) (ok : BlkOk X.N X.env.scope scope own)
    (ht : ∀ s Hb D cl fp σ H Q, tt σ H Q → sTs T (X.blk s Hb scope (compEnvC scope cl D X.env) fp) ifs σ H Q) (hs : ∀ x, foldedSetIterable iter X.env x = pure x)
    (h : tLc (sI T X tg iter) (bG T X scope tg) tt (bE T X scope elt) (own.map (·.2)) σ H fun v H1 => sSs T X rest D (σ.set i (some v)) H1) : sSs T X (.Assign [.Name y py] (.ListComp elt [⟨tg, iter, ifs, 0⟩] scope pos) spos :: rest) D σ H := s_then fun pins s k I => by
  rw [exec_Assign_Name_used _ _ _ _ hsw]
  refine wpAny_bind (wpAny_standAt (wpAny_bind ?_))
  show wpAny _ X.A (do let _ ← comprehension (.ListComp elt [⟨tg, iter, ifs, 0⟩] scope pos) scope X.env (firstIterPos [⟨tg, iter, ifs, 0⟩] pos) (newList []) false (eval iter X.env) (some (assign (.Name y py) X.env))) _ _ s
  refine wpAny_bind (thn (s_lcG (Qf := fun _ s' => SP X pins { D with nx := sSs T X rest D } .next s') hc hN k I ok ht hs h fun L B s' m H' k' I' q hn ⟨f0, f1, f2, f3, f4, f5⟩ => ?_) fun _ s' hq => wpAny_pure (wpAny_pure hq))
  show wpAny _ _ (assign (.Name y py) X.env (.ref L)) _ _ _
  refine wpAny_assign_Name (store_ok2 (v := V.ref L) I' hN hy (.inl hyl) rfl (fun s2 I2 ⟨a, sb, ha⟩ => ?_) (.inr hyl))
  have na : B ≠ a := ha.elim (fun z => by rw [z]; exact f1) fun z e => f4 y a z e.symm
  exact ⟨m, hn.sameBut sb na, fun h3 sb3 => ⟨_, H', I2.turned (t' := s2.toks) (fun b o hb e => (sb3.2 b hb).trans e) f0 f1 f3 f4 f5, q⟩⟩
/-- a def of the text keeps a promise where its body does -/
theorem funT {P : Program} {w : World} {K : PySem.W.Frag} {mg : Str → Option Value} {base : Heap} {x qual : Str} {params : Arguments} {body : List Stmt} {scope : Scope} {f : Addr} {fd : FuncData} {N ps : List Str} {k : Nat} {sp : Sp}
    (F : FunD K x qual params body scope [] [] f fd) (S : FnScope N ps scope) (len : ∀ vs H Q E, sp vs H Q E → vs.length = ps.length)
    (hb : ∀ (cdv : Value) (A : Around) (outer : List Env) (s : Shared) (H : Hp) (vs : List V) (Q : VK) (E : XK), Room k (A.deeper (envOfC qual scope s.heap.objs.size f cdv)) → sp vs H Q E →
      sSs T (cxOf (L2.CX P w) P w K mg base N qual scope f cdv A outer s H E) body { nx := fun _ H' => Q .non H', rt := Q } (start N vs) H) : FnT T P w K mg base (k + 1) f ps fd sp := by
  obtain ⟨oc, od, dV, kV, doc, pm, an, cdv, ct, osl, rfl, lk, hcd, _, _⟩ := F.ex
  refine ⟨len, fun A outer s H args us vs Q E kt hr e0 bt r hsp => ?_⟩
  have KX : K.In s.heap := e0.mod.kin.keeps fun b o e => (e0.bs b o e).1
  have kinds : ∀ y ∈ ps.zip us, scope.names.lookup y.1 = some .local ∨ (scope.names.lookup y.1 = some .cell ∧ ((cellsFrom (s.heap.objs.size + 1) scope.names []).lookup y.1).isSome = true) := fun ⟨n, v⟩ hy =>
    (S.par n (List.of_mem_zip hy).1).imp id fun q => ⟨q, PySem.W.cellsFrom_some _ _ _ (.inl q)⟩
  refine codeAny_call_function hr.depth (KX _ _ lk) rfl S.co S.gen rfl (PySem.W.codeRec_of KX hcd) (bt _ _ _ _ ?_)
  refine PySem.wpAny_with_toks kt (wpAny_newFunctionEnv_cells S.kind kinds fun env he s1 x k1 => ?_)
  rw [he]
  refine ⟨(e0.mod.nolimit.keeps fun b o e => (e0.bs b o e).1).keeps x.toInCall.keep, codeAny_func ?_⟩
  have I : Inv (cxOf (L2.CX P w) P w K mg base N qual scope f cdv A outer s H E) [] (start N vs) H s1 := inv_start S hr.hd e0 (len _ _ _ _ hsp) r (by rw [he] at x; exact x)
  refine wpAny_mono (hb cdv A outer s H vs Q E (hr.deeper _) hsp [] s1 k1 I) (fun fl s' hs => ?_) fun e s' hs => hs
  match fl, hs with
  | .ret u, ⟨v, σ', H', J, rv, q⟩ => exact ⟨v, H', J.os, J.bare, J.base, J.hok, rv, q⟩
  | .next, ⟨σ', H', J, q⟩ => exact ⟨.non, H', J.os, J.bare, J.base, J.hok, rfl, q⟩
  | .brk, ⟨_, _, _, q⟩ => exact q.elim
  | .cont, ⟨_, _, _, q⟩ => exact q.elim
end
section
variable {G : Glob} {C : Sc} {Γ : Gm} {M : Mem} {P : DE} {rest : List Stmt}
/-- for: Iv by the turn, the names and the memory -/
theorem W.for_ {tg iter : Expr} {body : List Stmt} {pos : Pos} (h : I1 G C tg iter Γ M P.ex fun ds ok M1 => ∃ Iv : Nat → Gm → Mem → Prop, Iv 0 Γ M1 ∧ (∀ i Γ' M', Iv i Γ' M' → ok M') ∧
      (∀ i d Γ' M', ds[i]? = some d → Iv i Γ' M' → Tg G C tg d Γ' M' P.ex fun Γ2 M2 => W G C body Γ2 M2 { P with nx := Iv (i + 1), ct := Iv (i + 1), bk := fun Γ3 M3 => W G C rest Γ3 M3 P }) ∧ ∀ Γ' M', Iv ds.length Γ' M' → W G C rest Γ' M' P)
    (hs : ∀ env x, foldedSetIterable iter env x = pure x := by intro _ _; rfl) : W G C (.For tg iter body [] pos :: rest) Γ M P := by
  constructor
  intro X σ H B s
  refine s_for s.cx.pass s.cx.calm (hs _) ?_
  refine (h X σ H B s).mono fun J H1 ⟨ds, ok, B1, M1, g1, t1, wk, Iv, h0, hok, hturn, hend⟩ => ?_
  refine ⟨fun i m σ' H' => m = ds.length - i ∧ i ≤ ds.length ∧ ∃ Γ' B' M', Hd G.K H' B' M' ∧ Stp B1 M1 H1 B' M' H' ∧ Reps G.K C.N B' σ' Γ' ∧ Iv i Γ' M', ⟨ds.length, by simp, Nat.zero_le _, Γ, B1, M1, g1, Stp.refl, s.gm.mono t1.same, h0⟩, ?_⟩
  rintro i m σ2 H2 ⟨rfl, hi, Γ2, B2, M2, g2, t2, r2, iv⟩
  obtain ⟨wgo, wstop⟩ := wk H2 B2 M2 t2.same g2 (hok i Γ2 M2 iv)
  by_cases hlt : i < ds.length
  · refine .inr ?_
    obtain ⟨d, hd⟩ : ∃ d, ds[i]? = some d := ⟨ds[i], by simp [hlt]⟩
    obtain ⟨go, yl⟩ := wgo i d hd
    refine ⟨go, fun σ' H' => ∃ Γ' B' M', Hd G.K H' B' M' ∧ Stp B1 M1 H1 B' M' H' ∧ Reps G.K C.N B' σ' Γ' ∧ Iv (i + 1) Γ' M', fun σ' H' q => ⟨ds.length - (i + 1), by omega, rfl, hlt, q⟩, fun x H' hy => ?_⟩
    obtain ⟨B3, g3, t3, r3⟩ := yl x H' hy
    refine (hturn i d Γ2 M2 hd iv X σ2 H' B3 x ⟨s.cx, g3, r2.mono t3.same, ((s.xo.step t1).step t2).step t3⟩ r3).mono fun σ4 H4 ⟨Γ4, B4, M4, g4, t4, r4, q4⟩ => ?_
    refine (q4 X σ4 H4 B4 ⟨s.cx, g4, r4, (((s.xo.step t1).step t2).step t3).step t4⟩).mono (fun σ5 H5 ⟨Γ5, B5, M5, g5, t5, r5, q5⟩ => ?_) (fun v H5 q => ?_) (fun σ5 H5 ⟨Γ5, B5, M5, g5, t5, r5, q5⟩ => ?_) (fun σ5 H5 ⟨Γ5, B5, M5, g5, t5, r5, q5⟩ => ?_)
    · exact ⟨Γ5, B5, M5, g5, ((t2.trans t3).trans t4).trans t5, r5, q5⟩
    · exact VP.step (((t1.trans t2).trans t3).trans t4) q
    · exact DE.step ((((t1.trans t2).trans t3).trans t4).trans t5) (q5 X σ5 H5 B5 ⟨s.cx, g5, r5, ((((s.xo.step t1).step t2).step t3).step t4).step t5⟩)
    · exact ⟨Γ5, B5, M5, g5, ((t2.trans t3).trans t4).trans t5, r5, q5⟩
  · have e : i = ds.length := by omega
    subst e
    exact .inl ⟨wstop, DE.step (t1.trans t2) (hend Γ2 M2 iv X σ2 H2 B2 ⟨s.cx, g2, r2, (s.xo.step t1).step t2⟩)⟩
/-- while: Iv by a measure -/
theorem W.while_ {c : Expr} {body : List Stmt} {pos : Pos} (Iv : Nat → Gm → Mem → Prop) (h0 : ∃ m, Iv m Γ M) (ht : ∀ m Γ' M', Iv m Γ' M' → T G C c Γ' M' P.ex fun k M1 => if k = true then
      W G C body Γ' M1 { P with nx := fun Γ2 M2 => ∃ m', m' < m ∧ Iv m' Γ2 M2, ct := fun Γ2 M2 => ∃ m', m' < m ∧ Iv m' Γ2 M2, bk := fun Γ3 M3 => W G C rest Γ3 M3 P } else W G C rest Γ' M1 P) : W G C (.While c body [] pos :: rest) Γ M P := by
  constructor
  intro X σ H B s
  refine s_while s.cx.pass ?_
  obtain ⟨m0, h0⟩ := h0
  refine ⟨fun m σ' H' => ∃ Γ' B' M', Hd G.K H' B' M' ∧ Stp B M H B' M' H' ∧ Reps G.K C.N B' σ' Γ' ∧ Iv m Γ' M', ⟨m0, Γ, B, M, s.hd, Stp.refl, s.gm, h0⟩, ?_⟩
  rintro m σ2 H2 ⟨Γ2, B2, M2, g2, t2, r2, iv⟩
  refine (ht m Γ2 M2 iv X σ2 H2 B2 ⟨s.cx, g2, r2, s.xo.step t2⟩).mono fun k H3 ⟨B3, M3, g3, t3, q3⟩ => ?_
  cases k with
  | true =>
    rw [if_pos rfl] at q3 ⊢
    refine ⟨fun σ' H' => ∃ m', m' < m ∧ ∃ Γ' B' M', Hd G.K H' B' M' ∧ Stp B M H B' M' H' ∧ Reps G.K C.N B' σ' Γ' ∧ Iv m' Γ' M', fun σ' H' q => q, ?_⟩
    refine (q3 X σ2 H3 B3 ⟨s.cx, g3, r2.mono t3.same, (s.xo.step t2).step t3⟩).mono (fun σ5 H5 ⟨Γ5, B5, M5, g5, t5, r5, m', l, q5⟩ => ?_) (fun v H5 q => ?_) (fun σ5 H5 ⟨Γ5, B5, M5, g5, t5, r5, q5⟩ => ?_) (fun σ5 H5 ⟨Γ5, B5, M5, g5, t5, r5, m', l, q5⟩ => ?_)
    · exact ⟨m', l, Γ5, B5, M5, g5, (t2.trans t3).trans t5, r5, q5⟩
    · exact VP.step (t2.trans t3) q
    · exact DE.step ((t2.trans t3).trans t5) (q5 X σ5 H5 B5 ⟨s.cx, g5, r5, ((s.xo.step t2).step t3).step t5⟩)
    · exact ⟨m', l, Γ5, B5, M5, g5, (t2.trans t3).trans t5, r5, q5⟩
  | false =>
    rw [if_neg (by decide)] at q3 ⊢
    exact DE.step (t2.trans t3) (q3 X σ2 H3 B3 ⟨s.cx, g3, r2.mono t3.same, (s.xo.step t2).step t3⟩)
end

/-! ### list comprehensions -/
/-- the names that a block takes from around -/
def capOf (scope : Scope) : List Str := scope.names.filterMap fun y => match y.2 with
  | .free => some y.1
  | _ => none
theorem capOf_mem {scope : Scope} {x : Str} (h : scope.names.lookup x = some .free) : (capOf scope).contains x = true := by
  rw [List.contains_iff_mem]
  unfold capOf
  exact List.mem_filterMap.mpr ⟨(x, .free), PySem.mem_of_lookup h, rfl⟩
def Sc.blk (C : Sc) (scope : Scope) : Sc := ⟨C.N, relS scope C.sc, C.k, capOf scope⟩
def wipeG (Γ : Gm) : List Nat → Gm
  | [] => Γ
  | i :: r => match (wipeG Γ r)[i]? with
    | some (x, _) => (wipeG Γ r).set i (x, none)
    | none => wipeG Γ r
theorem Reps.wipe {K : PySem.W.Frag} {N : List Str} {B : Hp} {σ : L2.St} {Γ : Gm} (r : Reps K N B σ Γ) : ∀ vs : List Nat, Reps K N B (wipe σ vs) (wipeG Γ vs)
  | [] => r
  | v :: vs => by
    have ih := Reps.wipe r vs
    unfold L2.wipe wipeG
    cases e : (wipeG Γ vs)[v]? with
    | none =>
      have hl : (wipeG Γ vs).length = N.length := by rw [← ih.nm, List.length_map]
      have hv : (L2.wipe σ vs).length ≤ v := by rw [ih.ln, ← hl]; exact List.getElem?_eq_none_iff.mp e
      have : (L2.wipe σ vs).set v none = L2.wipe σ vs := List.set_eq_of_length_le hv
      rw [this]
      exact ih
    | some p =>
      obtain ⟨x, o⟩ := p
      have hi : v < (wipeG Γ vs).length := (List.getElem?_eq_some_iff.mp e).1
      refine ⟨?_, by rw [List.length_set]; exact ih.ln, fun i y d h => ?_⟩
      · show ((wipeG Γ vs).set v (x, none)).map (·.1) = N
        rw [List.map_set, ih.nm]
        apply List.ext_getElem?
        intro j
        have hx : N[v]? = some x := by rw [← ih.nm, List.getElem?_map, e]; rfl
        by_cases hj : v = j
        · subst hj
          rw [List.getElem?_set_self (by rw [← ih.nm, List.length_map]; exact hi), hx]
        · rw [List.getElem?_set_ne hj]
      · have h' : ((wipeG Γ vs).set v (x, none))[i]? = some (y, some d) := h
        by_cases hj : v = i
        · subst hj
          rw [List.getElem?_set_self hi] at h'
          cases h'
        · rw [List.getElem?_set_ne hj] at h'
          obtain ⟨u, q1, q2⟩ := ih.at_ i y d h'
          exact ⟨u, by rw [List.getElem?_set_ne hj]; exact q1, q2⟩
theorem lookup_local_relS {scope sc : Scope} {x : Str} (h : L2.Loc (relS scope sc) x) : (scope.names.lookup x == some .cell) = true ∨ (relS scope sc).names.lookup x = some .local ∨ scope.names.lookup x = some .free := by
  rcases h with h | h
  · exact .inr (.inl h)
  · obtain ⟨k', e, r⟩ := lookup_relS h
    rcases r with r | ⟨r, _⟩
    · left
      rw [e, ← r]; rfl
    · exact .inr (.inr (by rw [e, r]))
section
variable {G : Glob} {C : Sc} {Γ : Gm} {M : Mem} {Ex : XPost}
theorem Ctx.blk {X : Cx} (cx : Ctx G C X) {scope : Scope} (s : Shared) (H : Hp) (cl : List (Str × Addr)) (D : Addr) (fp : List Addr) : Ctx G (C.blk scope) (X.blk s H scope (compEnvC scope cl D X.env) fp) := by
  refine ⟨cx.P, cx.w, cx.K, cx.mg, cx.base, cx.N, ?_, cx.nd, cx.calm, cx.room, fun x hx => ?_, PassesOwn.never⟩
  · show relS scope X.env.scope = relS scope C.sc
    rw [cx.sc]
  · show (scope.names.lookup x == some .cell) = true ∨ (relS scope X.env.scope).names.lookup x = some .local
    rw [cx.sc]
    have hx2 : stoB (C.blk scope) x = true := hx
    obtain ⟨l1, l2⟩ := Bool.and_eq_true_iff.mp hx2
    rcases lookup_local_relS (loc_of l1) with h | h | h
    · exact .inl h
    · exact .inr h
    · have l2 : (!(capOf scope).contains x) = true := l2
      rw [capOf_mem h] at l2
      cases l2
theorem wipe_set {σ : L2.St} {i : Nat} {o : Option V} : ∀ {vs : List Nat}, i ∈ vs → L2.wipe (σ.set i o) vs = L2.wipe σ vs
  | [], h => by simp at h
  | v :: vs, h => by
    unfold L2.wipe
    by_cases hi : i ∈ vs
    · rw [wipe_set hi]
    · have e : i = v := by
        rcases List.mem_cons.mp h with e | h
        · exact e
        · exact absurd h hi
      subst e
      have aux : ∀ ws : List Nat, i ∉ ws → L2.wipe (σ.set i o) ws = (L2.wipe σ ws).set i o := by
        intro ws
        induction ws with
        | nil => intro _; rfl
        | cons w ws ih =>
          intro hw
          unfold L2.wipe
          rw [ih fun z => hw (List.mem_cons_of_mem _ z), List.set_comm]
          intro e
          exact hw (by rw [e]; exact List.mem_cons_self)
      rw [aux vs hi, List.set_set]
theorem wipe_wipe {σ : L2.St} : ∀ vs : List Nat, L2.wipe (L2.wipe σ vs) vs = L2.wipe σ vs := by
  intro vs
  have key : ∀ ws : List Nat, (∀ x ∈ ws, x ∈ vs) → L2.wipe (L2.wipe σ ws) vs = L2.wipe σ vs := by
    intro ws
    induction ws with
    | nil => intro _; rfl
    | cons w ws ih =>
      intro h
      show L2.wipe ((L2.wipe σ ws).set w none) vs = _
      rw [wipe_set (h w List.mem_cons_self), ih fun x hx => h x (List.mem_cons_of_mem _ hx)]
  exact key vs fun _ h => h
/-- a target that stores into own names alone: what the state is behind it -/
structure TgB (G : Glob) (C : Sc) (tg : Expr) (own : List Nat) (d : D) (Γ : Gm) (M : Mem) (Q : Gm → Prop) : Prop where
  run : ∀ X σ H B v, S0 G C X Γ M XNo σ H B → rep G.K B d v → sG G.T X tg v σ H fun σ2 H2 => H2 = H ∧ L2.wipe σ2 own = L2.wipe σ own ∧ ∃ Γ', Reps G.K C.N B σ2 Γ' ∧ Q Γ'
instance {G : Glob} {C : Sc} {tg : Expr} {own : List Nat} {d : D} {Γ : Gm} {M : Mem} {Q : Gm → Prop} : CoeFun (TgB G C tg own d Γ M Q) fun _ => ∀ X σ H B v, S0 G C X Γ M XNo σ H B → rep G.K B d v → sG G.T X tg v σ H fun σ2 H2 => H2 = H ∧ L2.wipe σ2 own = L2.wipe σ own ∧ ∃ Γ', Reps G.K C.N B σ2 Γ' ∧ Q Γ' := ⟨TgB.run⟩
def ownIx (N : List Str) (own : List Nat) (x : Str) : Bool := own.any fun i => decide (N[i]? = some x)
theorem ownIx_mem {N : List Str} {own : List Nat} {x : Str} {i : Nat} (nd : N.Nodup) (h : ownIx N own x = true) (hi : N[i]? = some x) : i ∈ own := by
  unfold ownIx at h
  obtain ⟨j, hj, e⟩ := List.any_eq_true.mp h
  rw [nodup_ix nd hi (of_decide_eq_true e)]
  exact hj
theorem TgB.name {x : Str} {pos : Pos} {own : List Nat} {d : D} {Q : Gm → Prop} {Γ' : Gm} (h : Upd Γ x d Γ') (q : Q Γ') (hl : stoB C x = true := by decide +kernel) (ho : ownIx C.N own x = true := by decide +kernel) : TgB G C (.Name x pos) own d Γ M Q := by
  constructor
  intro X σ H B v s r
  obtain ⟨i, hi, r'⟩ := s.gm.upd h r
  exact sG_of (pg_name (by rw [s.cx.N]; exact s.cx.nd) (i := i) (by rw [s.cx.N]; exact hi) (by rw [s.cx.sc]; exact loc_of (stoB_loc hl)) (s.cx.fn x hl)) ⟨rfl, wipe_set (ownIx_mem s.cx.nd ho hi), Γ', r', q⟩
def TgBs (G : Glob) (C : Sc) (tgs : List Expr) (own : List Nat) (ds : List D) (Γ : Gm) (M : Mem) (Q : Gm → Prop) : Prop := ∀ X σ H B vs, S0 G C X Γ M XNo σ H B → repL G.K B ds vs → ∃ t, PGs X tgs t ∧ t vs σ H fun σ2 H2 => H2 = H ∧ L2.wipe σ2 own = L2.wipe σ own ∧ ∃ Γ', Reps G.K C.N B σ2 Γ' ∧ Q Γ'
theorem TgBs.nil {own : List Nat} {Q : Gm → Prop} (q : Q Γ) : TgBs G C [] own [] Γ M Q := fun X σ H B vs s r => ⟨_, pgs_nil, r.nil_inv, rfl, rfl, Γ, s.gm, q⟩
theorem gCons_mono {t : TG} {u : TGs} {vs : List V} {σ : L2.St} {H : Hp} {Q Q' : L2.St → Hp → Prop} (h : gCons t u vs σ H Q) (ht : ∀ v σ H R R', (∀ a b, R a b → R' a b) → t v σ H R → t v σ H R') (hu : ∀ vs σ H, u vs σ H Q → u vs σ H Q') : gCons t u vs σ H Q' := by
  obtain ⟨v, r, e, q⟩ := h
  exact ⟨v, r, e, ht _ _ _ _ _ (fun a b => hu _ _ _) q⟩
theorem TgBs.cons {e : Expr} {es : List Expr} {own : List Nat} {d : D} {ds : List D} {Q : Gm → Prop} {Γ' : Gm} {x : Str} {pos : Pos} (he : e = .Name x pos) (h : Upd Γ x d Γ') (q : TgBs G C es own ds Γ' M Q) (hl : stoB C x = true := by decide +kernel) (ho : ownIx C.N own x = true := by decide +kernel)
    (hs : ∀ env, (assignEach (e :: es) env).map (·.2) = assign e env :: (assignEach es env).map (·.2) := by intro _; rfl) : TgBs G C (e :: es) own (d :: ds) Γ M Q := by
  subst he
  intro X σ H B vs s r
  obtain ⟨v, vr, rfl, r1, r2⟩ := r.cons_inv
  obtain ⟨i, hi, r'⟩ := s.gm.upd h r1
  obtain ⟨t, h1, h2⟩ := q X (σ.set i (some v)) H B vr ⟨s.cx, s.hd, r', s.xo⟩ r2
  refine ⟨_, pgs_cons (pg_name (by rw [s.cx.N]; exact s.cx.nd) (i := i) (by rw [s.cx.N]; exact hi) (by rw [s.cx.sc]; exact loc_of (stoB_loc hl)) (s.cx.fn x hl)) h1 (hs _), v, vr, rfl, ?_⟩
  rw [wipe_set (ownIx_mem s.cx.nd ho hi)] at h2
  exact h2
theorem TgB.tup {es : List Expr} {k : Nat} {pos : Pos} {own : List Nat} {ds : List D} {Q : Gm → Prop} (h : TgBs G C es own ds Γ M Q)
    (hn : ∀ env, (assignEach es env).length = ds.length := by intro _; rfl) (hst : ∀ env, (assignEach es env).findIdx? (·.1) = none := by intro _; rfl) : TgB G C (.Tuple es k pos) own (.tup ds) Γ M Q := by
  constructor
  intro X σ H B v s r
  obtain ⟨a, vs, rfl, r1, r2⟩ := rep_tup.mp r
  obtain ⟨t, h1, h2⟩ := h X σ H B vs s r2
  exact sG_of (pg_tup s.cx.calm h1 (hn _) (hst _)) ⟨a, vs, rfl, by rw [s.cx.K]; exact Same.sqT s.hd.sub r1, r2.length, h2⟩
/-- what a comprehension asks -/
def LcAsk (G : Glob) (C : Sc) (scope : Scope) (tg : Expr) (ix : List Nat) (elt : Expr) (Γ : Gm) (T' : Gm → Mem → (Bool → Mem → Prop) → Prop) (Q : D → Mem → Prop) (ds : List D) (ok : Mem → Prop) (M1 : Mem) : Prop :=
  ds.length ≤ sizeLine ∧ ∃ J : Nat → List D → Mem → Prop, J 0 [] M1 ∧ (∀ i acc M', J i acc M' → ok M') ∧
    (∀ i d acc M', ds[i]? = some d → J i acc M' → TgB G (C.blk scope) tg ix d (wipeG Γ ix) M' fun Γ2 => T' Γ2 M' fun b M2 => if b = true then E G (C.blk scope) elt Γ2 M2 XNo (fun e M3 => J (i + 1) (acc ++ [e]) M3) else J (i + 1) acc M2) ∧
    ∀ acc M', J ds.length acc M' → ∀ p, M' p = none → Q (.adr p) (mset M' p (.lst acc))
theorem lc_gen {elt tg iter : Expr} {scope : Scope} {own : List (Str × Nat)} {Q : D → Mem → Prop} {X : Cx} {σ : L2.St} {H B : Hp} {T' : Gm → Mem → (Bool → Mem → Prop) → Prop} {tt : TT} (s : S0 G C X Γ M Ex σ H B)
    (hT : ∀ Γ2 M2 Q2 σ2 H2 B2, T' Γ2 M2 Q2 → Hd G.K H2 B2 M2 → Reps G.K C.N B2 σ2 Γ2 → tt σ2 H2 (BP G B2 M2 H2 Q2))
    (hTm : ∀ σ H R R', (∀ a b, R a b → R' a b) → tt σ H R → tt σ H R')
    (h : sI G.T X tg iter σ H (IP G B M H (LcAsk G C scope tg (own.map (·.2)) elt Γ T' Q))) :
    tLc (sI G.T X tg iter) (bG G.T X scope tg) tt (bE G.T X scope elt) (own.map (·.2)) σ H (VP G B M H Q) := by
  have cxB := fun s' Hb cl D fp => Ctx.blk s.cx (scope := scope) s' Hb cl D fp
  refine h.mono fun J H1 ⟨ds, ok, B1, M1, g1, t1, wk, hlen, Jv, h0, hok, hturn, hend⟩ => ?_
  intro L hL
  refine ⟨fun i m H' => m = ds.length - i ∧ i ≤ ds.length ∧ ∃ B' M' acc av, Hd G.K H' B' M' ∧ H' L = some (.lst av) ∧ B' L = none ∧ M' L = none ∧ repL G.K B' acc av ∧ acc.length ≤ i ∧ Jv i acc M' ∧ Stp B1 M1 H1 B' M' H',
    ⟨ds.length, by simp, Nat.zero_le _, B1, M1, [], [], ?_, upd_same, g1.sub.free hL, g1.free hL, repL.nil, Nat.zero_le _, h0, ?_⟩, ?_⟩
  · refine ⟨fun b u e => by rw [upd_ne (ne_of_none e (g1.sub.free hL))]; exact g1.sub b u e, fun a m e => ?_⟩
    obtain ⟨q1, o, q2, q3⟩ := g1.own a m e
    exact ⟨q1, o, by rw [upd_ne (ne_of_none q2 hL)]; exact q2, q3⟩
  · exact ⟨Same.refl _, fun a o q1 q2 q3 => ⟨by rw [upd_ne (ne_of_none q1 hL)]; exact q1, q2, q3⟩⟩
  rintro i m H2 ⟨rfl, hi, B2, M2, acc, av, g2, eL, bL, mL, rL, lL, jv, t2⟩
  obtain ⟨wgo, wstop⟩ := wk H2 B2 M2 t2.same g2 (hok i acc M2 jv)
  by_cases hlt : i < ds.length
  · refine .inr ?_
    obtain ⟨d, hd⟩ : ∃ d, ds[i]? = some d := ⟨ds[i], by simp [hlt]⟩
    obtain ⟨go, yl⟩ := wgo i d hd
    refine ⟨go, fun H' => ∃ B' M' acc av, Hd G.K H' B' M' ∧ H' L = some (.lst av) ∧ B' L = none ∧ M' L = none ∧ repL G.K B' acc av ∧ acc.length ≤ i + 1 ∧ Jv (i + 1) acc M' ∧ Stp B1 M1 H1 B' M' H', fun H' q => ⟨ds.length - (i + 1), by omega, rfl, hlt, q⟩, fun x H' hy => ?_⟩
    obtain ⟨B3, g3, t3, r3⟩ := yl x H' hy
    obtain ⟨e3, b3, m3⟩ := t3.rest L _ eL bL mL
    intro s' Hb D' cl fp
    have s3 : S0 G (C.blk scope) (X.blk s' Hb scope (compEnvC scope cl D' X.env) fp) (wipeG Γ (own.map (·.2))) M2 XNo (L2.wipe σ (own.map (·.2))) H' B3 :=
      ⟨cxB _ _ _ _ _, g3, ((s.gm.wipe _).mono t1.same).mono (t2.same.trans t3.same), XOK.no⟩
    refine (hturn i d acc M2 hd jv _ _ H' B3 x s3 r3).mono fun σ4 H4 ⟨eH, ew, Γ4, r4, q4⟩ => ?_
    subst eH
    refine ⟨by rw [ew, wipe_wipe], ?_⟩
    refine hTm _ _ _ _ (fun b H5 ⟨B5, M5, g5, t5, q5⟩ => ?_) (hT Γ4 M2 _ σ4 H4 B3 q4 g3 r4)
    obtain ⟨e5, b5, m5⟩ := t5.rest L _ e3 b3 m3
    cases b with
    | false =>
      rw [if_neg (by decide)] at q5 ⊢
      exact ⟨B5, M5, acc, av, g5, e5, b5, m5, (rL.mono t3.same).mono t5.same, by omega, q5, (t2.trans t3).trans t5⟩
    | true =>
      rw [if_pos rfl] at q5 ⊢
      intro s6 Hb6 D6 cl6 fp6
      have s5 : S0 G (C.blk scope) (X.blk s6 Hb6 scope (compEnvC scope cl6 D6 X.env) fp6) Γ4 M5 XNo σ4 H5 B5 := ⟨cxB _ _ _ _ _, g5, r4.mono t5.same, XOK.no⟩
      refine (q5 _ _ H5 B5 s5).mono fun y H6 ⟨d6, B6, M6, g6, t6, r6, q6⟩ => ?_
      obtain ⟨e6, b6, m6⟩ := t6.rest L _ e5 b5 m5
      have lav : av.length = acc.length := rL.length
      refine ⟨av, e6, by rw [lav]; omega, B6, M6, acc ++ [d6], av ++ [y], ?_, upd_same, b6, m6, repL.append (((rL.mono t3.same).mono t5.same).mono t6.same) (repL.cons r6 repL.nil), by simp; omega, q6, ?_⟩
      · refine ⟨fun b u e => by rw [upd_ne (ne_of_none e b6)]; exact g6.sub b u e, fun a m e => ?_⟩
        have na : a ≠ L := fun z => by subst z; rw [m6] at e; cases e
        obtain ⟨q1, o, q2, q3⟩ := g6.own a m e
        exact ⟨q1, o, by rw [upd_ne na]; exact q2, q3⟩
      · have t7 := ((t2.trans t3).trans t5).trans t6
        exact ⟨t7.same, fun a o q1 q2 q3 => by
          obtain ⟨z1, z2, z3⟩ := t7.rest a o q1 q2 q3
          exact ⟨by rw [upd_ne (ne_of_none q1 hL)]; exact z1, z2, z3⟩⟩
  · have e : i = ds.length := by omega
    subst e
    refine .inl ⟨wstop, .adr L, B2, mset M2 L (.lst acc), ?_, ?_, rep_adr.mpr rfl, hend acc M2 jv L mL⟩
    · refine ⟨g2.sub, fun a m e => ?_⟩
      by_cases ha : a = L
      · subst ha
        rw [mset_same] at e; cases e
        exact ⟨bL, _, eL, av, rfl, rL⟩
      · rw [mset_ne ha] at e
        exact g2.own a m e
    · have t3 := t1.trans t2
      refine ⟨t3.same, fun a o q1 q2 q3 => ?_⟩
      obtain ⟨z1, z2, z3⟩ := t3.rest a o q1 q2 q3
      have na : a ≠ L := fun z => by
        subst z
        have := t1.rest a o q1 q2 q3
        rw [hL] at this
        cases this.1
      exact ⟨z1, z2, by rw [mset_ne na]; exact z3⟩
theorem E.lc1 {elt tg iter c : Expr} {scope : Scope} {pos : Pos} {Q : D → Mem → Prop} (own : List (Str × Nat)) (h : I1 G C tg iter Γ M Ex (LcAsk G C scope tg (own.map (·.2)) elt Γ (fun Γ2 M2 Q2 => T G (C.blk scope) c Γ2 M2 XNo Q2) Q))
    (ok : blkC C.N C.sc scope own = true := by decide +kernel) (hs : ∀ env x, foldedSetIterable iter env x = pure x := by intro _ _; rfl) : E G C (.ListComp elt [⟨tg, iter, [c], 0⟩] scope pos) Γ M Ex Q := by
  constructor
  intro X σ H B s
  have cxB := fun s' Hb cl D fp => Ctx.blk s.cx (scope := scope) s' Hb cl D fp
  refine s_lc (own := own) (tt := bT G.T X scope c) s.cx.calm (by rw [s.cx.N]; exact s.cx.nd) (by rw [s.cx.N, s.cx.sc]; exact blkOk_by ok) (fun s' Hb D' cl fp σ H Q q => sTs_one (q s' Hb D' cl fp)) (hs _) ?_
  refine lc_gen s (fun Γ2 M2 Q2 σ2 H2 B2 q g r s' Hb D' cl fp => q _ _ H2 B2 ⟨cxB _ _ _ _ _, g, r, XOK.no⟩) (fun σ H R R' hR q s' Hb D' cl fp => (q s' Hb D' cl fp).mono hR) (h X σ H B s)
theorem E.lc0 {elt tg iter : Expr} {scope : Scope} {pos : Pos} {Q : D → Mem → Prop} (own : List (Str × Nat)) (h : I1 G C tg iter Γ M Ex (LcAsk G C scope tg (own.map (·.2)) elt Γ (fun Γ2 M2 Q2 => Q2 true M2) Q))
    (ok : blkC C.N C.sc scope own = true := by decide +kernel) (hs : ∀ env x, foldedSetIterable iter env x = pure x := by intro _ _; rfl) : E G C (.ListComp elt [⟨tg, iter, [], 0⟩] scope pos) Γ M Ex Q := by
  constructor
  intro X σ H B s
  have cxB := fun s' Hb cl D fp => Ctx.blk s.cx (scope := scope) s' Hb cl D fp
  refine s_lc (own := own) (tt := tYes) s.cx.calm (by rw [s.cx.N]; exact s.cx.nd) (by rw [s.cx.N, s.cx.sc]; exact blkOk_by ok) (fun s' Hb D' cl fp σ H Q q => sTs_nil q) (hs _) ?_
  refine lc_gen s (fun Γ2 M2 Q2 σ2 H2 B2 q g r => ⟨B2, M2, g, Stp.refl, q⟩) (fun σ H R R' hR q => hR _ _ q) (h X σ H B s)
/-- name = [..] on one line, the name a local -/
theorem W.lcs {elt tg iter : Expr} {ifs : List Expr} {scope : Scope} {x : Str} {px pos spos : Pos} {P : DE} {rest : List Stmt} {T' : Gm → Mem → (Bool → Mem → Prop) → Prop} (own : List (Str × Nat)) (h : I1 G C tg iter Γ M P.ex (LcAsk G C scope tg (own.map (·.2)) elt Γ T' fun d M1 => ∃ Γ', Upd Γ x d Γ' ∧ W G C rest Γ' M1 P))
    (hl : C.sc.names.lookup x = some .local) (hk : C.sc.kind = .function) (hx : x ∈ C.N) (hline : (px.line == pos.line) = true) (ha : (scope.names.any fun (n, k) => n == x && (k == .local || k == .cell)) = false)
    (ok : blkC C.N C.sc scope own = true) (hs : ∀ env x, foldedSetIterable iter env x = pure x)
    (tt : Cx → TT) (hT : ∀ X, (∀ s' Hb cl D fp, Ctx G (C.blk scope) (X.blk s' Hb scope (compEnvC scope cl D X.env) fp)) → ∀ Γ2 M2 Q2 σ2 H2 B2, T' Γ2 M2 Q2 → Hd G.K H2 B2 M2 → Reps G.K C.N B2 σ2 Γ2 → tt X σ2 H2 (BP G B2 M2 H2 Q2))
    (hTm : ∀ X σ H R R', (∀ a b, R a b → R' a b) → tt X σ H R → tt X σ H R') (hTp : ∀ X s' Hb D' cl fp σ H Q, tt X σ H Q → sTs G.T (X.blk s' Hb scope (compEnvC scope cl D' X.env) fp) ifs σ H Q) : W G C (.Assign [.Name x px] (.ListComp elt [⟨tg, iter, ifs, 0⟩] scope pos) spos :: rest) Γ M P := by
  constructor
  intro X σ H B s
  have cxB := fun s' Hb cl D fp => Ctx.blk s.cx (scope := scope) s' Hb cl D fp
  obtain ⟨i, hi⟩ := List.mem_iff_getElem?.mp hx
  refine s_setLc (own := own) (tt := tt X) s.cx.calm (by rw [s.cx.N]; exact s.cx.nd) (by rw [s.cx.N]; exact hi) (by rw [s.cx.sc]; exact hl) (sw_true (by rw [s.cx.sc]; exact hk) (by rw [s.cx.sc]; exact hl) hline ha) (by rw [s.cx.N, s.cx.sc]; exact blkOk_by ok) (hTp X) (hs _) ?_
  have key := lc_gen s (hT X cxB) (hTm X) (h X σ H B s)
  have mono : ∀ {Q Q' : VK}, (∀ v H', Q v H' → Q' v H') → tLc (sI G.T X tg iter) (bG G.T X scope tg) (tt X) (bE G.T X scope elt) (own.map (·.2)) σ H Q → tLc (sI G.T X tg iter) (bG G.T X scope tg) (tt X) (bE G.T X scope elt) (own.map (·.2)) σ H Q' := by
    intro Q Q' hq q
    refine sI.mono q fun J H' r D hD => ?_
    obtain ⟨Wv, w0, turn⟩ := r D hD
    refine ⟨Wv, w0, fun i m H hw => ?_⟩
    rcases turn i m H hw with ⟨a, b⟩ | a
    · exact .inl ⟨a, hq _ _ b⟩
    · exact .inr a
  refine mono (Q' := fun v H1 => sSs G.T X rest (P.con G C.N B M H) (σ.set i (some v)) H1) (fun v H1 ⟨d, B1, M1, g1, t1, r1, Γ', hu, q1⟩ => ?_) key
  obtain ⟨j, hj, rj⟩ := (s.gm.mono t1.same).upd hu r1
  have e := nodup_ix s.cx.nd hi hj
  subst e
  exact DE.step t1 (q1 X _ H1 B1 ⟨s.cx, g1, rj, s.xo.step t1⟩)
theorem W.lc1 {elt tg iter c : Expr} {scope : Scope} {x : Str} {px pos spos : Pos} {P : DE} {rest : List Stmt} (own : List (Str × Nat)) (h : I1 G C tg iter Γ M P.ex (LcAsk G C scope tg (own.map (·.2)) elt Γ (fun Γ2 M2 Q2 => T G (C.blk scope) c Γ2 M2 XNo Q2) fun d M1 => ∃ Γ', Upd Γ x d Γ' ∧ W G C rest Γ' M1 P))
    (hl : C.sc.names.lookup x = some .local := by decide +kernel) (hk : C.sc.kind = .function := by rfl) (hx : x ∈ C.N := by decide +kernel) (hline : (px.line == pos.line) = true := by rfl) (ha : (scope.names.any fun (n, k) => n == x && (k == .local || k == .cell)) = false := by decide +kernel)
    (ok : blkC C.N C.sc scope own = true := by decide +kernel) (hs : ∀ env x, foldedSetIterable iter env x = pure x := by intro _ _; rfl) : W G C (.Assign [.Name x px] (.ListComp elt [⟨tg, iter, [c], 0⟩] scope pos) spos :: rest) Γ M P :=
  W.lcs own h hl hk hx hline ha ok hs (fun X σ H Q => ∀ s Hb D cl fp, sT G.T (X.blk s Hb scope (compEnvC scope cl D X.env) fp) c σ H Q) (fun X cxB Γ2 M2 Q2 σ2 H2 B2 q g r s' Hb D' cl fp => q _ _ H2 B2 ⟨cxB _ _ _ _ _, g, r, XOK.no⟩) (fun X σ H R R' hR q s' Hb D' cl fp => (q s' Hb D' cl fp).mono hR)
    (fun X s' Hb D' cl fp σ H Q q => sTs_one (q s' Hb D' cl fp))
theorem W.lc0 {elt tg iter : Expr} {scope : Scope} {x : Str} {px pos spos : Pos} {P : DE} {rest : List Stmt} (own : List (Str × Nat)) (h : I1 G C tg iter Γ M P.ex (LcAsk G C scope tg (own.map (·.2)) elt Γ (fun Γ2 M2 Q2 => Q2 true M2) fun d M1 => ∃ Γ', Upd Γ x d Γ' ∧ W G C rest Γ' M1 P))
    (hl : C.sc.names.lookup x = some .local := by decide +kernel) (hk : C.sc.kind = .function := by rfl) (hx : x ∈ C.N := by decide +kernel) (hline : (px.line == pos.line) = true := by rfl) (ha : (scope.names.any fun (n, k) => n == x && (k == .local || k == .cell)) = false := by decide +kernel)
    (ok : blkC C.N C.sc scope own = true := by decide +kernel) (hs : ∀ env x, foldedSetIterable iter env x = pure x := by intro _ _; rfl) : W G C (.Assign [.Name x px] (.ListComp elt [⟨tg, iter, [], 0⟩] scope pos) spos :: rest) Γ M P :=
  W.lcs own h hl hk hx hline ha ok hs (fun _ => tYes) (fun X cxB Γ2 M2 Q2 σ2 H2 B2 q g r => ⟨B2, M2, g, Stp.refl, q⟩) (fun X σ H R R' hR q => hR _ _ q) (fun X s' Hb D' cl fp σ H Q q => sTs_nil q)
/-- the same, the list never written again -/
theorem LcAsk.frz {scope : Scope} {tg elt : Expr} {ix : List Nat} {T' : Gm → Mem → (Bool → Mem → Prop) → Prop} {Q : D → Mem → Prop} {ds : List D} {ok : Mem → Prop} (J : Nat → List D → Mem → Prop) (hl : ds.length ≤ sizeLine) (h0 : J 0 [] M) (hok : ∀ i acc M', J i acc M' → ok M')
    (ht : ∀ i d acc M', ds[i]? = some d → J i acc M' → TgB G (C.blk scope) tg ix d (wipeG Γ ix) M' fun Γ2 => T' Γ2 M' fun b M2 => if b = true then E G (C.blk scope) elt Γ2 M2 XNo (fun e M3 => J (i + 1) (acc ++ [e]) M3) else J (i + 1) acc M2)
    (hd : ∀ acc M', J ds.length acc M' → Q (.lst acc) M') : LcAsk G C scope tg ix elt Γ T' (fun d M' => ∃ p ds M0, d = .adr p ∧ M0 p = none ∧ M' = mset M0 p (.lst ds) ∧ Q (.lst ds) M0) ds ok M :=
  ⟨hl, J, h0, hok, ht, fun acc M' j p hp => ⟨p, acc, M', rfl, hp, rfl, hd acc M' j⟩⟩
/-- a comprehension that changes nothing: p the test, f the item -/
def JP (ds : List D) (p : D → Bool) (f : D → D) (M : Mem) (i : Nat) (acc : List D) (M' : Mem) : Prop := M' = M ∧ acc = ((ds.take i).filter p).map f
theorem JP.zero {ds : List D} {p : D → Bool} {f : D → D} : JP ds p f M 0 [] M := ⟨rfl, by simp⟩
theorem take_step {α : Type} {ds : List α} {i : Nat} {d : α} (h : ds[i]? = some d) : ds.take (i + 1) = ds.take i ++ [d] := by
  rw [List.take_add_one, h]
  rfl
theorem JP.keep {ds : List D} {p : D → Bool} {f : D → D} {i : Nat} {acc : List D} {d e : D} {M' M2 : Mem} (j : JP ds p f M i acc M') (h : ds[i]? = some d) (hp : p d = true) (he : e = f d) (hm : M2 = M') : JP ds p f M (i + 1) (acc ++ [e]) M2 := by
  obtain ⟨rfl, rfl⟩ := j
  refine ⟨hm, ?_⟩
  rw [take_step h, List.filter_append, List.map_append, he]
  simp [hp]
theorem JP.skip {ds : List D} {p : D → Bool} {f : D → D} {i : Nat} {acc : List D} {d : D} {M' M2 : Mem} (j : JP ds p f M i acc M') (h : ds[i]? = some d) (hp : p d = false) (hm : M2 = M') : JP ds p f M (i + 1) acc M2 := by
  obtain ⟨rfl, rfl⟩ := j
  refine ⟨hm, ?_⟩
  rw [take_step h, List.filter_append, List.map_append]
  simp [hp]
theorem JP.done {ds : List D} {p : D → Bool} {f : D → D} {acc : List D} {M' : Mem} (j : JP ds p f M ds.length acc M') : M' = M ∧ acc = (ds.filter p).map f := by
  obtain ⟨rfl, rfl⟩ := j
  exact ⟨rfl, by rw [List.take_length]⟩
end

/-! ### defs -/
/-- a def of the text at its name -/
def HasDef (G : Glob) (x : Str) (st : Stmt) : Prop := ∃ f fd, G.mg x = some (.ref f) ∧ FunD G.K x x (defArgs st) (defBody st) (defScope st) [] [] f fd
/-- the names at a def's entry -/
def startG (N : List Str) (ds : List D) : Gm := match N, ds with
  | [], _ => []
  | x :: N, [] => (x, none) :: startG N []
  | x :: N, d :: ds => (x, some d) :: startG N ds
theorem startG_reps {K : PySem.W.Frag} {B : Hp} : ∀ {N : List Str} {ds : List D} {vs : List V}, ds.length ≤ N.length → repL K B ds vs → Reps K N B (L2.start N vs) (startG N ds)
  | [], ds, vs, hl, r => by
    cases ds with
    | nil => rw [r.nil_inv]; exact ⟨rfl, rfl, fun i x d h => by simp [startG] at h⟩
    | cons d ds => simp at hl
  | x :: N, [], vs, hl, r => by
    rw [r.nil_inv]
    have ih := startG_reps (K := K) (B := B) (N := N) (ds := []) (vs := []) (by simp) repL.nil
    refine ⟨by show x :: (startG N []).map (·.1) = x :: N; rw [ih.nm], by simp [L2.start], fun i y d h => ?_⟩
    cases i with
    | zero => simp [startG] at h
    | succ i =>
      have h' : (startG N [])[i]? = some (y, some d) := by simpa [startG] using h
      obtain ⟨v, q1, q2⟩ := ih.at_ i y d h'
      refine ⟨v, ?_, q2⟩
      have e : L2.start (x :: N) ([] : List V) = none :: L2.start N [] := by simp [L2.start, List.replicate_succ]
      rw [e]
      simpa using q1
  | x :: N, d :: ds, vs, hl, r => by
    obtain ⟨v, vr, rfl, r1, r2⟩ := r.cons_inv
    have ih := startG_reps (N := N) (by simpa using hl) r2
    have e : L2.start (x :: N) (v :: vr) = some v :: L2.start N vr := by simp [L2.start]
    rw [e]
    refine ⟨by show x :: (startG N ds).map (·.1) = x :: N; rw [ih.nm], by simp [ih.ln], fun i y d' h => ?_⟩
    cases i with
    | zero =>
      simp [startG] at h
      obtain ⟨rfl, rfl⟩ := h
      exact ⟨v, by simp, r1⟩
    | succ i =>
      have h' : (startG N ds)[i]? = some (y, some d') := by simpa [startG] using h
      obtain ⟨u, q1, q2⟩ := ih.at_ i y d' h'
      exact ⟨u, by simpa using q1, q2⟩
/-- less of the memory is known -/
def Dn (Q : D → Mem → Prop) : D → Mem → Prop := fun d M' => ∃ M2 : Mem, (∀ q m, M2 q = some m → M' q = some m) ∧ Q d M2
theorem Dn.same {Q : D → Mem → Prop} {d : D} {M : Mem} (q : Q d M) : Dn Q d M := ⟨M, fun _ _ h => h, q⟩
theorem VP.dn {G : Glob} {B : Hp} {M : Mem} {H : Hp} {Q : D → Mem → Prop} {v : V} {H' : Hp} (h : VP G B M H (Dn Q) v H') : VP G B M H Q v H' := by
  obtain ⟨d, B', M', g, t, r, M2, hm, q⟩ := h
  refine ⟨d, B', M2, ⟨g.sub, fun a m e => g.own a m (hm a m e)⟩, ⟨t.same, fun a o q1 q2 q3 => ?_⟩, r, q⟩
  obtain ⟨z1, z2, z3⟩ := t.rest a o q1 q2 q3
  refine ⟨z1, z2, ?_⟩
  cases e : M2 a with
  | none => rfl
  | some m =>
    have := hm a m e
    rw [z3] at this
    cases this
section
variable {G : Glob}
theorem Cal.of {x : Str} {st : Stmt} {N ps : List Str} {k : Nat} {sp : DSpec} (F : HasDef G x st) (S : FnScope N ps (defScope st)) (hlen : ∀ ds M Ex Q, sp ds M Ex Q → ds.length = ps.length)
    (hb : ∀ fd f, FunD G.K x x (defArgs st) (defBody st) (defScope st) [] [] f fd → Binds G.K fd ps [])
    (body : ∀ ds M Ex Q, sp ds M Ex Q → W G ⟨N, defScope st, k, []⟩ (defBody st) (startG N ds) M { nx := fun _ M' => Dn Q .non M', rt := Dn Q, ex := Ex }) : Cal G x (k + 1) sp := by
  obtain ⟨f, fd, h1, FD⟩ := F
  refine ⟨f, fd, ps, h1, FD.kp, ?_, hb fd f FD⟩
  refine funT FD S (fun vs H Q E ⟨B, M, ds, Ex, Qd, q1, q2, q3, _⟩ => by rw [q2.length]; exact hlen _ _ _ _ q3) ?_
  intro cdv A outer s H vs Q Ew hr ⟨B, M, ds, Ex, Qd, q1, q2, q3, q4, q5⟩
  have hl := hlen _ _ _ _ q3
  have hN : ds.length ≤ N.length := by
    rw [hl]
    have := S.pre
    have e := congrArg List.length this
    rw [List.length_take] at e
    omega
  have cx : Ctx G ⟨N, defScope st, k, []⟩ (cxOf (L2.CX G.P G.w) G.P G.w G.K G.mg G.base N x (defScope st) f cdv A outer s H Ew) :=
    ⟨rfl, rfl, rfl, rfl, rfl, rfl, rfl, S.nd, rfl, hr, fun _ _ => .inl rfl, passes_of rfl⟩
  have s0 : S0 G ⟨N, defScope st, k, []⟩ (cxOf (L2.CX G.P G.w) G.P G.w G.K G.mg G.base N x (defScope st) f cdv A outer s H Ew) (startG N ds) M Ex (L2.start N vs) H B := by
    refine ⟨cx, q1, startG_reps hN q2, fun cls d _ H => Ew cls d H, takes_of rfl rfl rfl rfl, fun cls d σ H' z => ?_⟩
    exact q5 cls d H' z
  refine (body ds M Ex Qd q3 _ _ H B s0).mono (fun σ' H' ⟨Γ', B', M', g, t, r, q⟩ => ?_) (fun v H' q => q4 v H' (VP.dn q)) (fun _ _ q => ?_) (fun _ _ q => ?_)
  · exact q4 .non H' (VP.dn ⟨.non, B', M', g, t, rep_non.mpr rfl, q⟩)
  · obtain ⟨_, _, _, _, _, _, z⟩ := q
    exact z.elim
  · obtain ⟨_, _, _, _, _, _, z⟩ := q
    exact z.elim
end
end Dl
/-! Dl4: operators, subscripts, slices, methods, built-in functions, by data. -/
namespace Dl
open PySem PySem.Spec PyProof.Rows L2

/-! ### subscripts, methods: at states that have given out T tokens -/
section
variable {X : Cx} {σ : L2.St} {H : Hp} {T : Nat} {a b : Expr} {pos : Pos}
theorem s_ix {r : R2} {Q : VK} (hr : IxR X r) (hs : PlainIx b) (h : sE T X a σ H fun x H1 => sE T X b σ H1 fun y H2 => r x y H2 Q) : sE T X (.Subscript a b pos) σ H Q := fun pins s k I =>
  Subscript_ (s_two k I h fun v u s2 x y H2 _ I2 rx ry q => hr a b pins s2 σ H2 x y v u Q I2 rx ry q (hs _ _))
theorem s_ixS {Q : VK} (hs : PlainIxT b) (h : sE T X a σ H fun x H1 => sE T X b σ H1 fun y H2 => ∃ z i c, x = .str z ∧ y = .int i ∧ 0 ≤ i ∧ i < 2 ^ 63 ∧ i < z.length ∧ z.cps[i.toNat]? = some c ∧ Q (.str ⟨#[c]⟩) H2) : sE T X (.Subscript a b pos) σ H Q := fun pins s k I =>
  Subscript_ (s_two k I h fun v u s2 x y H2 _ I2 rx ry ⟨z, i, c, ex, ey, h0, h63, h1, hc, q⟩ => by
    rw [ex] at rx
    rw [ey] at ry
    obtain ⟨t, rfl⟩ := rx
    obtain ⟨t2, rfl⟩ := ry
    have n1 : decide (i < -(2 ^ 63 : Int)) = false := decide_eq_false (by omega)
    have n2 : decide (i ≥ 2 ^ 63) = false := decide_eq_false (by omega)
    exact tail_any (typeIs_str s2 z t) slot_str_getitem.lookup (getItem_str (c := c) (by rw [n1, n2] <;> rfl) (by rw [PySem.StrLaws.seqIndex_nonneg h0 h1]; exact hc) ⟨.str ⟨#[c]⟩, H2, I2.tok _, ⟨_, rfl⟩, q⟩) (hs _ _))
/-- a slice's part -/
def sP (T : Nat) (X : Cx) (o : Option Expr) : TO := fun σ H Q => ∀ pins s, T ≤ s.toks → Inv X pins σ H s → wpAny (model X.prog X.w) X.A (evalPart o X.env) (fun u s' => ∃ o H', Inv X pins σ H' s' ∧ IsPart u o ∧ Q o H') X.xe s
theorem sP_none {Q : Option Int → Hp → Prop} (q : Q none H) : sP T X none σ H Q := fun pins s _ I => po_none.run pins s σ H Q I q
theorem sP_some {e : Expr} {Q : Option Int → Hp → Prop} (h : sE T X e σ H fun x H1 => ∃ i, x = .int i ∧ Q (some i) H1) : sP T X (some e) σ H Q := fun pins s k I => by
  rw [evalPart_some]
  exact thn (h pins s k I) fun u s1 ⟨x, H1, I1, r1, i, ex, q⟩ => by
    rw [ex] at r1
    obtain ⟨t, rfl⟩ := r1
    exact ⟨some i, H1, I1, .int i t, q⟩
theorem s_sl {r : V → Option Int → Option Int → Hp → VK → Prop} {lo hi : Option Expr} {p2 : Pos} {e : Expr} {Q : VK} (hr : SlR X r) (h : sE T X e σ H fun x H1 => sP T X lo σ H1 fun l H2 => sP T X hi σ H2 fun u H3 => r x l u H3 Q) : sE T X (.Subscript e (.Slice lo hi none p2) pos) σ H Q := fun pins s k I => by
  refine Subscript_ (thnT k (h pins s k I) fun v s1 k1 ⟨x, H1, I1, r1, q1⟩ => wpAny_Slice (thnT k1 (q1 pins s1 k1 I1) fun vl s2 k2 ⟨l, H2, I2, pl, q2⟩ => thn (q2 pins s2 k2 I2) fun vu s3 ⟨u, H3, I3, pu, q3⟩ => ?_))
  rw [evalPart_none]
  have I4 : Inv X pins σ H3 { s3 with heap := s3.heap.push { cls := .type "slice", data := .fields #[vl, vu, .none] } } := I3.kept (t' := s3.toks) fun b ob q => Heap.get?_push_of_some _ q
  obtain ⟨N, id, hN, ht, hg⟩ := hr pins _ σ H3 x v vl vu l u s3.heap.objs.size Q I4 r1 (Heap.IsSliceOf.new ..) pl pu q3
  exact wpAny_pure (tail_any (ops := [.ref s3.heap.objs.size, v]) ht hN hg (by with_unfolding_all rfl))
theorem s_sub {o i : Expr} {t : TSet} {v : V} {Q : L2.St → Hp → Prop} (hs : PSet X t) (ha : ∀ v, assign (.Subscript o i pos) X.env v = (do
      let ov ← holding [v] (eval o X.env)
      let iv ← holding [v, ov] (eval i X.env)
      standAt pos
      holding [v, ov, iv] (setItem ov iv v)
      release [v, ov, iv] [])) (h : sE T X o σ H fun x H1 => sE T X i σ H1 fun y H2 => t x y v H2 fun H3 => Q σ H3) : sG T X (.Subscript o i pos) v σ H Q := fun pins s u k I r => by
  rw [ha]
  refine wpAny_bind (wpAny_holding (thnT k (h pins s k I) fun ov s1 k1 ⟨x, H1, I1, r1, q1⟩ => wpAny_bind (wpAny_holding (thn (q1 pins s1 k1 I1) fun iv s2 ⟨y, H2, I2, r2, q2⟩ => ?_))))
  exact wpAny_bind (wpAny_standAt (wpAny_bind (wpAny_holding (thn (hs pins s2 σ H2 x y v ov iv u _ I2 r1 r2 r q2) fun _ s3 ⟨H3, I3, q3⟩ => wpAny_release ⟨σ, H3, I3, q3⟩))))
/-- a method of a built-in type, by values -/
def sM (T : Nat) (X : Cx) (id : String) : V → List V → Hp → VK → Prop := fun x xs H Q => ∀ pins s σ v us, T ≤ s.toks → Inv X pins σ H s → RelV x v → Vals xs us → wpAny (model X.prog X.w) X.A (call (.builtin id) (v :: us)) (EP X pins σ Q) X.xe s
theorem sM_of {id : String} {r : V → List V → Hp → VK → Prop} {x : V} {xs : List V} {Q : VK} (h : MtR X id r) (q : r x xs H Q) : sM T X id x xs H Q := fun pins s σ v us _ I rx rs => h pins s σ H x xs v us Q I rx rs q
theorem sM.mono {id : String} {x : V} {xs : List V} {Q Q' : VK} (h : sM T X id x xs H Q) (q : ∀ v H', Q v H' → Q' v H') : sM T X id x xs H Q' := fun pins s σ v us k I rx rs => thn (h pins s σ v us k I rx rs) fun u s1 ⟨v, H1, I1, r1, q1⟩ => ⟨v, H1, I1, r1, q _ _ q1⟩
theorem s_mt {o e : Expr} {es : List Expr} {name : Str} {apos cpos : Pos} {N id : String} {Q : VK} (pa : PlainAttrs N) (slot : Slot N name id) (hty : typeOf (.builtin id) = pure (.type "method_descriptor"))
    (hbase : attributeBase o name X.env (eval o X.env) = eval o X.env)
    (hfew : ((backTo cpos (starEach (e :: es) X.env)).all (fun x => !x.1) && (backToKw cpos (keywordEach [] X.env)).all (fun x => x.1.isSome)
      && decide ((e :: es).length + ([] : List Keyword).length + (if ([] : List Keyword).isEmpty then 0 else 1) < 30)) = true)
    (hline : (apos.endLine == cpos.line) = true) (hs : starEach (e :: es) X.env = (false, eval e X.env) :: starEach es X.env) (hplain : (backTo cpos (starEach es X.env)).any (·.1) = false)
    (h : sE T X o σ H fun x H1 => tyV X.K N x H1 ∧ sA T X (e :: es) σ H1 fun xs H2 => sM T X id x xs H2 Q) : sE T X (.Call (.Attribute o name apos) (e :: es) [] cpos) σ H Q := fun pins s k I => by
  refine wpAny_Call_method_late hbase hfew hline rfl (thnT k (h pins s k I) fun v s1 k1 ⟨x, H1, I1, r1, ty, q1⟩ => ?_)
  obtain ⟨t1, t2⟩ := tyV_is I1 r1 ty
  refine ⟨N, id, pa, slot, hty, t1, t2, ?_⟩
  have hA := q1 cpos pins s1 k1 I1
  rw [hs] at hA ⊢
  exact Calls.callWith_builtin (by show (false || (backTo cpos (starEach es X.env)).any (·.1)) = false; rw [hplain] <;> rfl) (Calls.evalArgs_plain (thnT k1 hA fun us s2 k2 ⟨vs, H2, I2, r2, q2⟩ => q2 pins s2 σ v us k2 I2 r1 r2))
theorem s_mt0 {o : Expr} {name : Str} {apos cpos : Pos} {N id : String} {Q : VK} (pa : PlainAttrs N) (slot : Slot N name id) (hty : typeOf (.builtin id) = pure (.type "method_descriptor"))
    (hbase : attributeBase o name X.env (eval o X.env) = eval o X.env) (hline : (apos.endLine == cpos.line) = true)
    (h : sE T X o σ H fun x H1 => tyV X.K N x H1 ∧ sM T X id x [] H1 Q) : sE T X (.Call (.Attribute o name apos) [] [] cpos) σ H Q := fun pins s k I => by
  refine wpAny_Call_method0_late hbase hline (thnT k (h pins s k I) fun v s1 k1 ⟨x, H1, I1, r1, ty, q1⟩ => ?_)
  obtain ⟨t1, t2⟩ := tyV_is I1 r1 ty
  exact ⟨N, id, pa, slot, hty, t1, t2, Calls.callWith_builtin rfl (PySem.evalArgs_none (q1 pins s1 σ v [] k1 I1 r1 .nil))⟩
end
/-! ### data as PyData -/
mutual
def toP : D → PyData
  | .non => .none
  | .bl b => .bool b
  | .int i => .int i
  | .str s => .str ⟨s.toArray⟩
  | .tup ds => .tuple (toPs ds)
  | .lst ds => .list (toPs ds)
  | .adr _ => .none
  | .ty _ => .none
def toPs : List D → List PyData
  | [] => []
  | d :: ds => toP d :: toPs ds
end
mutual
/-- data to its depth k: no addresses, signs that are signs -/
def shp : D → Bool
  | .non => true
  | .bl _ => true
  | .int _ => true
  | .str s => s.all (· < 0x110000)
  | .tup ds => shps ds
  | .lst ds => shps ds
  | .adr _ => false
  | .ty _ => false
def shps : List D → Bool
  | [] => true
  | d :: ds => shp d && shps ds
end
def dEq (a b : D) : Bool := PyData.eqv (toP a) (toP b)
section
variable {K : PySem.W.Frag} {B H : Hp}
mutual
theorem rep.dp (e : Same B H) : ∀ {d : D} {v : V}, shp d = true → rep K B d v → Dp K H v (toP d)
  | .non, v, _, h => by rw [rep_non.mp h]; unfold toP; exact .non
  | .bl b, v, _, h => by rw [rep_bl.mp h]; unfold toP; exact .bl b
  | .int i, v, _, h => by rw [rep_int.mp h]; unfold toP; exact .int i
  | .str s, v, _, h => by rw [rep_str.mp h]; unfold toP; exact .str _
  | .tup ds, v, hs, h => by
    obtain ⟨a, vs, rfl, h1, h2⟩ := rep_tup.mp h
    unfold toP
    unfold shp at hs
    exact .tup (Same.sqT e h1) (repL.dps e hs h2)
  | .lst ds, v, hs, h => by
    obtain ⟨a, vs, rfl, h1, h2⟩ := rep_lst.mp h
    unfold toP
    unfold shp at hs
    exact .lst (e.seq h1) (repL.dps e hs h2)
  | .adr a, v, hs, h => by unfold shp at hs; cases hs
  | .ty n, v, hs, h => by unfold shp at hs; cases hs
theorem repL.dps (e : Same B H) : ∀ {ds : List D} {vs : List V}, shps ds = true → repL K B ds vs → DpAll K H vs (toPs ds)
  | [], vs, _, h => by rw [h.nil_inv]; unfold toPs; exact .nil
  | d :: ds, vs, hs, h => by
    obtain ⟨v, r, rfl, h1, h2⟩ := h.cons_inv
    unfold toPs
    unfold shps at hs
    rw [Bool.and_eq_true] at hs
    exact .cons (rep.dp e hs.1 h1) (repL.dps e hs.2 h2)
end
end
mutual
theorem shp_lay : ∀ {d : D}, shp d = true → (toP d).canLay0 = true
  | .non, _ => by unfold toP; rfl
  | .bl b, _ => by unfold toP; rfl
  | .int i, _ => by unfold toP; rfl
  | .str s, h => by
    unfold toP
    unfold shp at h
    show PyData.strOk ⟨s.toArray⟩ = true
    unfold PyData.strOk
    simpa using h
  | .tup ds, h => by unfold toP; unfold shp at h; exact shps_lay h
  | .lst ds, h => by unfold toP; unfold shp at h; exact shps_lay h
  | .adr a, h => by unfold toP; rfl
  | .ty n, h => by unfold toP; rfl
theorem shps_lay : ∀ {ds : List D}, shps ds = true → PyData.canLayAll0 (toPs ds) = true
  | [], _ => by unfold toPs; rfl
  | d :: ds, h => by
    unfold toPs
    unfold shps at h
    rw [Bool.and_eq_true] at h
    show (PyData.canLay0 (toP d) && PyData.canLayAll0 (toPs ds)) = true
    rw [shp_lay h.1, shps_lay h.2]
    rfl
end
/-- data to be compared -/
structure Shp (d : D) : Prop where
  ok : shp d = true
  dep : (toP d).depth ≤ 64
theorem Shp.shaped {d : D} (h : Shp d) : SeqAt.shaped (toP d) = true := by
  unfold SeqAt.shaped
  rw [Bool.and_eq_true]
  exact ⟨shp_lay h.ok, decide_eq_true h.dep⟩
/-- letters and points: signs below 128 -/
def Asc (s : List Nat) : Prop := ∀ c ∈ s, c < 128
theorem Shp.non : Shp .non := ⟨rfl, by show (0 : Nat) ≤ 64; decide⟩
theorem Shp.bl {b : Bool} : Shp (.bl b) := ⟨rfl, by show (0 : Nat) ≤ 64; decide⟩
theorem Shp.int {i : Int} : Shp (.int i) := ⟨rfl, by show (0 : Nat) ≤ 64; decide⟩
theorem Shp.str {s : List Nat} (h : Asc s) : Shp (.str s) := ⟨by
  unfold shp
  rw [List.all_eq_true]
  intro c hc
  have := h c hc
  simp
  omega, by show (0 : Nat) ≤ 64; decide⟩
/-- of depth k at most -/
def ShpN (k : Nat) (d : D) : Prop := shp d = true ∧ (toP d).depth ≤ k
theorem ShpN.shp {k : Nat} {d : D} (h : ShpN k d) (hk : k ≤ 64 := by decide) : Shp d := ⟨h.1, Nat.le_trans h.2 hk⟩
theorem ShpN.mono {j k : Nat} {d : D} (h : ShpN j d) (hk : j ≤ k) : ShpN k d := ⟨h.1, Nat.le_trans h.2 hk⟩
theorem ShpN.non : ShpN 0 .non := ⟨rfl, Nat.le_refl 0⟩
theorem ShpN.bl {b : Bool} : ShpN 0 (.bl b) := ⟨rfl, Nat.le_refl 0⟩
theorem ShpN.int {i : Int} : ShpN 0 (.int i) := ⟨rfl, Nat.le_refl 0⟩
theorem ShpN.str {s : List Nat} (h : Asc s) : ShpN 0 (.str s) := ⟨(Shp.str h).ok, Nat.le_refl 0⟩
theorem shps_of {k : Nat} : ∀ {ds : List D}, (∀ d ∈ ds, ShpN k d) → shps ds = true ∧ PyData.depthAll (toPs ds) ≤ k
  | [], _ => ⟨rfl, Nat.zero_le _⟩
  | d :: ds, h => by
    obtain ⟨h1, h2⟩ := h d List.mem_cons_self
    obtain ⟨h3, h4⟩ := shps_of (ds := ds) fun x hx => h x (List.mem_cons_of_mem _ hx)
    refine ⟨by unfold shps; rw [h1, h3]; rfl, ?_⟩
    unfold toPs
    show max (toP d).depth (PyData.depthAll (toPs ds)) ≤ k
    exact Nat.max_le.mpr ⟨h2, h4⟩
theorem ShpN.lst {k : Nat} {ds : List D} (h : ∀ d ∈ ds, ShpN k d) : ShpN (k + 1) (.lst ds) := by
  obtain ⟨h1, h2⟩ := shps_of h
  refine ⟨by unfold Dl.shp; exact h1, ?_⟩
  unfold toP
  show PyData.depthAll (toPs ds) + 1 ≤ k + 1
  omega
theorem ShpN.tup {k : Nat} {ds : List D} (h : ∀ d ∈ ds, ShpN k d) : ShpN (k + 1) (.tup ds) := by
  obtain ⟨h1, h2⟩ := shps_of h
  refine ⟨by unfold Dl.shp; exact h1, ?_⟩
  unfold toP
  show PyData.depthAll (toPs ds) + 1 ≤ k + 1
  omega
/-- whole numbers as a list -/
def iL (xs : List Int) : List D := xs.map .int
def sL (xs : List (List Nat)) : List D := xs.map .str
theorem ShpN.iL {xs : List Int} : ShpN 1 (.lst (iL xs)) := ShpN.lst fun d hd => by
  obtain ⟨i, _, rfl⟩ := List.mem_map.mp hd
  exact ShpN.int
theorem ShpN.sL {xs : List (List Nat)} (h : ∀ x ∈ xs, Asc x) : ShpN 1 (.lst (sL xs)) := ShpN.lst fun d hd => by
  obtain ⟨i, hi, rfl⟩ := List.mem_map.mp hd
  exact ShpN.str (h i hi)
theorem toPs_eq (ds : List D) : toPs ds = ds.map toP := by
  induction ds with
  | nil => rfl
  | cons d ds ih => unfold toPs; rw [ih]; rfl
theorem dEq_int (i j : Int) : dEq (.int i) (.int j) = decide (i = j) := by
  show (i == j) = _
  rw [Bool.beq_eq_decide_eq]
theorem dEq_bl (i j : Bool) : dEq (.bl i) (.bl j) = decide (i = j) := by
  show (i == j) = _
  rw [Bool.beq_eq_decide_eq]
theorem dEq_str (i j : List Nat) : dEq (.str i) (.str j) = decide (i = j) := by
  show ((⟨i.toArray⟩ : Str) == ⟨j.toArray⟩) = _
  rw [Bool.beq_eq_decide_eq]
  congr 1
  simp
theorem dEq_lst (xs ys : List D) : dEq (.lst xs) (.lst ys) = PyData.eqvAll (toPs xs) (toPs ys) := rfl
theorem dEq_tup (xs ys : List D) : dEq (.tup xs) (.tup ys) = PyData.eqvAll (toPs xs) (toPs ys) := rfl
theorem eqvAll_cons (x y : D) (xs ys : List D) : PyData.eqvAll (toPs (x :: xs)) (toPs (y :: ys)) = (dEq x y && PyData.eqvAll (toPs xs) (toPs ys)) := rfl
/-- lists of one kind are equal as their items are -/
theorem eqvAll_map {α : Type} [DecidableEq α] {f : α → D} (h : ∀ a b, dEq (f a) (f b) = decide (a = b)) : ∀ xs ys : List α, PyData.eqvAll (toPs (xs.map f)) (toPs (ys.map f)) = decide (xs = ys)
  | [], [] => rfl
  | [], _ :: _ => rfl
  | _ :: _, [] => rfl
  | x :: xs, y :: ys => by
    rw [List.map_cons, List.map_cons, eqvAll_cons, h, eqvAll_map h xs ys]
    by_cases e1 : x = y
    · by_cases e2 : xs = ys <;> simp [e1, e2]
    · simp [e1]
theorem dEq_map {α : Type} [DecidableEq α] {f : α → D} (h : ∀ a b, dEq (f a) (f b) = decide (a = b)) (xs ys : List α) : dEq (.lst (xs.map f)) (.lst (ys.map f)) = decide (xs = ys) := eqvAll_map h xs ys
theorem dEq_mapT {α : Type} [DecidableEq α] {f : α → D} (h : ∀ a b, dEq (f a) (f b) = decide (a = b)) (xs ys : List α) : dEq (.tup (xs.map f)) (.tup (ys.map f)) = decide (xs = ys) := eqvAll_map h xs ys
theorem dEq_iL (xs ys : List Int) : dEq (.lst (iL xs)) (.lst (iL ys)) = decide (xs = ys) := dEq_map dEq_int xs ys
theorem dEq_sL (xs ys : List (List Nat)) : dEq (.lst (sL xs)) (.lst (sL ys)) = decide (xs = ys) := dEq_map dEq_str xs ys
theorem dEq_refl {d : D} (h : shp d = true) : dEq d d = true := SeqAt.eqv_refl _ (shp_lay h)
theorem dEq_nil (xs : List D) : dEq (.lst xs) (.lst []) = xs.isEmpty := by
  cases xs <;> rfl

/-! ### operators -/
section
variable {G : Glob} {C : Sc} {M : Mem}
theorem O2.of {f : Value → Value → Sem Value} {d1 d2 : D} {Q : D → Mem → Prop} (h : ∀ X H B x y, Ctx G C X → Hd G.K H B M → rep G.K B d1 x → rep G.K B d2 y → ∃ r, OpR X f r ∧ r x y H (VP G B M H Q)) : O2 G C f d1 d2 M Q := .mk fun X H B x y cx g r1 r2 => by
  obtain ⟨r, h1, h2⟩ := h X H B x y cx g r1 r2
  exact sO_of h1 h2
theorem O2.add {i j : Int} {Q : D → Mem → Prop} (q : Q (.int (i + j)) M) : O2 G C (binaryOp .Add) (.int i) (.int j) M Q := .of fun X H B x y cx g r1 r2 => ⟨_, op_add, i, j, rep_int.mp r1, rep_int.mp r2, VP.here g (rep_int.mpr rfl) q⟩
theorem O2.sub {i j : Int} {Q : D → Mem → Prop} (q : Q (.int (i - j)) M) : O2 G C (binaryOp .Sub) (.int i) (.int j) M Q := .of fun X H B x y cx g r1 r2 => ⟨_, op_sub, i, j, rep_int.mp r1, rep_int.mp r2, VP.here g (rep_int.mpr rfl) q⟩
theorem O2.mul {i j : Int} {Q : D → Mem → Prop} (c : CMulW i j) (q : Q (.int (i * j)) M) : O2 G C (binaryOp .Mult) (.int i) (.int j) M Q := .of fun X H B x y cx g r1 r2 => ⟨_, op_mulW, i, j, rep_int.mp r1, rep_int.mp r2, c, VP.here g (rep_int.mpr rfl) q⟩
theorem O2.fdiv {i j : Int} {Q : D → Mem → Prop} (c : CDivW i j) (q : Q (.int (i / j)) M) : O2 G C (binaryOp .FloorDiv) (.int i) (.int j) M Q := .of fun X H B x y cx g r1 r2 => ⟨_, op_fdivW, i, j, rep_int.mp r1, rep_int.mp r2, c, VP.here g (rep_int.mpr rfl) q⟩
theorem O2.mod {i j : Int} {Q : D → Mem → Prop} (c : 0 < j) (q : Q (.int (i % j)) M) : O2 G C (binaryOp .Mod) (.int i) (.int j) M Q := .of fun X H B x y cx g r1 r2 => ⟨_, op_mod, i, j, rep_int.mp r1, rep_int.mp r2, c, VP.here g (rep_int.mpr rfl) q⟩
theorem O2.pow {i j : Int} {Q : D → Mem → Prop} (c : CPow i j) (q : Q (.int (i ^ j.toNat)) M) : O2 G C (binaryOp .Pow) (.int i) (.int j) M Q := .of fun X H B x y cx g r1 r2 => ⟨_, op_pow, i, j, rep_int.mp r1, rep_int.mp r2, c, VP.here g (rep_int.mpr rfl) q⟩
theorem str_append (a b : List Nat) : (⟨a.toArray⟩ : Str) ++ ⟨b.toArray⟩ = ⟨(a ++ b).toArray⟩ := by
  show Str.append _ _ = _
  unfold Str.append
  simp
theorem O2.addS {a b : List Nat} {Q : D → Mem → Prop} (c : a.length + b.length ≤ 1000000) (q : Q (.str (a ++ b)) M) : O2 G C (binaryOp .Add) (.str a) (.str b) M Q := .of fun X H B x y cx g r1 r2 =>
  ⟨_, op_add_str, _, _, rep_str.mp r1, rep_str.mp r2, by rw [sizeLine_eq]; show a.toArray.size + b.toArray.size ≤ _; simp; omega, VP.here g (rep_str.mpr (by rw [str_append])) q⟩
theorem O2.lt {i j : Int} {Q : D → Mem → Prop} (q : Q (.bl (decide (i < j))) M) : O2 G C (compareOp .Lt) (.int i) (.int j) M Q := .of fun X H B x y cx g r1 r2 => ⟨_, op_lt, i, j, rep_int.mp r1, rep_int.mp r2, VP.here g (rep_bl.mpr rfl) q⟩
theorem O2.le {i j : Int} {Q : D → Mem → Prop} (q : Q (.bl (decide (i ≤ j))) M) : O2 G C (compareOp .LtE) (.int i) (.int j) M Q := .of fun X H B x y cx g r1 r2 => ⟨_, op_le, i, j, rep_int.mp r1, rep_int.mp r2, VP.here g (rep_bl.mpr rfl) q⟩
theorem O2.gt {i j : Int} {Q : D → Mem → Prop} (q : Q (.bl (decide (j < i))) M) : O2 G C (compareOp .Gt) (.int i) (.int j) M Q := .of fun X H B x y cx g r1 r2 => ⟨_, op_gt, i, j, rep_int.mp r1, rep_int.mp r2, VP.here g (rep_bl.mpr rfl) q⟩
theorem O2.ge {i j : Int} {Q : D → Mem → Prop} (q : Q (.bl (decide (j ≤ i))) M) : O2 G C (compareOp .GtE) (.int i) (.int j) M Q := .of fun X H B x y cx g r1 r2 => ⟨_, op_ge, i, j, rep_int.mp r1, rep_int.mp r2, VP.here g (rep_bl.mpr rfl) q⟩
theorem O2.ltS {i j : List Nat} {Q : D → Mem → Prop} (q : Q (.bl (decide (i < j))) M) : O2 G C (compareOp .Lt) (.str i) (.str j) M Q := .of fun X H B x y cx g r1 r2 => ⟨_, op_lt_str, _, _, rep_str.mp r1, rep_str.mp r2, VP.here g (rep_bl.mpr rfl) q⟩
theorem O2.eq {d1 d2 : D} {Q : D → Mem → Prop} (s1 : Shp d1) (s2 : Shp d2) (q : Q (.bl (dEq d1 d2)) M) : O2 G C (compareOp .Eq) d1 d2 M Q := .of fun X H B x y cx g r1 r2 =>
  ⟨_, op_eqD cx.room.units, toP d1, toP d2, by rw [cx.K]; exact rep.dp g.sub s1.ok r1, by rw [cx.K]; exact rep.dp g.sub s2.ok r2, s1.shaped, s2.shaped, VP.here g (rep_bl.mpr rfl) q⟩
theorem O2.ne {d1 d2 : D} {Q : D → Mem → Prop} (s1 : Shp d1) (s2 : Shp d2) (q : Q (.bl (!dEq d1 d2)) M) : O2 G C (compareOp .NotEq) d1 d2 M Q := .of fun X H B x y cx g r1 r2 =>
  ⟨_, op_neD cx.room.units, toP d1, toP d2, by rw [cx.K]; exact rep.dp g.sub s1.ok r1, by rw [cx.K]; exact rep.dp g.sub s2.ok r2, s1.shaped, s2.shaped, VP.here g (rep_bl.mpr rfl) q⟩
/-- own lists in a comparison, as data -/
theorem O2.eqM {d1 d2 e1 e2 : D} {Q : D → Mem → Prop} (a1 : d1 = e1 ∨ ∃ p ds, d1 = .adr p ∧ M p = some (.lst ds) ∧ e1 = .lst ds) (a2 : d2 = e2 ∨ ∃ p ds, d2 = .adr p ∧ M p = some (.lst ds) ∧ e2 = .lst ds) (s1 : Shp e1) (s2 : Shp e2) (q : Q (.bl (dEq e1 e2)) M) : O2 G C (compareOp .Eq) d1 d2 M Q := .of fun X H B x y cx g r1 r2 => by
  have dp : ∀ {d e : D} {v : V}, (d = e ∨ ∃ p ds, d = .adr p ∧ M p = some (.lst ds) ∧ e = .lst ds) → Shp e → rep G.K B d v → Dp X.K H v (toP e) := by
    intro d e v a s r
    rw [cx.K]
    rcases a with rfl | ⟨p, ds, rfl, hp, rfl⟩
    · exact rep.dp g.sub s.ok r
    · rw [rep_adr.mp r]
      obtain ⟨_, o, e, vs, rfl, q⟩ := g.own p _ hp
      have := s.ok
      unfold shp at this
      unfold toP
      exact .lst (SqL.of e) (repL.dps g.sub this q)
  exact ⟨_, op_eqD cx.room.units, toP e1, toP e2, dp a1 s1 r1, dp a2 s2 r2, s1.shaped, s2.shaped, VP.here g (rep_bl.mpr rfl) q⟩
theorem O2.neM {d1 d2 e1 e2 : D} {Q : D → Mem → Prop} (a1 : d1 = e1 ∨ ∃ p ds, d1 = .adr p ∧ M p = some (.lst ds) ∧ e1 = .lst ds) (a2 : d2 = e2 ∨ ∃ p ds, d2 = .adr p ∧ M p = some (.lst ds) ∧ e2 = .lst ds) (s1 : Shp e1) (s2 : Shp e2) (q : Q (.bl (!dEq e1 e2)) M) : O2 G C (compareOp .NotEq) d1 d2 M Q := .of fun X H B x y cx g r1 r2 => by
  have dp : ∀ {d e : D} {v : V}, (d = e ∨ ∃ p ds, d = .adr p ∧ M p = some (.lst ds) ∧ e = .lst ds) → Shp e → rep G.K B d v → Dp X.K H v (toP e) := by
    intro d e v a s r
    rw [cx.K]
    rcases a with rfl | ⟨p, ds, rfl, hp, rfl⟩
    · exact rep.dp g.sub s.ok r
    · rw [rep_adr.mp r]
      obtain ⟨_, o, e, vs, rfl, q⟩ := g.own p _ hp
      have := s.ok
      unfold shp at this
      unfold toP
      exact .lst (SqL.of e) (repL.dps g.sub this q)
  exact ⟨_, op_neD cx.room.units, toP e1, toP e2, dp a1 s1 r1, dp a2 s2 r2, s1.shaped, s2.shaped, VP.here g (rep_bl.mpr rfl) q⟩
/-- one sign in a text -/
theorem O2.inS {c : Nat} {z : List Nat} {Q : D → Mem → Prop} (q : Q (.bl (decide (c ∈ z))) M) : O2 G C (compareOp .In) (.str [c]) (.str z) M Q := .of fun X H B x y cx g r1 r2 => ⟨_, op_in_sign, c, ⟨z.toArray⟩, rep_str.mp r1, rep_str.mp r2, VP.here g (rep_bl.mpr rfl) q⟩
theorem O2.ninS {c : Nat} {z : List Nat} {Q : D → Mem → Prop} (q : Q (.bl (!decide (c ∈ z))) M) : O2 G C (compareOp .NotIn) (.str [c]) (.str z) M Q := .of fun X H B x y cx g r1 r2 => ⟨_, op_notIn_sign, c, ⟨z.toArray⟩, rep_str.mp r1, rep_str.mp r2, VP.here g (rep_bl.mpr rfl) q⟩
theorem ints_vs {K : PySem.W.Frag} {B : Hp} {xs : List Int} {vs : List V} (r : repL K B (iL xs) vs) : vs = xs.map V.int := repL.map_inv (fun x v h => rep_int.mp h) r
theorem strs_vs {K : PySem.W.Frag} {B : Hp} {xs : List (List Nat)} {vs : List V} (r : repL K B (sL xs) vs) : vs = xs.map fun s => V.str ⟨s.toArray⟩ := repL.map_inv (fun x v h => rep_str.mp h) r
theorem bls_vs {K : PySem.W.Frag} {B : Hp} {xs : List Bool} {vs : List V} (r : repL K B (xs.map D.bl) vs) : vs = xs.map V.bl := repL.map_inv (fun x v h => rep_bl.mp h) r
theorem inV_int (i : Int) : ∀ xs : List Int, inV (.int i) (xs.map V.int) = decide (i ∈ xs)
  | [] => rfl
  | x :: xs => by
    have ih := inV_int i xs
    unfold inV at ih ⊢
    rw [List.map_cons, List.any_cons, ih]
    show ((x == i) || decide (i ∈ xs)) = _
    by_cases e : x = i
    · subst e; simp
    · have e2 : ¬ i = x := fun z => e z.symm
      by_cases h : i ∈ xs <;> simp [e, e2, h]
theorem flat_ints (xs : List Int) : (xs.map V.int).all flatV = true := by
  rw [List.all_eq_true]
  intro v hv
  obtain ⟨i, _, rfl⟩ := List.mem_map.mp hv
  rfl
/-- a number in a list of numbers -/
theorem O2.inL {i : Int} {xs : List Int} {d : D} {Q : D → Mem → Prop} (h : IsL M d (iL xs)) (q : Q (.bl (decide (i ∈ xs))) M) : O2 G C (compareOp .In) (.int i) d M Q := .of fun X H B x y cx g r1 r2 => by
  obtain ⟨a, vs, rfl, h1, h2⟩ := h.sq g r2
  have e := ints_vs h2
  subst e
  refine ⟨_, op_in_seq, a, _, rfl, .inl (by rw [cx.K]; exact h1), by rw [rep_int.mp r1]; rfl, flat_ints xs, ?_⟩
  rw [rep_int.mp r1, inV_int]
  exact VP.here g (rep_bl.mpr rfl) q

/-! ### subscripts, slices -/
theorem atI_rep {K : PySem.W.Frag} {B : Hp} {ds : List D} {vs : List V} {i : Int} {e : D} (r : repL K B ds vs) (h : atI ds i = some e) : ∃ v, atI vs i = some v ∧ rep K B e v := by
  unfold atI at h ⊢
  rw [r.length]
  cases q : ixN ds.length i with
  | none => rw [q] at h; cases h
  | some j =>
    rw [q] at h
    exact r.get h
variable {Γ : Gm} {Ex : XPost}
/-- an item of a list -/
theorem E.ixL {a b : Expr} {pos : Pos} {Q : D → Mem → Prop} (h : E G C a Γ M Ex fun d M1 => E G C b Γ M1 Ex fun d2 M2 => ∃ ds i e, IsL M2 d ds ∧ d2 = .int i ∧ atI ds i = some e ∧ Q e M2) (hs : PlainIx b := by intro _ _; rfl) : E G C (.Subscript a b pos) Γ M Ex Q := by
  constructor
  intro X σ H B s
  refine s_ix ix_list hs ?_
  refine (h X σ H B s).mono fun v1 H1 ⟨d1, B1, M1, g1, t1, r1, q1⟩ => ?_
  refine (q1 X σ H1 B1 (s.step g1 t1)).mono fun v2 H2 ⟨d2, B2, M2, g2, t2, r2, ds, i, e, hl, e2, hi, q2⟩ => ?_
  subst e2
  obtain ⟨p, vs, rfl, h1, h2⟩ := hl.sq g2 (r1.mono t2.same)
  obtain ⟨v, h3, h4⟩ := atI_rep h2 hi
  exact ⟨p, vs, i, v, rfl, rep_int.mp r2, by rw [s.cx.K]; exact h1, h3, e, B2, M2, g2, t1.trans t2, h4, q2⟩
/-- of a tuple -/
theorem E.ixT {a b : Expr} {pos : Pos} {Q : D → Mem → Prop} (h : E G C a Γ M Ex fun d M1 => E G C b Γ M1 Ex fun d2 M2 => ∃ ds i e, d = .tup ds ∧ d2 = .int i ∧ atI ds i = some e ∧ Q e M2) (hs : PlainIx b := by intro _ _; rfl) : E G C (.Subscript a b pos) Γ M Ex Q := by
  constructor
  intro X σ H B s
  refine s_ix ix_tup hs ?_
  refine (h X σ H B s).mono fun v1 H1 ⟨d1, B1, M1, g1, t1, r1, q1⟩ => ?_
  refine (q1 X σ H1 B1 (s.step g1 t1)).mono fun v2 H2 ⟨d2, B2, M2, g2, t2, r2, ds, i, e, hl, e2, hi, q2⟩ => ?_
  subst e2 hl
  obtain ⟨p, vs, rfl, h1, h2⟩ := rep_tup.mp (r1.mono t2.same)
  obtain ⟨v, h3, h4⟩ := atI_rep h2 hi
  exact ⟨p, vs, i, v, rfl, rep_int.mp r2, by rw [s.cx.K]; exact Same.sqT g2.sub h1, h3, e, B2, M2, g2, t1.trans t2, h4, q2⟩
/-- a sign of a text -/
theorem E.ixS {a b : Expr} {pos : Pos} {Q : D → Mem → Prop} (h : E G C a Γ M Ex fun d M1 => E G C b Γ M1 Ex fun d2 M2 => ∃ l i c, d = .str l ∧ d2 = .int i ∧ 0 ≤ i ∧ l.length ≤ 1000000 ∧ l[i.toNat]? = some c ∧ Q (.str [c]) M2) (hs : PlainIxT b := by intro _ _; rfl) : E G C (.Subscript a b pos) Γ M Ex Q := by
  constructor
  intro X σ H B s
  refine s_ixS hs ?_
  refine (h X σ H B s).mono fun v1 H1 ⟨d1, B1, M1, g1, t1, r1, q1⟩ => ?_
  refine (q1 X σ H1 B1 (s.step g1 t1)).mono fun v2 H2 ⟨d2, B2, M2, g2, t2, r2, l, i, c, e1, e2, h0, hl, hi, q2⟩ => ?_
  subst e1 e2
  have hlt := (List.getElem?_eq_some_iff.mp hi).1
  refine ⟨⟨l.toArray⟩, i, c, rep_str.mp r1, rep_int.mp r2, h0, ?_, ?_, by simpa using hi, .str [c], B2, M2, g2, t1.trans t2, rep_str.mpr rfl, q2⟩
  · omega
  · show i < ((⟨l.toArray⟩ : Str).length : Int)
    show i < (l.toArray.size : Int)
    simp
    omega
/-- a slice's part -/
@[irreducible] def OI (G : Glob) (C : Sc) (o : Option Expr) (Γ : Gm) (M : Mem) (Ex : XPost) (Q : Option Int → Mem → Prop) : Prop := match o with
    | none => Q none M
    | some e => E G C e Γ M Ex fun d M' => ∃ i, d = .int i ∧ Q (some i) M'
theorem OI.none_ {Q : Option Int → Mem → Prop} (q : Q none M) : OI G C none Γ M Ex Q := by unfold OI; exact q
theorem OI.some_ {e : Expr} {Q : Option Int → Mem → Prop} (q : E G C e Γ M Ex fun d M' => ∃ i, d = .int i ∧ Q (some i) M') : OI G C (some e) Γ M Ex Q := by unfold OI; exact q
theorem OI.run {o : Option Expr} {Q : Option Int → Mem → Prop} (h : OI G C o Γ M Ex Q) {X : Cx} {σ : L2.St} {H B : Hp} (s : S0 G C X Γ M Ex σ H B) {R : Option Int → Hp → Prop}
    (hR : ∀ i H' B' M', Hd G.K H' B' M' → Stp B M H B' M' H' → Q i M' → R i H') : sP G.T X o σ H R := by
  cases o with
  | none => unfold OI at h; exact sP_none (hR none H B M s.hd Stp.refl h)
  | some e =>
    unfold OI at h
    refine sP_some ((h X σ H B s).mono fun v H1 ⟨d, B1, M1, g1, t1, r1, i, e, q⟩ => ?_)
    subst e
    exact ⟨i, rep_int.mp r1, hR _ _ _ _ g1 t1 q⟩
theorem E.slG {r : Cx → V → Option Int → Option Int → Hp → VK → Prop} {e : Expr} {lo hi : Option Expr} {pos p2 : Pos} {Q : D → Mem → Prop} {R : D → Option Int → Option Int → Mem → Prop} (hr : ∀ X, Ctx G C X → SlR X (r X))
    (h : E G C e Γ M Ex fun d M1 => OI G C lo Γ M1 Ex fun l M2 => OI G C hi Γ M2 Ex fun u M3 => R d l u M3)
    (hR : ∀ X d l u M3 H B v Q', Ctx G C X → Hd G.K H B M3 → rep G.K B d v → R d l u M3 → (∀ v' H', VP G B M3 H Q v' H' → Q' v' H') → r X v l u H Q') : E G C (.Subscript e (.Slice lo hi none p2) pos) Γ M Ex Q := by
  constructor
  intro X σ H B s
  refine s_sl (hr X s.cx) ?_
  refine (h X σ H B s).mono fun v1 H1 ⟨d1, B1, M1, g1, t1, r1, q1⟩ => ?_
  refine q1.run (s.step g1 t1) fun l H2 B2 M2 g2 t2 q2 => ?_
  refine q2.run ((s.step g1 t1).step g2 t2) fun u H3 B3 M3 g3 t3 q3 => ?_
  exact hR X d1 l u M3 H3 B3 v1 _ s.cx g3 ((r1.mono t2.same).mono t3.same) q3 fun v' H' q => VP.step ((t1.trans t2).trans t3) q
def cut {α : Type} (xs : List α) (lo hi : Option Int) : List α := (xs.drop (HT.sIx xs.length 0 lo)).take (HT.sIx xs.length xs.length hi - HT.sIx xs.length 0 lo)
theorem cut_rep {K : PySem.W.Frag} {B : Hp} {ds : List D} {vs : List V} (r : repL K B ds vs) (lo hi : Option Int) : repL K B (cut ds lo hi) (cutV vs lo hi) := by
  unfold cut cutV
  rw [r.length]
  exact (r.drop _).take _
theorem E.slS {e : Expr} {lo hi : Option Expr} {pos p2 : Pos} {Q : D → Mem → Prop} (h : E G C e Γ M Ex fun d M1 => OI G C lo Γ M1 Ex fun l M2 => OI G C hi Γ M2 Ex fun u M3 => ∃ s, d = .str s ∧ s.length ≤ 1000000 ∧ Q (.str (cut s l u)) M3) : E G C (.Subscript e (.Slice lo hi none p2) pos) Γ M Ex Q :=
  E.slG (r := fun _ => rSlS) (fun X _ => sl_str) h fun X d l u M3 H B v Q' cx g r ⟨s, e, hl, q⟩ hq => by
    subst e
    refine ⟨⟨s.toArray⟩, rep_str.mp r, by rw [sizeLine_eq]; show s.toArray.size ≤ _; simp; omega, hq _ _ ?_⟩
    have : cutS ⟨s.toArray⟩ l u = ⟨(cut s l u).toArray⟩ := by
      unfold cutS cut
      simp [Str.length]
    rw [this]
    exact VP.here g (rep_str.mpr rfl) q
theorem E.slL {e : Expr} {lo hi : Option Expr} {pos p2 : Pos} {Q : D → Mem → Prop} (h : E G C e Γ M Ex fun d M1 => OI G C lo Γ M1 Ex fun l M2 => OI G C hi Γ M2 Ex fun u M3 => ∃ ds, IsL M3 d ds ∧ Q (.lst (cut ds l u)) M3) : E G C (.Subscript e (.Slice lo hi none p2) pos) Γ M Ex Q :=
  E.slG (r := fun X => rSlL X.K) (fun X _ => sl_list) h fun X d l u M3 H B v Q' cx g r ⟨ds, hl, q⟩ hq => by
    obtain ⟨a, vs, rfl, h1, h2⟩ := hl.sq g r
    refine ⟨a, vs, rfl, by rw [cx.K]; exact h1, fun p hp => hq _ _ (VP.lst g (cut_rep h2 l u) hp q)⟩
theorem E.slT {e : Expr} {lo hi : Option Expr} {pos p2 : Pos} {Q : D → Mem → Prop} (h : E G C e Γ M Ex fun d M1 => OI G C lo Γ M1 Ex fun l M2 => OI G C hi Γ M2 Ex fun u M3 => ∃ ds, d = .tup ds ∧ ¬ (HT.sIx ds.length 0 l = 0 ∧ HT.sIx ds.length ds.length u = ds.length) ∧ Q (.tup (cut ds l u)) M3) : E G C (.Subscript e (.Slice lo hi none p2) pos) Γ M Ex Q :=
  E.slG (r := fun X => rSlT X.K) (fun X _ => sl_tup) h fun X d l u M3 H B v Q' cx g r ⟨ds, e, hn, q⟩ hq => by
    subst e
    obtain ⟨a, vs, rfl, h1, h2⟩ := rep_tup.mp r
    refine ⟨a, vs, rfl, by rw [cx.K]; exact Same.sqT g.sub h1, by rw [h2.length]; exact hn, fun p hp => hq _ _ (VP.tup g (cut_rep h2 l u) hp q)⟩
/-- o[i] = v, o an own list -/
theorem Tg.sub {o i : Expr} {pos : Pos} {d : D} {Q : Gm → Mem → Prop} (h : E G C o Γ M Ex fun d1 M1 => E G C i Γ M1 Ex fun d2 M2 => ∃ p ds k j, d1 = .adr p ∧ M2 p = some (.lst ds) ∧ d2 = .int k ∧ ixN ds.length k = some j ∧ Q Γ (mset M2 p (.lst (ds.set j d))))
    (ha : ∀ env v, assign (.Subscript o i pos) env v = (do
      let ov ← holding [v] (eval o env)
      let iv ← holding [v, ov] (eval i env)
      standAt pos
      holding [v, ov, iv] (setItem ov iv v)
      release [v, ov, iv] []) := by intro _ _; rfl) : Tg G C (.Subscript o i pos) d Γ M Ex Q := by
  constructor
  intro X σ H B v s r
  refine s_sub set_list (ha _) ?_
  refine (h X σ H B s).mono fun v1 H1 ⟨d1, B1, M1, g1, t1, r1, q1⟩ => ?_
  refine (q1 X σ H1 B1 (s.step g1 t1)).mono fun v2 H2 ⟨d2, B2, M2, g2, t2, r2, p, ds, k, j, e1, hp, e2, hk, q2⟩ => ?_
  subst e1 e2
  obtain ⟨bp, o, ho, vs, rfl, rv⟩ := g2.own p _ hp
  refine ⟨p, vs, k, j, rep_adr.mp r1, rep_int.mp r2, ho, by rw [rv.length]; exact hk, ?_⟩
  refine ⟨Γ, B2, _, g2.write (m := .lst (ds.set j d)) hp ⟨_, rfl, rv.set ((r.mono t1.same).mono t2.same) j⟩, (t1.trans t2).trans (Stp.write hp), (s.gm.mono t1.same).mono t2.same, q2⟩

/-! ### methods of built-in types -/
structure Mt (G : Glob) (C : Sc) (id : String) (d : D) (ds : List D) (M : Mem) (Q : D → Mem → Prop) : Prop where
  run : ∀ X H B x xs, Ctx G C X → Hd G.K H B M → rep G.K B d x → repL G.K B ds xs → sM G.T X id x xs H (VP G B M H Q)
instance {G : Glob} {C : Sc} {id : String} {d : D} {ds : List D} {M : Mem} {Q : D → Mem → Prop} : CoeFun (Mt G C id d ds M Q) fun _ => ∀ X H B x xs, Ctx G C X → Hd G.K H B M → rep G.K B d x → repL G.K B ds xs → sM G.T X id x xs H (VP G B M H Q) := ⟨Mt.run⟩
def TyD (M : Mem) (T : String) (d : D) : Prop := (T = "str" ∧ ∃ s, d = .str s) ∨ (T = "list" ∧ ∃ ds, IsL M d ds)
theorem TyD.ok {X : Cx} {T : String} {d : D} {v : V} {H B : Hp} (h : TyD M T d) (cx : Ctx G C X) (g : Hd G.K H B M) (r : rep G.K B d v) : tyV X.K T v H := by
  rcases h with ⟨rfl, s, rfl⟩ | ⟨rfl, ds, hl⟩
  · rw [rep_str.mp r]; rfl
  · obtain ⟨a, vs, rfl, h1, _⟩ := hl.sq g r
    exact .inl ⟨rfl, vs, by rw [cx.K]; exact h1⟩
theorem E.mt {o e : Expr} {es : List Expr} {name : Str} {apos cpos : Pos} {T id : String} {Q : D → Mem → Prop} (pa : PlainAttrs T) (slot : Slot T name id) (hty : typeOf (.builtin id) = pure (.type "method_descriptor"))
    (h : E G C o Γ M Ex fun d M1 => TyD M1 T d ∧ A G C (e :: es) Γ M1 Ex fun ds M2 => Mt G C id d ds M2 Q)
    (hbase : ∀ env, attributeBase o name env (eval o env) = eval o env := by intro _; rfl)
    (hfew : ∀ env, ((backTo cpos (starEach (e :: es) env)).all (fun x => !x.1) && (backToKw cpos (keywordEach [] env)).all (fun x => x.1.isSome)
      && decide ((e :: es).length + ([] : List Keyword).length + (if ([] : List Keyword).isEmpty then 0 else 1) < 30)) = true := by intro _; rfl)
    (hline : (apos.endLine == cpos.line) = true := by rfl) (hs : ∀ env, starEach (e :: es) env = (false, eval e env) :: starEach es env := by intro _; rfl) (hplain : ∀ env, (backTo cpos (starEach es env)).any (·.1) = false := by intro _; rfl) :
    E G C (.Call (.Attribute o name apos) (e :: es) [] cpos) Γ M Ex Q := by
  constructor
  intro X σ H B s
  refine s_mt pa slot hty (hbase _) (hfew _) hline (hs _) (hplain _) ?_
  refine (h X σ H B s).mono fun v1 H1 ⟨d1, B1, M1, g1, t1, r1, ty, q1⟩ => ⟨ty.ok s.cx g1 r1, ?_⟩
  refine (q1 X σ H1 B1 (s.step g1 t1)).mono fun vs H2 ⟨ds, B2, M2, g2, t2, r2, q2⟩ => ?_
  exact (q2 X H2 B2 v1 vs s.cx g2 (r1.mono t2.same) r2).mono fun v H' q => VP.step (t1.trans t2) q
theorem E.mt0 {o : Expr} {name : Str} {apos cpos : Pos} {T id : String} {Q : D → Mem → Prop} (pa : PlainAttrs T) (slot : Slot T name id) (hty : typeOf (.builtin id) = pure (.type "method_descriptor"))
    (h : E G C o Γ M Ex fun d M1 => TyD M1 T d ∧ Mt G C id d [] M1 Q)
    (hbase : ∀ env, attributeBase o name env (eval o env) = eval o env := by intro _; rfl) (hline : (apos.endLine == cpos.line) = true := by rfl) : E G C (.Call (.Attribute o name apos) [] [] cpos) Γ M Ex Q := by
  constructor
  intro X σ H B s
  refine s_mt0 pa slot hty (hbase _) hline ?_
  refine (h X σ H B s).mono fun v1 H1 ⟨d1, B1, M1, g1, t1, r1, ty, q1⟩ => ⟨ty.ok s.cx g1 r1, ?_⟩
  exact (q1 X H1 B1 v1 [] s.cx g1 r1 repL.nil).mono fun v H' q => VP.step t1 q
theorem repL.one {K : PySem.W.Frag} {B : Hp} {d : D} {vs : List V} (r : repL K B [d] vs) : ∃ v, vs = [v] ∧ rep K B d v := by
  obtain ⟨v, r', rfl, h1, h2⟩ := r.cons_inv
  rw [h2.nil_inv]
  exact ⟨v, rfl, h1⟩
theorem repL.two {K : PySem.W.Frag} {B : Hp} {d e : D} {vs : List V} (r : repL K B [d, e] vs) : ∃ v u, vs = [v, u] ∧ rep K B d v ∧ rep K B e u := by
  obtain ⟨v, r', rfl, h1, h2⟩ := r.cons_inv
  obtain ⟨u, rfl, h3⟩ := h2.one
  exact ⟨v, u, rfl, h1, h3⟩
theorem Mt.append {p : Addr} {ds : List D} {e : D} {Q : D → Mem → Prop} (hp : M p = some (.lst ds)) (hl : ds.length ≤ 1000000) (q : Q .non (mset M p (.lst (ds ++ [e])))) : Mt G C "list.append" (.adr p) [e] M Q := by
  constructor
  intro X H B x xs cx g r rs
  obtain ⟨v, rfl, rv⟩ := rs.one
  have ex := rep_adr.mp r
  subst ex
  obtain ⟨bp, o, ho, vs, rfl, rr⟩ := g.own p _ hp
  refine sM_of mt_append ⟨p, vs, v, rfl, rfl, ho, by rw [rr.length, sizeLine_eq]; omega, .non, B, _, g.write (m := .lst (ds ++ [e])) hp ⟨_, rfl, repL.append rr (repL.cons rv repL.nil)⟩, Stp.write hp, rep_non.mpr rfl, q⟩
theorem Mt.pop {p : Addr} {ds : List D} {e : D} {Q : D → Mem → Prop} (hp : M p = some (.lst ds)) (he : ds[ds.length - 1]? = some e) (q : Q e (mset M p (.lst ds.dropLast))) : Mt G C "list.pop" (.adr p) [] M Q := by
  constructor
  intro X H B x xs cx g r rs
  have exs := rs.nil_inv
  subst exs
  have ex := rep_adr.mp r
  subst ex
  obtain ⟨bp, o, ho, vs, rfl, rr⟩ := g.own p _ hp
  obtain ⟨v, h1, h2⟩ := rr.get he
  have rd : repL G.K B ds.dropLast vs.dropLast := by
    rw [List.dropLast_eq_take, List.dropLast_eq_take, rr.length]
    exact rr.take _
  refine sM_of mt_pop ⟨p, vs, v, rfl, rfl, ho, by rw [rr.length]; exact h1, e, B, _, g.write (m := .lst ds.dropLast) hp ⟨_, rfl, rd⟩, Stp.write hp, h2, q⟩
theorem repL.eraseIdx {K : PySem.W.Frag} {B : Hp} : ∀ {ds : List D} {vs : List V} (k : Nat), repL K B ds vs → repL K B (ds.eraseIdx k) (vs.eraseIdx k)
  | [], _, _, r => by rw [r.nil_inv]; exact repL.nil
  | d :: ds, _, 0, r => by
    obtain ⟨v, r', rfl, h1, h2⟩ := r.cons_inv
    exact h2
  | d :: ds, _, k + 1, r => by
    obtain ⟨v, r', rfl, h1, h2⟩ := r.cons_inv
    exact repL.cons h1 (repL.eraseIdx k h2)
theorem Mt.popAt {p : Addr} {ds : List D} {e : D} {i : Int} {Q : D → Mem → Prop} (hp : M p = some (.lst ds)) (h0 : 0 ≤ i) (hl : ds.length ≤ 1000000) (he : ds[i.toNat]? = some e) (q : Q e (mset M p (.lst (ds.eraseIdx i.toNat)))) : Mt G C "list.pop" (.adr p) [.int i] M Q := by
  constructor
  intro X H B x xs cx g r rs
  obtain ⟨v, rfl, rv⟩ := rs.one
  have ev := rep_int.mp rv
  subst ev
  have ex := rep_adr.mp r
  subst ex
  obtain ⟨bp, o, ho, vs, rfl, rr⟩ := g.own p _ hp
  obtain ⟨v, h1, h2⟩ := rr.get he
  have hlt := (List.getElem?_eq_some_iff.mp he).1
  refine sM_of mt_popAt ⟨p, vs, i, i.toNat, v, rfl, rfl, ho, by omega, by omega, seqIndex_of h0 (by rw [rr.length]; omega), h1, e, B, _, g.write (m := .lst (ds.eraseIdx i.toNat)) hp ⟨_, rfl, rr.eraseIdx _⟩, Stp.write hp, h2, q⟩
end
end Dl
/-! Dl5: what a for walks: texts, enumerate, zip. -/
namespace Dl
open PySem PySem.Spec PyProof.Rows L2
theorem s_iterS {X : Cx} {σ : L2.St} {H : Hp} {T : Nat} {tg iter : Expr} {R : It → Hp → Prop} (h : sE T X iter σ H fun x H1 => ∃ w, x = .str w ∧ R (Its w) H1) : sI T X tg iter σ H R := fun pins s k I => by
  refine thn (h pins s k I) fun v s1 ⟨y, H1, I1, r1, w, ew, q⟩ => ?_
  rw [ew] at r1
  obtain ⟨t, rfl⟩ := r1
  have st : ∀ ty : String, ty = "str_ascii_iterator" ∨ ty = "str_iterator" → _ := fun ty hty => turn_str (P := X.prog) (w := X.w) (K := X.K) (tg := tg) s1.heap.objs.size w t ty hty
  cases ha : w.cps.all (· < 128) with
  | true => exact wpAny_pyIter_ascii ha (pi_one (tk := s1.toks) I1 _ (st "str_ascii_iterator" (.inl rfl)) ⟨_, Heap.get?_push_size _ rfl, rfl, rfl⟩ q)
  | false => exact wpAny_pyIter_wide ha (pi_one (tk := s1.toks) I1 _ (st "str_iterator" (.inr rfl)) ⟨_, Heap.get?_push_size _ rfl, rfl, rfl⟩ q)
/-- new pairs, one a turn -/
def ItP (n : Nat) (src : Hp → Prop) (rel : Nat → Hp → V → V → Prop) : It :=
  ⟨fun i H => i < n ∧ src H, fun i H v H' => ∃ T x y, v = .ref T ∧ H T = none ∧ H' = upd H T (.tup [x, y]) ∧ rel i H x y, fun i H => i = n ∧ src H⟩
theorem turn_pairs {P : Program} {w : World} {K : PySem.W.Frag} {tg : Expr} {I : Addr} {fp wr : List Addr} {n : Nat} {src : Hp → Prop} {rel : Nat → Hp → V → V → Prop} {tn : Nat → Heap → Prop} (hI : I ∈ fp) (hwr : ∀ b ∈ wr, b ∈ fp)
    (obj : ∀ i h, tn i h → ∀ b ∈ fp, ∃ o, h.get? b = some o ∧ ∀ v, o.data ≠ .cell v)
    (keep : ∀ i h h', tn i h → (∀ b ∈ fp, ∀ o, h.get? b = some o → h'.get? b = some o) → tn i h')
    (hself : ∀ (A : Around) (i : Nat) (s : Shared) (Q : Value → Shared → Prop) (E : Value → Shared → Prop), tn i s.heap → Q (.ref I) s → wpAny (model P w) A (pyIter (.ref I)) Q E s)
    (hW : ∀ (X : Cx), X.prog = P → X.w = w → X.K = K → X.calm = true → ∀ pins s σ H, Inv X pins σ H s → (∀ b ∈ fp, FpOk X pins H b) → src H → ∃ fp' Y St, GoesN P w X.A tg I fp' wr n Y St ∧ (∀ i, tn i s.heap → St i s.heap) ∧ (∀ i h', St i h' → tn i h') ∧
      ∀ i v h', i < n → Y i s.heap v h' → ∃ T a b x y, v = .ref T ∧ s.heap.objs.size ≤ T ∧ h'.IsTuple T #[a, b] ∧ RelV x a ∧ RelV y b ∧ rel i H x y) :
    Turn P w K tg (ItP n src rel) fp I tn where
  mem := hI
  obj := obj
  keep := keep
  item := by
    intro X hP hw hK hc i pins s σ H E I0 hf st ⟨hi, hs⟩
    obtain ⟨fp', Y, St, W, h1, h2, h3⟩ := hW X hP hw hK hc pins s σ H I0 hf hs
    subst hP hw hK
    refine wpAny_mono (W.goes i s (fun v s2 => ∃ x H', Inv X pins σ H' s2 ∧ RelV x v ∧ (ItP n src rel).yld i H x H' ∧ tn (i + 1) s2.heap ∧ ∀ b ∈ fp, H' b = none) E hi (h1 i st) fun v h' tk hY st' hk htk => ?_) (fun r s1 h => h) fun _ _ z => z
    obtain ⟨T, a, b, x, y, rfl, hT, ht, ra, rb, hr⟩ := h3 i v h' hi hY
    obtain ⟨o, ho, hoc, m, hod⟩ := ht
    have new : ObjOk X.prog X.w (upd H T (.tup [x, y])) h' T (.tup [x, y]) := ⟨by show 2 ≤ sizeLine; decide, [a, b], .cons ra (.cons rb .nil), o, ho, hoc, m, hod⟩
    have I1 : Inv X pins σ (upd H T (.tup [x, y])) { s with heap := h', toks := tk } :=
      I0.turnedNew (ch := wr) (fun b ob hb q => hk b ob hb q) (fun b hb => hf b (hwr b hb)) hT new
    refine ⟨.ref T, _, I1, rfl, ⟨T, x, y, rfl, I0.hok.fresh hT, rfl, hr⟩, h2 _ _ st', fun b hb => ?_⟩
    obtain ⟨ob, eb, _⟩ := obj i s.heap st b hb
    have : b < s.heap.objs.size := Heap.lt_size eb
    rw [upd_ne (Nat.ne_of_lt (Nat.lt_of_lt_of_le this hT))]
    exact (hf b hb).1
  done := by
    intro X hP hw hK hc i pins s σ H E I0 hf st ⟨hi, hs⟩
    obtain ⟨fp', Y, St, W, h1, h2, h3⟩ := hW X hP hw hK hc pins s σ H I0 hf hs
    subst hP hw hK hi
    exact W.stops s (fun s1 => Inv X pins σ H s1) E (h1 i st) fun h' tk hk htk => I0.turnedL (ch := wr) (t' := tk) (fun b o hb q => hk b o hb q) fun b hb => hf b (hwr b hb)
  self := hself
/-- the data of the pairs -/
theorem walks_pairs {G : Glob} {n : Nat} {src : Hp → Prop} {rel : Nat → Hp → V → V → Prop} {ds : List D} {ok : Mem → Prop} {B0 : Hp} (hn : ds.length = n) (hsrc : ∀ H B M, Same B0 B → Hd G.K H B M → ok M → src H)
    (hrel : ∀ i d H B M x y, Same B0 B → Hd G.K H B M → ok M → ds[i]? = some d → rel i H x y → ∃ a b, d = .tup [a, b] ∧ rep G.K B a x ∧ rep G.K B b y) : Walks G (ItP n src rel) ds ok B0 := by
  intro H B M e g o
  have hs := hsrc H B M e g o
  refine ⟨fun i d hd => ⟨⟨by rw [← hn]; exact (List.getElem?_eq_some_iff.mp hd).1, hs⟩, fun v H' ⟨T, x, y, ev, hT, eH, hr⟩ => ?_⟩, hn, hs⟩
  obtain ⟨a, b, rfl, r1, r2⟩ := hrel i d H B M x y e g o hd hr
  subst ev eH
  have sm := (Stp.newB g (o := .tup [x, y]) hT).same
  exact ⟨upd B T (.tup [x, y]), g.newB _ hT, Stp.newB g hT, rep_tup.mpr ⟨T, [x, y], rfl, upd_same, repL.cons (r1.mono sm) (repL.cons (r2.mono sm) repL.nil)⟩⟩
section
variable {G : Glob} {C : Sc} {Γ : Gm} {M : Mem} {Ex : XPost} {tg iter : Expr}
/-- for c in a text -/
def sgL (l : List Nat) : List D := l.map fun c => .str [c]
theorem I1.str {Q : List D → (Mem → Prop) → Mem → Prop} (h : E G C iter Γ M Ex fun d M1 => ∃ l, d = .str l ∧ Q (sgL l) (fun _ => True) M1) : I1 G C tg iter Γ M Ex Q := by
  constructor
  intro X σ H B s
  refine s_iterS ?_
  refine (h X σ H B s).mono fun v H1 ⟨d, B1, M1, g1, t1, r1, l, e, q1⟩ => ?_
  subst e
  refine ⟨⟨l.toArray⟩, rep_str.mp r1, sgL l, _, B1, M1, g1, t1, ?_, q1⟩
  intro H2 B2 M2 _ g2 _
  refine ⟨fun i d hd => ?_, by show l.toArray.size ≤ (sgL l).length; simp [sgL]⟩
  unfold sgL at hd
  rw [List.getElem?_map] at hd
  cases e : l[i]? with
  | none => rw [e] at hd; cases hd
  | some c =>
    rw [e] at hd
    have hd : D.str [c] = d := Option.some.inj hd
    subst hd
    have hi := (List.getElem?_eq_some_iff.mp e).1
    refine ⟨by show i < l.toArray.size; simpa using hi, fun x H' ⟨eH, c', hc, ex⟩ => ?_⟩
    subst eH ex
    have : c' = c := by
      have h2 : l.toArray[i]? = some c' := hc
      rw [List.getElem?_toArray, e] at h2
      exact (Option.some.inj h2).symm
    subst this
    exact ⟨B2, g2, Stp.refl, rep_str.mpr rfl⟩
/-- place, sign -/
def enumS (l : List Nat) : List D := l.zipIdx.map fun p => .tup [.int (p.2 : Int), .str [p.1]]
theorem enumS_get {l : List Nat} {i : Nat} {d : D} (h : (enumS l)[i]? = some d) : ∃ c, l[i]? = some c ∧ d = .tup [.int (i : Int), .str [c]] := by
  unfold enumS at h
  rw [List.getElem?_map, List.getElem?_zipIdx] at h
  cases e : l[i]? with
  | none => rw [e] at h; cases h
  | some c =>
    rw [e] at h
    refine ⟨c, rfl, ?_⟩
    have := Option.some.inj h
    rw [← this]
    simp
theorem enumS_length (l : List Nat) : (enumS l).length = l.length := by simp [enumS]
theorem I1.enumS {e : Expr} {p pos tpos : Pos} {elts : List Expr} {kk : Nat} {Q : List D → (Mem → Prop) → Mem → Prop} (hm : G.mg "enumerate" = none) (h : E G C e Γ M Ex fun d M1 => ∃ l, d = .str l ∧ Q (enumS l) (fun _ => True) M1) (hg : glB C.sc "enumerate" = true := by decide +kernel)
    (hs : ∀ env, starEach [e] env = [(false, eval e env)] := by intro _; rfl) : I1 G C (.Tuple elts kk tpos) (.Call (.Name "enumerate" p) [e] [] pos) Γ M Ex Q := by
  constructor
  intro X σ H B s pins sh kt I
  have hA : sA G.T X [e] σ H (fun vs H1 => ∃ l B1 M1, vs = [.str ⟨l.toArray⟩] ∧ Hd G.K H1 B1 M1 ∧ Stp B M H B1 M1 H1 ∧ Q (Dl.enumS l) (fun _ => True) M1) := by
    refine s_cons (by rw [hs]; rfl) ?_
    refine (h X σ H B s).mono fun v H1 ⟨d, B1, M1, g1, t1, r1, l, e, q1⟩ => ?_
    subst e
    exact sA_of pa_nil ⟨l, B1, M1, by rw [rep_str.mp r1], g1, t1, q1⟩
  refine Call_ (ld_blt I (gl_of s.cx hg) (by rw [s.cx.mg]; exact hm) boot_enumerate (PyProof.Rows.callWith_type1 (thn (hA pos pins sh kt I) fun us s1 h1 => ?_) (hs _) rfl))
  obtain ⟨vs, H1, J, r1, l, B1, M1, ev, g1, t1, q1⟩ := h1
  subst ev
  cases r1 with
  | cons r rr =>
    cases rr
    obtain ⟨t, rfl⟩ := r
    refine call_enumerate_str fun h' he hit hsz hk => wpAny_pyIter_enum he ?_
    have J2 : Inv X pins σ H1 { s1 with heap := h' } := J.kept (t' := s1.toks) hk
    refine ⟨s1.heap.objs.size + 1, [s1.heap.objs.size + 1, s1.heap.objs.size], fun i h => (∃ old, IsEnum h (s1.heap.objs.size + 1) s1.heap.objs.size ((0 : Int) + (i : Int)) old) ∧ h.IsStrIter s1.heap.objs.size (strIterType ⟨l.toArray⟩) ⟨l.toArray⟩ t i,
      ItP l.length (fun _ => True) (fun i _ x y => ∃ c, l[i]? = some c ∧ x = .int (i : Int) ∧ y = .str ⟨#[c]⟩), H1, rfl, J2, ?_, ⟨⟨.none, by simpa using he⟩, hit⟩, fun b hb => ?_, Dl.enumS l, _, B1, M1, g1, t1, ?_, q1⟩
    · refine turn_pairs (wr := [s1.heap.objs.size + 1, s1.heap.objs.size]) (by simp) (fun b hb => hb) (fun i h st b hb => ?_) (fun i h h' st k => ?_) (fun A i s0 Q E st hq => let ⟨⟨_, he⟩, _⟩ := st; wpAny_pyIter_enum he hq) ?_
      · obtain ⟨⟨old, he⟩, ⟨o, ho, hc, hd⟩⟩ := st
        have e' : b = s1.heap.objs.size + 1 ∨ b = s1.heap.objs.size := by simpa using hb
        rcases e' with z | z
        · rw [z]; exact ⟨_, he, fun v q => nomatch q⟩
        · rw [z]; exact ⟨o, ho, fun v q => by rw [hd] at q; cases q⟩
      · obtain ⟨⟨old, he⟩, ⟨o, ho, hc⟩⟩ := st
        exact ⟨⟨old, k _ (by simp) _ he⟩, ⟨o, k _ (by simp) _ ho, hc⟩⟩
      · intro Y hP hw hK hc pins' s' σ' H' I' hf _
        have D0 := Draws.text (prog := X.prog) (w := X.w) (A := Y.A.in1) (I'.ok.hd hc) s1.heap.objs.size ⟨l.toArray⟩ t
        have W := GoesN.enumFrom (elts := elts) (x1 := kk) (pos := tpos) 0 D0 (s1.heap.objs.size + 1) (Nat.succ_ne_self _) (by simp [Nat.succ_ne_self]) (by simp)
        have ez : (⟨l.toArray⟩ : Str).cps.size = l.length := by simp
        rw [ez] at W
        refine ⟨_, _, _, W, fun i st => st, fun i h' st => st, fun i v h' hi ⟨T, tk, x, ev, hT, ⟨c, u, hc', ex⟩, ht⟩ => ?_⟩
        refine ⟨T, _, _, .int (i : Int), .str ⟨#[c]⟩, ev, hT, ht, ⟨tk, by simp⟩, ⟨u, ex⟩, c, ?_, rfl, rfl⟩
        have h2 : l.toArray[i]? = some c := hc'
        rwa [List.getElem?_toArray] at h2
    · have e' : b = s1.heap.objs.size + 1 ∨ b = s1.heap.objs.size := by simpa using hb
      have hle : s1.heap.objs.size ≤ b := by
        rcases e' with z | z
        · rw [z]; exact Nat.le_add_right _ _
        · rw [z]; exact Nat.le_refl _
      exact J.fpOk hle (J.hok.fresh hle)
    · refine walks_pairs (enumS_length l) (fun _ _ _ _ _ _ => trivial) fun i d H2 B2 M2 x y e g o hd ⟨c, hc, ex, ey⟩ => ?_
      obtain ⟨c', hc', rfl⟩ := enumS_get hd
      rw [hc] at hc'
      cases hc'
      subst ex ey
      exact ⟨_, _, rfl, rep_int.mpr rfl, rep_str.mpr rfl⟩

/-- pairs of two texts' sgL -/
def zipSS (a b : List Nat) : List D := (a.zip b).map fun p => .tup [.str [p.1], .str [p.2]]
theorem zipSS_get {a b : List Nat} {i : Nat} {d : D} (h : (zipSS a b)[i]? = some d) : ∃ x y, a[i]? = some x ∧ b[i]? = some y ∧ d = .tup [.str [x], .str [y]] := by
  unfold zipSS at h
  rw [List.getElem?_map] at h
  cases e : (a.zip b)[i]? with
  | none => rw [e] at h; cases h
  | some p =>
    rw [e] at h
    obtain ⟨x, y⟩ := p
    rw [List.getElem?_zip_eq_some] at e
    exact ⟨x, y, e.1, e.2, (Option.some.inj h).symm⟩
theorem zipSS_length (a b : List Nat) : (zipSS a b).length = min a.length b.length := by simp [zipSS]
theorem zip_obj {h : Heap} {z TI TO i1 i2 : Addr} {x1 : Str} {t1 : Tok} {i : Nat} {o2 : Obj} (hz : IsZip h z TI TO .none) (hTI : IsTupOf2 h TI (.ref i1) (.ref i2)) (hTO : ∃ a1 a2, IsTupOf2 h TO a1 a2) (h1 : h.IsStrIter i1 (strIterType x1) x1 t1 i) (h2 : h.get? i2 = some o2) (hd : ∀ v, o2.data ≠ .cell v) :
    ∀ b ∈ [z, TI, TO, i1, i2], ∃ o, h.get? b = some o ∧ ∀ v, o.data ≠ .cell v := by
  intro b hb
  obtain ⟨a1, a2, hTO⟩ := hTO
  obtain ⟨o, ho, hc, hdd⟩ := h1
  have : b = z ∨ b = TI ∨ b = TO ∨ b = i1 ∨ b = i2 := by simpa using hb
  rcases this with r | r | r | r | r
  · rw [r]; exact ⟨_, hz, fun v q => nomatch q⟩
  · rw [r]; exact ⟨_, hTI, fun v q => nomatch q⟩
  · rw [r]; exact ⟨_, hTO, fun v q => nomatch q⟩
  · rw [r]; exact ⟨o, ho, fun v q => by rw [hdd] at q; cases q⟩
  · rw [r]; exact ⟨o2, h2, hd⟩
theorem I1.zipSS {e e2 : Expr} {p pos tpos : Pos} {elts : List Expr} {kk : Nat} {Q : List D → (Mem → Prop) → Mem → Prop} (hm : G.mg "zip" = none) (h : A G C [e, e2] Γ M Ex fun ds M1 => ∃ a b, ds = [.str a, .str b] ∧ Q (Dl.zipSS a b) (fun _ => True) M1) (hg : glB C.sc "zip" = true := by decide +kernel)
    (hs : ∀ env, starEach [e, e2] env = [(false, eval e env), (false, eval e2 env)] := by intro _; rfl) (hs2 : ∀ env, starEach [e2] env = [(false, eval e2 env)] := by intro _; rfl) : I1 G C (.Tuple elts kk tpos) (.Call (.Name "zip" p) [e, e2] [] pos) Γ M Ex Q := by
  constructor
  intro X σ H B s pins sh kt I
  have hA := h X σ H B s
  refine Call_ (ld_blt I (gl_of s.cx hg) (by rw [s.cx.mg]; exact hm) boot_zip (PyProof.Rows.callWith_type1 (thn (hA pos pins sh kt I) fun us s1 h1 => ?_) (by rw [hs, hs2]) (by rw [hs2]; rfl)))
  obtain ⟨vs, H1, J, r1, ds, B1, M1, g1, t1, rd, l1, l2, ed, q1⟩ := h1
  subst ed
  obtain ⟨v1, v2, rfl, ra, rb⟩ := rd.two
  have ra := rep_str.mp ra
  have rb := rep_str.mp rb
  subst ra rb
  obtain ⟨u1, u2, rfl, r1, r2⟩ := vals2 r1
  obtain ⟨tk1, rfl⟩ := r1
  obtain ⟨tk2, rfl⟩ := r2
  refine zip_begins2 (begins_text _ tk1) (begins_text _ tk2) trivial trivial fun h' hz hTI hTO ho1 ho2 hsz hk => ?_
  generalize hN : s1.heap.objs.size = N at *
  have J2 : Inv X pins σ H1 { s1 with heap := h' } := J.kept (t' := s1.toks) hk
  have st1 : h'.IsStrIter N (strIterType ⟨l1.toArray⟩) ⟨l1.toArray⟩ tk1 0 := ⟨_, ho1, rfl, rfl⟩
  have st2 : h'.IsStrIter (N + 1) (strIterType ⟨l2.toArray⟩) ⟨l2.toArray⟩ tk2 0 := ⟨_, ho2, rfl, rfl⟩
  have sf : ∀ (A : Around) (s0 : Shared) (Q : Value → Shared → Prop) (E : Value → Shared → Prop), IsZip s0.heap (N + 4) (N + 2) (N + 3) .none → Q (.ref (N + 4)) s0 → wpAny (model X.prog X.w) A (pyIter (.ref (N + 4))) Q E s0 := fun A s0 Q E hz hq => wpAny_pyIter_zip hz hq
  refine sf X.A _ _ _ hz ?_
  refine ⟨N + 4, [N + 4, N + 2, N + 3, N, N + 1], fun i h => IsZip h (N + 4) (N + 2) (N + 3) .none ∧ IsTupOf2 h (N + 2) (.ref N) (.ref (N + 1)) ∧ (∃ a1 a2, IsTupOf2 h (N + 3) a1 a2) ∧ h.IsStrIter N (strIterType ⟨l1.toArray⟩) ⟨l1.toArray⟩ tk1 i ∧ h.IsStrIter (N + 1) (strIterType ⟨l2.toArray⟩) ⟨l2.toArray⟩ tk2 i,
    ItP (min l1.length l2.length) (fun _ => True) (fun i _ x y => ∃ c c', l1[i]? = some c ∧ l2[i]? = some c' ∧ x = .str ⟨#[c]⟩ ∧ y = .str ⟨#[c']⟩), H1, rfl, J2, ?_, ⟨hz, hTI, ⟨_, _, hTO⟩, st1, st2⟩, fun b hb => ?_, Dl.zipSS l1 l2, _, B1, M1, g1, t1, ?_, q1⟩
  · refine turn_pairs (wr := [N + 4, N + 3, N, N + 1]) (by simp) (by simp) (fun i h ⟨a1, a2, a3, a4, a5⟩ => ?_) (fun i h h' st k => ?_) (fun A i s0 Q E st hq => sf A s0 Q E st.1 hq) ?_
    · obtain ⟨o, ho, hc, hdd⟩ := a5
      exact zip_obj a1 a2 a3 a4 ho fun v q => by rw [hdd] at q; cases q
    · obtain ⟨a1, a2, ⟨b1, b2, a3⟩, ⟨o4, a4, c4⟩, o5, a5, c5⟩ := st
      exact ⟨k _ (by simp) _ a1, k _ (by simp) _ a2, ⟨b1, b2, k _ (by simp) _ a3⟩, ⟨o4, k _ (by simp) _ a4, c4⟩, o5, k _ (by simp) _ a5, c5⟩
    · intro Y hP hw hK hc pins' s' σ' H' I' hf _
      have D1 := Draws.text (prog := X.prog) (w := X.w) (A := Y.A.in1) (I'.ok.hd hc) N ⟨l1.toArray⟩ tk1
      have D2 := Draws.text (prog := X.prog) (w := X.w) (A := Y.A.in1) (I'.ok.hd hc) (N + 1) ⟨l2.toArray⟩ tk2
      have W := GoesN.zip2 (elts := elts) (x1 := kk) (pos := tpos) (zip_sep2 (N := N) (fp1 := []) (fp2 := []) (by simp) (by simp)) D1 D2
      have ez : ∀ l : List Nat, (⟨l.toArray⟩ : Str).cps.size = l.length := by simp
      rw [ez, ez] at W
      refine ⟨_, _, _, W, fun i st => st, fun i h' st => st, fun i v h' hi ⟨T, x, y, ev, hT, ⟨c, u, hc', ex⟩, ⟨c2, u2, hc2, ey⟩, ht⟩ => ?_⟩
      refine ⟨T, _, _, .str ⟨#[c]⟩, .str ⟨#[c2]⟩, ev, hT, ht, ⟨u, ex⟩, ⟨u2, ey⟩, c, c2, ?_, ?_, rfl, rfl⟩
      · have h2 : l1.toArray[i]? = some c := hc'
        rwa [List.getElem?_toArray] at h2
      · have h2 : l2.toArray[i]? = some c2 := hc2
        rwa [List.getElem?_toArray] at h2
  · have hle : N ≤ b := by
      have : b = N + 4 ∨ b = N + 2 ∨ b = N + 3 ∨ b = N ∨ b = N + 1 := by simpa using hb
      rcases this with r | r | r | r | r <;> rw [r] <;> first | exact Nat.le_refl _ | exact Nat.le_add_right _ _
    exact J.fpOk (by rw [hN]; exact hle) (J.hok.fresh (by rw [hN]; exact hle))
  · refine walks_pairs (zipSS_length l1 l2) (fun _ _ _ _ _ _ => trivial) fun i d H2 B2 M2 x y e g o hd ⟨c, c2, hc, hc2, ex, ey⟩ => ?_
    obtain ⟨x', y', hx', hy', rfl⟩ := zipSS_get hd
    rw [hc] at hx'
    rw [hc2] at hy'
    cases hx'
    cases hy'
    subst ex ey
    exact ⟨_, _, rfl, rep_str.mpr rfl, rep_str.mpr rfl⟩
end
end Dl
/-! Dl6: built-in functions and methods, parallel stores. -/
namespace Dl
open PySem PySem.Spec PyProof.Rows L2
section
variable {G : Glob} {C : Sc} {Γ : Gm} {M : Mem} {Ex : XPost}
theorem F1.of {f : Value} {ds : List D} {Q : D → Mem → Prop} (h : ∀ X H B xs, Ctx G C X → Hd G.K H B M → repL G.K B ds xs → ∃ r, CallR X f r ∧ r xs H (VP G B M H Q)) : F1 G C f ds M Q := .mk fun X H B xs cx g r => by
  obtain ⟨r, h1, h2⟩ := h X H B xs cx g r
  exact sF_of h1 h2
theorem lineM {n : Nat} (h : n ≤ 1000000) : n ≤ sizeLine := by rw [sizeLine_eq]; omega
theorem toA_length (l : List Nat) : (⟨l.toArray⟩ : Str).length = l.length := by show l.toArray.size = _; simp
theorem F1.lenS {l : List Nat} {Q : D → Mem → Prop} (hl : l.length ≤ 1000000) (q : Q (.int (l.length : Int)) M) : F1 G C (.builtin "len") [.str l] M Q := .of fun X H B xs cx g r => by
  obtain ⟨v, rfl, rv⟩ := r.one
  exact ⟨_, call_len_str, _, by rw [rep_str.mp rv], by rw [toA_length]; exact lineM hl, VP.here g (rep_int.mpr (by rw [toA_length])) q⟩
theorem F1.lenL {d : D} {ds : List D} {Q : D → Mem → Prop} (h : IsL M d ds) (q : Q (.int (ds.length : Int)) M) : F1 G C (.builtin "len") [d] M Q := .of fun X H B xs cx g r => by
  obtain ⟨v, rfl, rv⟩ := r.one
  obtain ⟨a, vs, rfl, h1, h2⟩ := h.sq g rv
  exact ⟨_, call_len_seq, a, vs, rfl, .inl (by rw [cx.K]; exact h1), VP.here g (rep_int.mpr (by rw [h2.length])) q⟩
theorem F1.lenT {ds : List D} {Q : D → Mem → Prop} (q : Q (.int (ds.length : Int)) M) : F1 G C (.builtin "len") [.tup ds] M Q := .of fun X H B xs cx g r => by
  obtain ⟨v, rfl, rv⟩ := r.one
  obtain ⟨a, vs, rfl, h1, h2⟩ := rep_tup.mp rv
  exact ⟨_, call_len_seq, a, vs, rfl, .inr (by rw [cx.K]; exact Same.sqT g.sub h1), VP.here g (rep_int.mpr (by rw [h2.length])) q⟩
theorem F1.all {d : D} {bs : List Bool} {Q : D → Mem → Prop} (h : IsL M d (bs.map D.bl)) (q : Q (.bl (bs.all id)) M) : F1 G C (.builtin "all") [d] M Q := .of fun X H B xs cx g r => by
  obtain ⟨v, rfl, rv⟩ := r.one
  obtain ⟨a, vs, rfl, h1, h2⟩ := h.sq g rv
  rw [bls_vs h2] at h1
  exact ⟨_, cr_all cx.calm, a, bs, rfl, by rw [cx.K]; exact h1, VP.here g (rep_bl.mpr rfl) q⟩
theorem F1.any {d : D} {bs : List Bool} {Q : D → Mem → Prop} (h : IsL M d (bs.map D.bl)) (q : Q (.bl (bs.any id)) M) : F1 G C (.builtin "any") [d] M Q := .of fun X H B xs cx g r => by
  obtain ⟨v, rfl, rv⟩ := r.one
  obtain ⟨a, vs, rfl, h1, h2⟩ := h.sq g rv
  rw [bls_vs h2] at h1
  exact ⟨_, cr_any cx.calm, a, bs, rfl, by rw [cx.K]; exact h1, VP.here g (rep_bl.mpr rfl) q⟩
theorem F1.max2 {i j : Int} {Q : D → Mem → Prop} (q : Q (.int (max i j)) M) : F1 G C (.builtin "max") [.int i, .int j] M Q := .of fun X H B xs cx g r => by
  obtain ⟨v, u, rfl, r1, r2⟩ := r.two
  refine ⟨_, call_max2 cx.calm, i, j, by rw [rep_int.mp r1, rep_int.mp r2], VP.here g (rep_int.mpr ?_) q⟩
  congr 1
  omega
theorem F1.min2 {i j : Int} {Q : D → Mem → Prop} (q : Q (.int (min i j)) M) : F1 G C (.builtin "min") [.int i, .int j] M Q := .of fun X H B xs cx g r => by
  obtain ⟨v, u, rfl, r1, r2⟩ := r.two
  refine ⟨_, call_min2 cx.calm, i, j, by rw [rep_int.mp r1, rep_int.mp r2], VP.here g (rep_int.mpr ?_) q⟩
  congr 1
  omega
theorem F1.maxL {d : D} {ns : List Int} {Q : D → Mem → Prop} (h : IsL M d (iL ns)) (h0 : 0 < ns.length) (q : ∀ m, m ∈ ns → (∀ y ∈ ns, y ≤ m) → Q (.int m) M) : F1 G C (.builtin "max") [d] M Q := .of fun X H B xs cx g r => by
  obtain ⟨v, rfl, rv⟩ := r.one
  obtain ⟨a, vs, rfl, h1, h2⟩ := h.sq g rv
  rw [ints_vs h2] at h1
  exact ⟨_, cr_max cx.calm, a, ns, rfl, by rw [cx.K]; exact h1, h0, fun m hm hy => VP.here g (rep_int.mpr rfl) (q m hm hy)⟩
theorem F1.minL {d : D} {ns : List Int} {Q : D → Mem → Prop} (h : IsL M d (iL ns)) (h0 : 0 < ns.length) (q : ∀ m, m ∈ ns → (∀ y ∈ ns, m ≤ y) → Q (.int m) M) : F1 G C (.builtin "min") [d] M Q := .of fun X H B xs cx g r => by
  obtain ⟨v, rfl, rv⟩ := r.one
  obtain ⟨a, vs, rfl, h1, h2⟩ := h.sq g rv
  rw [ints_vs h2] at h1
  exact ⟨_, cr_min cx.calm, a, ns, rfl, by rw [cx.K]; exact h1, h0, fun m hm hy => VP.here g (rep_int.mpr rfl) (q m hm hy)⟩
theorem F1.sum {d : D} {ns : List Int} {Q : D → Mem → Prop} (h : IsL M d (iL ns)) (q : Q (.int ns.sum) M) : F1 G C (.builtin "sum") [d] M Q := .of fun X H B xs cx g r => by
  obtain ⟨v, rfl, rv⟩ := r.one
  obtain ⟨a, vs, rfl, h1, h2⟩ := h.sq g rv
  rw [ints_vs h2] at h1
  exact ⟨_, cr_sum cx.calm, a, ns, rfl, by rw [cx.K]; exact h1, VP.here g (rep_int.mpr rfl) q⟩
theorem F1.abs {i : Int} {Q : D → Mem → Prop} (q : Q (.int (i.natAbs : Int)) M) : F1 G C (.builtin "abs") [.int i] M Q := .of fun X H B xs cx g r => by
  obtain ⟨v, rfl, rv⟩ := r.one
  refine ⟨_, call_abs, i, by rw [rep_int.mp rv], VP.here g (rep_int.mpr ?_) q⟩
  congr 1
  omega
theorem F1.intI {i : Int} {Q : D → Mem → Prop} (q : Q (.int i) M) : F1 G C (.type "int") [.int i] M Q := .of fun X H B xs cx g r => by
  obtain ⟨v, rfl, rv⟩ := r.one
  exact ⟨_, call_int1, .inl ⟨i, by rw [rep_int.mp rv], VP.here g (rep_int.mpr rfl) q⟩⟩
theorem F1.intB {b : Bool} {Q : D → Mem → Prop} (q : Q (.int (if b then 1 else 0)) M) : F1 G C (.type "int") [.bl b] M Q := .of fun X H B xs cx g r => by
  obtain ⟨v, rfl, rv⟩ := r.one
  exact ⟨_, call_int1, .inr ⟨b, by rw [rep_bl.mp rv], VP.here g (rep_int.mpr rfl) q⟩⟩
theorem repL.ofMap {α : Type} {K : PySem.W.Frag} {B : Hp} {f : α → D} {g : α → V} (h : ∀ x, rep K B (f x) (g x)) : ∀ xs : List α, repL K B (xs.map f) (xs.map g)
  | [] => repL.nil
  | x :: xs => repL.cons (h x) (repL.ofMap h xs)
theorem F1.sorted {d : D} {ns : List Int} {Q : D → Mem → Prop} (h : IsL M d (iL ns)) (q : ∀ ns' : List Int, ns'.Perm ns → ns'.Pairwise (· ≤ ·) → Q (.lst (iL ns')) M) : F1 G C (.builtin "sorted") [d] M Q := .of fun X H B xs cx g r => by
  obtain ⟨v, rfl, rv⟩ := r.one
  obtain ⟨a, vs, rfl, h1, h2⟩ := h.sq g rv
  rw [ints_vs h2] at h1
  exact ⟨_, cr_sortedI, a, ns, rfl, by rw [cx.K]; exact h1, fun ns' p pm pw hp => VP.lst g (repL.ofMap (fun i => rep_int.mpr rfl) ns') hp (q ns' pm pw)⟩
theorem F1.listL {d : D} {ds : List D} {Q : D → Mem → Prop} (h : IsL M d ds ∨ d = .tup ds) (q : ∀ p, M p = none → Q (.adr p) (mset M p (.lst ds))) : F1 G C (.type "list") [d] M Q := .of fun X H B xs cx g r => by
  obtain ⟨v, rfl, rv⟩ := r.one
  rcases h with h | rfl
  · obtain ⟨a, vs, rfl, h1, h2⟩ := h.sq g rv
    exact ⟨_, call_list_of, a, vs, rfl, .inl (by rw [cx.K]; exact h1), fun l hl => VP.own (m := .lst ds) g ⟨vs, rfl, h2⟩ hl q⟩
  · obtain ⟨a, vs, rfl, h1, h2⟩ := rep_tup.mp rv
    exact ⟨_, call_list_of, a, vs, rfl, .inr (by rw [cx.K]; exact Same.sqT g.sub h1), fun l hl => VP.own (m := .lst ds) g ⟨vs, rfl, h2⟩ hl q⟩
theorem F1.tupL {d : D} {ds : List D} {Q : D → Mem → Prop} (h : IsL M d ds ∨ d = .tup ds) (q : Q (.tup ds) M) : F1 G C (.type "tuple") [d] M Q := .of fun X H B xs cx g r => by
  obtain ⟨v, rfl, rv⟩ := r.one
  rcases h with h | rfl
  · obtain ⟨a, vs, rfl, h1, h2⟩ := h.sq g rv
    exact ⟨_, call_tuple_of, a, vs, rfl, .inl ⟨by rw [cx.K]; exact h1, fun l hl => VP.tup g h2 hl q⟩⟩
  · obtain ⟨a, vs, e, h1, h2⟩ := rep_tup.mp rv
    subst e
    exact ⟨_, call_tuple_of, a, vs, rfl, .inr ⟨by rw [cx.K]; exact Same.sqT g.sub h1, VP.here g rv q⟩⟩
theorem items_sgL {l : List Nat} {acc : Array Value} (h : ItemsOf (SignAt ⟨l.toArray⟩) acc l.toArray.size) : Vals (l.map fun c => V.str ⟨#[c]⟩) acc.toList := by
  have hs : acc.toList.length = l.length := by
    have := h.1
    simpa using this
  have key : ∀ (xs : List Nat) (us : List Value), us.length = xs.length → (∀ (j : Nat) u c, us[j]? = some u → xs[j]? = some c → ∃ t, u = .str ⟨#[c]⟩ t) → Vals (xs.map fun c => V.str ⟨#[c]⟩) us := by
    intro xs
    induction xs with
    | nil => intro us hl _; rw [List.length_eq_zero_iff.mp hl]; exact .nil
    | cons x xs ih =>
      intro us hl hu
      cases us with
      | nil => simp at hl
      | cons u us =>
        obtain ⟨t, rfl⟩ := hu 0 u x (by simp) (by simp)
        exact .cons ⟨t, rfl⟩ (ih us (by simpa using hl) fun j u c h1 h2 => hu (j + 1) u c (by simpa using h1) (by simpa using h2))
  refine key l acc.toList hs fun j u c h1 h2 => ?_
  obtain ⟨c', t, e1, e2⟩ := h.2 j u (by simpa using h1)
  have e1 : l[j]? = some c' := by
    have : l.toArray[j]? = some c' := e1
    simpa using this
  rw [h2] at e1
  cases e1
  exact ⟨t, e2⟩
theorem reps_sgL {K : PySem.W.Frag} {B : Hp} (l : List Nat) : repL K B (Dl.sgL l) (l.map fun c => V.str ⟨#[c]⟩) := repL.ofMap (fun c => rep_str.mpr rfl) l
theorem cr_listS {X : Cx} (hc : X.calm = true) : CallR X (.type "list") (fun xs H Q => ∃ l : List Nat, xs = [.str ⟨l.toArray⟩] ∧ l.length ≤ 1000000 ∧ ∀ p, H p = none → Q (.ref p) (upd H p (.lst (l.map fun c => V.str ⟨#[c]⟩)))) := fun pins s σ H xs us Q I r ⟨l, e, hl, q⟩ => by
  subst e
  obtain ⟨u, rfl, t, rfl⟩ := vals1 r
  refine PySem.call_list_str (I.ok.hd hc) _ t (fun h' tk acc c' kp e it => ?_) (by show l.toArray.size ≤ _; rw [List.size_toArray]; exact lineM hl)
  refine ⟨.ref s.heap.objs.size, _, I.laid (t' := tk) kp (Nat.le_refl _) (o := .lst (l.map fun c => V.str ⟨#[c]⟩)) ?_, rfl, q _ (I.hok.fresh (Nat.le_refl _))⟩
  exact ⟨by rw [List.length_map]; exact lineM hl, acc.toList, c', items_sgL it, by simpa using e⟩
theorem F1.listS {l : List Nat} {Q : D → Mem → Prop} (hl : l.length ≤ 1000000) (q : ∀ p, M p = none → Q (.adr p) (mset M p (.lst (Dl.sgL l)))) : F1 G C (.type "list") [.str l] M Q := .of fun X H B xs cx g r => by
  obtain ⟨v, rfl, rv⟩ := r.one
  exact ⟨_, cr_listS cx.calm, l, by rw [rep_str.mp rv], hl, fun p hp => VP.own (m := .lst (Dl.sgL l)) g ⟨_, rfl, reps_sgL l⟩ hp q⟩
theorem cr_tupS {X : Cx} (hc : X.calm = true) : CallR X (.type "tuple") (fun xs H Q => ∃ l : List Nat, xs = [.str ⟨l.toArray⟩] ∧ l.length ≤ 1000000 ∧ ∀ p, H p = none → Q (.ref p) (upd H p (.tup (l.map fun c => V.str ⟨#[c]⟩)))) := fun pins s σ H xs us Q I r ⟨l, e, hl, q⟩ => by
  subst e
  obtain ⟨u, rfl, t, rfl⟩ := vals1 r
  refine PySem.call_tuple_str (I.ok.hd hc) _ t (fun h' tk acc kp it => ?_) (by show l.toArray.size ≤ _; rw [List.size_toArray]; exact lineM hl)
  have I1 : Inv X pins σ H { s with heap := h', toks := tk } := I.kept (t' := tk) kp
  refine ⟨.ref h'.objs.size, _, I1.laid (t' := tk) (fun b o e => Heap.get?_push_of_some _ e) (Nat.le_refl _) (o := .tup (l.map fun c => V.str ⟨#[c]⟩)) ?_, rfl, q _ (I1.hok.fresh (Nat.le_refl _))⟩
  exact ⟨by rw [List.length_map]; exact lineM hl, acc.toList, items_sgL it, by simpa using IsTup.new h' acc⟩
theorem F1.tupS {l : List Nat} {Q : D → Mem → Prop} (hl : l.length ≤ 1000000) (q : Q (.tup (Dl.sgL l)) M) : F1 G C (.type "tuple") [.str l] M Q := .of fun X H B xs cx g r => by
  obtain ⟨v, rfl, rv⟩ := r.one
  exact ⟨_, cr_tupS cx.calm, l, by rw [rep_str.mp rv], hl, fun p hp => VP.tup g (reps_sgL l) hp q⟩
/-- a value's class -/
def tyN : D → String
  | .non => "NoneType"
  | .bl _ => "bool"
  | .int _ => "int"
  | .str _ => "str"
  | .tup _ => "tuple"
  | .lst _ => "list"
  | .adr _ => "list"
  | .ty _ => "type"
theorem tyx_of {X : Cx} {H B : Hp} {d : D} {v : V} (hK : X.K = G.K) (g : Hd G.K H B M) (hd : (∀ p, d ≠ .adr p) ∧ ∀ n, d ≠ .ty n) (r : rep G.K B d v) : TyX X.K H v (.type (tyN d)) := by
  rw [hK]
  cases d with
  | non => rw [rep_non.mp r]; exact .base .non
  | bl b => rw [rep_bl.mp r]; exact .base (.bl b)
  | int i => rw [rep_int.mp r]; exact .base (.int i)
  | str l => rw [rep_str.mp r]; exact .base (.str _)
  | lst ds =>
    obtain ⟨a, vs, rfl, h1, _⟩ := rep_lst.mp r
    rcases g.sub.seq h1 with (h | ⟨o, h⟩) | ⟨o, its, n, h, hc, _⟩
    · exact .base (.lst h)
    · exact .base (.frz h)
    · exact .kList h hc
  | tup ds =>
    obtain ⟨a, vs, rfl, h1, _⟩ := rep_tup.mp r
    rcases Same.sqT g.sub h1 with (h | ⟨o, h⟩) | ⟨o, its, n, h, hc, _⟩
    · exact .base (.tup h)
    · exact .fTuple h
    · exact .kTuple h hc
  | adr p => exact absurd rfl (hd.1 p)
  | ty n => exact absurd rfl (hd.2 n)
theorem F1.isi {d : D} {n : String} {b : Bool} {Q : D → Mem → Prop} (hd : (∀ p, d ≠ .adr p) ∧ ∀ n, d ≠ .ty n) (hk : kitB (tyN d) n = some b) (q : Q (.bl b) M) : F1 G C (.builtin "isinstance") [d, .ty n] M Q := .of fun X H B xs cx g r => by
  obtain ⟨v, u, rfl, r1, r2⟩ := r.two
  refine ⟨_, call_isi, v, u, .type (tyN d), .type n, b, rfl, ?_, tyx_of cx.K g hd r1, kit_ty hk, VP.here g (rep_bl.mpr rfl) q⟩
  rw [rep_ty.mp r2]
  exact .ty n

/-! ### methods of texts -/
theorem joined (xs : List (List Nat)) : (Txt.join ⟨#[]⟩ (xs.map fun s => (⟨s.toArray⟩ : Str))) = ⟨xs.flatten.toArray⟩ := by
  have key : ∀ xs : List (List Nat), (Str.join ⟨#[]⟩ (xs.map fun s => (⟨s.toArray⟩ : Str))).cps.toList = xs.flatten := by
    intro xs
    induction xs with
    | nil => rfl
    | cons x xs ih =>
      cases xs with
      | nil =>
        show x.toArray.toList = _
        simp
      | cons y ys =>
        show ((⟨x.toArray⟩ : Str) ++ ⟨#[]⟩ ++ Str.join ⟨#[]⟩ ((y :: ys).map fun s => (⟨s.toArray⟩ : Str))).cps.toList = _
        rw [Str.cps_append, Str.cps_append, Array.toList_append, ih]
        simp
  have e : ∀ a b : Str, a.cps.toList = b.cps.toList → a = b := fun a b h => by
    cases a; cases b
    congr 1
    exact Array.toList_inj.mp h
  apply e
  rw [List.toList_toArray]
  show (Builtin.Str.glued _ _).cps.toList = _
  rw [StrLaws.glued_eq_join]
  exact key xs
theorem Mt.join {d : D} {xs : List (List Nat)} {Q : D → Mem → Prop} (h : IsL M d (sL xs) ∨ d = .tup (sL xs)) (hl : (xs.map (·.length)).sum ≤ 1000000) (q : Q (.str xs.flatten) M) : Mt G C "str.join" (.str []) [d] M Q := by
  constructor
  intro X H B x vs cx g r rs
  obtain ⟨v, rfl, rv⟩ := rs.one
  have hv : ∃ a ys, v = .ref a ∧ (SqL G.K H a ys ∨ SqT G.K H a ys) ∧ repL G.K B (sL xs) ys := by
    rcases h with h | rfl
    · obtain ⟨a, ys, e, h1, h2⟩ := h.sq g rv
      exact ⟨a, ys, e, .inl h1, h2⟩
    · obtain ⟨a, ys, e, h1, h2⟩ := rep_tup.mp rv
      exact ⟨a, ys, e, .inr (Same.sqT g.sub h1), h2⟩
  obtain ⟨a, ys, rfl, h1, h2⟩ := hv
  have e := strs_vs h2
  have e2 : ys = (xs.map fun s => (⟨s.toArray⟩ : Str)).map V.str := by rw [e, List.map_map]; rfl
  rw [e2] at h1
  refine sM_of mt_join ⟨⟨#[]⟩, a, _, rep_str.mp r, rfl, by rw [cx.K]; exact h1, ?_, VP.here g (rep_str.mpr (by rw [joined])) q⟩
  have e3 : ((xs.map fun s => (⟨s.toArray⟩ : Str)).map (·.length)) = xs.map (·.length) := by
    rw [List.map_map]
    exact List.map_congr_left fun s _ => toA_length s
  rw [e3]
  show _ + _ * 0 ≤ _
  omega
theorem count_sign (l : List Nat) (c : Nat) : Txt.count ⟨l.toArray⟩ ⟨#[c]⟩ = (l.count c : Int) := by
  rw [count_is]
  show countIn (.str ⟨#[c]⟩) (l.toArray.toList.map fun n => PyData.str ⟨#[n]⟩) = _
  rw [List.toList_toArray]
  induction l with
  | nil => rfl
  | cons x l ih =>
    rw [List.map_cons, List.count_cons]
    show (if PySem.Spec.same (.str ⟨#[x]⟩) (.str ⟨#[c]⟩) = true then (1 : Int) else 0) + countIn (.str ⟨#[c]⟩) (l.map fun n => PyData.str ⟨#[n]⟩) = _
    rw [ih]
    have e : PySem.Spec.same (.str ⟨#[x]⟩) (.str ⟨#[c]⟩) = (x == c) := by
      show ((⟨#[x]⟩ : Str) == ⟨#[c]⟩) = _
      rw [Bool.beq_eq_decide_eq, Bool.beq_eq_decide_eq]
      congr 1
      simp
    rw [e]
    by_cases h : (x == c) = true
    · rw [if_pos h, if_pos h]; omega
    · rw [if_neg h, if_neg h]; omega
theorem Mt.count {l : List Nat} {c : Nat} {Q : D → Mem → Prop} (q : Q (.int (l.count c : Int)) M) : Mt G C "str.count" (.str l) [.str [c]] M Q := by
  constructor
  intro X H B x vs cx g r rs
  obtain ⟨v, rfl, rv⟩ := rs.one
  exact sM_of mt_count ⟨⟨l.toArray⟩, ⟨#[c]⟩, rep_str.mp r, by rw [rep_str.mp rv], VP.here g (rep_int.mpr (by rw [count_sign])) q⟩
end
end Dl
/-! Dl7: parallel stores. -/
namespace Dl
open PySem PySem.Spec PyProof.Rows L2
def starB : Expr → Bool
  | .Starred .. => true
  | _ => false
section
variable {env : Env} {sc : Scope} {a b c : Expr}
theorem swap2 {x y : Str} {px py pt pt2 : Pos} {kt k2} (he : env.scope = sc) (hk : sc.kind = .function) (ha : starB a = false) (hb : starB b = false) (hx : sc.names.lookup x = some .local) (hy : sc.names.lookup y = some .local) (hl : (py.line == px.line) = true) (hne : (y == x) = false)
    (hf : [a, b].all (foldedForSure 8) = false) (hc : [a, b].all (constantsAlone 8) = false) : swappedStores [.Tuple [.Name x px, .Name y py] kt pt] (.Tuple [a, b] k2 pt2) env = pure (some [x, y]) := by
  have kx : env.kindOf x = some .local := by unfold Env.kindOf; rw [he]; exact hx
  have ky : env.kindOf y = some .local := by unfold Env.kindOf; rw [he]; exact hy
  have bk : env.blockKind = .function := by unfold Env.blockKind; rw [he, hk]; rfl
  have hl' : (py.line = px.line) := eq_of_beq hl
  have e1 : ∀ l : List Expr, (∀ z ∈ l, starB z = false) → (l.any fun | .Starred .. => true | _ => false) = false := fun l h => by
    rw [List.any_eq_false]
    intro z hz q
    have := h z hz
    cases z <;> first | (cases this; done) | (cases q; done)
  unfold swappedStores
  simp only [hf, hc, bk, kx, ky, List.length_cons, List.length_nil, List.filterMap_cons, List.filterMap_nil, List.head?_cons, Option.map_some, Option.getD_some, Expr.pos, hl', beq_self_eq_true, Bool.and_self, if_true, List.eraseDups_cons, List.filter_cons, List.filter_nil, hne, Bool.not_false, List.eraseDups_nil]
  have h0 := e1 [a, b] (by
    intro z hz
    rcases List.mem_cons.mp hz with rfl | hz
    · exact ha
    · rcases List.mem_cons.mp hz with rfl | hz
      · exact hb
      · cases hz)
  split
  · rename_i h
    exact absurd h (by decide)
  · split
    · rename_i h
      exact absurd (h.symm.trans h0) (by decide)
    · rfl
theorem swap2N {x y : Str} {px py pt pt2 : Pos} {kt k2} (he : env.scope = sc) (hx : (sc.names.lookup x == some .local && sc.names.lookup y == some .local) = false) :
    swappedStores [.Tuple [.Name x px, .Name y py] kt pt] (.Tuple [a, b] k2 pt2) env = pure none := by
  have kx : env.kindOf x = sc.names.lookup x := by unfold Env.kindOf; rw [he]
  have ky : env.kindOf y = sc.names.lookup y := by unfold Env.kindOf; rw [he]
  have h : (sc.names.lookup x == some .local) = false ∨ (sc.names.lookup y == some .local) = false := Bool.and_eq_false_iff.mp hx
  unfold swappedStores
  split
  · rename_i ts vs e
    simp only [Option.some.injEq, Prod.mk.injEq] at e
    obtain ⟨rfl, rfl⟩ := e
    have key : (List.filterMap (fun (z : Expr) => match z with
          | .Name id pos => if (env.kindOf id == some NameKind.local && pos.line == (Option.map (fun (z : Expr) => z.pos.line) [Expr.Name x px, Expr.Name y py].head?).getD 0) = true then some id else none
          | _ => none) [Expr.Name x px, Expr.Name y py]).length ≠ 2 := by
      rcases h with h | h
      · simp only [List.filterMap_cons, List.filterMap_nil, kx, ky, h, Bool.false_and, Bool.false_eq_true, if_false]
        split <;> simp
      · simp only [List.filterMap_cons, List.filterMap_nil, kx, ky, h, Bool.false_and, Bool.false_eq_true, if_false]
        split <;> simp
    split
    · rfl
    · split
      · rfl
      · dsimp only
        rw [if_pos]
        rw [Bool.or_eq_true]
        left
        rw [bne_iff_ne]
        exact key
  · rename_i h2
    exact (h2 _ _ rfl).elim
end
section
variable {X : Cx} {σ : L2.St} {H : Hp} {T : Nat} {a b : Expr} {pos : Pos}
theorem s_par2 {i j : Nat} {x y : Str} {px py pt pt2 : Pos} {kt k2} {D : Ends} {rest : List Stmt} (hcm : X.calm = true) (hN : X.N.Nodup) (hi : X.N[i]? = some x) (hj : X.N[j]? = some y) (hij : i ≠ j)
    (hx : X.env.scope.names.lookup x = some .local) (hy : X.env.scope.names.lookup y = some .local)
    (hw : swappedStores [.Tuple [.Name x px, .Name y py] kt pt] (.Tuple [a, b] k2 pt2) X.env = pure (some [x, y]))
    (h : sA T X [a, b] σ H fun vs H1 => ∃ v w, vs = [v, w] ∧ sSs T X rest D ((σ.set i (some v)).set j (some w)) H1) : sSs T X (.Assign [.Tuple [.Name x px, .Name y py] kt pt] (.Tuple [a, b] k2 pt2) pos :: rest) D σ H := s_then fun pins s k I => by
  refine PyProof.Rows.Assign_Tuple_swapped (names := [x, y]) (Tuple_ (thn (h pt2 pins s k I) fun us s1 ⟨vs, H1, I1, r1, v, w, ev, q1⟩ => ?_)) rfl hw
  rw [ev] at r1
  obtain ⟨u1, u2, rfl, rv, rw2⟩ := vals2 r1
  refine wpAny_newObj_type ?_ (by show 2 ≤ sizeLine; decide)
  have I2 : Inv X pins σ H1 { s1 with heap := s1.heap.push { cls := .type "tuple", data := .seq [u1, u2].toArray } } := I1.kept (t' := s1.toks) fun b o e => Heap.get?_push_of_some _ e
  refine unpackItems_tuple (items := #[u1, u2]) (I.ok.hd hcm) (IsTup.new s1.heap _) fun h' hx' => ?_
  have I3 := I2.kept (h' := h') (t' := s1.toks) fun b o e => hx' b o (Nat.ne_of_lt (Heap.lt_size e)) e
  refine assignInOrder_cons (wpAny_bindName (store_ok I3 hN hj (.inl hy) rw2 (fun s2 I4 => ?_) (.inr hy)))
  refine assignInOrder_cons (wpAny_bindName (store_ok I4 hN hi (.inl hx) rv (fun s3 I5 => assignInOrder_nil ?_) (.inr hx)))
  rw [List.set_comm _ _ (Ne.symm hij)] at I5
  exact ⟨_, H1, I5, q1⟩
end
def isLoc (sc : Scope) (x : Str) : Bool := match sc.names.lookup x with
  | some .local => true
  | _ => false
theorem isLoc_of {sc : Scope} {x : Str} (h : isLoc sc x = true) : sc.names.lookup x = some .local := by
  unfold isLoc at h
  split at h <;> first | assumption | cases h
def par2B (sc : Scope) (x y : Str) (px py : Pos) (a b : Expr) : Bool := (match sc.kind with | .function => true | _ => false) && isLoc sc x && isLoc sc y && (py.line == px.line) && !(y == x) && !starB a && !starB b && ![a, b].all (foldedForSure 8) && ![a, b].all (constantsAlone 8)
section
variable {G : Glob} {C : Sc} {Γ : Gm} {M : Mem} {P : DE} {rest : List Stmt}
/-- x, y = a, b: two names of the def's own on one line -/
theorem W.par2 {x y : Str} {px py pt pt2 pos : Pos} {kt k2} {a b : Expr} (h : E G C a Γ M P.ex fun d1 M1 => E G C b Γ M1 P.ex fun d2 M2 => ∃ Γ1 Γ2, Upd Γ x d1 Γ1 ∧ Upd Γ1 y d2 Γ2 ∧ W G C rest Γ2 M2 P)
    (hxn : x ∈ C.N := by decide +kernel) (hyn : y ∈ C.N := by decide +kernel) (hb : par2B C.sc x y px py a b = true := by decide +kernel) (hs : ∀ env, starEach [a, b] env = [(false, eval a env), (false, eval b env)] := by intro _; rfl) (hs2 : ∀ env, starEach [b] env = [(false, eval b env)] := by intro _; rfl) :
    W G C (.Assign [.Tuple [.Name x px, .Name y py] kt pt] (.Tuple [a, b] k2 pt2) pos :: rest) Γ M P := by
  constructor
  intro X σ H B s
  unfold par2B at hb
  simp only [Bool.and_eq_true, Bool.not_eq_true'] at hb
  obtain ⟨⟨⟨⟨⟨⟨⟨⟨b1, b2⟩, b3⟩, b4⟩, b5⟩, b6⟩, b7⟩, b8⟩, b9⟩ := hb
  have hk : C.sc.kind = .function := by
    split at b1 <;> first | assumption | cases b1
  obtain ⟨i, hi⟩ := List.mem_iff_getElem?.mp hxn
  obtain ⟨j, hj⟩ := List.mem_iff_getElem?.mp hyn
  have hij : i ≠ j := fun e => by
    subst e
    rw [hi] at hj
    cases hj
    simp at b5
  refine s_par2 (i := i) (j := j) s.cx.calm (by rw [s.cx.N]; exact s.cx.nd) (by rw [s.cx.N]; exact hi) (by rw [s.cx.N]; exact hj) hij (by rw [s.cx.sc]; exact isLoc_of b2) (by rw [s.cx.sc]; exact isLoc_of b3)
    (swap2 s.cx.sc hk b6 b7 (isLoc_of b2) (isLoc_of b3) b4 b5 b8 b9) ?_
  refine s_cons (by rw [hs, hs2]) ((h X σ H B s).mono fun v1 H1 ⟨d1, B1, M1, g1, t1, r1, q1⟩ => ?_)
  refine s_cons (by rw [hs2]; rfl) ((q1 X σ H1 B1 (s.step g1 t1)).mono fun v2 H2 ⟨d2, B2, M2, g2, t2, r2, Γ1, Γ2, u1, u2, q2⟩ => ?_)
  obtain ⟨i', hi', ra⟩ := ((s.gm.mono t1.same).mono t2.same).upd u1 (r1.mono t2.same)
  have e := nodup_ix s.cx.nd hi hi'
  subst e
  obtain ⟨j', hj', rb⟩ := ra.upd u2 r2
  have e := nodup_ix s.cx.nd hj hj'
  subst e
  exact sA_of pa_nil ⟨v1, v2, rfl, DE.step (t1.trans t2) (q2 X _ H2 B2 ⟨s.cx, g2, rb, (s.xo.step t1).step t2⟩)⟩
/-- the same where a name is a cell: by way of a tuple -/
theorem W.par2N {x y : Str} {px py pt pt2 pos : Pos} {kt k2} {a b : Expr} (h : E G C a Γ M P.ex fun d1 M1 => E G C b Γ M1 P.ex fun d2 M2 => ∃ Γ1 Γ2, Upd Γ x d1 Γ1 ∧ Upd Γ1 y d2 Γ2 ∧ W G C rest Γ2 M2 P)
    (hb : (C.sc.names.lookup x == some .local && C.sc.names.lookup y == some .local) = false := by decide +kernel) (hlx : stoB C x = true := by decide +kernel) (hly : stoB C y = true := by decide +kernel)
    (hs : ∀ env, starEach [a, b] env = (false, eval a env) :: starEach [b] env := by intro _; rfl) (hs2 : ∀ env, starEach [b] env = (false, eval b env) :: starEach [] env := by intro _; rfl) :
    W G C (.Assign [.Tuple [.Name x px, .Name y py] kt pt] (.Tuple [a, b] k2 pt2) pos :: rest) Γ M P :=
  W.asg (E.tup (A.cons (h.mono fun d1 M1 q => A.cons (q.mono fun d2 M2 ⟨Γ1, Γ2, u1, u2, w⟩ => A.nil ⟨by simp, Tg.tup (Tgs.cons rfl u1 (Tgs.cons rfl u2 (Tgs.nil w) hly) hlx)⟩) hs2) hs)) (fun _ _ => rfl) fun env he => swap2N he hb
end
/-! ### texts: order, repetition, backwards, one sign struck out -/
section
variable {G : Glob} {C : Sc} {Γ : Gm} {M : Mem} {Ex : XPost}
theorem O2.leS {i j : List Nat} {Q : D → Mem → Prop} (q : Q (.bl (!decide (j < i))) M) : O2 G C (compareOp .LtE) (.str i) (.str j) M Q := .of fun X H B x y cx g r1 r2 => ⟨_, op_le_str, _, _, rep_str.mp r1, rep_str.mp r2, VP.here g (rep_bl.mpr rfl) q⟩
def repS : Nat → List Nat → List Nat
  | 0, _ => []
  | n + 1, l => l ++ repS n l
theorem repS_length (n : Nat) (l : List Nat) : (repS n l).length = n * l.length := by
  induction n with
  | zero => simp [repS]
  | succ n ih => rw [repS, List.length_append, ih, Nat.succ_mul, Nat.add_comm]
theorem repS_fold (x : Str) : ∀ (n : Nat) (acc : Array Nat), ((List.replicate n x.cps).foldl (· ++ ·) acc).toList = acc.toList ++ repS n x.cps.toList
  | 0, acc => by simp [repS]
  | n + 1, acc => by
    rw [List.replicate_succ, List.foldl_cons, repS_fold x n, Array.toList_append, repS, List.append_assoc]
theorem repS_one (n c : Nat) : repS n [c] = List.replicate n c := by
  induction n with
  | zero => rfl
  | succ n ih => rw [repS, ih, List.replicate_succ]; rfl
theorem op_mulS {X : Cx} : OpR X (binaryOp .Mult) (fun x y H Q => ∃ (l : List Nat) (n : Int), x = .str ⟨l.toArray⟩ ∧ y = .int n ∧ -1000000 ≤ n ∧ n ≤ 1000000 ∧ n.toNat * l.length ≤ 1000000 ∧ Q (.str ⟨(repS n.toNat l).toArray⟩) H) := fun pins s σ H x y v u Q I rx ry ⟨l, n, ex, ey, h0, h1, h2, q⟩ => by
  rw [ex] at rx
  rw [ey] at ry
  obtain ⟨t, rfl⟩ := rx
  obtain ⟨t2, rfl⟩ := ry
  have hlen : (⟨l.toArray⟩ : Str).length = l.length := toA_length l
  have hm : ¬ n < 1 → l.length * n.toNat ≤ 1000000 := fun _ => by rw [Nat.mul_comm]; exact h2
  refine PySem.P.mul_str (by rw [decide_eq_false (by omega), decide_eq_false (by omega)]; rfl) (fun hn _ => ?_) (fun hn _ => ?_) ?_
  · rw [hlen]
    have e : (l.length : Int) ≤ 1000000 := by
      have h3 : 1 ≤ n.toNat := by omega
      have : l.length * 1 ≤ l.length * n.toNat := Nat.mul_le_mul_left _ h3
      have := hm hn
      omega
    have : (9223372036854775807 : Int) / 1000000 ≤ (2 ^ 63 - 1) / n := by
      have e2 : (2 ^ 63 - 1 : Int) = 9223372036854775807 := by decide
      rw [e2]
      exact Int.le_ediv_of_mul_le (by omega) (by
        have : (9223372036854775807 : Int) / 1000000 = 9223372036854 := by decide
        rw [this]
        have : (9223372036854 : Int) * n ≤ 9223372036854 * 1000000 := Int.mul_le_mul_of_nonneg_left h1 (by decide)
        omega)
    have e3 : (9223372036854775807 : Int) / 1000000 = 9223372036854 := by decide
    omega
  · rw [hlen]
    have := hm hn
    exact decide_eq_false (by rw [show (sizeLine : Nat) = 16777216 from sizeLine_eq]; omega)
  · by_cases hn : n < 1
    · rw [if_pos hn]
      have e : repS n.toNat l = [] := by
        have : n.toNat = 0 := by omega
        rw [this]; rfl
      rw [e] at q
      exact ⟨by decide, .str ⟨#[]⟩, H, I.tok _, ⟨_, rfl⟩, q⟩
    · rw [if_neg hn]
      by_cases h3 : (n == 1 || (⟨l.toArray⟩ : Str).length == 0) = true
      · rw [if_pos h3]
        have e : repS n.toNat l = l := by
          rcases Bool.or_eq_true_iff.mp h3 with h | h
          · have : n = 1 := eq_of_beq h
            subst this
            show l ++ [] = l
            exact List.append_nil l
          · rw [hlen] at h
            have : l = [] := List.length_eq_zero_iff.mp (eq_of_beq h)
            subst this
            have : ∀ k, repS k [] = [] := fun k => by
              induction k with
              | zero => rfl
              | succ k ih => rw [repS, ih]; rfl
            exact this _
        rw [e] at q
        exact ⟨.str ⟨l.toArray⟩, H, I, ⟨t, rfl⟩, q⟩
      · rw [if_neg h3]
        have e : (⟨(List.replicate n.toNat (⟨l.toArray⟩ : Str).cps).foldl (· ++ ·) #[]⟩ : Str) = ⟨(repS n.toNat l).toArray⟩ := by
          congr 1
          apply Array.toList_inj.mp
          rw [repS_fold]
          simp
        rw [e]
        refine ⟨?_, .str ⟨(repS n.toNat l).toArray⟩, H, I.tok _, ⟨_, rfl⟩, q⟩
        rw [toA_length, repS_length]
        exact lineM h2
theorem O2.mulS {l : List Nat} {n : Int} {Q : D → Mem → Prop} (h0 : -1000000 ≤ n) (h1 : n ≤ 1000000) (h2 : n.toNat * l.length ≤ 1000000) (q : Q (.str (repS n.toNat l)) M) : O2 G C (binaryOp .Mult) (.str l) (.int n) M Q := .of fun X H B x y cx g r1 r2 =>
  ⟨_, op_mulS, l, n, rep_str.mp r1, rep_int.mp r2, h0, h1, h2, VP.here g (rep_str.mpr rfl) q⟩
theorem rev_pick (x : Str) : (Builtin.Str.strSliceIndices none none (-1) x.length).filterMap (x.cps[·]?) = x.cps.toList.reverse := by
  have e : Builtin.Str.strSliceIndices none none (-1) x.length = sliceRange ((x.length : Int) - 1) (-1) (-1) := rfl
  rw [e, PySem.W.krv_sliceRange, PySem.W.krv_range, List.filterMap_reverse]
  congr 1
  exact PySem.W.krv_all x.cps
theorem s_revS {X : Cx} {σ : L2.St} {H : Hp} {T : Nat} {e : Expr} {k : Nat} {p1 p2 p3 pos : Pos} {Q : VK} (h : sE T X e σ H fun x H1 => ∃ l : List Nat, x = .str ⟨l.toArray⟩ ∧ l.length ≤ 1000000 ∧ Q (.str ⟨l.reverse.toArray⟩) H1) :
    sE T X (.Subscript e (.Slice none none (some (.UnaryOp .USub (.Constant (.int 1) k p1) p2)) p3) pos) σ H Q := fun pins s kt I => by
  refine Subscript_ (thn (h pins s kt I) fun v s1 ⟨x, H1, I1, r1, l, ex, hl, q1⟩ => ?_)
  rw [ex] at r1
  obtain ⟨t, rfl⟩ := r1
  have hst : PO X (some (.UnaryOp .USub (.Constant (.int 1) k p1) p2)) (tPart (tUn (rU fun i => .int (-i)) (tC (.int 1)))) := po_some (pe_un un_neg pe_int)
  refine wpAny_Slice (thn (po_none.run pins s1 σ H1 (fun o H2 => o = none ∧ H2 = H1) I1 ⟨rfl, rfl⟩) fun vl s2 ⟨lo, H2, I2, pl, el, e2⟩ => ?_)
  subst el e2
  refine thn (po_none.run pins s2 σ H2 (fun o H3 => o = none ∧ H3 = H2) I2 ⟨rfl, rfl⟩) fun vu s3 ⟨hi, H3, I3, pu, eu, e3⟩ => ?_
  subst eu e3
  refine thn (hst.run pins s3 σ H3 (fun o H4 => o = some (-1) ∧ H4 = H3) I3 ⟨1, rfl, -1, rfl, rfl, rfl⟩) fun vs s4 ⟨o, H4, I4, ps, eo, e4⟩ => ?_
  subst eo e4
  cases pl
  cases pu
  obtain ⟨tk, rfl⟩ : ∃ tk, vs = .int (-1) tk := by
    cases ps
    exact ⟨_, rfl⟩
  have I5 : Inv X pins σ H4 { s4 with heap := s4.heap.push { cls := .type "slice", data := .fields #[.none, .none, .int (-1) tk] } } := I4.kept (t' := s4.toks) fun b ob q => Heap.get?_push_of_some _ q
  show wpAny (model X.prog X.w) X.A (subscriptTail e _ (.str ⟨l.toArray⟩ t) (.ref s4.heap.objs.size)) (EP X pins σ Q) X.xe { s4 with heap := s4.heap.push { cls := .type "slice", data := .fields #[.none, .none, .int (-1) tk] } }
  refine tail_any (ops := [.str ⟨l.toArray⟩ t, .ref s4.heap.objs.size]) (typeIs_str _ _ _) slot_str_getitem.lookup ?_ (by with_unfolding_all rfl)
  refine wpAny_getItem_str_slice (l := none) (u := none) (st := some (-1, tk)) ⟨_, Heap.get?_push_size _ rfl, rfl, rfl⟩ rfl ?_
  unfold sliceMade
  have ne1 : ¬ (((Option.map (fun (z : Int × Tok) => z.1) (some ((-1 : Int), tk))).getD 1 == 1 && (slicePicked ⟨l.toArray⟩ none none (some (-1, tk))).length == (⟨l.toArray⟩ : Str).length) = true) := fun z => by
    have z := (Bool.and_eq_true_iff.mp z).1
    exact absurd (show ((-1 : Int) == 1) = true from z) (by decide)
  rw [if_neg ne1]
  have e5 : (⟨((slicePicked ⟨l.toArray⟩ none none (some (-1, tk))).filterMap ((⟨l.toArray⟩ : Str).cps[·]?)).toArray⟩ : Str) = ⟨l.reverse.toArray⟩ := by
    congr 2
    have := rev_pick ⟨l.toArray⟩
    show List.filterMap _ (Builtin.Str.strSliceIndices none none (-1) (⟨l.toArray⟩ : Str).length) = _
    simpa using this
  rw [e5]
  exact ⟨by rw [toA_length, List.length_reverse]; exact lineM hl, .str ⟨l.reverse.toArray⟩, H4, I5.tok _, ⟨_, rfl⟩, q1⟩
theorem E.revS {e : Expr} {k : Nat} {p1 p2 p3 pos : Pos} {Q : D → Mem → Prop} (h : E G C e Γ M Ex fun d M1 => ∃ l, d = .str l ∧ l.length ≤ 1000000 ∧ Q (.str l.reverse) M1) : E G C (.Subscript e (.Slice none none (some (.UnaryOp .USub (.Constant (.int 1) k p1) p2)) p3) pos) Γ M Ex Q := by
  constructor
  intro X σ H B s
  refine s_revS ((h X σ H B s).mono fun v H1 ⟨d, B1, M1, g1, t1, r1, l, e, hl, q1⟩ => ?_)
  subst e
  exact ⟨l, rep_str.mp r1, hl, .str l.reverse, B1, M1, g1, t1, rep_str.mpr rfl, q1⟩
end
end Dl
/-! Dl8: text.replace(sign, ""), len(set(text)). -/
namespace Dl
open PySem PySem.Spec PyProof.Rows L2
/-- the different signs of a text, as they come -/
def dd (l : List Nat) : List Nat := l.foldl (fun acc c => if c ∈ acc then acc else acc ++ [c]) []
theorem dd_snoc (l : List Nat) (c : Nat) : dd (l ++ [c]) = if c ∈ dd l then dd l else dd l ++ [c] := by
  unfold dd
  rw [List.foldl_append]
  rfl
theorem snoc_ind {α : Type} {P : List α → Prop} (h0 : P []) (h1 : ∀ l c, P l → P (l ++ [c])) : ∀ l, P l := fun l => by
  rw [← List.reverse_reverse l]
  induction l.reverse with
  | nil => exact h0
  | cons c r ih => rw [List.reverse_cons]; exact h1 _ _ ih
theorem mem_dd {l : List Nat} {c : Nat} : c ∈ dd l ↔ c ∈ l := by
  revert c
  induction l using snoc_ind with
  | h0 => intro c; simp [dd]
  | h1 l x ih =>
    intro c
    rw [dd_snoc]
    by_cases h : x ∈ dd l
    · rw [if_pos h, ih, List.mem_append, List.mem_singleton]
      exact ⟨.inl, fun z => z.elim id fun e => by rw [e]; exact ih.mp h⟩
    · rw [if_neg h, List.mem_append, List.mem_append, ih]
theorem dd_le (l : List Nat) : (dd l).length ≤ l.length := by
  induction l using snoc_ind with
  | h0 => simp [dd]
  | h1 l x ih =>
    rw [dd_snoc, List.length_append]
    split
    · omega
    · rw [List.length_append]; simp; omega
theorem dd_full {l : List Nat} : (dd l).length = l.length ↔ l.Nodup := by
  induction l using snoc_ind with
  | h0 => simp [dd]
  | h1 l x ih =>
    have hle := dd_le l
    rw [dd_snoc, List.nodup_append, ← ih]
    by_cases h : x ∈ dd l
    · rw [if_pos h, List.length_append]
      constructor
      · intro e; simp at e; omega
      · intro ⟨_, _, e⟩
        exact absurd rfl (e x (mem_dd.mp h) x (by simp))
    · rw [if_neg h]
      simp only [List.length_append, List.length_cons, List.length_nil]
      constructor
      · intro e
        refine ⟨by omega, by simp, fun a ha b hb e2 => ?_⟩
        have : b = x := by simpa using hb
        subst this e2
        exact h (mem_dd.mpr ha)
      · intro ⟨e, _⟩; omega
section
variable {prog : Program} {w : World} {A : Around} {E : Value → Shared → Prop} {s : Shared}
def hasC (l : List Nat) (k : Str) : Bool := l.any fun c => decide (k = ⟨#[c]⟩)
theorem hasC_snoc (l : List Nat) (c : Nat) (k : Str) : hasC (l ++ [c]) k = (hasC l k || decide (k = ⟨#[c]⟩)) := by
  unfold hasC
  rw [List.any_append]
  simp
theorem hasC_one {l : List Nat} {c : Nat} : hasC l ⟨#[c]⟩ = decide (c ∈ dd l) := by
  unfold hasC
  rw [Bool.eq_iff_iff, List.any_eq_true, decide_eq_true_iff, mem_dd]
  constructor
  · intro ⟨x, hx, e⟩
    have := of_decide_eq_true e
    simp at this
    rw [this]; exact hx
  · intro h
    exact ⟨c, h, by simp⟩
theorem set_loop {R : Result → Shared → Prop} {I S : Addr} {fp wr : List Addr} {Gm : Array GenState → Array GenState → Prop} {l : List Nat} {St : Nat → Shared → Prop} (W : WalksS prog w A.in1 I fp wr Gm l.length (SignAt ⟨l.toArray⟩) St) (hSf : S ∉ fp) (hb : l.length + 1 < scanBound) :
    ∀ (k i : Nat) (s : Shared), l.length - i = k → i ≤ l.length → St i s → s.heap.SetOf (PySem.strKind prog w) S (hasC (l.take i)) (dd (l.take i)).length →
      (∀ z, Moved (S :: wr) Gm s z → z.heap.SetOf (PySem.strKind prog w) S (hasC l) (dd l).length → R (.ok (.ret .none)) z) →
      codeAny (model prog w) A (.builtin "set.update.loop" ⟨[.ref S, .ref I], []⟩) R s := by
  have nw : S ∉ wr := fun h => hSf (W.sub _ h)
  have up : ∀ b ∈ wr, b ∈ S :: wr := fun b h => List.mem_cons_of_mem _ h
  intro k
  induction k with
  | zero =>
    intro i s hk hi st hS hR
    have e : i = l.length := by omega
    rw [e] at hS st
    refine codeAny_builtin PyProof.Rows.F.entry_set_update_loop ?_
    rw [Around.under_plainId PyProof.Rows.F.plain_set_update_loop _]
    show wpAny _ A.in1 (pyNext (.ref I) >>= _) _ _ s
    refine wpAny_bind (W.done s _ _ st fun z m => ?_)
    show wpAny _ A.in1 (ret Value.none) _ _ z
    obtain ⟨o, es, ep, t, ho, more⟩ := hS
    rw [List.take_length] at more
    exact wpAny_pure (hR z (m.mono up) ⟨o, es, ep, t, m.heap S _ nw ho, more⟩)
  | succ k ih =>
    intro i s hk hi st hS hR
    have hlt : i < l.length := by omega
    refine codeAny_builtin PyProof.Rows.F.entry_set_update_loop ?_
    rw [Around.under_plainId PyProof.Rows.F.plain_set_update_loop _]
    show wpAny _ A.in1 (pyNext (.ref I) >>= _) _ _ s
    refine wpAny_bind (W.item i s _ _ hlt st fun v z hv st2 m => ?_)
    obtain ⟨c, t, hc, rfl⟩ := hv
    have hc : l[i]? = some c := by
      have : l.toArray[i]? = some c := hc
      simpa using this
    have hz : z.heap.SetOf (PySem.strKind prog w) S (hasC (l.take i)) (dd (l.take i)).length := by
      obtain ⟨o, es, ep, tb, ho, more⟩ := hS
      exact ⟨o, es, ep, tb, m.heap S _ nw ho, more⟩
    show wpAny _ A.in1 (holding [Value.str ⟨#[c]⟩ t] (setAdd S (.str ⟨#[c]⟩ t)) >>= _) _ _ z
    refine wpAny_bind (wpAny_holding ?_)
    unfold setAdd
    have room : (dd (l.take i)).length + 1 < scanBound := by
      have h1 := dd_le (l.take i)
      have h2 : (l.take i).length ≤ l.length := List.length_take_le' _ _
      omega
    refine wpAny_holding (wpAny_bind ((PySem.strKind prog w).pyHash (k := ⟨#[c]⟩) (strKind_is _ _ _ _) (wpAny_setAddHashed_of (knd := PySem.strKind prog w) (s := { z with toks := z.toks + 1 }) (strKind_is _ _ _ _) rfl hz room fun h2 sb new => ?_)))
    have tk : l.take (i + 1) = l.take i ++ [c] := take_step hc
    have new2 : h2.SetOf (PySem.strKind prog w) S (hasC (l.take (i + 1))) (dd (l.take (i + 1))).length := by
      refine PyProof.Rows.SetOf_congr new (fun x => by rw [tk, hasC_snoc]) ?_
      rw [tk, dd_snoc, hasC_one]
      by_cases h : c ∈ dd (l.take i)
      · rw [if_pos h, if_pos (decide_eq_true h)]
      · rw [if_neg h, if_neg (by simp [h]), List.length_append]; rfl
    refine wpAny_pure ⟨plainId_quiet PyProof.Rows.F.plain_set_update_loop _, ih (i + 1) _ (by omega) hlt (W.frame _ z _ _ st2 (Nat.le_succ _) fun b hb' o e => ?_) new2 fun y m2 fin => ?_⟩
    · exact (sb.2 b fun h => hSf (h ▸ hb')).trans e
    · exact hR y (Moved.trans W.gtrans ((m.mono up).then_heap (Nat.le_succ _) fun b o nb e => (sb.2 b fun h => nb (h ▸ List.mem_cons_self)).trans e) m2) fin
theorem set_text {l : List Nat} {t : Tok} {Q : Value → Shared → Prop} (hh : A.handled = none) (hb : l.length + 1 < scanBound)
    (h : ∀ (h' : Heap) (tk : Nat), h'.SetOf (PySem.strKind prog w) s.heap.objs.size (hasC l) (dd l).length → (∀ b o, s.heap.get? b = some o → h'.get? b = some o) → Q (.ref s.heap.objs.size) { s with heap := h', toks := tk }) :
    wpAny (model prog w) A (call (.type "set") [.str ⟨l.toArray⟩ t]) Q E s := by
  have ⟨q1, q2, mro1⟩ := PySem.F.called_set.mro
  have made1 := PySem.F.called_set.made
  have sub1 := PySem.F.called_set.sub
  refine wpAny_call (codeAny_of_tree ?_)
  show wpAny _ _ (callAny (.type "set") _) _ _ _
  refine wpAny_pure ⟨Code.quiet_builtin _ (by decide +kernel), codeAny_builtin PySem.F.entry_type_call ?_⟩
  rw [Around.under_plain (weight_type_call_type "set" [.str ⟨l.toArray⟩ t] []) rfl]
  have nt := PySem.F.called_set.notType
  have cc := PySem.F.called_set.canCreate
  have ct := PySem.F.typeCall_set_1 (.str ⟨l.toArray⟩ t)
  repeat (any_goals (first | assumption | wp_step))
  refine codeAny_mono (code_set_new_1 (.str ⟨l.toArray⟩ t) (E := E) (Q₁ := fun obj s₁ => ∃ led : Bool, obj = .ref s.heap.objs.size ∧ s₁ = { s with heap := s.heap.push { cls := .type "set", dict := none, data := .set #[] 0 (.fresh 0 0 led) } }) fun led => ⟨led, rfl, rfl⟩) fun r s₁ hr => ?_
  match r, hr with
  | .error e, hr => exact hr
  | .ok .next, hr => exact hr.elim
  | .ok .brk, hr => exact hr.elim
  | .ok .cont, hr => exact hr.elim
  | .ok (.ret obj), ⟨led, e1, e2⟩ =>
    subst e1 e2
    have hS : (s.heap.push ⟨.type "set", none, .set #[] 0 (.fresh 0 0 led), #[]⟩).get? s.heap.objs.size = some ⟨.type "set", none, .set #[] 0 (.fresh 0 0 led), #[]⟩ := Heap.get?_push_size _ rfl
    have hT : Shared.TypeIs { s with heap := s.heap.push ⟨.type "set", none, .set #[] 0 (.fresh 0 0 led), #[]⟩ } (.ref s.heap.objs.size) "set" := ⟨_, hS, rfl⟩
    have li := PySem.F.called_set.init.lookup
    have bi := PySem.F.called_set.init.bind (.ref s.heap.objs.size)
    repeat (any_goals (first | assumption | wp_step))
    refine codeAny_mono (codeAny_call_builtin (R := wants (fun r z => r = .none ∧ ∃ h' tk, z = { s with heap := h', toks := tk } ∧ h'.SetOf (PySem.strKind prog w) s.heap.objs.size (hasC l) (dd l).length ∧ (∀ b o, s.heap.get? b = some o → h'.get? b = some o)) E)
      PySem.F.called_set.init.plain PySem.F.entry_set_init (check_set_init_1 hT ?_)) fun r₂ s₂ hr₂ => ?_
    · have ss := PySem.F.sub_str_set
      have sf := PySem.F.sub_str_frozenset
      have nd : (Value.type "str" == Value.type "dict") = false := by decide
      unfold Builtin.«set.__init__» noKeywords Builtin.Frozenset.updateFrom
      generalize hPI : pyIter = PI
      wp_walk
      subst hPI
      refine wpAny_pyIter_str fun o St W st0 => ?_
      refine wpAny_bind (wpAny_runValue ?_)
      have ne : s.heap.objs.size ∉ [(s.heap.push ⟨.type "set", none, .set #[] 0 (.fresh 0 0 led), #[]⟩).objs.size] := fun z => by
        rw [Heap.size_push] at z
        exact Nat.ne_of_lt (Nat.lt_succ_self _) (List.mem_singleton.mp z)
      have W2 := W A.in1.in1.in1 (by simp [hh])
      have sz : (⟨l.toArray⟩ : Str).cps.size = l.length := by simp
      rw [sz] at W2
      refine set_loop W2.toS ne hb l.length 0 _ (by omega) (Nat.zero_le _) st0 ?_ fun z m fin => ?_
      · refine PyProof.Rows.SetOf_congr ((PyProof.Rows.setObjOf_fresh (knd := PySem.strKind prog w) led).setOf (Heap.get?_push_of_some _ hS) (by unfold scanBound; omega)) (fun _ => rfl) rfl
      · rw [Moved.eq_with m]
        show wpAny _ _ _ _ _ _
        refine wpAny_pure ?_
        show wpAny _ _ (ret Value.none) _ _ _
        refine wpAny_pure ⟨rfl, z.heap, z.toks, rfl, fin, fun b o hbo => ?_⟩
        have hlt := Heap.lt_size hbo
        refine m.heap b o (fun hm => ?_) (Heap.get?_push_of_some _ (Heap.get?_push_of_some _ hbo))
        rcases List.mem_cons.mp hm with e | hm
        · exact absurd e (Nat.ne_of_lt hlt)
        · have e := List.mem_singleton.mp hm
          rw [Heap.size_push] at e
          rw [e] at hlt
          exact absurd hlt (Nat.not_lt.mpr (Nat.le_succ _))
    · match r₂, hr₂ with
      | .error e, hr₂ => exact hr₂
      | .ok .next, hr₂ => exact hr₂.elim
      | .ok .brk, hr₂ => exact hr₂.elim
      | .ok .cont, hr₂ => exact hr₂.elim
      | .ok (.ret r), ⟨e1, h', tk, e2, new, kp⟩ =>
        subst e1 e2
        repeat (any_goals (first | assumption | wp_step))
        exact h _ _ new kp
end
/-! ### the two, as expressions -/
section
variable {X : Cx} {σ : L2.St} {H : Hp} {T : Nat}
theorem s_strike {o : Expr} {x : Str} {c : Nat} {t0 : Tok} {p1 p2 apos pos : Pos} {j : Nat} {Q : VK} (hg : Gl X x) (hm : X.mg x = some (.str ⟨#[c]⟩ t0)) (h0 : t0 ≠ 0) (hT : t0 < T) (hdb : (x == ("__debug__" : Str)) = false)
    (hst : starEach [.Name x p1, .Constant (.str "") j p2] X.env = [(false, eval (.Name x p1) X.env), (false, eval (.Constant (.str "") j p2) X.env)])
    (hbase : attributeBase o "replace" X.env (eval o X.env) = eval o X.env) (hline : (apos.endLine == pos.line) = true)
    (h : sE T X o σ H fun v H1 => ∃ l : List Nat, v = .str ⟨l.toArray⟩ ∧ l.length ≤ 1000000 ∧ Q (.str ⟨(l.filter (· != c)).toArray⟩) H1) :
    sE T X (.Call (.Attribute o "replace" apos) [.Name x p1, .Constant (.str "") j p2] [] pos) σ H Q := fun pins s k I => by
  refine PySem.Call_method2 hbase hst hline (thnT k (h pins s k I) fun v s1 k1 ⟨y, H1, I1, r1, l, ey, hl, q⟩ => ?_)
  rw [ey] at r1
  obtain ⟨tx, rfl⟩ := r1
  refine ⟨"str", _, F.plainAttrs_str, F.slot_str_replace, F.type_str_replace, typeIs_str _ _ _, (fun _ e => nomatch e), Calls.callWith_builtin rfl (Calls.evalArgs_plain (Calls.spliced_cons (ld_glob I1 hg hm ?_ hdb)))⟩
  refine Calls.spliced_cons (Calls.Constant_str (Calls.spliced_nil ?_))
  have hlen : (⟨l.toArray⟩ : Str).length = l.length := toA_length l
  have a1 : s1.toks ≠ 0 := Nat.ne_of_gt (Nat.lt_of_le_of_lt (Nat.zero_le t0) (Nat.lt_of_lt_of_le hT k1))
  have a2 : t0 ≠ s1.toks := Nat.ne_of_lt (Nat.lt_of_lt_of_le hT k1)
  refine PySem.SC.replace h0 a1 a2 rfl ?_ fun t' m => ⟨.str (Txt.replace ⟨l.toArray⟩ ⟨#[c]⟩ ⟨#[]⟩), H1, (I1.tok (s1.toks + 1)).tok m, ⟨t', rfl⟩, ?_⟩
  · rw [hlen]
    show _ + _ * 0 ≤ _
    omega
  · have e : Txt.replace ⟨l.toArray⟩ ⟨#[c]⟩ ⟨#[]⟩ = ⟨(l.filter (· != c)).toArray⟩ := by
      have := replace_strikes ⟨l.toArray⟩ c
      cases hq : Txt.replace ⟨l.toArray⟩ ⟨#[c]⟩ ⟨#[]⟩ with
      | mk a =>
        rw [hq] at this
        congr 1
        apply Array.toList_inj.mp
        simpa using this
    rw [e]
    exact q
theorem s_lenset {e : Expr} {p p2 pos pos2 : Pos} {Q : VK} (hc : X.calm = true) (hg : Gl X "len") (hm : X.mg "len" = none) (hg2 : Gl X "set") (hm2 : X.mg "set" = none) (hs : starEach [e] X.env = [(false, eval e X.env)])
    (hs2 : starEach [.Call (.Name "set" p2) [e] [] pos2] X.env = [(false, eval (.Call (.Name "set" p2) [e] [] pos2) X.env)])
    (h : sE T X e σ H fun v H1 => ∃ l : List Nat, v = .str ⟨l.toArray⟩ ∧ l.length < 4000 ∧ Q (.int ((dd l).length : Nat)) H1) : sE T X (.Call (.Name "len" p) [.Call (.Name "set" p2) [e] [] pos2] [] pos) σ H Q := fun pins s k I => by
  have hA : sA T X [e] σ H fun vs H1 => ∃ l : List Nat, vs = [.str ⟨l.toArray⟩] ∧ l.length < 4000 ∧ Q (.int ((dd l).length : Nat)) H1 := s_cons (by rw [hs]; rfl) (h.mono fun v H1 ⟨l, ev, q⟩ => sA_of pa_nil ⟨l, by rw [ev], q⟩)
  refine wpAny_Call_Name_kw (ld_blt I hg hm (show bootBuiltins "len" = some (.builtin "len") by rfl) (PyProof.Rows.callWith_builtin1 ?_ hs2 rfl))
  rw [hs2]
  show wpAny _ _ (spliced ((false, eval (.Call (.Name "set" p2) [e] [] pos2) X.env) :: backTo pos [])) _ _ s
  refine Calls.spliced_cons (wpAny_Call_Name_kw (ld_blt I hg2 hm2 (show bootBuiltins "set" = some (.type "set") by rfl) (PyProof.Rows.callWith_type1 (thn (hA pos2 pins s k I) fun us s1 ⟨vs, H1, I1, r1, l, ey, hl, q⟩ => ?_) hs rfl)))
  rw [ey] at r1
  obtain ⟨u, rfl, t, rfl⟩ := vals1 r1
  refine set_text (I1.ok.hd hc) (by unfold scanBound; omega) fun h' tk new kp => ?_
  refine Calls.spliced_nil ?_
  obtain ⟨o, es, ep, tb, ho, ex, hd, _, _, hbd, hf, hsz⟩ := new
  have hdl := dd_le l
  refine call_len_set ho ex hd hf (by omega) ⟨.int ((dd l).length : Nat), H1, ?_, ⟨_, by rw [hsz]⟩, q⟩
  exact I1.kept (h' := h') (t' := tk + 1 + 1) kp
end
section
variable {G : Glob} {C : Sc} {Γ : Gm} {M : Mem} {Ex : XPost}
/-- text.replace(name, ""), name a module's constant of one sign -/
theorem E.strike {o : Expr} {x : Str} {c : Nat} {p1 p2 apos pos : Pos} {j : Nat} {Q : D → Mem → Prop} (hm : ∃ t, G.mg x = some (.str ⟨#[c]⟩ t) ∧ t ≠ 0 ∧ t < G.T) (h : E G C o Γ M Ex fun d M1 => ∃ l, d = .str l ∧ l.length ≤ 1000000 ∧ Q (.str (l.filter (· != c))) M1)
    (hg : glB C.sc x = true := by decide +kernel) (hdb : (x == ("__debug__" : Str)) = false := by decide +kernel)
    (hst : ∀ env, starEach [.Name x p1, .Constant (.str "") j p2] env = [(false, eval (.Name x p1) env), (false, eval (.Constant (.str "") j p2) env)] := by intro _; rfl)
    (hbase : ∀ env, attributeBase o "replace" env (eval o env) = eval o env := by intro _; rfl) (hline : (apos.endLine == pos.line) = true := by rfl) :
    E G C (.Call (.Attribute o "replace" apos) [.Name x p1, .Constant (.str "") j p2] [] pos) Γ M Ex Q := by
  constructor
  intro X σ H B s
  obtain ⟨t, h1, h2, h3⟩ := hm
  refine s_strike (gl_of s.cx hg) (by rw [s.cx.mg]; exact h1) h2 h3 hdb (hst _) (hbase _) hline ?_
  refine (h X σ H B s).mono fun v H1 ⟨d, B1, M1, g1, t1, r1, l, e, hl, q1⟩ => ?_
  subst e
  exact ⟨l, rep_str.mp r1, hl, .str (l.filter (· != c)), B1, M1, g1, t1, rep_str.mpr rfl, q1⟩
/-- len(set(text)) -/
theorem E.lenset {e : Expr} {p p2 pos pos2 : Pos} {Q : D → Mem → Prop} (hm : G.mg "len" = none) (hm2 : G.mg "set" = none) (h : E G C e Γ M Ex fun d M1 => ∃ l, d = .str l ∧ l.length < 4000 ∧ Q (.int ((dd l).length : Nat)) M1)
    (hg : glB C.sc "len" = true := by decide +kernel) (hg2 : glB C.sc "set" = true := by decide +kernel) (hs : ∀ env, starEach [e] env = [(false, eval e env)] := by intro _; rfl)
    (hs2 : ∀ env, starEach [.Call (.Name "set" p2) [e] [] pos2] env = [(false, eval (.Call (.Name "set" p2) [e] [] pos2) env)] := by intro _; rfl) :
    E G C (.Call (.Name "len" p) [.Call (.Name "set" p2) [e] [] pos2] [] pos) Γ M Ex Q := by
  constructor
  intro X σ H B s
  refine s_lenset s.cx.calm (gl_of s.cx hg) (by rw [s.cx.mg]; exact hm) (gl_of s.cx hg2) (by rw [s.cx.mg]; exact hm2) (hs _) (hs2 _) ?_
  refine (h X σ H B s).mono fun v H1 ⟨d, B1, M1, g1, t1, r1, l, e, hl, q1⟩ => ?_
  subst e
  exact ⟨l, rep_str.mp r1, hl, .int ((dd l).length : Nat), B1, M1, g1, t1, rep_int.mpr rfl, q1⟩
end
end Dl
/-! Dl9: a law's end, with the tokens that the top has given out. -/
namespace Dl
open PySem PySem.Spec PyProof.Rows L2 PySem.W PySem.Calls
/-- a module's texts whose tokens the top gave out -/
def tokO (us : List Str) (K : Frag) (tk : Nat) : Bool := us.all fun x => match nsIn K mainGlobals x with
  | some (some (.str _ t)) => decide (0 < t) && decide (t < tk)
  | _ => false
theorem tokO_ok {us : List Str} {K : Frag} {tk : Nat} {h : Heap} {mg : Str → Option Value} (X : K.In h) (G : h.Ns mainGlobals mg) (c : tokO us K tk = true) {x : Str} (hx : x ∈ us) {z : Str} (hz : (He.Fa.str x z).ok K = true) : ∃ t, mg x = some (.str z t) ∧ t ≠ 0 ∧ t < tk := by
  have q := List.all_eq_true.mp c x hx
  obtain ⟨t, e⟩ := He.str_ok X G hz
  cases e2 : nsIn K mainGlobals x with
  | none => rw [e2] at q; cases q
  | some o =>
    cases o with
    | none => rw [e2] at q; cases q
    | some v =>
      rw [e2] at q
      cases v with
      | str y t2 =>
        have e3 := mg_of X G e2
        rw [e] at e3
        cases e3
        obtain ⟨q1, q2⟩ := Bool.and_eq_true_iff.mp (show (decide (0 < t) && decide (t < tk)) = true from q)
        exact ⟨t, e, Nat.ne_of_gt (of_decide_eq_true q1), of_decide_eq_true q2⟩
      | _ => cases q
abbrev AlT : Type := He.AlD × Bool
/-- what the heap and the tokens say -/
def SayT (fa : List He.Fa) (fn : List He.DefD) (us : List Str) (h : Heap) (tk : Nat) : Prop := ∃ K : Frag, K.In h ∧ He.SaysD fa fn K ∧ tokO us K tk = true
def hookT (n : Nat) (fa : List He.Fa) (fn : List He.DefD) (us : List Str) : Hook where
  α := AlT
  obs := fun s => (He.obsDG n fa fn s.heap.get?, tokO us (He.frG s.heap.get? (He.asD s.heap.get? n)) s.toks)
  val := fun _ => (He.valD fn, true)
  says := fun _ h => ∃ K : Frag, K.In h ∧ He.SaysD fa fn K
  of := fun _ _ e => ⟨_, He.frG_in, congrArg (fun z : AlT => z.1) e⟩
  keeps := fun _ _ _ ⟨K, hK, c⟩ k => ⟨K, Frag.In.keeps hK k, c⟩
theorem hookT_say {n : Nat} {fa : List He.Fa} {fn : List He.DefD} {us : List Str} {w : World} {s : Shared} (e : (hookT n fa fn us).obs s = (hookT n fa fn us).val w) : SayT fa fn us s.heap s.toks :=
  ⟨_, He.frG_in, congrArg (fun z : AlT => z.1) e, congrArg (fun z : AlT => z.2) e⟩
/-- the same off the tree -/
def obT (n : Nat) (fa : List He.Fa) (fn : List He.DefD) (us : List Str) (s : SharedT) : AlT := (He.obsDG n fa fn (HandSHeadRun.getT s), tokO us (He.frG (HandSHeadRun.getT s) (He.asD (HandSHeadRun.getT s) n)) s.toks)
theorem obT_eq {n : Nat} {fa : List He.Fa} {fn : List He.DefD} {us : List Str} (s : SharedT) : obT n fa fn us s = (hookT n fa fn us).obs s.abs := by
  have e : HandSHeadRun.getT s = s.abs.heap.get? := funext (HandSHeadRun.getT_eq s)
  unfold obT
  rw [e]
  rfl
/-- a row whose top was run: the call at the heap behind the script, the tokens known -/
theorem row_T {r : OpenRow} {q : Program} {n : Nat} {fa : List He.Fa} {fn : List He.DefD} {us : List Str} {M : Nat} {loose : List Str} {d : DefRec} {kwd : List (Str × Expr)}
    (e : opening r.prog = plainProg r.prog.main.scope.names) (f : ∀ s, fenceModules? r.prog s = some s) (run : ∀ w, HandSHeadRun.RunEq r q (hookT n fa fn us) (obT n fa fn us) M loose w)
    (hdef : defOf q r.name = some (d, kwd)) (hp : r.prog.theDef r.name = some (d.params, d.body, d.scope)) (hk : kwWritten? d.params.kwonlyargs d.params.kw_defaults = some kwd)
    (hwr : (!r.writes || r.records.isEmpty) = true) (k1 : r.wellSaid = true) (ok : (chainsOk q && opensWell r.prog && (frees r.toRowW && r.within.isEmpty)) = true) (hb : r.prog.bare) (hw : r.toRowW.promised)
    (call : ∀ (w : World) (s₀ s₁ : Shared) (mg mb : Str → Option Value), Ground q loose r.records (XL q []) w s₀ mg mb s₁.heap → SayT fa fn us s₁.heap s₀.toks → ∀ (a : Addr) (o : Obj) (pm cd doc dV kV : Value), s₁.heap.get? a = some o →
      o.data = .func { docDef d.name d.params d.body d.scope pm cd doc with defaults := dV, kwdefaults := kV } → s₁.heap.CodeRec cd d.name → Dflts mg s₁.heap d.params kwd dV kV → mg d.name = some (.ref a) →
      ∀ (args : List WData) (vals : List Value) (as : List Addr), r.toRowW.claim.pre args = true → WData.layableAll args = true → Laid r.records w s₀ s₁ args vals as →
        wpAny (model r.prog w) callerA (PySem.call (.ref a) vals) (fun v z => GoodWG r.toRowW.claim (classAt s₀.heap) (ExcName.means s₀.heap) args s₁ (.ok (.ret v)) z)
          (fun x z => GoodWG r.toRowW.claim (classAt s₀.heap) (ExcName.means s₀.heap) args s₁ (.error x) z) s₁) : r.Holds := by
  have lft : LeftO r.prog q loose (fun s => xlAt q [] s && recOk r.toRowW.records s) (hookT n fa fn us).obs (hookT n fa fn us).val (M + 600) true :=
    HandSHeadRun.left_one (M := M) e (Nat.ble_eq_true_of_le (by omega)) f (Nat.ble_eq_true_of_le (by omega)) fun w os => by
      have z := run w os
      rw [show obT n fa fn us = fun s => (hookT n fa fn us).obs s.abs from funext obT_eq] at z
      simp only [HandSHeadRun.endQ_eq, HandSHeadRun.seenQ_eq]
      exact z
  obtain ⟨kA, kB⟩ := Bool.and_eq_true_iff.mp ok
  obtain ⟨chain, opn⟩ := Bool.and_eq_true_iff.mp kA
  obtain ⟨fre, wth⟩ := Bool.and_eq_true_iff.mp kB
  obtain ⟨same0, u0, a0, ap0, m0⟩ := frees_parts fre
  refine ⟨k1, hw, ⟨hb, opn, by show r.toRowW.makers.map _ = []; rw [m0]; rfl⟩, hw.witness, fun w => ⟨(lft.behind (XP := XL q []) (fun s z => xl_of s (Bool.and_eq_true_iff.mp z).1) chain w).1, fun sE hE => ?_⟩⟩
  obtain ⟨sF, fe, g0, s, top, slp, gE, nsE, Gr0, obs⟩ := (lft.behind (XP := fun mg h => XL q [] mg h ∧ RecFacts r.records h) (fun s z => ⟨xl_of s (Bool.and_eq_true_iff.mp z).1, recFacts_of (Bool.and_eq_true_iff.mp z).2⟩) chain w).2 sE hE
  have Gr1 : Ground q loose [] (XL q []) w s (s.heap.nsMap mainGlobals) (s.heap.nsMap builtinsNs) s.heap := { T := Gr0.T, B := Gr0.B, D := Gr0.D, TE := Gr0.TE, TD := Gr0.TD, W := Gr0.W, X := Gr0.X.1, cls := Gr0.cls, has := Gr0.has, apart := Gr0.apart, once := Gr0.once, K := Gr0.K }
  have rec0 := Gr0.X.2
  have top0 := top
  refine ⟨sF, fe, g0, s, top, fun nm hnm => ?_, rec0.1, rec0.2.1, ?_⟩
  · have en : nm = r.name := by
      split at hnm <;> simp_all
    rw [en]
    exact pinned_of_view nsE Gr1 hdef hp hk
  have gN : s.gens = #[] := Array.eq_empty_of_size_eq_zero (beq_iff_eq.mp gE)
  have Gr : Ground q loose r.records (XL q []) w s _ _ s.heap := rec0.ground Gr1
  refine ClaimW.callFrom_of_specG (c := r.toRowW.claim) slp gN fun args pre lay ord perm => ?_
  obtain ⟨⟨vals, s₁⟩, laid⟩ := Option.isSome_iff_exists.mp (layAllW_isSome (P := w.params) (ord := ord) Gr.has args r.toRowW.args s (pre_splitW pre).1)
  have kp := layAllW_keeps _ _ _ laid
  have rst := layAllW_rest _ _ _ laid
  obtain ⟨as, rd, inn, old⟩ := reads_layAllW perm _ _ _ laid lay s₁.heap (fun _ _ z => z)
  have L : Laid r.records w s s₁ args vals as := ⟨⟨ord, perm, laid⟩, rd, inn, old, kp, rst.1.trans gN, rst.2.2.1⟩
  have Gr2 := Gr.keeps XL.keeps kp
  obtain ⟨a, o, pm, cd, doc, dV, kV, h1, h2, h3, h4, h5⟩ := Gr2.fn hdef
  obtain ⟨K, inK, say, tok⟩ := hookT_say obs
  have body := call w s s₁ _ _ Gr2 ⟨K, Frag.In.keeps inK kp, say, tok⟩ a o pm cd doc dV kV h2 h3 h4 h5 (defOf_name hdef ▸ h1) args vals as pre lay L
  have idn := ident_freeW u0 a0 ap0
  have wi0 : r.toRowW.claim.within = [] := List.isEmpty_iff.mp wth
  have gets : s₁.heap.Ns mainGlobals _ := Gr2.T.g
  refine ⟨vals, s₁, laid, wpAny_bind (wpAny_nsGet gets ?_)⟩
  rw [h1]
  refine wpAny_bind (wpAny_mono body (fun v z good => wpAny_pure ⟨_, rfl, ?_⟩) fun x z good => ?_)
  · have y := good.laid (c := r.toRowW.claim) same0 wi0 idn L
    exact ⟨y.1, y.2.1, y.2.2, fun q => ⟨namesKept_of top0 nsE _ kp good.2.1.old, noTable hwr q⟩⟩
  · have y := good.laid (c := r.toRowW.claim) same0 wi0 idn L
    exact ⟨y.1, y.2.1, y.2.2, fun q => ⟨namesKept_of top0 nsE _ kp good.2.1.old, noTable hwr q⟩⟩
/-- a law: true for every list of at most n whole numbers -/
def spLaw (n : Nat) : DSpec := fun ds M Ex Q => ∃ ns : List Int, ds = [.lst (iL ns)] ∧ ns.length ≤ n ∧ ∀ M', Q (.bl true) M'
theorem law_T {P : Program} {w : World} {K : Frag} {mg mb : Str → Option Value} {k n T : Nat} {fa a : Addr} {s : Shared} {vs : List Value} {ns : List Int} (KX : K.In s.heap) (hG : s.heap.Ns mainGlobals mg) (hB : s.heap.Ns builtinsNs mb) (hbb : ∀ x : Str, x ≠ "__name__" → mb x = bootBuiltins x) (lim : s.heap.NoLimit) (ge : s.gens = #[])
    (ha : s.heap.get? a = some { cls := .type "list", data := .seq vs.toArray }) (hi : IntsAre vs ns) (hl : ns.length ≤ n) (hn : n ≤ sizeLine) (hr : Room k callerA) (hT : T ≤ s.toks) (hm : mg "law" = some (.ref fa))
    (F : ∀ base : Heap, K.In base → base.Ns mainGlobals mg → Cal ⟨P, w, K, mg, base, T⟩ "law" k (spLaw n)) :
    codeAny (model P w) callerA (.call (.ref fa) ⟨[.ref a], []⟩) (fun r z => r = .ok (.ret (.bool true)) ∧ OldK s.heap z.heap ∧ z.os = s.os ∧ AllBare z.gens) s := by
  have rv : Vals (ns.map V.int) vs := L2.vals_ints hi
  have lv := hi.length
  have core : ∀ H : Hp, (∀ b, H b = none ∨ (b = a ∧ ∃ o, H b = some (.frz o (.lst (ns.map V.int))))) → SqE K H a (ns.map V.int) → HOk P w H s.heap → (H a ≠ none → K.lookup a = none) →
      codeAny (model P w) callerA (.call (.ref fa) ⟨[.ref a], []⟩) (fun r z => r = .ok (.ret (.bool true)) ∧ OldK s.heap z.heap ∧ z.os = s.os ∧ AllBare z.gens) s := by
    intro H only sq hok aK
    have at_a : ∀ {b}, H b ≠ none → b = a := fun {b} z => (only b).elim (fun e => absurd e z) fun e => e.1
    have seen : ∀ {b : Addr} {o : Obj}, s.heap.get? b = some o → H b = none → (hidT s.heap H).get? b = some o := fun e n => hidT_get e n
    have dictN : ∀ {b : Addr} {o : Obj} {es : Array DictEntry} {ep : Nat}, s.heap.get? b = some o → o.data = .dict es ep → H b = none := fun {b o es ep} e d => Classical.byContradiction fun z => by
      rw [at_a z, ha] at e
      cases e
      cases (show Data.seq vs.toArray _ = Data.dict es ep from d)
    have names : ∀ {b : Addr} {m : Str → Option Value}, s.heap.Ns b m → (hidT s.heap H).Ns b m := fun {b m} ⟨o, es, ep, e, d, r⟩ => ⟨o, es, ep, seen e (dictN e d), d, r⟩
    have KB : K.In (hidT s.heap H) := fun b o e => seen (KX b o e) (Classical.byContradiction fun z => by
      have e2 := at_a z
      rw [e2] at e z
      rw [aK z] at e
      cases e)
    have md : Mod K mg (hidT s.heap H) := ⟨KB, names hG, ⟨mb, names hB, hbb⟩, let ⟨m, q1, q2⟩ := lim; ⟨m, names q1, q2⟩⟩
    have e0 : Env0 P w K mg (hidT s.heap H) callerA [] s H := { frames := rfl, mod := md, bs := fun b o e => of_hidT e, bsz := Nat.le_of_eq (hidT_size _ _), funs := trivial, frf := fun b hb => absurd (show b ∈ ([] : List Addr) from hb) List.not_mem_nil, hok := hok, bare := .of_eq ge }
    obtain ⟨f, fd, ps, c1, c2, FT, bd⟩ := F _ KB (names hG)
    have ef : f = fa := by
      have c1 : mg "law" = some (.ref f) := c1
      rw [hm] at c1
      cases c1
      rfl
    subst ef
    have rl : repL K H [.lst (iL ns)] [.ref a] := repL.cons (rep_lst.mpr ⟨a, ns.map V.int, rfl, sq, repL.ofMap (fun i => rep_int.mpr rfl) ns⟩) repL.nil
    have spq : (spLaw n).con ⟨P, w, K, mg, hidT s.heap H, T⟩ [.ref a] H (fun v _ => v = .bl true) fun _ _ _ => False :=
      ⟨H, fun _ => none, _, XNo, fun d _ => d = .bl true, ⟨Same.refl _, fun a m z => nomatch z⟩, rl, ⟨ns, rfl, hl, fun _ => rfl⟩, fun v H' ⟨d, B', M', _, _, q3, q4⟩ => by rw [q4] at q3; exact rep_bl.mp q3, fun _ _ _ ⟨_, _, _, _, _, _, z⟩ => z⟩
    have bt := bd s [.ref a] KX (FT.len _ _ _ _ spq)
    refine codeAny_mono (FT.run callerA [] s H ⟨[.ref a], []⟩ [.ref a] [.ref a] _ _ hT hr e0 (by rw [List.append_nil] at bt; exact bt) (.cons rfl .nil) spq) fun r z h => ?_
    match r, h with
    | .error e, ⟨_, _, _, _, _, _, _, _, _, _, _, _, z⟩ => exact z.elim
    | .ok .next, h => exact h.elim
    | .ok .brk, h => exact h.elim
    | .ok .cont, h => exact h.elim
    | .ok (.ret u), ⟨v, H2, os, bare, un, hok2, rel, q⟩ =>
      rw [show v = .bl true from q] at rel
      have eu : u = Value.bool true := rel
      subst eu
      refine ⟨rfl, OldK.of_keep fun b o e => ?_, os, bare⟩
      rcases only b with q | ⟨eb, hq⟩
      · exact un.keep b o e q (fun z => absurd (show b ∈ ([] : List Addr) from z) List.not_mem_nil) List.not_mem_nil
      · obtain ⟨o2, q⟩ := hq
        have e1 := (hok b _ q).1
        rw [e] at e1
        cases e1
        exact (hok2 b _ (un.frzs b _ _ q)).1
  cases hk : K.lookup a with
  | some o =>
    have e := KX a o hk
    rw [ha] at e
    cases e
    exact core (fun _ => none) (fun _ => .inl rfl) (.inr ⟨vs.toArray, _, hk, by rw [List.size_toArray, lv]; exact Nat.le_trans hl hn, by simpa using rv⟩) (fun b u z => nomatch (show (none : Option HO) = some u from z)) fun z => absurd rfl z
  | none =>
    refine core (upd (fun _ => none) a (.frz { cls := .type "list", data := .seq vs.toArray } (.lst (ns.map V.int)))) (fun b => ?_) (.inl (.inr ⟨_, upd_same⟩)) (fun b u z => ?_) fun _ => hk
    · by_cases hb : b = a
      · exact .inr ⟨hb, _, by rw [hb]; exact upd_same⟩
      · exact .inl (upd_ne hb)
    · by_cases hb : b = a
      · rw [hb, upd_same] at z
        cases z
        rw [hb]
        exact ⟨ha, by rw [List.length_map]; exact Nat.le_trans hl hn, vs, _, rv, ha⟩
      · rw [upd_ne hb] at z
        cases z
/-- what a head's facts say -/
structure Says (fa : List He.Fa) (fn : List He.DefD) (us : List Str) (G : Glob) : Prop where
  kin : G.K.In G.base
  ns : G.base.Ns mainGlobals G.mg
  say : He.SaysD fa fn G.K
  tok : tokO us G.K G.T = true
/-- THE END -/
theorem end_T {l : OpenLaw} {n k M : Nat} {q : Program} {fa : List He.Fa} {fn : List He.DefD} {us : List Str} {loose : List Str} {d : DefRec}
    (hn : l.most = some n) (hn2 : n ≤ sizeLine) (hdf : d.params.defaults = []) (hnm : d.name = "law") (hr : Room k callerA)
    (e : opening l.row.prog = plainProg l.row.prog.main.scope.names) (f : ∀ s, fenceModules? l.row.prog s = some s) (run : ∀ w, HandSHeadRun.RunEq l.row q (hookT 4 fa fn us) (obT 4 fa fn us) M loose w)
    (hdef : defOf q l.row.name = some (d, [])) (hp : l.row.prog.theDef l.row.name = some (d.params, d.body, d.scope)) (hk : kwWritten? d.params.kwonlyargs d.params.kw_defaults = some [])
    (hwr : (!l.row.writes || l.row.records.isEmpty) = true) (k1 : l.row.wellSaid = true) (ok : (chainsOk q && opensWell l.row.prog && (frees l.row.toRowW && l.row.within.isEmpty)) = true) (hb : l.row.prog.bare) (hw : l.row.toRowW.promised)
    (F : ∀ G : Glob, G.P = l.prog → Says fa fn us G → Cal G "law" k (spLaw n)) : l.row.Holds := by
  refine row_T (r := l.row) e f run hdef hp hk hwr k1 ok hb hw fun w s₀ s₁ mg mb Gr say fn1 o pm cd doc dV kV ho hd hcd hD hmg args vals as pre lay L => ?_
  obtain rfl : dV = .none := Dflts.none hD hdf
  obtain rfl : kV = .none := Dflts.noKw hD
  obtain ⟨a, vs, ns, rfl, rfl, hobj, hints, hlen⟩ := Att.script_of hn pre L.well
  have htk : s₀.toks ≤ s₁.toks := by
    have e : WData.list (ns.map WData.int) = ofPy (PyData.list (ns.map PyData.int)) := by
      have : ∀ ns : List Int, ofPys (ns.map PyData.int) = ns.map WData.int := fun ns => by
        induction ns with
        | nil => rfl
        | cons x ns ih => simp only [List.map_cons, ofPys, ofPy, ih]
      simp only [ofPy, this]
    rw [e] at L
    exact X.script_toks L rfl
  obtain ⟨K, KX, sd, tk⟩ := say
  rw [hnm] at hmg
  refine enter_call (codeAny_mono (law_T (n := n) (T := s₀.toks) KX Gr.T.g Gr.T.b Gr.T.builtins Gr.T.nolimit L.gens hobj hints hlen hn2 hr htk hmg fun base kb nb => F _ rfl ⟨kb, nb, sd, tk⟩) fun r z hq => ?_)
  obtain ⟨rfl, h2, h3, h4⟩ := hq
  exact ⟨.inl ⟨.bool true, .bool true, [], rfl, fun _ => rfl, .bool true, Att.post_true l _, fun _ => ⟨List.Pairwise.nil, fun _ z => nomatch z⟩⟩, h2, h3, h4⟩
end Dl
/-! Dl10: facts by place. -/
namespace Dl
open PySem PySem.Spec PyProof.Rows L2
section
variable {fa : List He.Fa} {fn : List He.DefD} {us : List Str} {G : Glob}
theorem Says.def_ (s : Says fa fn us G) (i j : Nat) {x : Str} {st : Stmt} (h : fn[i]? = some ⟨(x, none), x, x, defArgs st, defBody st, defScope st, [], []⟩) (hj : fa[j]? = some (.glo x)) : HasDef G x st := by
  obtain ⟨fd, F⟩ := s.say.def_ i h
  exact ⟨_, fd, He.glo_ok s.kin s.ns (s.say.fact j hj), F⟩
theorem Says.free (s : Says fa fn us G) (j : Nat) {x : Str} (hj : fa[j]? = some (.free x)) : G.mg x = none := He.free_ok s.kin s.ns (s.say.fact j hj)
theorem Says.int_ (s : Says fa fn us G) (j : Nat) {x : Str} {i : Int} (hj : fa[j]? = some (.int x i)) : ∃ t, G.mg x = some (.int i t) := He.int_ok s.kin s.ns (s.say.fact j hj)
theorem Says.str_ (s : Says fa fn us G) (j : Nat) {x z : Str} (hj : fa[j]? = some (.str x z)) : ∃ t, G.mg x = some (.str z t) := He.str_ok s.kin s.ns (s.say.fact j hj)
theorem Says.tok_ (s : Says fa fn us G) (j : Nat) {x z : Str} {c : Nat} (hj : fa[j]? = some (.str x z)) (hx : x ∈ us) (hz : z = ⟨#[c]⟩) : ∃ t, G.mg x = some (.str ⟨#[c]⟩ t) ∧ t ≠ 0 ∧ t < G.T := by
  subst hz
  exact tokO_ok s.kin s.ns s.tok hx (s.say.fact j hj)
end
end Dl
/-! Dl11: slices by natural numbers. -/
namespace Dl
open PySem PySem.Spec PyProof.Rows L2
theorem sIx_nat (n d k : Nat) : HT.sIx n d (some (k : Int)) = min k n := by
  unfold HT.sIx
  simp
  try omega
theorem cut_lo {α : Type} (xs : List α) (k : Nat) : cut xs (some (k : Int)) none = xs.drop k := by
  unfold cut
  rw [sIx_nat, show HT.sIx xs.length xs.length none = xs.length from rfl]
  by_cases h : k ≤ xs.length
  · rw [Nat.min_eq_left h]
    exact List.take_of_length_le (by rw [List.length_drop]; exact Nat.le_refl _)
  · have e : min k xs.length = xs.length := by omega
    rw [e, List.drop_of_length_le (Nat.le_refl _), List.drop_of_length_le (by omega)]
    simp
theorem cut_hi {α : Type} (xs : List α) (k : Nat) : cut xs none (some (k : Int)) = xs.take k := by
  unfold cut
  rw [sIx_nat, show HT.sIx xs.length 0 none = 0 from rfl, List.drop_zero, Nat.sub_zero]
  by_cases h : k ≤ xs.length
  · rw [Nat.min_eq_left h]
  · rw [Nat.min_eq_right (by omega), List.take_of_length_le (Nat.le_refl _), List.take_of_length_le (by omega)]
theorem cut_two {α : Type} (xs : List α) (a b : Nat) : cut xs (some (a : Int)) (some (b : Int)) = (xs.drop a).take (b - a) := by
  unfold cut
  rw [sIx_nat, sIx_nat]
  by_cases h : a ≤ xs.length
  · rw [Nat.min_eq_left h]
    by_cases h2 : b ≤ xs.length
    · rw [Nat.min_eq_left h2]
    · have e : min b xs.length = xs.length := by omega
      rw [e, List.take_of_length_le (by rw [List.length_drop]; omega), List.take_of_length_le (by rw [List.length_drop]; omega)]
  · have e : min a xs.length = xs.length := by omega
    rw [e, List.drop_of_length_le (Nat.le_refl _), List.drop_of_length_le (by omega)]
    simp
/-- .. by whole numbers that are not below zero -/
theorem cut_loI {α : Type} (xs : List α) {i : Int} (h : 0 ≤ i) : cut xs (some i) none = xs.drop i.toNat := by
  have := cut_lo xs i.toNat
  rwa [Int.toNat_of_nonneg h] at this
theorem cut_hiI {α : Type} (xs : List α) {i : Int} (h : 0 ≤ i) : cut xs none (some i) = xs.take i.toNat := by
  have := cut_hi xs i.toNat
  rwa [Int.toNat_of_nonneg h] at this
theorem cut_twoI {α : Type} (xs : List α) {i j : Int} (h : 0 ≤ i) (h2 : 0 ≤ j) : cut xs (some i) (some j) = (xs.drop i.toNat).take (j.toNat - i.toNat) := by
  have := cut_two xs i.toNat j.toNat
  rwa [Int.toNat_of_nonneg h, Int.toNat_of_nonneg h2] at this
theorem atI_nat {α : Type} (xs : List α) (i : Nat) : atI xs (i : Int) = xs[i]? := by
  unfold atI ixN
  by_cases h : i < xs.length
  · rw [if_pos (by omega), if_pos (by omega)]
    simp
  · rw [if_pos (by omega), if_neg (by omega), List.getElem?_eq_none (by omega)]
    rfl
end Dl
/-! Dl12: branches, plain values, texts of letters. -/
namespace Dl
open PySem PySem.Spec PyProof.Rows L2
theorem on_t {c : Bool} {A B : Prop} (h : c = true) (a : A) : if c = true then A else B := by rw [if_pos h]; exact a
theorem on_f {c : Bool} {A B : Prop} (h : c = false) (b : B) : if c = true then A else B := by rw [if_neg (by rw [h]; exact Bool.false_ne_true)]; exact b
theorem on_c {c : Bool} {A B : Prop} (h1 : c = true → A) (h2 : c = false → B) : if c = true then A else B := by
  cases h : c with
  | true => exact on_t rfl (h1 h)
  | false => exact on_f rfl (h2 h)
/-! the kinds of goals -/
section
variable {G : Glob} {C : Sc} {Γ : Gm} {M : Mem} {Ex : XPost}
theorem W.id_ {st : List Stmt} {P : DE} (h : W G C st Γ M P) : W G C st Γ M P := h
theorem W.idA {tg e : Expr} {pos : Pos} {rest : List Stmt} {P : DE} (h : W G C (.Assign [tg] e pos :: rest) Γ M P) : W G C (.Assign [tg] e pos :: rest) Γ M P := h
theorem E.id_ {e : Expr} {Q : D → Mem → Prop} (h : E G C e Γ M Ex Q) : E G C e Γ M Ex Q := h
theorem E.idN {x : Str} {p : Pos} {Q : D → Mem → Prop} (h : E G C (.Name x p) Γ M Ex Q) : E G C (.Name x p) Γ M Ex Q := h
theorem E.idC {x : Str} {p p2 : Pos} {es : List Expr} {Q : D → Mem → Prop} (h : E G C (.Call (.Name x p) es [] p2) Γ M Ex Q) : E G C (.Call (.Name x p) es [] p2) Γ M Ex Q := h
theorem E.idS {x : Str} {j : Nat} {p : Pos} {Q : D → Mem → Prop} (h : E G C (.Constant (.str x) j p) Γ M Ex Q) : E G C (.Constant (.str x) j p) Γ M Ex Q := h
theorem T.id_ {e : Expr} {Q : Bool → Mem → Prop} (h : T G C e Γ M Ex Q) : T G C e Γ M Ex Q := h
theorem TB.id_ {e : Expr} {Q : Bool → Mem → Prop} (h : TB G C e Γ M Ex Q) : TB G C e Γ M Ex Q := h
theorem A.id_ {e : List Expr} {Q : List D → Mem → Prop} (h : A G C e Γ M Ex Q) : A G C e Γ M Ex Q := h
theorem O2.id_ {f : Value → Value → Sem Value} {d1 d2 : D} {Q : D → Mem → Prop} (h : O2 G C f d1 d2 M Q) : O2 G C f d1 d2 M Q := h
end
/-- a value that is no object of one's own and no class, its texts not too long -/
structure Pl (d : D) : Prop where
  adr : ∀ p, d ≠ .adr p
  ty : ∀ n, d ≠ .ty n
  sz : ∀ s, d = .str s → s.length ≤ 100000
  asc : ∀ s, d = .str s → ∀ x ∈ s, x < 128
theorem Pl.pair {d : D} (h : Pl d) : (∀ p, d ≠ .adr p) ∧ ∀ n, d ≠ .ty n := ⟨h.adr, h.ty⟩
theorem Pl.str {s : List Nat} (h : s.length ≤ 100000) (h2 : ∀ x ∈ s, x < 128) : Pl (.str s) := ⟨fun _ h => (nomatch h), fun _ h => (nomatch h), fun _ e => by cases e; exact h, fun _ e => by cases e; exact h2⟩
theorem Pl.int {i : Int} : Pl (.int i) := ⟨fun _ h => (nomatch h), fun _ h => (nomatch h), fun _ h => (nomatch h), fun _ h => (nomatch h)⟩
theorem Pl.bl {i : Bool} : Pl (.bl i) := ⟨fun _ h => (nomatch h), fun _ h => (nomatch h), fun _ h => (nomatch h), fun _ h => (nomatch h)⟩
theorem Pl.non : Pl .non := ⟨fun _ h => (nomatch h), fun _ h => (nomatch h), fun _ h => (nomatch h), fun _ h => (nomatch h)⟩
theorem Pl.tup {s : List D} : Pl (.tup s) := ⟨fun _ h => (nomatch h), fun _ h => (nomatch h), fun _ h => (nomatch h), fun _ h => (nomatch h)⟩
theorem Pl.lst {s : List D} : Pl (.lst s) := ⟨fun _ h => (nomatch h), fun _ h => (nomatch h), fun _ h => (nomatch h), fun _ h => (nomatch h)⟩
def isS : D → Bool
  | .str _ => true
  | _ => false
def isI : D → Bool
  | .int _ => true
  | .bl _ => true
  | _ => false
def isB : D → Bool
  | .bl _ => true
  | _ => false
theorem kit_str {d : D} (h : Pl d) : kitB (tyN d) "str" = some (isS d) := by
  cases d with
  | adr p => exact absurd rfl (h.adr p)
  | ty n => exact absurd rfl (h.ty n)
  | non => exact (show kitB "NoneType" "str" = some false by decide +kernel)
  | bl b => exact (show kitB "bool" "str" = some false by decide +kernel)
  | int b => exact (show kitB "int" "str" = some false by decide +kernel)
  | str b => exact (show kitB "str" "str" = some true by decide +kernel)
  | tup b => exact (show kitB "tuple" "str" = some false by decide +kernel)
  | lst b => exact (show kitB "list" "str" = some false by decide +kernel)
theorem kit_int {d : D} (h : Pl d) : kitB (tyN d) "int" = some (isI d) := by
  cases d with
  | adr p => exact absurd rfl (h.adr p)
  | ty n => exact absurd rfl (h.ty n)
  | non => exact (show kitB "NoneType" "int" = some false by decide +kernel)
  | bl b => exact (show kitB "bool" "int" = some true by decide +kernel)
  | int b => exact (show kitB "int" "int" = some true by decide +kernel)
  | str b => exact (show kitB "str" "int" = some false by decide +kernel)
  | tup b => exact (show kitB "tuple" "int" = some false by decide +kernel)
  | lst b => exact (show kitB "list" "int" = some false by decide +kernel)
theorem kit_bool {d : D} (h : Pl d) : kitB (tyN d) "bool" = some (isB d) := by
  cases d with
  | adr p => exact absurd rfl (h.adr p)
  | ty n => exact absurd rfl (h.ty n)
  | non => exact (show kitB "NoneType" "bool" = some false by decide +kernel)
  | bl b => exact (show kitB "bool" "bool" = some true by decide +kernel)
  | int b => exact (show kitB "int" "bool" = some false by decide +kernel)
  | str b => exact (show kitB "str" "bool" = some false by decide +kernel)
  | tup b => exact (show kitB "tuple" "bool" = some false by decide +kernel)
  | lst b => exact (show kitB "list" "bool" = some false by decide +kernel)
theorem lt_one (x y : Nat) : decide (([x] : List Nat) < [y]) = decide (x < y) := by
  congr 1
  simp [List.cons_lt_cons_iff]
theorem size1000' {n : Nat} (h : n ≤ 100000) : n ≤ sizeLine := Nat.le_trans h (by rw [sizeLine_eq]; decide)
/-- the alphabet -/
def abcL : List Nat := List.range' 97 26
theorem abc_eq : ("abcdefghijklmnopqrstuvwxyz" : Str).cps.toList = abcL := by decide +kernel
/-- letters, one after the other -/
def isBagL (s : List Nat) : Bool := decide (2 ≤ s.length) && decide (s.length ≤ 8) && s.all (fun c => decide (c ∈ abcL)) && (s.zip (s.drop 1)).all fun p => decide (p.1 < p.2)
def isBagD : D → Bool
  | .str s => isBagL s
  | _ => false
theorem repS_all {α : Type} {f : α → Bool} (xs : List α) : (xs.map f).all id = xs.all f := by
  rw [List.all_map]; rfl
theorem sgL_get {l : List Nat} {i : Nat} {d : D} (h : (sgL l)[i]? = some d) : ∃ c, l[i]? = some c ∧ d = .str [c] := by
  unfold sgL at h
  rw [List.getElem?_map] at h
  cases e : l[i]? with
  | none => rw [e] at h; cases h
  | some c =>
    rw [e] at h
    exact ⟨c, rfl, (Option.some.inj h).symm⟩
theorem sgL_length (l : List Nat) : (sgL l).length = l.length := by simp [sgL]
/-- a list comprehension that changes nothing and keeps every item: f by the place -/
theorem LcAsk.map {G : Glob} {C : Sc} {Γ : Gm} {M : Mem} {scope : Scope} {tg elt : Expr} {ix : List Nat} {Q : D → Mem → Prop} {ds : List D} {ok : Mem → Prop} (f : Nat → D) (hl : ds.length ≤ 100000) (hok : ok M)
    (ht : ∀ i d, ds[i]? = some d → TgB G (C.blk scope) tg ix d (wipeG Γ ix) M fun Γ2 => E G (C.blk scope) elt Γ2 M XNo (fun e M3 => e = f i ∧ M3 = M))
    (hd : Q (.lst ((List.range ds.length).map f)) M) : LcAsk G C scope tg ix elt Γ (fun Γ2 M2 Q2 => Q2 true M2) (fun d M' => ∃ p ds M0, d = .adr p ∧ M0 p = none ∧ M' = mset M0 p (.lst ds) ∧ Q (.lst ds) M0) ds ok M := by
  refine LcAsk.frz (fun i acc M' => M' = M ∧ acc = (List.range i).map f) (size1000' hl) ⟨rfl, rfl⟩ (fun i acc M' h => by rw [h.1]; exact hok) (fun i d acc M' hget ⟨e1, e2⟩ => ?_) fun acc M' ⟨e1, e2⟩ => by rw [e1, e2]; exact hd
  subst e1 e2
  refine .mk fun X σ H B v s r => (ht i d hget X σ H B v s r).mono fun σ2 H2 ⟨q1, q2, Γ2, q3, q4⟩ => ⟨q1, q2, Γ2, q3, ?_⟩
  exact on_t rfl (q4.mono fun e M3 ⟨z1, z2⟩ => ⟨z2, by rw [z1, List.range_succ, List.map_append]; rfl⟩)
/-- .. that keeps the items with p -/
theorem LcAsk.filt {G : Glob} {C : Sc} {Γ : Gm} {M : Mem} {scope : Scope} {tg elt c : Expr} {ix : List Nat} {Q : D → Mem → Prop} {ds : List D} {ok : Mem → Prop} (p : Nat → Bool) (f : Nat → D) (hl : ds.length ≤ 100000) (hok : ok M)
    (ht : ∀ i d, ds[i]? = some d → TgB G (C.blk scope) tg ix d (wipeG Γ ix) M fun Γ2 => T G (C.blk scope) c Γ2 M XNo fun b M2 => b = p i ∧ M2 = M ∧ (b = true → E G (C.blk scope) elt Γ2 M XNo (fun e M3 => e = f i ∧ M3 = M)))
    (hd : Q (.lst (((List.range ds.length).filter p).map f)) M) : LcAsk G C scope tg ix elt Γ (fun Γ2 M2 Q2 => T G (C.blk scope) c Γ2 M2 XNo Q2) (fun d M' => ∃ p ds M0, d = .adr p ∧ M0 p = none ∧ M' = mset M0 p (.lst ds) ∧ Q (.lst ds) M0) ds ok M := by
  refine LcAsk.frz (fun i acc M' => M' = M ∧ acc = ((List.range i).filter p).map f) (size1000' hl) ⟨rfl, rfl⟩ (fun i acc M' h => by rw [h.1]; exact hok) (fun i d acc M' hget ⟨e1, e2⟩ => ?_) fun acc M' ⟨e1, e2⟩ => by rw [e1, e2]; exact hd
  subst e1 e2
  refine .mk fun X σ H B v s r => (ht i d hget X σ H B v s r).mono fun σ2 H2 ⟨q1, q2, Γ2, q3, q4⟩ => ⟨q1, q2, Γ2, q3, q4.mono fun b M2 ⟨z1, z2, z3⟩ => ?_⟩
  subst z2
  refine on_c (fun hb => (z3 hb).mono fun e M3 ⟨y1, y2⟩ => ⟨y2, ?_⟩) fun hb => ⟨rfl, ?_⟩
  · rw [List.range_succ, List.filter_append, List.map_append, y1]
    rw [z1] at hb
    simp [hb]
  · rw [List.range_succ, List.filter_append, List.map_append]
    rw [z1] at hb
    simp [hb]
/-- what such comprehensions ask -/
abbrev AskM (G : Glob) (C : Sc) (scope : Scope) (tg : Expr) (ix : List Nat) (elt : Expr) (Γ : Gm) (Q : D → Mem → Prop) (ds : List D) (ok : Mem → Prop) (M : Mem) : Prop :=
  ds.length ≤ 100000 ∧ ok M ∧ ∃ f : Nat → D, (∀ i d, ds[i]? = some d → TgB G (C.blk scope) tg ix d (wipeG Γ ix) M fun Γ2 => E G (C.blk scope) elt Γ2 M XNo (fun e M3 => e = f i ∧ M3 = M)) ∧ Q (.lst ((List.range ds.length).map f)) M
abbrev AskF (G : Glob) (C : Sc) (scope : Scope) (tg : Expr) (ix : List Nat) (c elt : Expr) (Γ : Gm) (Q : D → Mem → Prop) (ds : List D) (ok : Mem → Prop) (M : Mem) : Prop :=
  ds.length ≤ 100000 ∧ ok M ∧ ∃ (p : Nat → Bool) (f : Nat → D), (∀ i d, ds[i]? = some d → TgB G (C.blk scope) tg ix d (wipeG Γ ix) M fun Γ2 => T G (C.blk scope) c Γ2 M XNo fun b M2 => b = p i ∧ M2 = M ∧ (b = true → E G (C.blk scope) elt Γ2 M XNo (fun e M3 => e = f i ∧ M3 = M))) ∧
    Q (.lst (((List.range ds.length).filter p).map f)) M
section
variable {G : Glob} {C : Sc} {Γ : Gm} {M : Mem} {Ex : XPost} {tg iter : Expr}
theorem I1.mono {Q Q' : List D → (Mem → Prop) → Mem → Prop} (h : I1 G C tg iter Γ M Ex Q) (q : ∀ ds ok M, Q ds ok M → Q' ds ok M) : I1 G C tg iter Γ M Ex Q' := .mk fun X σ H B s =>
  (h X σ H B s).mono fun J H' ⟨ds, ok, B', M', q1, q2, q3, q4⟩ => ⟨ds, ok, B', M', q1, q2, q3, q _ _ _ q4⟩
/-- [e for t in it]: a new list, never written again -/
theorem E.lcM {elt : Expr} {scope : Scope} {pos : Pos} {Q : D → Mem → Prop} (own : List (Str × Nat)) (h : I1 G C tg iter Γ M Ex (AskM G C scope tg (own.map (·.2)) elt Γ Q))
    (ok : blkC C.N C.sc scope own = true := by decide +kernel) (hs : ∀ env x, foldedSetIterable iter env x = pure x := by intro _ _; rfl) : E G C (.ListComp elt [⟨tg, iter, [], 0⟩] scope pos) Γ M Ex Q :=
  E.freeze (E.lc0 own (h.mono fun ds ok M1 ⟨hl, hok, f, ht, hd⟩ => LcAsk.map f hl hok ht hd) ok hs)
/-- [e for t in it if c] -/
theorem E.lcF {elt c : Expr} {scope : Scope} {pos : Pos} {Q : D → Mem → Prop} (own : List (Str × Nat)) (h : I1 G C tg iter Γ M Ex (AskF G C scope tg (own.map (·.2)) c elt Γ Q))
    (ok : blkC C.N C.sc scope own = true := by decide +kernel) (hs : ∀ env x, foldedSetIterable iter env x = pure x := by intro _ _; rfl) : E G C (.ListComp elt [⟨tg, iter, [c], 0⟩] scope pos) Γ M Ex Q :=
  E.freeze (E.lc1 own (h.mono fun ds ok M1 ⟨hl, hok, p, f, ht, hd⟩ => LcAsk.filt p f hl hok ht hd) ok hs)
end
theorem F1.allR {G : Glob} {C : Sc} {M : Mem} {n : Nat} {f : Nat → Bool} {Q : D → Mem → Prop} (q : Q (.bl ((List.range n).all f)) M) : F1 G C (.builtin "all") [.lst ((List.range n).map fun i => .bl (f i))] M Q :=
  F1.all (bs := (List.range n).map f) (.inl (by rw [List.map_map]; rfl)) (by rw [repS_all]; exact q)
theorem F1.anyR {G : Glob} {C : Sc} {M : Mem} {n : Nat} {f : Nat → Bool} {Q : D → Mem → Prop} (q : Q (.bl ((List.range n).any f)) M) : F1 G C (.builtin "any") [.lst ((List.range n).map fun i => .bl (f i))] M Q :=
  F1.any (bs := (List.range n).map f) (.inl (by rw [List.map_map]; rfl)) (by rw [List.any_map]; exact q)
theorem range_all {α : Type} (l : List α) (d : α) (p : α → Bool) : ((List.range l.length).all fun i => p (l.getD i d)) = l.all p := by
  rw [Bool.eq_iff_iff, List.all_eq_true, List.all_eq_true]
  constructor
  · intro h x hx
    obtain ⟨i, hi, e⟩ := List.mem_iff_getElem.mp hx
    have := h i (List.mem_range.mpr hi)
    rwa [List.getD_eq_getElem?_getD, List.getElem?_eq_getElem hi, Option.getD_some, e] at this
  · intro h i hi
    have hi := List.mem_range.mp hi
    rw [List.getD_eq_getElem?_getD, List.getElem?_eq_getElem hi, Option.getD_some]
    exact h _ (List.getElem_mem hi)
theorem range_map {α β : Type} (l : List α) (d : α) (f : α → β) : ((List.range l.length).map fun i => f (l.getD i d)) = l.map f := by
  apply List.ext_getElem
  · simp
  · intro i h1 h2
    simp at h1
    simp [List.getD_eq_getElem?_getD, h1]
theorem getD_of {α : Type} {l : List α} {i : Nat} {c d : α} (h : l[i]? = some c) : l.getD i d = c := by rw [List.getD_eq_getElem?_getD, h]; rfl
theorem range_filter {α β : Type} (l : List α) (d : α) (p : α → Bool) (f : α → β) : (((List.range l.length).filter fun i => p (l.getD i d)).map fun i => f (l.getD i d)) = (l.filter p).map f := by
  have key : ∀ is : List Nat, ((is.filter fun i => p (l.getD i d)).map fun i => l.getD i d) = (is.map fun i => l.getD i d).filter p := fun is => by
    induction is with
    | nil => rfl
    | cons i is ih =>
      rw [List.filter_cons, List.map_cons, List.filter_cons]
      split
      · rw [List.map_cons, ih]
      · exact ih
  have e : (((List.range l.length).filter fun i => p (l.getD i d)).map fun i => f (l.getD i d)) = (((List.range l.length).filter fun i => p (l.getD i d)).map fun i => l.getD i d).map f := by rw [List.map_map]; rfl
  rw [e, key]
  congr 2
  have := range_map l d (fun x => x)
  simpa using this
end Dl
/-! Dl13: the laws' sources of draws. -/
namespace Dl
open PySem PySem.Spec PyProof.Rows L2
def srcL (b s : Int) : MO := .lst [.int b, .int s]
def Seed (b s : Int) : Prop := 0 ≤ b ∧ 0 ≤ s ∧ s < 2147483647
def SrcM (p : Addr) (M : Mem) : Prop := ∃ b s, M p = some (srcL b s) ∧ Seed b s
def Drawn (p : Addr) (M M' : Mem) : Prop := ∃ b s, Seed b s ∧ M' = mset M p (srcL b s)
theorem mset_id {M : Mem} {p : Addr} {m : MO} (h : M p = some m) : mset M p m = M := by
  funext q
  by_cases e : q = p
  · subst e; rw [mset_same, h]
  · rw [mset_ne e]
theorem Drawn.refl {p : Addr} {M : Mem} (h : SrcM p M) : Drawn p M M := by
  obtain ⟨b, s, e, q⟩ := h
  exact ⟨b, s, q, (mset_id e).symm⟩
theorem Drawn.src {p : Addr} {M M' : Mem} (h : Drawn p M M') : SrcM p M' := by
  obtain ⟨b, s, q, rfl⟩ := h
  exact ⟨b, s, mset_same, q⟩
theorem Drawn.trans {p : Addr} {M M1 M2 : Mem} (h : Drawn p M M1) (h2 : Drawn p M1 M2) : Drawn p M M2 := by
  obtain ⟨b, s, q, rfl⟩ := h
  obtain ⟨b2, s2, q2, rfl⟩ := h2
  exact ⟨b2, s2, q2, mset_mset⟩
theorem Drawn.ne {p q : Addr} {M M' : Mem} (h : Drawn p M M') (e : q ≠ p) : M' q = M q := by
  obtain ⟨b, s, _, rfl⟩ := h
  exact mset_ne e
theorem Drawn.none {p q : Addr} {M M' : Mem} (h : Drawn p M M') (hs : SrcM p M) (e : M q = none) : M' q = none := by
  obtain ⟨b, s, e2, _⟩ := hs
  rw [h.ne fun z => by rw [z, e2] at e; cases e]
  exact e
theorem SrcM.new {p q : Addr} {M : Mem} {m : MO} (h : SrcM p M) (e : M q = none) : SrcM p (mset M q m) := by
  obtain ⟨b, s, e2, x⟩ := h
  exact ⟨b, s, by rw [mset_ne fun z => by rw [← z, e2] at e; cases e]; exact e2, x⟩
theorem SrcM.ne {p q : Addr} {M : Mem} (h : SrcM p M) (e : M q = none) : q ≠ p := fun z => by
  obtain ⟨b, s, e2, _⟩ := h
  rw [z, e2] at e
  cases e
theorem SrcM.set {p q : Addr} {M : Mem} {m : MO} (h : SrcM p M) (e : q ≠ p) : SrcM p (mset M q m) := by
  obtain ⟨b, s, e2, x⟩ := h
  exact ⟨b, s, by rw [mset_ne (Ne.symm e)]; exact e2, x⟩
/-- a draw's end: what was made on the way is left out -/
theorem Drawn.dn {p : Addr} {M M' : Mem} {Q : D → Mem → Prop} {d : D} (h : SrcM p M') (keep : ∀ q m, q ≠ p → M q = some m → M' q = some m) (q : ∀ M2, Drawn p M M2 → Q d M2) : Dn Q d M' := by
  obtain ⟨b, s, e, x⟩ := h
  refine ⟨mset M p (srcL b s), fun a m ha => ?_, q _ ⟨b, s, x, rfl⟩⟩
  by_cases ea : a = p
  · rw [ea, mset_same] at ha
    rw [ea, e]
    exact ha
  · rw [mset_ne ea] at ha
    exact keep a m ea ha
/-- the promises -/
abbrev spSource (a b : D) (M : Mem) (Ex : XPost) (Q : D → Mem → Prop) : Prop := ∃ (ns : List Int) (k : Int), a = .lst (iL ns) ∧ b = .int k ∧ 0 ≤ k ∧ k ≤ 1000 ∧ ∀ p b s, M p = none → Seed b s → Q (.adr p) (mset M p (srcL b s))
abbrev spDraw (a b : D) (M : Mem) (Ex : XPost) (Q : D → Mem → Prop) : Prop := ∃ (p : Addr) (k : Int), a = .adr p ∧ b = .int k ∧ SrcM p M ∧ 1 ≤ k ∧ k ≤ 1000 ∧ ∀ (d : Int) M', 0 ≤ d → d < k → Drawn p M M' → Q (.int d) M'
abbrev spChoice (a b : D) (M : Mem) (Ex : XPost) (Q : D → Mem → Prop) : Prop := ∃ (p : Addr) (ds : List D), a = .adr p ∧ (b = .lst ds ∨ b = .tup ds ∨ ∃ q, b = .adr q ∧ q ≠ p ∧ M q = some (.lst ds)) ∧ SrcM p M ∧ 0 < ds.length ∧ ds.length ≤ 1000 ∧ ∀ d M', d ∈ ds → Drawn p M M' → Q d M'
/-- a list's items in another order: a tuple of them -/
abbrev spMixed (a b : D) (M : Mem) (Ex : XPost) (Q : D → Mem → Prop) : Prop := ∃ (p : Addr) (ds : List D), a = .adr p ∧ (IsL M b ds ∨ b = .tup ds) ∧ SrcM p M ∧ (∀ d ∈ ds, ShpN 3 d) ∧ ds.length ≤ 1000 ∧ ∀ ds' M', ds'.Perm ds → Drawn p M M' → Q (.tup ds') M'
theorem ne_key {M : Mem} {p q : Addr} {m : MO} (hp : M p = none) (h : M q = some m) : q ≠ p := fun z => by
  rw [z, hp] at h
  cases h
theorem perm_erase {α : Type} : ∀ {l : List α} {i : Nat} (h : i < l.length), (l[i] :: l.eraseIdx i).Perm l
  | [], _, h => absurd h (Nat.not_lt_zero _)
  | x :: l, 0, _ => .refl _
  | x :: l, i + 1, h => by
    have ih := perm_erase (l := l) (i := i) (by simpa using h)
    exact (List.Perm.swap x _ _).trans (ih.cons x)
theorem log_lt {n k : Nat} (h : n < 2 ^ k) (hk : 0 < k) : n.log2 < k := by
  by_cases e : n = 0
  · subst e; simpa using hk
  · exact (Nat.log2_lt e).mpr h
theorem mulW {i j : Int} (h1 : i.natAbs < 2 ^ 100) (h2 : j.natAbs < 2 ^ 100) : CMulW i j := by
  have := log_lt h1 (by decide)
  have := log_lt h2 (by decide)
  unfold CMulW
  omega
theorem divW {i j : Int} (h : 0 < j) (h2 : j.natAbs < 2 ^ 100) : CDivW i j := by
  refine ⟨h, ?_⟩
  have := log_lt h2 (by decide)
  omega
end Dl
/-! Dl14: methods, as expressions. -/
namespace Dl
open PySem PySem.Spec PyProof.Rows L2
section
variable {G : Glob} {C : Sc} {Γ : Gm} {M : Mem} {Ex : XPost} {o e : Expr} {apos cpos : Pos} {Q : D → Mem → Prop}
theorem E.append (h : E G C o Γ M Ex fun d M1 => TyD M1 "list" d ∧ E G C e Γ M1 Ex fun d2 M2 => ∃ p ds, d = .adr p ∧ M2 p = some (.lst ds) ∧ ds.length ≤ 1000000 ∧ Q .non (mset M2 p (.lst (ds ++ [d2]))))
    (hbase : ∀ env, attributeBase o "append" env (eval o env) = eval o env := by intro _; rfl)
    (hfew : ∀ env, ((backTo cpos (starEach [e] env)).all (fun x => !x.1) && (backToKw cpos (keywordEach [] env)).all (fun x => x.1.isSome)
      && decide ([e].length + ([] : List Keyword).length + (if ([] : List Keyword).isEmpty then 0 else 1) < 30)) = true := by intro _; rfl)
    (hline : (apos.endLine == cpos.line) = true := by rfl) (hs : ∀ env, starEach [e] env = (false, eval e env) :: starEach [] env := by intro _; rfl) :
    E G C (.Call (.Attribute o "append" apos) [e] [] cpos) Γ M Ex Q :=
  E.mt F.plainAttrs_list F.slot_list_append F.type_list_append (h.mono fun d M1 ⟨ty, h2⟩ => ⟨ty, A.cons (h2.mono fun d2 M2 ⟨p, ds, e1, h3, h4, q⟩ => A.nil (by rw [e1]; exact Mt.append h3 h4 q)) hs⟩) hbase hfew hline hs
theorem E.popAt (h : E G C o Γ M Ex fun d M1 => TyD M1 "list" d ∧ E G C e Γ M1 Ex fun d2 M2 => ∃ p ds i e', d = .adr p ∧ d2 = .int i ∧ M2 p = some (.lst ds) ∧ 0 ≤ i ∧ ds.length ≤ 1000000 ∧ ds[i.toNat]? = some e' ∧ Q e' (mset M2 p (.lst (ds.eraseIdx i.toNat))))
    (hbase : ∀ env, attributeBase o "pop" env (eval o env) = eval o env := by intro _; rfl)
    (hfew : ∀ env, ((backTo cpos (starEach [e] env)).all (fun x => !x.1) && (backToKw cpos (keywordEach [] env)).all (fun x => x.1.isSome)
      && decide ([e].length + ([] : List Keyword).length + (if ([] : List Keyword).isEmpty then 0 else 1) < 30)) = true := by intro _; rfl)
    (hline : (apos.endLine == cpos.line) = true := by rfl) (hs : ∀ env, starEach [e] env = (false, eval e env) :: starEach [] env := by intro _; rfl) :
    E G C (.Call (.Attribute o "pop" apos) [e] [] cpos) Γ M Ex Q :=
  E.mt F.plainAttrs_list F.slot_list_pop F.type_list_pop (h.mono fun d M1 ⟨ty, h2⟩ => ⟨ty, A.cons (h2.mono fun d2 M2 ⟨p, ds, i, e', e1, e2, h3, h4, h5, h6, q⟩ => A.nil (by rw [e1, e2]; exact Mt.popAt h3 h4 h5 h6 q)) hs⟩) hbase hfew hline hs
theorem E.join (h : E G C o Γ M Ex fun d M1 => TyD M1 "str" d ∧ E G C e Γ M1 Ex fun d2 M2 => ∃ xs, d = .str [] ∧ (IsL M2 d2 (sL xs) ∨ d2 = .tup (sL xs)) ∧ (xs.map (·.length)).sum ≤ 1000000 ∧ Q (.str xs.flatten) M2)
    (hbase : ∀ env, attributeBase o "join" env (eval o env) = eval o env := by intro _; rfl)
    (hfew : ∀ env, ((backTo cpos (starEach [e] env)).all (fun x => !x.1) && (backToKw cpos (keywordEach [] env)).all (fun x => x.1.isSome)
      && decide ([e].length + ([] : List Keyword).length + (if ([] : List Keyword).isEmpty then 0 else 1) < 30)) = true := by intro _; rfl)
    (hline : (apos.endLine == cpos.line) = true := by rfl) (hs : ∀ env, starEach [e] env = (false, eval e env) :: starEach [] env := by intro _; rfl) :
    E G C (.Call (.Attribute o "join" apos) [e] [] cpos) Γ M Ex Q :=
  E.mt F.plainAttrs_str F.slot_str_join F.type_str_join (h.mono fun d M1 ⟨ty, h2⟩ => ⟨ty, A.cons (h2.mono fun d2 M2 ⟨xs, e1, h3, h4, q⟩ => A.nil (by rw [e1]; exact Mt.join h3 h4 q)) hs⟩) hbase hfew hline hs
theorem E.count (h : E G C o Γ M Ex fun d M1 => TyD M1 "str" d ∧ E G C e Γ M1 Ex fun d2 M2 => ∃ (l : List Nat) (c : Nat), d = .str l ∧ d2 = .str [c] ∧ Q (.int (l.count c : Nat)) M2)
    (hbase : ∀ env, attributeBase o "count" env (eval o env) = eval o env := by intro _; rfl)
    (hfew : ∀ env, ((backTo cpos (starEach [e] env)).all (fun x => !x.1) && (backToKw cpos (keywordEach [] env)).all (fun x => x.1.isSome)
      && decide ([e].length + ([] : List Keyword).length + (if ([] : List Keyword).isEmpty then 0 else 1) < 30)) = true := by intro _; rfl)
    (hline : (apos.endLine == cpos.line) = true := by rfl) (hs : ∀ env, starEach [e] env = (false, eval e env) :: starEach [] env := by intro _; rfl) :
    E G C (.Call (.Attribute o "count" apos) [e] [] cpos) Γ M Ex Q :=
  E.mt F.plainAttrs_str F.slot_str_count F.type_str_count (h.mono fun d M1 ⟨ty, h2⟩ => ⟨ty, A.cons (h2.mono fun d2 M2 ⟨l, c, e1, e2, q⟩ => A.nil (by rw [e1, e2]; exact Mt.count q)) hs⟩) hbase hfew hline hs
end
theorem sgL_erase (l : List Nat) (i : Nat) : (sgL l).eraseIdx i = sgL (l.eraseIdx i) := by
  induction l generalizing i with
  | nil => rfl
  | cons x l ih =>
    cases i with
    | zero => rfl
    | succ i => show D.str [x] :: (sgL l).eraseIdx i = D.str [x] :: sgL (l.eraseIdx i); rw [ih]
theorem sgL_at {l : List Nat} {i : Nat} (h : i < l.length) : (sgL l)[i]? = some (.str [l[i]]) := by
  unfold sgL
  simp [h]
theorem perm_inv {α β : Type} {f : α → β} (g : β → α) (hg : ∀ c, g (f c) = c) {l : List α} {ds : List β} (h : ds.Perm (l.map f)) : ∃ l' : List α, l'.Perm l ∧ ds = l'.map f := by
  refine ⟨ds.map g, ?_, ?_⟩
  · have := h.map g
    rw [List.map_map] at this
    have e : (g ∘ f) = id := funext hg
    rw [e, List.map_id] at this
    exact this
  · rw [List.map_map]
    have : ∀ xs : List β, (∀ x ∈ xs, ∃ c, x = f c) → xs = xs.map (f ∘ g) := fun xs hx => by
      induction xs with
      | nil => rfl
      | cons x xs ih =>
        obtain ⟨c, e⟩ := hx x List.mem_cons_self
        rw [List.map_cons, ← ih fun y hy => hx y (List.mem_cons_of_mem _ hy)]
        congr 1
        rw [e]
        show f c = f (g (f c))
        rw [hg]
    exact this ds fun x hx => by
      obtain ⟨c, _, e⟩ := List.mem_map.mp (h.mem_iff.mp hx)
      exact ⟨c, e.symm⟩
def unS : D → Nat
  | .str [c] => c
  | _ => 0
theorem sgL_perm {l : List Nat} {ds : List D} (h : ds.Perm (sgL l)) : ∃ l' : List Nat, l'.Perm l ∧ ds = sgL l' := perm_inv unS (fun _ => rfl) h
/-- a bag: letters in their order -/
def BagOf (k : Nat) (bag : List Nat) : Prop := bag.Sublist abcL ∧ 2 ≤ bag.length ∧ bag.length ≤ k
theorem Asc.abc {l : List Nat} (h : ∀ x ∈ l, x < 128) : Asc l := h
theorem abc_mem {x : Nat} (h : x ∈ abcL) : 97 ≤ x ∧ x ≤ 122 := by
  unfold abcL at h
  rw [List.mem_range'_1] at h
  omega
theorem BagOf.mem {k : Nat} {bag : List Nat} (h : BagOf k bag) {x : Nat} (hx : x ∈ bag) : 97 ≤ x ∧ x ≤ 122 := abc_mem (h.1.subset hx)
theorem ShpN.one {c : Nat} (h : c < 128) : ShpN 0 (.str [c]) := ShpN.str fun x hx => by
  have : x = c := by simpa using hx
  rw [this]; exact h
theorem shp_sgL {l : List Nat} (h : ∀ x ∈ l, x < 128) : ∀ d ∈ sgL l, ShpN 0 d := fun d hd => by
  unfold sgL at hd
  obtain ⟨c, hc, rfl⟩ := List.mem_map.mp hd
  exact ShpN.one (h c hc)
/-- a stretch of full bags -/
def Stream (bag line : List Nat) (c : Nat) : Prop := ∃ (ps : List (List Nat)) (b : Nat), (∀ q ∈ ps, q.Perm bag) ∧ b < bag.length ∧ b + c ≤ ps.flatten.length ∧ line = (ps.flatten.drop b).take c
theorem Stream.length {bag line : List Nat} {c : Nat} (h : Stream bag line c) : line.length = c := by
  obtain ⟨ps, b, _, _, h3, rfl⟩ := h
  rw [List.length_take, List.length_drop]
  omega
theorem Stream.mem {bag line : List Nat} {c : Nat} (h : Stream bag line c) {x : Nat} (hx : x ∈ line) : x ∈ bag := by
  obtain ⟨ps, b, h1, _, h3, rfl⟩ := h
  have := List.mem_of_mem_drop (List.mem_of_mem_take hx)
  obtain ⟨q, hq, hx⟩ := List.mem_flatten.mp this
  exact (h1 q hq).mem_iff.mp hx
abbrev spBag (a b : D) (M : Mem) (Ex : XPost) (Q : D → Mem → Prop) : Prop := ∃ (p : Addr) (k : Nat), a = .adr p ∧ b = .int (k : Int) ∧ SrcM p M ∧ 2 ≤ k ∧ k ≤ 26 ∧ ∀ bag M', BagOf k bag → Drawn p M M' → Q (.str bag) M'
abbrev spStream (a b c : D) (M : Mem) (Ex : XPost) (Q : D → Mem → Prop) : Prop := ∃ (p : Addr) (bag : List Nat) (n : Nat), a = .adr p ∧ b = .str bag ∧ c = .int (n : Int) ∧ SrcM p M ∧ 1 ≤ bag.length ∧ bag.length ≤ 100 ∧ (∀ x ∈ bag, x < 128) ∧ n ≤ 1000 ∧ ∀ line M', Stream bag line n → Drawn p M M' → Q (.str line) M'
abbrev spSeen (a b c : D) (M : Mem) (Ex : XPost) (Q : D → Mem → Prop) : Prop := ∃ (p : Addr) (bag : List Nat) (n : Nat), a = .adr p ∧ b = .str bag ∧ c = .int (n : Int) ∧ SrcM p M ∧ 1 ≤ bag.length ∧ bag.length ≤ 100 ∧ (∀ x ∈ bag, x < 128) ∧ n ≤ 1000 ∧ ∀ line M', line.length = n → (∀ x ∈ line, x = 46 ∨ x ∈ bag) → Drawn p M M' → Q (.str line) M'
theorem sgL_eq (l : List Nat) : sgL l = sL (l.map fun c => [c]) := by
  unfold sgL sL
  rw [List.map_map]
  rfl
theorem one_flat (l : List Nat) : (l.map fun c => [c]).flatten = l := by
  induction l with
  | nil => rfl
  | cons c l ih => rw [List.map_cons, List.flatten_cons, ih]; rfl
theorem one_sum (l : List Nat) : ((l.map fun c => [c]).map (·.length)).sum = l.length := by
  induction l with
  | nil => rfl
  | cons c l ih => rw [List.map_cons, List.map_cons, List.sum_cons, ih, List.length_cons, Nat.add_comm]; rfl
end Dl
/-! Dl15: rows. -/
namespace Dl
open PySem PySem.Spec PyProof.Rows L2
def signsOk (bag s : List Nat) : Bool := s.all fun c => decide (c = 46) || decide (c ∈ bag)
def isRowL (bag s : List Nat) (most : Int) : Bool := decide ((s.length : Int) ≤ most) && signsOk bag s
def isRowD (bag : List Nat) (d : D) (most : Int) : Bool := match d with
  | .str s => isRowL bag s most
  | _ => false
theorem dEq_one (x y : Nat) : dEq (.str [x]) (.str [y]) = decide (x = y) := by
  rw [dEq_str]
  congr 1
  simp
theorem sorted_zip {l : List Nat} (h : l.Pairwise (· < ·)) : ((l.zip (l.drop 1)).all fun p => decide (p.1 < p.2)) = true := by
  rw [List.all_eq_true]
  intro p hp
  obtain ⟨i, hi, e⟩ := List.mem_iff_getElem.mp hp
  rw [List.getElem_zip] at e
  have hi2 : i < l.length ∧ i < (l.drop 1).length := by
    rw [List.length_zip] at hi
    omega
  rw [← e, decide_eq_true_iff]
  show l[i] < (l.drop 1)[i]
  rw [List.getElem_drop]
  exact List.pairwise_iff_getElem.mp h _ _ _ _ (by omega)
theorem abc_sorted : abcL.Pairwise (· < ·) := by
  unfold abcL
  exact List.pairwise_lt_range' _
theorem BagOf.sorted {k : Nat} {bag : List Nat} (h : BagOf k bag) : bag.Pairwise (· < ·) := abc_sorted.sublist h.1
theorem BagOf.nodup {k : Nat} {bag : List Nat} (h : BagOf k bag) : bag.Nodup := h.sorted.imp fun h => Nat.ne_of_lt h
theorem BagOf.ok {k : Nat} {bag : List Nat} (h : BagOf k bag) (hk : k ≤ 8) : isBagL bag = true := by
  unfold isBagL
  rw [decide_eq_true h.2.1, decide_eq_true (Nat.le_trans h.2.2 hk), sorted_zip h.sorted, Bool.and_true, Bool.true_and, Bool.true_and, List.all_eq_true]
  intro c hc
  exact decide_eq_true (h.1.subset hc)
theorem BagOf.asc {k : Nat} {bag : List Nat} (h : BagOf k bag) : ∀ x ∈ bag, x < 128 := fun x hx => by
  have := h.mem hx
  omega
end Dl
/-! Dl16: mirrors of defs as plain functions (Option) or as plain demands (Nd), and the loops' and comprehensions' rules over them. -/
namespace Dl
open PySem PySem.Spec PyProof.Rows L2
universe u v
section
variable {α β σ ρ : Type}
def Run (o : Option α) (Q : α → Prop) : Prop := ∃ a, o = some a ∧ Q a
theorem Run.mono {o : Option α} {Q Q' : α → Prop} (h : Run o Q) (q : ∀ a, Q a → Q' a) : Run o Q' := let ⟨a, e, z⟩ := h; ⟨a, e, q a z⟩
theorem Run.cut {o : Option α} {f : α → Option β} {Q : β → Prop} (h : Run (o.bind f) Q) : ∃ N : α → Prop, (∀ a, N a → Run (f a) Q) ∧ Run o N := by
  obtain ⟨b, e, q⟩ := h
  cases ho : o with
  | none => rw [ho] at e; cases e
  | some a => rw [ho] at e; exact ⟨fun x => Run (f x) Q, fun _ z => z, a, rfl, b, e, q⟩
theorem Run.bd {o : Option α} {f : α → Option β} {Q : β → Prop} (h : Run (o.bind f) Q) : Run o fun a => Run (f a) Q := by
  obtain ⟨b, e, q⟩ := h
  cases ho : o with
  | none => rw [ho] at e; cases e
  | some a => rw [ho] at e; exact ⟨a, rfl, b, e, q⟩
theorem Run.bind {o : Option α} {f : α → Option β} {Q : β → Prop} (h : Run o fun a => Run (f a) Q) : Run (o.bind f) Q := by
  obtain ⟨a, e, b, e2, q⟩ := h
  exact ⟨b, by rw [e]; exact e2, q⟩
theorem Run.get {a : α} {Q : α → Prop} (h : Run (some a) Q) : Q a := by
  obtain ⟨b, e, q⟩ := h
  cases e
  exact q
theorem Run.ok {a : α} {Q : α → Prop} (h : Q a) : Run (some a) Q := ⟨a, rfl, h⟩
theorem Run.no {Q : α → Prop} (h : Run (none : Option α) Q) : False := by obtain ⟨_, e, _⟩ := h; cases e
theorem Run.of {o : Option α} {a : α} {Q : α → Prop} (e : o = some a) (h : Q a) : Run o Q := ⟨a, e, h⟩
/-- a premise -/
def gd (c : Prop) [Decidable c] (k : Option α) : Option α := if c then k else none
theorem gd_pos {c : Prop} [Decidable c] {k : Option α} (h : c) : gd c k = k := if_pos h
theorem Run.gd {c : Prop} [Decidable c] {k : Option α} {Q : α → Prop} (h : Run (Dl.gd c k) Q) : c ∧ Run k Q := by
  unfold Dl.gd at h
  by_cases hc : c
  · rw [if_pos hc] at h; exact ⟨hc, h⟩
  · rw [if_neg hc] at h; exact h.no.elim
theorem Run.ifT {c : Bool} {a b : Option α} {Q : α → Prop} (hc : c = true) (h : Run (if c = true then a else b) Q) : Run a Q := by rw [if_pos hc] at h; exact h
theorem Run.ifF {c : Bool} {a b : Option α} {Q : α → Prop} (hc : c = false) (h : Run (if c = true then a else b) Q) : Run b Q := by rw [hc] at h; exact h
theorem pT {c : Bool} {A B : Prop} (hc : c = true) (h : if c = true then A else B) : A := by rw [if_pos hc] at h; exact h
theorem pF {c : Bool} {A B : Prop} (hc : c = false) (h : if c = true then A else B) : B := by rw [hc] at h; exact h

/-! ### loops -/
def foldO (f : α → σ → Option σ) : List α → σ → Option σ
  | [], s => some s
  | x :: xs, s => (f x s).bind (foldO f xs)
inductive Flow (σ ρ : Type) where
  | nx (s : σ) | bk (s : σ) | rt (r : ρ)
def flowO (f : α → σ → Option (Flow σ ρ)) : List α → σ → Option (Flow σ ρ)
  | [], s => some (.nx s)
  | x :: xs, s => (f x s).bind fun z => match z with
    | .nx s' => flowO f xs s'
    | .bk s' => some (.nx s')
    | .rt r => some (.rt r)
def whileO (c : σ → Option Bool) (f : σ → Option σ) : Nat → σ → Option σ
  | 0, _ => none
  | n + 1, s => (c s).bind fun b => if b = true then (f s).bind (whileO c f n) else some s
def mapO (f : α → Option β) : List α → Option (List β)
  | [] => some []
  | x :: xs => (f x).bind fun y => (mapO f xs).bind fun ys => some (y :: ys)
def filterO (f : α → Option Bool) : List α → Option (List α)
  | [] => some []
  | x :: xs => (f x).bind fun b => (filterO f xs).bind fun ys => some (if b = true then x :: ys else ys)
/-- demands: every outcome is looked at -/
abbrev Nd (α : Type) := (α → Prop) → Prop
def foldN (f : α → σ → Nd σ) : List α → σ → Nd σ
  | [], s, Q => Q s
  | x :: xs, s, Q => f x s fun s' => foldN f xs s' Q
def flowN (f : α → σ → Nd (Flow σ ρ)) : List α → σ → Nd (Flow σ ρ)
  | [], s, Q => Q (.nx s)
  | x :: xs, s, Q => f x s fun z => match z with
    | .nx s' => flowN f xs s' Q
    | .bk s' => Q (.nx s')
    | .rt r => Q (.rt r)
def whileN (c : σ → Option Bool) (f : σ → Nd σ) : Nat → σ → Nd σ
  | 0, _, _ => False
  | n + 1, s, Q => Run (c s) fun b => if b = true then f s fun s' => whileN c f n s' Q else Q s
theorem mapO_cut [Inhabited β] {f : α → Option β} {xs : List α} {N : List β → Prop} (h : Run (mapO f xs) N) : ∃ v : α → β, (∀ x ∈ xs, Run (f x) fun y => y = v x) ∧ N (xs.map v) := by
  have key : ∀ (xs : List α) (ys : List β), mapO f xs = some ys → (∀ x ∈ xs, ∃ y, f x = some y) ∧ ys = xs.map fun x => (f x).getD default := by
    intro xs
    induction xs with
    | nil => intro ys e; unfold mapO at e; cases e; exact ⟨fun _ h => absurd h List.not_mem_nil, rfl⟩
    | cons x xs ih =>
      intro ys e
      unfold mapO at e
      cases hx : f x with
      | none => rw [hx] at e; cases e
      | some y =>
        rw [hx] at e
        cases hs : mapO f xs with
        | none => simp [hs] at e
        | some zs =>
          simp [hs] at e
          obtain ⟨q1, q2⟩ := ih zs hs
          refine ⟨fun z hz => ?_, ?_⟩
          · rcases List.mem_cons.mp hz with rfl | hz
            · exact ⟨y, hx⟩
            · exact q1 z hz
          · rw [← e, q2, List.map_cons, hx]; rfl
  obtain ⟨ys, e, q⟩ := h
  obtain ⟨q1, q2⟩ := key xs ys e
  refine ⟨fun x => (f x).getD default, fun x hx => ?_, by rw [← q2]; exact q⟩
  obtain ⟨y, hy⟩ := q1 x hx
  exact ⟨y, hy, by show y = (f x).getD default; rw [hy]; rfl⟩
theorem mapO_eq {f : α → Option β} {v : α → β} : ∀ {xs : List α}, (∀ x ∈ xs, f x = some (v x)) → mapO f xs = some (xs.map v)
  | [], _ => rfl
  | x :: xs, h => by
    unfold mapO
    rw [h x List.mem_cons_self, mapO_eq (fun y hy => h y (List.mem_cons_of_mem _ hy))]
    rfl
theorem filterO_cut {f : α → Option Bool} {xs : List α} {N : List α → Prop} (h : Run (filterO f xs) N) : ∃ p : α → Bool, (∀ x ∈ xs, Run (f x) fun y => y = p x) ∧ N (xs.filter p) := by
  have key : ∀ (xs : List α) (ys : List α), filterO f xs = some ys → (∀ x ∈ xs, ∃ y, f x = some y) ∧ ys = xs.filter fun x => (f x).getD false := by
    intro xs
    induction xs with
    | nil => intro ys e; unfold filterO at e; cases e; exact ⟨fun _ h => absurd h List.not_mem_nil, rfl⟩
    | cons x xs ih =>
      intro ys e
      unfold filterO at e
      cases hx : f x with
      | none => rw [hx] at e; cases e
      | some y =>
        rw [hx] at e
        cases hs : filterO f xs with
        | none => simp [hs] at e
        | some zs =>
          simp [hs] at e
          obtain ⟨q1, q2⟩ := ih zs hs
          refine ⟨fun z hz => ?_, ?_⟩
          · rcases List.mem_cons.mp hz with rfl | hz
            · exact ⟨y, hx⟩
            · exact q1 z hz
          · rw [← e, q2, List.filter_cons, hx]; rfl
  obtain ⟨ys, e, q⟩ := h
  obtain ⟨q1, q2⟩ := key xs ys e
  refine ⟨fun x => (f x).getD false, fun x hx => ?_, by rw [← q2]; exact q⟩
  obtain ⟨y, hy⟩ := q1 x hx
  exact ⟨y, hy, by show y = (f x).getD false; rw [hy]; rfl⟩
theorem filterO_eq {f : α → Option Bool} {p : α → Bool} : ∀ {xs : List α}, (∀ x ∈ xs, f x = some (p x)) → filterO f xs = some (xs.filter p)
  | [], _ => rfl
  | x :: xs, h => by
    unfold filterO
    rw [h x List.mem_cons_self, filterO_eq (fun y hy => h y (List.mem_cons_of_mem _ hy))]
    simp [List.filter_cons]
end
/-! ### forgetting names -/
inductive Fgt : Gm → Gm → Prop where
  | nil : Fgt [] []
  | keep {p : Str × Option D} {Γ Γ' : Gm} (h : Fgt Γ Γ') : Fgt (p :: Γ) (p :: Γ')
  | drop {x : Str} {o : Option D} {Γ Γ' : Gm} (h : Fgt Γ Γ') : Fgt ((x, o) :: Γ) ((x, none) :: Γ')
theorem Fgt.refl : ∀ Γ : Gm, Fgt Γ Γ
  | [] => .nil
  | _ :: Γ => .keep (Fgt.refl Γ)
theorem Fgt.names {Γ Γ' : Gm} (h : Fgt Γ Γ') : Γ'.map (·.1) = Γ.map (·.1) := by
  induction h with
  | nil => rfl
  | keep _ ih => simp [ih]
  | drop _ ih => simp [ih]
theorem Fgt.at_ {Γ Γ' : Gm} (h : Fgt Γ Γ') : ∀ (i : Nat) (x : Str) (d : D), Γ'[i]? = some (x, some d) → Γ[i]? = some (x, some d) := by
  induction h with
  | nil => intro i x d e; simp at e
  | keep _ ih =>
    intro i x d e
    cases i with
    | zero => simpa using e
    | succ i => simpa using ih i x d (by simpa using e)
  | drop _ ih =>
    intro i x d e
    cases i with
    | zero => simp at e
    | succ i => simpa using ih i x d (by simpa using e)
section
variable {G : Glob} {C : Sc} {Γ Γ' : Gm} {M : Mem} {P : DE} {Ex : XPost} {rest : List Stmt}
theorem W.forget {st : List Stmt} (f : Fgt Γ Γ') (h : W G C st Γ' M P) : W G C st Γ M P := .mk fun X σ H B s => h X σ H B (s.forget f.names f.at_)
theorem Tg.forget {tg : Expr} {d : D} {Q : Gm → Mem → Prop} (f : Fgt Γ Γ') (h : Tg G C tg d Γ' M Ex Q) : Tg G C tg d Γ M Ex Q := .mk fun X σ H B v s r => h X σ H B v (s.forget f.names f.at_) r
theorem T.forget {e : Expr} {Q : Bool → Mem → Prop} (f : Fgt Γ Γ') (h : T G C e Γ' M Ex Q) : T G C e Γ M Ex Q := .mk fun X σ H B s => h X σ H B (s.forget f.names f.at_)
theorem T.det {e : Expr} {b : Bool} {Q : Bool → Mem → Prop} (h : T G C e Γ M Ex fun k M' => k = b ∧ M' = M) (q : Q b M) : T G C e Γ M Ex Q := h.mono fun k M' ⟨e1, e2⟩ => by rw [e1, e2]; exact q
theorem E.det {e : Expr} {d : D} {Q : D → Mem → Prop} (h : E G C e Γ M Ex fun d' M' => d' = d ∧ M' = M) (q : Q d M) : E G C e Γ M Ex Q := h.mono fun k M' ⟨e1, e2⟩ => by rw [e1, e2]; exact q
/-- behind an if: J -/
theorem W.join {c : Expr} {a b : List Stmt} {pos : Pos} (J : Gm → Mem → Prop) (hj : ∀ Γ' M', J Γ' M' → W G C rest Γ' M' P)
    (h : T G C c Γ M P.ex fun k M1 => if k = true then W G C a Γ M1 { P with nx := fun Γ' M' => ∃ Γ2, Fgt Γ' Γ2 ∧ J Γ2 M' } else W G C b Γ M1 { P with nx := fun Γ' M' => ∃ Γ2, Fgt Γ' Γ2 ∧ J Γ2 M' }) : W G C (.If c a b pos :: rest) Γ M P :=
  W.ite (h.mono fun k M1 q => by
    have up : ∀ st : List Stmt, W G C st Γ M1 { P with nx := fun Γ' M' => ∃ Γ2, Fgt Γ' Γ2 ∧ J Γ2 M' } → W G C st Γ M1 { P with nx := fun Γ' M' => W G C rest Γ' M' P } := fun st h =>
      h.mono (fun Γ' M' ⟨Γ2, f, j⟩ => W.forget f (hj _ _ j)) (fun _ _ z => z) (fun _ _ z => z) (fun _ _ z => z) rfl
    cases k with
    | true => rw [if_pos rfl] at q ⊢; exact up _ q
    | false => rw [if_neg Bool.false_ne_true] at q ⊢; exact up _ q)
/-- what a for asks -/
abbrev ForAsk (G : Glob) (C : Sc) (tg : Expr) (body rest : List Stmt) (Γ : Gm) (P : DE) (ds : List D) (ok : Mem → Prop) (M1 : Mem) : Prop :=
  ∃ Iv : Nat → Gm → Mem → Prop, Iv 0 Γ M1 ∧ (∀ i Γ' M', Iv i Γ' M' → ok M') ∧
      (∀ i d Γ' M', ds[i]? = some d → Iv i Γ' M' → Tg G C tg d Γ' M' P.ex fun Γ2 M2 => W G C body Γ2 M2 { P with nx := Iv (i + 1), ct := Iv (i + 1), bk := fun Γ3 M3 => W G C rest Γ3 M3 P }) ∧ ∀ Γ' M', Iv ds.length Γ' M' → W G C rest Γ' M' P
theorem Tg.mono {tg : Expr} {d : D} {Q Q' : Gm → Mem → Prop} (h : Tg G C tg d Γ M Ex Q) (q : ∀ Γ M, Q Γ M → Q' Γ M) : Tg G C tg d Γ M Ex Q' := .mk fun X σ H B v s r => (h X σ H B v s r).mono fun σ' H' ⟨Γ', B', M', q1, q2, q3, q4⟩ => ⟨Γ', B', M', q1, q2, q3, q _ _ q4⟩
variable {α σ ρ : Type} {tg : Expr} {body : List Stmt}
theorem for_flow {xs : List α} {s0 : σ} {g : α → D} {ds : List D} {ok : Mem → Prop} {M1 : Mem} (R : List α → σ → Prop) (NR : ρ → Prop) (B : α → σ → (Flow σ ρ → Prop) → Prop)
    (hR : ∀ x xs s, R (x :: xs) s → B x s fun z => match z with
      | .nx s' => R xs s'
      | .bk s' => R [] s'
      | .rt r => NR r) (h : R xs s0) (J : σ → Gm → Mem → Prop) (e : ds = xs.map g) (hok : ∀ s Γ' M', J s Γ' M' → ok M') (h0 : ∃ Γ2, Fgt Γ Γ2 ∧ J s0 Γ2 M1)
    (step : ∀ x s Γ' M' (N' : Flow σ ρ → Prop), x ∈ xs → J s Γ' M' → (∀ r, N' (.rt r) → NR r) → B x s N' → Tg G C tg (g x) Γ' M' P.ex fun Γ2 M2 => W G C body Γ2 M2 { P with
      nx := fun Γ3 M3 => ∃ Γ4, Fgt Γ3 Γ4 ∧ ∃ s', J s' Γ4 M3 ∧ N' (.nx s'), ct := fun Γ3 M3 => ∃ Γ4, Fgt Γ3 Γ4 ∧ ∃ s', J s' Γ4 M3 ∧ N' (.nx s'), bk := fun Γ3 M3 => ∃ Γ4, Fgt Γ3 Γ4 ∧ ∃ s', J s' Γ4 M3 ∧ N' (.bk s') })
    (fin : ∀ s Γ' M', J s Γ' M' → R [] s → W G C rest Γ' M' P) : ForAsk G C tg body rest Γ P ds ok M1 := by
  subst e
  refine ⟨fun i Γ' M' => ∃ Γ2, Fgt Γ' Γ2 ∧ ∃ s, J s Γ2 M' ∧ R (xs.drop i) s, ?_, fun i Γ' M' ⟨Γ2, f, s, j, r⟩ => hok _ _ _ j, ?_, ?_⟩
  · obtain ⟨Γ2, f, j⟩ := h0
    exact ⟨Γ2, f, s0, j, h⟩
  · intro i d Γ' M' hd ⟨Γ2, f, s, j, r⟩
    rw [List.getElem?_map] at hd
    cases hx : xs[i]? with
    | none => rw [hx] at hd; cases hd
    | some x =>
      rw [hx] at hd
      cases hd
      have hm := List.mem_of_getElem? hx
      have hdr : xs.drop i = x :: xs.drop (i + 1) := by
        obtain ⟨hi, e⟩ := List.getElem?_eq_some_iff.mp hx
        rw [List.drop_eq_getElem_cons hi, e]
      rw [hdr] at r
      refine Tg.forget f ((step x s Γ2 M' _ hm j (fun r z => z) (hR _ _ _ r)).mono fun Γ3 M3 w => ?_)
      exact w.mono (fun Γ4 M4 ⟨Γ5, f5, s5, j5, n5⟩ => ⟨Γ5, f5, s5, j5, n5⟩) (fun _ _ z => z) (fun Γ4 M4 ⟨Γ5, f5, s5, j5, n5⟩ => W.forget f5 (fin s5 Γ5 M4 j5 n5)) (fun Γ4 M4 ⟨Γ5, f5, s5, j5, n5⟩ => ⟨Γ5, f5, s5, j5, n5⟩) rfl
  · intro Γ' M' ⟨Γ2, f, s, j, r⟩
    rw [List.drop_of_length_le (by rw [List.length_map]; exact Nat.le_refl _)] at r
    exact W.forget f (fin s Γ2 M' j r)
theorem for_fold {xs : List α} {s0 : σ} {g : α → D} {ds : List D} {ok : Mem → Prop} {M1 : Mem} (R : List α → σ → Prop) (B : α → σ → (σ → Prop) → Prop)
    (hR : ∀ x xs s, R (x :: xs) s → B x s (R xs)) (h : R xs s0) (J : σ → Gm → Mem → Prop) (e : ds = xs.map g) (hok : ∀ s Γ' M', J s Γ' M' → ok M') (h0 : ∃ Γ2, Fgt Γ Γ2 ∧ J s0 Γ2 M1)
    (step : ∀ x s Γ' M' (N' : σ → Prop), x ∈ xs → J s Γ' M' → B x s N' → Tg G C tg (g x) Γ' M' P.ex fun Γ2 M2 => W G C body Γ2 M2 { P with
      nx := fun Γ3 M3 => ∃ Γ4, Fgt Γ3 Γ4 ∧ ∃ s', J s' Γ4 M3 ∧ N' s', ct := fun Γ3 M3 => ∃ Γ4, Fgt Γ3 Γ4 ∧ ∃ s', J s' Γ4 M3 ∧ N' s', bk := fun _ _ => False })
    (fin : ∀ s Γ' M', J s Γ' M' → R [] s → W G C rest Γ' M' P) : ForAsk G C tg body rest Γ P ds ok M1 := by
  refine for_flow (ρ := Empty) R (fun _ => True) (fun x s N => B x s fun s' => N (.nx s')) (fun x xs s h => hR x xs s h) h J e hok h0 (fun x s Γ' M' N' hx j hr b => ?_) fin
  exact (step x s Γ' M' (fun s' => N' (.nx s')) hx j b).mono fun Γ3 M3 w => w.mono (fun _ _ z => z) (fun _ _ z => z) (fun _ _ z => z.elim) (fun _ _ z => z) rfl
section
variable {xs : List α} {s0 : σ} {g : α → D} {ds : List D} {ok : Mem → Prop} {M1 : Mem} (J : σ → Gm → Mem → Prop)
theorem for_flowO {f : α → σ → Option (Flow σ ρ)} {N : Flow σ ρ → Prop} (h : Run (flowO f xs s0) N) (e : ds = xs.map g) (hok : ∀ s Γ' M', J s Γ' M' → ok M') (h0 : ∃ Γ2, Fgt Γ Γ2 ∧ J s0 Γ2 M1)
    (step : ∀ x s Γ' M' (N' : Flow σ ρ → Prop), x ∈ xs → J s Γ' M' → (∀ r, N' (.rt r) → N (.rt r)) → Run (f x s) N' → Tg G C tg (g x) Γ' M' P.ex fun Γ2 M2 => W G C body Γ2 M2 { P with
      nx := fun Γ3 M3 => ∃ Γ4, Fgt Γ3 Γ4 ∧ ∃ s', J s' Γ4 M3 ∧ N' (.nx s'), ct := fun Γ3 M3 => ∃ Γ4, Fgt Γ3 Γ4 ∧ ∃ s', J s' Γ4 M3 ∧ N' (.nx s'), bk := fun Γ3 M3 => ∃ Γ4, Fgt Γ3 Γ4 ∧ ∃ s', J s' Γ4 M3 ∧ N' (.bk s') })
    (fin : ∀ s Γ' M', J s Γ' M' → N (.nx s) → W G C rest Γ' M' P) : ForAsk G C tg body rest Γ P ds ok M1 :=
  for_flow (fun l s => Run (flowO f l s) N) (fun r => N (.rt r)) (fun x s => Run (f x s)) (fun x xs s h => (Run.bd h).mono fun z hz => by
    cases z with
    | nx s' => exact hz
    | bk s' => exact hz
    | rt r => exact hz.get) h J e hok h0 step fun s Γ' M' j r => fin s Γ' M' j r.get
theorem for_foldO {f : α → σ → Option σ} {N : σ → Prop} (h : Run (foldO f xs s0) N) (e : ds = xs.map g) (hok : ∀ s Γ' M', J s Γ' M' → ok M') (h0 : ∃ Γ2, Fgt Γ Γ2 ∧ J s0 Γ2 M1)
    (step : ∀ x s Γ' M' (N' : σ → Prop), x ∈ xs → J s Γ' M' → Run (f x s) N' → Tg G C tg (g x) Γ' M' P.ex fun Γ2 M2 => W G C body Γ2 M2 { P with
      nx := fun Γ3 M3 => ∃ Γ4, Fgt Γ3 Γ4 ∧ ∃ s', J s' Γ4 M3 ∧ N' s', ct := fun Γ3 M3 => ∃ Γ4, Fgt Γ3 Γ4 ∧ ∃ s', J s' Γ4 M3 ∧ N' s', bk := fun _ _ => False })
    (fin : ∀ s Γ' M', J s Γ' M' → N s → W G C rest Γ' M' P) : ForAsk G C tg body rest Γ P ds ok M1 :=
  for_fold (fun l s => Run (foldO f l s) N) (fun x s => Run (f x s)) (fun x xs s h => Run.bd h) h J e hok h0 step fun s Γ' M' j r => fin s Γ' M' j r.get
theorem for_flowN {f : α → σ → Nd (Flow σ ρ)} {N : Flow σ ρ → Prop} (h : flowN f xs s0 N) (e : ds = xs.map g) (hok : ∀ s Γ' M', J s Γ' M' → ok M') (h0 : ∃ Γ2, Fgt Γ Γ2 ∧ J s0 Γ2 M1)
    (step : ∀ x s Γ' M' (N' : Flow σ ρ → Prop), x ∈ xs → J s Γ' M' → (∀ r, N' (.rt r) → N (.rt r)) → f x s N' → Tg G C tg (g x) Γ' M' P.ex fun Γ2 M2 => W G C body Γ2 M2 { P with
      nx := fun Γ3 M3 => ∃ Γ4, Fgt Γ3 Γ4 ∧ ∃ s', J s' Γ4 M3 ∧ N' (.nx s'), ct := fun Γ3 M3 => ∃ Γ4, Fgt Γ3 Γ4 ∧ ∃ s', J s' Γ4 M3 ∧ N' (.nx s'), bk := fun Γ3 M3 => ∃ Γ4, Fgt Γ3 Γ4 ∧ ∃ s', J s' Γ4 M3 ∧ N' (.bk s') })
    (fin : ∀ s Γ' M', J s Γ' M' → N (.nx s) → W G C rest Γ' M' P) : ForAsk G C tg body rest Γ P ds ok M1 :=
  for_flow (fun l s => flowN f l s N) (fun r => N (.rt r)) (fun x s => f x s) (fun x xs s h => by
    have e : (fun z : Flow σ ρ => match z with
      | .nx s' => flowN f xs s' N
      | .bk s' => flowN f [] s' N
      | .rt r => N (.rt r)) = fun z => match z with
      | .nx s' => flowN f xs s' N
      | .bk s' => N (.nx s')
      | .rt r => N (.rt r) := by funext z; cases z <;> rfl
    show f x s (fun z => match z with
      | .nx s' => flowN f xs s' N
      | .bk s' => flowN f [] s' N
      | .rt r => N (.rt r))
    rw [e]
    exact h) h J e hok h0 step fun s Γ' M' j r => fin s Γ' M' j r
theorem for_foldN {f : α → σ → Nd σ} {N : σ → Prop} (h : foldN f xs s0 N) (e : ds = xs.map g) (hok : ∀ s Γ' M', J s Γ' M' → ok M') (h0 : ∃ Γ2, Fgt Γ Γ2 ∧ J s0 Γ2 M1)
    (step : ∀ x s Γ' M' (N' : σ → Prop), x ∈ xs → J s Γ' M' → f x s N' → Tg G C tg (g x) Γ' M' P.ex fun Γ2 M2 => W G C body Γ2 M2 { P with
      nx := fun Γ3 M3 => ∃ Γ4, Fgt Γ3 Γ4 ∧ ∃ s', J s' Γ4 M3 ∧ N' s', ct := fun Γ3 M3 => ∃ Γ4, Fgt Γ3 Γ4 ∧ ∃ s', J s' Γ4 M3 ∧ N' s', bk := fun _ _ => False })
    (fin : ∀ s Γ' M', J s Γ' M' → N s → W G C rest Γ' M' P) : ForAsk G C tg body rest Γ P ds ok M1 :=
  for_fold (fun l s => foldN f l s N) (fun x s => f x s) (fun x xs s h => h) h J e hok h0 step fun s Γ' M' j r => fin s Γ' M' j r
end
theorem W.whileO {c : Expr} {pos : Pos} {cf : σ → Option Bool} {f : σ → Option σ} {n : Nat} {s0 : σ} {N : σ → Prop} (J : σ → Gm → Mem → Prop) (h : Run (Dl.whileO cf f n s0) N) (h0 : ∃ Γ2, Fgt Γ Γ2 ∧ J s0 Γ2 M)
    (step : ∀ s Γ' M', J s Γ' M' → ∀ Nc : Bool → Prop, Run (cf s) Nc → T G C c Γ' M' P.ex fun b M1 => Nc b ∧ J s Γ' M1)
    (body_ : ∀ s Γ' M' (N' : σ → Prop), J s Γ' M' → Run (f s) N' → W G C body Γ' M' { P with nx := fun Γ3 M3 => ∃ Γ4, Fgt Γ3 Γ4 ∧ ∃ s', J s' Γ4 M3 ∧ N' s', ct := fun Γ3 M3 => ∃ Γ4, Fgt Γ3 Γ4 ∧ ∃ s', J s' Γ4 M3 ∧ N' s', bk := fun _ _ => False })
    (fin : ∀ s Γ' M', J s Γ' M' → N s → W G C rest Γ' M' P) : W G C (.While c body [] pos :: rest) Γ M P := by
  refine W.while_ (fun m Γ' M' => ∃ Γ2, Fgt Γ' Γ2 ∧ ∃ s, J s Γ2 M' ∧ Run (Dl.whileO cf f m s) N) ?_ ?_
  · obtain ⟨Γ2, f, j⟩ := h0
    exact ⟨n, Γ2, f, s0, j, h⟩
  · intro m Γ' M' ⟨Γ2, fg, s, j, r⟩
    cases m with
    | zero => exact r.no.elim
    | succ m =>
      refine T.forget fg ((step s Γ2 M' j _ (Run.bd r)).mono fun b M1 ⟨hb, j1⟩ => ?_)
      cases b with
      | true =>
        rw [if_pos rfl]
        refine W.forget fg ((body_ s Γ2 M1 _ j1 (Run.bd (Run.ifT rfl hb))).mono ?_ (fun _ _ z => z) (fun _ _ z => z.elim) ?_ rfl)
        · exact fun Γ3 M3 ⟨Γ4, f4, s4, j4, n4⟩ => ⟨m, Nat.lt_succ_self m, Γ4, f4, s4, j4, n4⟩
        · exact fun Γ3 M3 ⟨Γ4, f4, s4, j4, n4⟩ => ⟨m, Nat.lt_succ_self m, Γ4, f4, s4, j4, n4⟩
      | false =>
        rw [if_neg Bool.false_ne_true]
        exact W.forget fg (fin s Γ2 M1 j1 (Run.get (Run.ifF rfl hb)))
theorem W.whileN {c : Expr} {pos : Pos} {cf : σ → Option Bool} {f : σ → Nd σ} {n : Nat} {s0 : σ} {N : σ → Prop} (J : σ → Gm → Mem → Prop) (h : Dl.whileN cf f n s0 N) (h0 : ∃ Γ2, Fgt Γ Γ2 ∧ J s0 Γ2 M)
    (step : ∀ s Γ' M', J s Γ' M' → ∀ Nc : Bool → Prop, Run (cf s) Nc → T G C c Γ' M' P.ex fun b M1 => Nc b ∧ J s Γ' M1)
    (body_ : ∀ s Γ' M' (N' : σ → Prop), J s Γ' M' → f s N' → W G C body Γ' M' { P with nx := fun Γ3 M3 => ∃ Γ4, Fgt Γ3 Γ4 ∧ ∃ s', J s' Γ4 M3 ∧ N' s', ct := fun Γ3 M3 => ∃ Γ4, Fgt Γ3 Γ4 ∧ ∃ s', J s' Γ4 M3 ∧ N' s', bk := fun _ _ => False })
    (fin : ∀ s Γ' M', J s Γ' M' → N s → W G C rest Γ' M' P) : W G C (.While c body [] pos :: rest) Γ M P := by
  refine W.while_ (fun m Γ' M' => ∃ Γ2, Fgt Γ' Γ2 ∧ ∃ s, J s Γ2 M' ∧ Dl.whileN cf f m s N) ?_ ?_
  · obtain ⟨Γ2, f, j⟩ := h0
    exact ⟨n, Γ2, f, s0, j, h⟩
  · intro m Γ' M' ⟨Γ2, fg, s, j, r⟩
    cases m with
    | zero => exact False.elim r
    | succ m =>
      refine T.forget fg ((step s Γ2 M' j _ r).mono fun b M1 ⟨hb, j1⟩ => ?_)
      cases b with
      | true =>
        rw [if_pos rfl]
        refine W.forget fg ((body_ s Γ2 M1 _ j1 (pT rfl hb)).mono ?_ (fun _ _ z => z) (fun _ _ z => z.elim) ?_ rfl)
        · exact fun Γ3 M3 ⟨Γ4, f4, s4, j4, n4⟩ => ⟨m, Nat.lt_succ_self m, Γ4, f4, s4, j4, n4⟩
        · exact fun Γ3 M3 ⟨Γ4, f4, s4, j4, n4⟩ => ⟨m, Nat.lt_succ_self m, Γ4, f4, s4, j4, n4⟩
      | false =>
        rw [if_neg Bool.false_ne_true]
        exact W.forget fg (fin s Γ2 M1 j1 (pF rfl hb))
end
end Dl
/-! Dl17: comprehensions over typed lists; memory facts; values frozen at a statement. -/
namespace Dl
open PySem PySem.Spec PyProof.Rows L2
section
variable {G : Glob} {C : Sc} {Γ : Gm} {M : Mem} {Ex : XPost} {tg iter : Expr}
/-- a comprehension over xs (each item written by g), that changes nothing: f the item's value, p the test -/
abbrev AskX (G : Glob) (C : Sc) (scope : Scope) (tg : Expr) (ix : List Nat) (elt : Expr) (Γ : Gm) (Q : D → Mem → Prop) (ds : List D) (ok : Mem → Prop) (M : Mem) : Prop :=
  ∃ (α β : Type) (xs : List α) (ys : List β) (g : α → D) (v : α → β) (f : β → D), ds = xs.map g ∧ ys = xs.map v ∧ xs.length ≤ 100000 ∧ ok M ∧ (∀ x ∈ xs, TgB G (C.blk scope) tg ix (g x) (wipeG Γ ix) M fun Γ2 => E G (C.blk scope) elt Γ2 M XNo fun e M3 => e = f (v x) ∧ M3 = M) ∧ Q (.lst (ys.map f)) M
abbrev AskY (G : Glob) (C : Sc) (scope : Scope) (tg : Expr) (ix : List Nat) (c elt : Expr) (Γ : Gm) (Q : D → Mem → Prop) (ds : List D) (ok : Mem → Prop) (M : Mem) : Prop :=
  ∃ (α β : Type) (xs : List α) (ys : List β) (g : α → D) (p : α → Bool) (v : α → β) (f : β → D), ds = xs.map g ∧ ys = (xs.filter p).map v ∧ xs.length ≤ 100000 ∧ ok M ∧ (∀ x ∈ xs, TgB G (C.blk scope) tg ix (g x) (wipeG Γ ix) M fun Γ2 => T G (C.blk scope) c Γ2 M XNo fun b M2 => b = p x ∧ M2 = M ∧ (p x = true → E G (C.blk scope) elt Γ2 M XNo (fun e M3 => e = f (v x) ∧ M3 = M))) ∧ Q (.lst (ys.map f)) M
def nth {α : Type} (xs : List α) (f : α → D) (i : Nat) : D := match xs[i]? with
  | some x => f x
  | none => .non
def nthB {α : Type} (xs : List α) (p : α → Bool) (i : Nat) : Bool := match xs[i]? with
  | some x => p x
  | none => false
theorem nth_map {α : Type} (f : α → D) : ∀ xs : List α, (List.range xs.length).map (nth xs f) = xs.map f := by
  intro xs
  apply List.ext_getElem?
  intro i
  rw [List.getElem?_map, List.getElem?_map]
  by_cases h : i < xs.length
  · rw [List.getElem?_range h, List.getElem?_eq_getElem h]
    simp [nth, List.getElem?_eq_getElem h]
  · rw [List.getElem?_eq_none (by simpa using h), List.getElem?_eq_none (by simpa using h)]
    rfl
theorem nth_filter {α : Type} (p : α → Bool) (f : α → D) : ∀ xs : List α, ((List.range xs.length).filter (nthB xs p)).map (nth xs f) = (xs.filter p).map f := by
  refine snoc_ind (by rfl) fun xs x ih => ?_
  have e1 : ∀ i, i < xs.length → nth (xs ++ [x]) f i = nth xs f i := fun i h => by unfold nth; rw [List.getElem?_append_left h]
  have e2 : ∀ i, i < xs.length → nthB (xs ++ [x]) p i = nthB xs p i := fun i h => by unfold nthB; rw [List.getElem?_append_left h]
  have e3 : nth (xs ++ [x]) f xs.length = f x := by unfold nth; rw [List.getElem?_append_right (Nat.le_refl _)]; simp
  have e4 : nthB (xs ++ [x]) p xs.length = p x := by unfold nthB; rw [List.getElem?_append_right (Nat.le_refl _)]; simp
  rw [List.length_append, List.length_singleton, List.range_succ, List.filter_append, List.map_append, List.filter_append, List.map_append, ← ih]
  congr 1
  · rw [List.filter_congr (q := nthB xs p) fun i hi => e2 i (List.mem_range.mp hi)]
    exact List.map_congr_left fun i hi => e1 i (List.mem_range.mp ((List.mem_filter.mp hi).1))
  · by_cases hp : p x = true
    · simp [hp, e4, e3]
    · simp [hp, e4]
theorem AskX.lc {scope : Scope} {ix : List Nat} {elt : Expr} {Q : D → Mem → Prop} {ds : List D} {ok : Mem → Prop} (h : AskX G C scope tg ix elt Γ Q ds ok M) : AskM G C scope tg ix elt Γ Q ds ok M := by
  obtain ⟨α, β, xs, ys, g, v, f', rfl, rfl, hl, hok, ht, hd⟩ := h
  rw [List.map_map] at hd
  generalize hf : f' ∘ v = f at hd
  have ht : ∀ x ∈ xs, TgB G (C.blk scope) tg ix (g x) (wipeG Γ ix) M fun Γ2 => E G (C.blk scope) elt Γ2 M XNo fun e M3 => e = f x ∧ M3 = M := by rw [← hf]; exact ht
  refine ⟨by rw [List.length_map]; exact hl, hok, nth xs f, fun i d hi => ?_, ?_⟩
  · rw [List.getElem?_map] at hi
    cases hx : xs[i]? with
    | none => rw [hx] at hi; cases hi
    | some x =>
      rw [hx] at hi
      cases hi
      have e : nth xs f i = f x := by unfold nth; rw [hx]
      rw [e]
      exact ht x (List.mem_of_getElem? hx)
  · rw [List.length_map, nth_map]
    exact hd
theorem AskY.lc {scope : Scope} {ix : List Nat} {c elt : Expr} {Q : D → Mem → Prop} {ds : List D} {ok : Mem → Prop} (h : AskY G C scope tg ix c elt Γ Q ds ok M) : AskF G C scope tg ix c elt Γ Q ds ok M := by
  obtain ⟨α, β, xs, ys, g, p, v, f', rfl, rfl, hl, hok, ht, hd⟩ := h
  rw [List.map_map] at hd
  generalize hf : f' ∘ v = f at hd
  have ht : ∀ x ∈ xs, TgB G (C.blk scope) tg ix (g x) (wipeG Γ ix) M fun Γ2 => T G (C.blk scope) c Γ2 M XNo fun b M2 => b = p x ∧ M2 = M ∧ (p x = true → E G (C.blk scope) elt Γ2 M XNo (fun e M3 => e = f x ∧ M3 = M)) := by rw [← hf]; exact ht
  refine ⟨by rw [List.length_map]; exact hl, hok, nthB xs p, nth xs f, fun i d hi => ?_, ?_⟩
  · rw [List.getElem?_map] at hi
    cases hx : xs[i]? with
    | none => rw [hx] at hi; cases hi
    | some x =>
      rw [hx] at hi
      cases hi
      have e : nth xs f i = f x := by unfold nth; rw [hx]
      have e2 : nthB xs p i = p x := by unfold nthB; rw [hx]
      rw [e, e2]
      refine .mk fun X σ H B v s r => (ht x (List.mem_of_getElem? hx) X σ H B v s r).mono fun σ2 H2 ⟨q1, q2, Γ2, q3, q4⟩ => ⟨q1, q2, Γ2, q3, q4.mono fun b M2 ⟨z1, z2, z3⟩ => ⟨z1, z2, fun hb => z3 (by rw [← z1]; exact hb)⟩⟩
  · rw [List.length_map, nth_filter]
    exact hd
theorem E.lcX {elt : Expr} {scope : Scope} {pos : Pos} {Q : D → Mem → Prop} (own : List (Str × Nat)) (h : I1 G C tg iter Γ M Ex (AskX G C scope tg (own.map (·.2)) elt Γ Q))
    (ok : blkC C.N C.sc scope own = true := by decide +kernel) (hs : ∀ env x, foldedSetIterable iter env x = pure x := by intro _ _; rfl) : E G C (.ListComp elt [⟨tg, iter, [], 0⟩] scope pos) Γ M Ex Q :=
  E.lcM own (h.mono fun ds ok M1 q => AskX.lc q) ok hs
theorem E.lcY {elt c : Expr} {scope : Scope} {pos : Pos} {Q : D → Mem → Prop} (own : List (Str × Nat)) (h : I1 G C tg iter Γ M Ex (AskY G C scope tg (own.map (·.2)) c elt Γ Q))
    (ok : blkC C.N C.sc scope own = true := by decide +kernel) (hs : ∀ env x, foldedSetIterable iter env x = pure x := by intro _ _; rfl) : E G C (.ListComp elt [⟨tg, iter, [c], 0⟩] scope pos) Γ M Ex Q :=
  E.lcF own (h.mono fun ds ok M1 q => AskY.lc q) ok hs
theorem Upd.swap {Γ1 Γ' : Gm} {x : Str} {d1 : D} (u : Upd Γ1 x d1 Γ') (d2 : D) : ∃ Γ2, Upd Γ1 x d2 Γ2 ∧ Γ2.map (·.1) = Γ'.map (·.1) ∧ ∀ (i : Nat) (y : Str) (d : D), Γ2[i]? = some (y, some d) → Γ'[i]? = some (y, some d) ∨ (Γ'[i]? = some (y, some d1) ∧ d = d2) := by
  induction u with
  | here =>
    refine ⟨_, .here, rfl, fun i y d e => ?_⟩
    cases i with
    | zero => simp at e; obtain ⟨rfl, rfl⟩ := e; exact .inr ⟨rfl, rfl⟩
    | succ i => exact .inl (by simpa using e)
  | there _ ih =>
    obtain ⟨Γ2, v1, v2, v3⟩ := ih
    refine ⟨_, .there v1, by simp [v2], fun i y d e => ?_⟩
    cases i with
    | zero => exact .inl (by simpa using e)
    | succ i => simpa using v3 i y d (by simpa using e)
/-- an own list that a name holds, frozen -/
theorem S0.frz {X : Cx} {σ : L2.St} {H B : Hp} {Γ' : Gm} {x : Str} {p : Addr} {ds : List D} {M0 : Mem} (s : S0 G C X Γ' (mset M0 p (.lst ds)) Ex σ H B) (h0 : M0 p = none) {Γ1 : Gm} (u : Upd Γ1 x (.adr p) Γ') :
    ∃ B' Γ2, Upd Γ1 x (.lst ds) Γ2 ∧ S0 G C X Γ2 M0 Ex σ H B' ∧ Stp B (mset M0 p (.lst ds)) H B' M0 H := by
  obtain ⟨q1, o, q2, vs, rfl, q4⟩ := s.hd.own p _ mset_same
  have t := Stp.freeze s.hd (m := .lst ds) mset_same q2
  have h6 := s.hd.freeze (m := .lst ds) mset_same q2
  rw [mdel_mset h0] at t h6
  obtain ⟨Γ2, v1, v2, v3⟩ := u.swap (.lst ds)
  refine ⟨_, Γ2, v1, ⟨s.cx, h6, ⟨v2.trans s.gm.nm, s.gm.ln, fun i y d e => ?_⟩, s.xo.step t⟩, t⟩
  rcases v3 i y d e with e2 | ⟨e2, rfl⟩
  · obtain ⟨v, w1, w2⟩ := s.gm.at_ i y d e2
    exact ⟨v, w1, w2.mono t.same⟩
  · obtain ⟨v, w1, w2⟩ := s.gm.at_ i y (.adr p) e2
    rw [rep_adr] at w2
    exact ⟨v, w1, rep_lst.mpr ⟨p, vs, w2, SqE.of upd_same, q4.mono t.same⟩⟩
theorem W.frz {P : DE} {st : List Stmt} {x : Str} {p : Addr} {ds : List D} {Γ' : Gm} (u : Upd Γ x (.adr p) Γ') (h0 : M p = none) (h : ∀ Γ2, Upd Γ x (.lst ds) Γ2 → W G C st Γ2 M P) : W G C st Γ' (mset M p (.lst ds)) P := .mk fun X σ H B s => by
  obtain ⟨B', Γ2, v1, s2, t⟩ := s.frz h0 u
  exact DE.step t (h Γ2 v1 X σ H B' s2)
end
theorem Upd.fn {Γ Γ1 Γ2 : Gm} {x : Str} {d : D} (a : Upd Γ x d Γ1) (b : Upd Γ x d Γ2) (h : (Γ.map (·.1)).Nodup) : Γ1 = Γ2 := by
  induction a generalizing Γ2 with
  | here =>
    cases b with
    | here => rfl
    | there b =>
      exfalso
      have : ∀ {Γ Γ' : Gm} {x : Str} {d : D}, Upd Γ x d Γ' → x ∈ Γ.map (·.1) := by
        intro Γ Γ' x d u
        induction u with
        | here => simp
        | there _ ih => simp [ih]
      exact (List.nodup_cons.mp h).1 (this b)
  | there a ih =>
    cases b with
    | here =>
      exfalso
      have : ∀ {Γ Γ' : Gm} {x : Str} {d : D}, Upd Γ x d Γ' → x ∈ Γ.map (·.1) := by
        intro Γ Γ' x d u
        induction u with
        | here => simp
        | there _ ih => simp [ih]
      exact (List.nodup_cons.mp h).1 (this a)
    | there b => rw [ih b (List.nodup_cons.mp h).2]
section
variable {G : Glob} {C : Sc} {Γ : Gm} {M : Mem} {P : DE} {rest : List Stmt} {tg iter elt c : Expr} {scope : Scope} {x : Str} {px pos spos : Pos}
theorem W.lcX (own : List (Str × Nat)) {Γr : D → Gm} (hu : ∀ d, Upd Γ x d (Γr d)) (h : I1 G C tg iter Γ M P.ex (AskX G C scope tg (own.map (·.2)) elt Γ fun d M1 => W G C rest (Γr d) M1 P))
    (hl : C.sc.names.lookup x = some .local := by decide +kernel) (hk : C.sc.kind = .function := by rfl) (hx : x ∈ C.N := by decide +kernel) (hline : (px.line == pos.line) = true := by rfl) (ha : (scope.names.any fun (n, k) => n == x && (k == .local || k == .cell)) = false := by decide +kernel)
    (ok : blkC C.N C.sc scope own = true := by decide +kernel) (hs : ∀ env x, foldedSetIterable iter env x = pure x := by intro _ _; rfl) : W G C (.Assign [.Name x px] (.ListComp elt [⟨tg, iter, [], 0⟩] scope pos) spos :: rest) Γ M P := by
  refine W.lc0 own (h.mono fun ds ok M1 q => ?_) hl hk hx hline ha ok hs
  obtain ⟨hl, hok, f, ht, hd⟩ := AskX.lc q
  refine ⟨size1000' hl, fun i acc M' => M' = M1 ∧ acc = (List.range i).map f, ⟨rfl, rfl⟩, fun i acc M' h => by rw [h.1]; exact hok, fun i d acc M' hget ⟨e1, e2⟩ => ?_, fun acc M' ⟨e1, e2⟩ p hp => ⟨_, hu _, ?_⟩⟩
  · subst e1 e2
    refine .mk fun X σ H B v s r => (ht i d hget X σ H B v s r).mono fun σ2 H2 ⟨q1, q2, Γ2, q3, q4⟩ => ⟨q1, q2, Γ2, q3, ?_⟩
    exact on_t rfl (q4.mono fun e M3 ⟨z1, z2⟩ => ⟨z2, by rw [z1, List.range_succ, List.map_append]; rfl⟩)
  · subst e1 e2
    refine .mk fun X σ H B s => ?_
    obtain ⟨B', Γ2, v1, s2, t⟩ := s.frz hp (hu _)
    have nd : (Γ.map (·.1)).Nodup := by
      have e := s2.gm.nm
      have : ∀ {Γ Γ' : Gm} {x : Str} {d : D}, Upd Γ x d Γ' → Γ'.map (·.1) = Γ.map (·.1) := by
        intro Γ Γ' x d u
        induction u with
        | here => rfl
        | there _ ih => simp [ih]
      rw [this v1] at e
      rw [e]
      exact s.cx.nd
    rw [Upd.fn v1 (hu _) nd] at s2
    exact DE.step t (hd X σ H B' s2)
theorem W.lcY (own : List (Str × Nat)) {Γr : D → Gm} (hu : ∀ d, Upd Γ x d (Γr d)) (h : I1 G C tg iter Γ M P.ex (AskY G C scope tg (own.map (·.2)) c elt Γ fun d M1 => W G C rest (Γr d) M1 P))
    (hl : C.sc.names.lookup x = some .local := by decide +kernel) (hk : C.sc.kind = .function := by rfl) (hx : x ∈ C.N := by decide +kernel) (hline : (px.line == pos.line) = true := by rfl) (ha : (scope.names.any fun (n, k) => n == x && (k == .local || k == .cell)) = false := by decide +kernel)
    (ok : blkC C.N C.sc scope own = true := by decide +kernel) (hs : ∀ env x, foldedSetIterable iter env x = pure x := by intro _ _; rfl) : W G C (.Assign [.Name x px] (.ListComp elt [⟨tg, iter, [c], 0⟩] scope pos) spos :: rest) Γ M P := by
  refine W.lc1 own (h.mono fun ds ok M1 q => ?_) hl hk hx hline ha ok hs
  obtain ⟨hl, hok, p, f, ht, hd⟩ := AskY.lc q
  refine ⟨size1000' hl, fun i acc M' => M' = M1 ∧ acc = ((List.range i).filter p).map f, ⟨rfl, rfl⟩, fun i acc M' h => by rw [h.1]; exact hok, fun i d acc M' hget ⟨e1, e2⟩ => ?_, fun acc M' ⟨e1, e2⟩ p hp => ⟨_, hu _, ?_⟩⟩
  · subst e1 e2
    refine .mk fun X σ H B v s r => (ht i d hget X σ H B v s r).mono fun σ2 H2 ⟨q1, q2, Γ2, q3, q4⟩ => ⟨q1, q2, Γ2, q3, q4.mono fun b M2 ⟨z1, z2, z3⟩ => ?_⟩
    subst z2
    refine on_c (fun hb => (z3 hb).mono fun e M3 ⟨y1, y2⟩ => ⟨y2, ?_⟩) fun hb => ⟨rfl, ?_⟩
    · rw [List.range_succ, List.filter_append, List.map_append, y1]
      rw [z1] at hb
      simp [hb]
    · rw [List.range_succ, List.filter_append, List.map_append]
      rw [z1] at hb
      simp [hb]
  · subst e1 e2
    refine .mk fun X σ H B s => ?_
    obtain ⟨B', Γ2, v1, s2, t⟩ := s.frz hp (hu _)
    have nd : (Γ.map (·.1)).Nodup := by
      have e := s2.gm.nm
      have : ∀ {Γ Γ' : Gm} {x : Str} {d : D}, Upd Γ x d Γ' → Γ'.map (·.1) = Γ.map (·.1) := by
        intro Γ Γ' x d u
        induction u with
        | here => rfl
        | there _ ih => simp [ih]
      rw [this v1] at e
      rw [e]
      exact s.cx.nd
    rw [Upd.fn v1 (hu _) nd] at s2
    exact DE.step t (hd X σ H B' s2)
end
/-! ### memory facts -/
/-- all but ps stands as it was -/
def Kp (ps : List Addr) (M M' : Mem) : Prop := ∀ q m, q ∉ ps → M q = some m → M' q = some m
theorem Kp.refl {ps : List Addr} {M : Mem} : Kp ps M M := fun _ _ _ h => h
theorem Kp.new {ps : List Addr} {M M' : Mem} {p : Addr} {o : MO} (k : Kp ps M M') (h : M p = none) : Kp ps M (mset M' p o) := fun q m hq e => by
  rw [mset_ne (fun z => by rw [z, h] at e; cases e)]
  exact k q m hq e
theorem Kp.set {ps : List Addr} {M M' : Mem} {p : Addr} {o : MO} (k : Kp ps M M') (h : p ∈ ps) : Kp ps M (mset M' p o) := fun q m hq e => by
  rw [mset_ne (fun z => hq (by rw [z]; exact h))]
  exact k q m hq e
theorem Kp.drawn {ps : List Addr} {M M' M2 : Mem} {p : Addr} (k : Kp ps M M') (h : p ∈ ps) (dr : Drawn p M' M2) : Kp ps M M2 := by
  obtain ⟨b, s, _, rfl⟩ := dr
  exact k.set h
theorem Kp.fresh {ps : List Addr} {M M' : Mem} {p : Addr} (k : Kp ps M M') (h : M' p = none) (hp : p ∉ ps) : M p = none := by
  cases e : M p with
  | none => rfl
  | some m =>
    have := k p m hp e
    rw [h] at this
    cases this
theorem nk {M : Mem} {p q : Addr} {m : MO} (hp : M p = none) (h : M q = some m) : p ≠ q := fun z => by rw [z, h] at hp; cases hp
theorem Dn.kp {Q : D → Mem → Prop} {d : D} {M M' : Mem} (k : Kp [] M M') (q : Q d M) : Dn Q d M' := ⟨M, fun r m e => k r m List.not_mem_nil e, q⟩
theorem Dn.own {Q : D → Mem → Prop} {p : Addr} {o : MO} {M M' : Mem} (k : Kp [] M M') (f : M' p = some o) (n : M p = none) (q : ∀ p, M p = none → Q (.adr p) (mset M p o)) : Dn Q (.adr p) M' :=
  ⟨mset M p o, fun r m e => by
    by_cases h : r = p
    · rw [h, mset_same] at e
      cases e
      rw [h]
      exact f
    · rw [mset_ne h] at e
      exact k r m List.not_mem_nil e, q p n⟩
theorem Dn.src {Q : D → Mem → Prop} {d : D} {M M' : Mem} {p : Addr} (k : Kp [p] M M') (h : SrcM p M') (q : ∀ M2, Drawn p M M2 → Q d M2) : Dn Q d M' :=
  Drawn.dn h (fun r m hr e => k r m (by simpa using hr) e) q
end Dl
/-! Dl18: operators and built-ins by kinds. -/
namespace Dl
open PySem PySem.Spec PyProof.Rows L2
section
variable {α β : Type}
theorem Run.ex {o : Option α} {f : α → Option β} {Q : β → Prop} (h : Run (o.bind f) Q) : ∃ x, o = some x ∧ Run (f x) Q := h.bd
theorem Nd.cut {m : Nd α} {Q : α → Prop} (h : m Q) : ∃ N : α → Prop, (∀ a, N a → Q a) ∧ m N := ⟨Q, fun _ z => z, h⟩
theorem mapO_ex [Inhabited β] {γ : Type} {f : α → Option β} {xs : List α} {k : List β → Option γ} {Q : γ → Prop} (h : Run ((mapO f xs).bind k) Q) : ∃ (ys : List β) (v : α → β), ys = xs.map v ∧ (∀ x ∈ xs, Run (f x) fun y => y = v x) ∧ Run (k ys) Q := by
  obtain ⟨v, h1, h2⟩ := mapO_cut h.bd
  exact ⟨_, v, rfl, h1, h2⟩
theorem mapO_exN [Inhabited β] {f : α → Option β} {xs : List α} {k : List β → Prop} (h : Run (mapO f xs) k) : ∃ (ys : List β) (v : α → β), ys = xs.map v ∧ (∀ x ∈ xs, Run (f x) fun y => y = v x) ∧ k ys := by
  obtain ⟨v, h1, h2⟩ := mapO_cut h
  exact ⟨_, v, rfl, h1, h2⟩
theorem filterO_ex {γ : Type} {f : α → Option Bool} {xs : List α} {k : List α → Option γ} {Q : γ → Prop} (h : Run ((filterO f xs).bind k) Q) : ∃ (ys : List α) (p : α → Bool), ys = xs.filter p ∧ (∀ x ∈ xs, Run (f x) fun y => y = p x) ∧ Run (k ys) Q := by
  obtain ⟨v, h1, h2⟩ := filterO_cut h.bd
  exact ⟨_, v, rfl, h1, h2⟩
theorem filterO_exN {f : α → Option Bool} {xs : List α} {k : List α → Prop} (h : Run (filterO f xs) k) : ∃ (ys : List α) (p : α → Bool), ys = xs.filter p ∧ (∀ x ∈ xs, Run (f x) fun y => y = p x) ∧ k ys := by
  obtain ⟨v, h1, h2⟩ := filterO_cut h
  exact ⟨_, v, rfl, h1, h2⟩
theorem exT {c : Bool} {o d : Option α} {x : α} (hc : c = true) (h : (if c = true then o else d) = some x) : o = some x := by rw [if_pos hc] at h; exact h
theorem exF {c : Bool} {o d : Option α} {x : α} (hc : c = false) (h : (if c = true then d else o) = some x) : o = some x := by rw [hc] at h; exact h
theorem mem_flt {xs zs : List α} {p : α → Bool} {x : α} (e : zs = xs.filter p) (hx : x ∈ xs) (hp : p x = true) : x ∈ zs := by rw [e]; exact List.mem_filter.mpr ⟨hx, hp⟩
end
theorem len_ok {ds : List D} (h : Nat.ble ds.length 1000 = true) : ds.length ≤ 1000 := Nat.le_of_ble_eq_true h
theorem len_ok' {n : Nat} (h : n ≤ 1000) : n ≤ 1000 := h
/-- whole numbers from lo, below hi -/
def rangeI (lo hi : Int) : List Int := (List.range (hi - lo).toNat).map fun i => lo + (i : Nat)
theorem mem_rangeI {lo hi x : Int} : x ∈ rangeI lo hi ↔ lo ≤ x ∧ x < hi := by
  unfold rangeI
  rw [List.mem_map]
  constructor
  · rintro ⟨i, hi, rfl⟩
    have := List.mem_range.mp hi
    omega
  · rintro ⟨h1, h2⟩
    exact ⟨(x - lo).toNat, List.mem_range.mpr (by omega), by omega⟩
theorem length_rangeI (lo hi : Int) : (rangeI lo hi).length = (hi - lo).toNat := by unfold rangeI; simp
theorem rngD_I {lo hi : Int} : rngD lo (hi - lo).toNat = (rangeI lo hi).map .int := by unfold rngD rangeI; rw [List.map_map]; rfl
theorem rngD_0 {hi : Int} : rngD 0 hi.toNat = (rangeI 0 hi).map .int := by rw [← rngD_I]; simp
abbrev rngOk (lo hi : Int) : Prop := -40000 ≤ lo ∧ lo ≤ 40000 ∧ -40000 ≤ hi ∧ hi ≤ 40000
theorem rngOk.one {hi : Int} (h : rngOk 0 hi) : -(2 ^ 62) ≤ hi ∧ hi < 2 ^ 62 := by have := h; omega
theorem rngOk.two {lo hi : Int} (h : rngOk lo hi) : -(2 ^ 62) ≤ lo ∧ lo < 2 ^ 62 ∧ -(2 ^ 62) ≤ hi ∧ hi < 2 ^ 62 := by have := h; omega
theorem rngOk.len {lo hi : Int} (h : rngOk lo hi) : (rangeI lo hi).length ≤ 100000 := by rw [length_rangeI]; have := h; omega
/-- places and signs -/
def enumI {α : Type} (l : List α) : List (Int × α) := l.zipIdx.map fun p => ((p.2 : Int), p.1)
theorem enumS_I (l : List Nat) : enumS l = (enumI l).map fun p => .tup [.int p.1, .str [p.2]] := by unfold enumS enumI; rw [List.map_map]; rfl
theorem length_enumI {α : Type} (l : List α) : (enumI l).length = l.length := by unfold enumI; simp
theorem mem_enumI {α : Type} {l : List α} {p : Int × α} (h : p ∈ enumI l) : 0 ≤ p.1 ∧ l[p.1.toNat]? = some p.2 := by
  unfold enumI at h
  obtain ⟨q, hq, rfl⟩ := List.mem_map.mp h
  have := List.mem_zipIdx_iff_getElem?.mp hq
  exact ⟨Int.natCast_nonneg _, by simpa using this⟩
theorem zipSS_I (a b : List Nat) : Dl.zipSS a b = (a.zip b).map fun p => .tup [.str [p.1], .str [p.2]] := rfl
section
variable {G : Glob} {C : Sc} {M : Mem} {Q : D → Mem → Prop}
theorem O2.eqI {i j : Int} (q : Q (.bl (decide (i = j))) M) : O2 G C (compareOp .Eq) (.int i) (.int j) M Q := .of fun X H B x y cx g r1 r2 => by
  rw [rep_int.mp r1, rep_int.mp r2]
  refine ⟨_, op_eq, rfl, ?_⟩
  rw [show decide (V.int i = V.int j) = decide (i = j) from by simp]
  exact VP.here g (rep_bl.mpr rfl) q
theorem O2.neI {i j : Int} (q : Q (.bl (!decide (i = j))) M) : O2 G C (compareOp .NotEq) (.int i) (.int j) M Q := .of fun X H B x y cx g r1 r2 => by
  rw [rep_int.mp r1, rep_int.mp r2]
  refine ⟨_, op_ne, rfl, ?_⟩
  rw [show decide (V.int i = V.int j) = decide (i = j) from by simp]
  exact VP.here g (rep_bl.mpr rfl) q
theorem O2.eqB {i j : Bool} (q : Q (.bl (decide (i = j))) M) : O2 G C (compareOp .Eq) (.bl i) (.bl j) M Q := .of fun X H B x y cx g r1 r2 => by
  rw [rep_bl.mp r1, rep_bl.mp r2]
  refine ⟨_, op_eq, rfl, ?_⟩
  rw [show decide (V.bl i = V.bl j) = decide (i = j) from by simp]
  exact VP.here g (rep_bl.mpr rfl) q
theorem O2.neB {i j : Bool} (q : Q (.bl (!decide (i = j))) M) : O2 G C (compareOp .NotEq) (.bl i) (.bl j) M Q := .of fun X H B x y cx g r1 r2 => by
  rw [rep_bl.mp r1, rep_bl.mp r2]
  refine ⟨_, op_ne, rfl, ?_⟩
  rw [show decide (V.bl i = V.bl j) = decide (i = j) from by simp]
  exact VP.here g (rep_bl.mpr rfl) q
theorem strV_eq (i j : List Nat) : decide (V.str ⟨i.toArray⟩ = V.str ⟨j.toArray⟩) = decide (i = j) := by
  have : (V.str ⟨i.toArray⟩ = V.str ⟨j.toArray⟩) ↔ i = j := by
    constructor
    · intro h
      injection h with h
      injection h with h
      simpa using congrArg Array.toList h
    · rintro rfl; rfl
  exact decide_eq_decide.mpr this
theorem O2.eqS {i j : List Nat} (q : Q (.bl (decide (i = j))) M) : O2 G C (compareOp .Eq) (.str i) (.str j) M Q := .of fun X H B x y cx g r1 r2 => by
  rw [rep_str.mp r1, rep_str.mp r2]
  refine ⟨_, op_eq, rfl, ?_⟩
  rw [strV_eq]
  exact VP.here g (rep_bl.mpr rfl) q
theorem O2.neS {i j : List Nat} (q : Q (.bl (!decide (i = j))) M) : O2 G C (compareOp .NotEq) (.str i) (.str j) M Q := .of fun X H B x y cx g r1 r2 => by
  rw [rep_str.mp r1, rep_str.mp r2]
  refine ⟨_, op_ne, rfl, ?_⟩
  rw [strV_eq]
  exact VP.here g (rep_bl.mpr rfl) q
theorem O2.eqC {i j : Nat} (q : Q (.bl (decide (i = j))) M) : O2 G C (compareOp .Eq) (.str [i]) (.str [j]) M Q := O2.eqS (by rw [show decide ([i] = [j]) = decide (i = j) from by simp]; exact q)
theorem O2.neC {i j : Nat} (q : Q (.bl (!decide (i = j))) M) : O2 G C (compareOp .NotEq) (.str [i]) (.str [j]) M Q := O2.neS (by rw [show decide ([i] = [j]) = decide (i = j) from by simp]; exact q)
theorem O2.ltC {i j : Nat} (q : Q (.bl (decide (i < j))) M) : O2 G C (compareOp .Lt) (.str [i]) (.str [j]) M Q := O2.ltS (by rw [lt_one]; exact q)
theorem O2.eqG {d e : D} {b : Bool} (h : dEq d e = b) (s1 : Shp d) (s2 : Shp e) (q : Q (.bl b) M) : O2 G C (compareOp .Eq) d e M Q := O2.eq s1 s2 (by rw [h]; exact q)
theorem O2.neG {d e : D} {b : Bool} (h : dEq d e = b) (s1 : Shp d) (s2 : Shp e) (q : Q (.bl (!b)) M) : O2 G C (compareOp .NotEq) d e M Q := O2.ne s1 s2 (by rw [h]; exact q)
theorem O2.eqGM {p : Addr} {ds : List D} {e : D} {b : Bool} (hm : M p = some (.lst ds)) (h : dEq (.lst ds) e = b) (s1 : Shp (.lst ds)) (s2 : Shp e) (q : Q (.bl b) M) : O2 G C (compareOp .Eq) (.adr p) e M Q := O2.eqM (.inr ⟨p, ds, rfl, hm, rfl⟩) (.inl rfl) s1 s2 (by rw [h]; exact q)
theorem O2.neGM {p : Addr} {ds : List D} {e : D} {b : Bool} (hm : M p = some (.lst ds)) (h : dEq (.lst ds) e = b) (s1 : Shp (.lst ds)) (s2 : Shp e) (q : Q (.bl (!b)) M) : O2 G C (compareOp .NotEq) (.adr p) e M Q := O2.neM (.inr ⟨p, ds, rfl, hm, rfl⟩) (.inl rfl) s1 s2 (by rw [h]; exact q)
/-! kinds for == -/
/-- d writes values of α: equality is theirs, of depth at most k where ok -/
structure Knd {α : Type} [DecidableEq α] (k : Nat) (ok : α → Prop) (f : α → D) : Prop where
  eq : ∀ a b, dEq (f a) (f b) = decide (a = b)
  shp : ∀ a, ok a → ShpN k (f a)
theorem Knd.int : Knd 0 (fun _ => True) D.int := ⟨dEq_int, fun _ _ => .int⟩
theorem Knd.bl : Knd 0 (fun _ => True) D.bl := ⟨dEq_bl, fun _ _ => .bl⟩
abbrev AscD (s : List Nat) : Prop := ∀ c ∈ s, c < 128
theorem Knd.str : Knd 0 AscD D.str := ⟨dEq_str, fun _ h => .str h⟩
theorem Knd.chr : Knd 0 (fun c : Nat => c < 128) (fun c => D.str [c]) := ⟨fun a b => by rw [dEq_str]; simp, fun _ h => .one h⟩
theorem Knd.lst {α : Type} [DecidableEq α] {k : Nat} {ok : α → Prop} {f : α → D} (h : Knd k ok f) : Knd (k + 1) (fun xs : List α => ∀ x ∈ xs, ok x) (fun xs => .lst (xs.map f)) := ⟨dEq_map h.eq, fun xs hx => .lst fun d hd => by
  obtain ⟨x, hx2, rfl⟩ := List.mem_map.mp hd
  exact h.shp x (hx x hx2)⟩
theorem Knd.tupL {α : Type} [DecidableEq α] {k : Nat} {ok : α → Prop} {f : α → D} (h : Knd k ok f) : Knd (k + 1) (fun xs : List α => ∀ x ∈ xs, ok x) (fun xs => .tup (xs.map f)) := ⟨dEq_mapT h.eq, fun xs hx => .tup fun d hd => by
  obtain ⟨x, hx2, rfl⟩ := List.mem_map.mp hd
  exact h.shp x (hx x hx2)⟩
theorem Knd.pair {α β : Type} [DecidableEq α] [DecidableEq β] {j k : Nat} {ok : α → Prop} {ok' : β → Prop} {f : α → D} {g : β → D} (h : Knd j ok f) (h' : Knd k ok' g) : Knd (max j k + 1) (fun p : α × β => ok p.1 ∧ ok' p.2) (fun p => .tup [f p.1, g p.2]) :=
  ⟨fun a b => by
    rw [dEq_tup, eqvAll_cons, eqvAll_cons, h.eq, h'.eq]
    cases a; cases b
    simp [toPs, PyData.eqvAll, Prod.ext_iff], fun p hp => .tup fun d hd => by
    simp only [List.mem_cons, List.not_mem_nil, or_false] at hd
    rcases hd with rfl | rfl
    · exact (h.shp _ hp.1).mono (Nat.le_max_left ..)
    · exact (h'.shp _ hp.2).mono (Nat.le_max_right ..)⟩
theorem Knd.trip {α β γ : Type} [DecidableEq α] [DecidableEq β] [DecidableEq γ] {i j k : Nat} {ok : α → Prop} {ok' : β → Prop} {ok2 : γ → Prop} {f : α → D} {g : β → D} {e : γ → D} (h : Knd i ok f) (h' : Knd j ok' g) (h2 : Knd k ok2 e) : Knd (max i (max j k) + 1) (fun p : α × β × γ => ok p.1 ∧ ok' p.2.1 ∧ ok2 p.2.2) (fun p => .tup [f p.1, g p.2.1, e p.2.2]) :=
  ⟨fun a b => by
    rw [dEq_tup, eqvAll_cons, eqvAll_cons, eqvAll_cons, h.eq, h'.eq, h2.eq]
    obtain ⟨a1, a2, a3⟩ := a
    obtain ⟨b1, b2, b3⟩ := b
    simp [toPs, PyData.eqvAll, Prod.ext_iff], fun p hp => .tup fun d hd => by
    simp only [List.mem_cons, List.not_mem_nil, or_false] at hd
    rcases hd with rfl | rfl | rfl
    · exact (h.shp _ hp.1).mono (Nat.le_max_left ..)
    · exact (h'.shp _ hp.2.1).mono (Nat.le_trans (Nat.le_max_left ..) (Nat.le_max_right ..))
    · exact (h2.shp _ hp.2.2).mono (Nat.le_trans (Nat.le_max_right ..) (Nat.le_max_right ..))⟩
theorem O2.eqK {α : Type} [DecidableEq α] {k : Nat} {ok : α → Prop} {f : α → D} {a b : α} (K : Knd k ok f) (hk : k ≤ 64) (h1 : ok a) (h2 : ok b) (q : Q (.bl (decide (a = b))) M) : O2 G C (compareOp .Eq) (f a) (f b) M Q := O2.eqG (K.eq a b) ((K.shp a h1).shp hk) ((K.shp b h2).shp hk) q
theorem O2.neK {α : Type} [DecidableEq α] {k : Nat} {ok : α → Prop} {f : α → D} {a b : α} (K : Knd k ok f) (hk : k ≤ 64) (h1 : ok a) (h2 : ok b) (q : Q (.bl (!decide (a = b))) M) : O2 G C (compareOp .NotEq) (f a) (f b) M Q := O2.neG (K.eq a b) ((K.shp a h1).shp hk) ((K.shp b h2).shp hk) q
/-! None -/
def isNon : D → Bool
  | .non => true
  | _ => false
theorem rep_non_dec {B : Hp} {d : D} {x : V} (r1 : rep G.K B d x) : decide (x = V.non) = isNon d := by
  cases d with
  | non => rw [rep_non.mp r1]; rfl
  | bl b => rw [rep_bl.mp r1]; rfl
  | int i => rw [rep_int.mp r1]; rfl
  | str s => rw [rep_str.mp r1]; rfl
  | tup ds => obtain ⟨a, vs, rfl, _⟩ := rep_tup.mp r1; rfl
  | lst ds => obtain ⟨a, vs, rfl, _⟩ := rep_lst.mp r1; rfl
  | adr a => rw [rep_adr.mp r1]; rfl
  | ty n => rw [rep_ty.mp r1]; rfl
theorem O2.isN {d : D} {b : Bool} (h : isNon d = b) (q : Q (.bl b) M) : O2 G C (compareOp .Is) d .non M Q := .of fun X H B x y cx g r1 r2 => by
  subst h
  refine ⟨_, op_isN, rep_non.mp r2, ?_⟩
  rw [rep_non_dec r1]
  exact VP.here g (rep_bl.mpr rfl) q
theorem O2.notN {d : D} {b : Bool} (h : isNon d = b) (q : Q (.bl (!b)) M) : O2 G C (compareOp .IsNot) d .non M Q := .of fun X H B x y cx g r1 r2 => by
  subst h
  refine ⟨_, op_notN, rep_non.mp r2, ?_⟩
  rw [rep_non_dec r1]
  exact VP.here g (rep_bl.mpr rfl) q
/-! isinstance of a known kind -/
theorem F1.isiS {s : List Nat} (q : Q (.bl true) M) : F1 G C (.builtin "isinstance") [.str s, .ty "str"] M Q := F1.isi ⟨fun _ h => (nomatch h), fun _ h => (nomatch h)⟩ (show kitB "str" "str" = some true from by decide +kernel) q
theorem F1.isiI {i : Int} (q : Q (.bl true) M) : F1 G C (.builtin "isinstance") [.int i, .ty "int"] M Q := F1.isi ⟨fun _ h => (nomatch h), fun _ h => (nomatch h)⟩ (show kitB "int" "int" = some true from by decide +kernel) q
theorem F1.isiIB {i : Int} (q : Q (.bl false) M) : F1 G C (.builtin "isinstance") [.int i, .ty "bool"] M Q := F1.isi ⟨fun _ h => (nomatch h), fun _ h => (nomatch h)⟩ (show kitB "int" "bool" = some false from by decide +kernel) q
theorem F1.isiBB {i : Bool} (q : Q (.bl true) M) : F1 G C (.builtin "isinstance") [.bl i, .ty "bool"] M Q := F1.isi ⟨fun _ h => (nomatch h), fun _ h => (nomatch h)⟩ (show kitB "bool" "bool" = some true from by decide +kernel) q
/-! all, any -/
theorem F1.allL {bs : List Bool} (q : Q (.bl (bs.all id)) M) : F1 G C (.builtin "all") [.lst (bs.map D.bl)] M Q := F1.all (.inl rfl) q
theorem F1.anyL {bs : List Bool} (q : Q (.bl (bs.any id)) M) : F1 G C (.builtin "any") [.lst (bs.map D.bl)] M Q := F1.any (.inl rfl) q
/-- the least, the greatest of a list -/
def minL : List Int → Int
  | [] => 0
  | x :: xs => xs.foldl min x
def maxL : List Int → Int
  | [] => 0
  | x :: xs => xs.foldl max x
theorem minL_le : ∀ {xs : List Int} {y : Int}, y ∈ xs → minL xs ≤ y := by
  have key : ∀ (xs : List Int) (a : Int), xs.foldl min a ≤ a ∧ ∀ y ∈ xs, xs.foldl min a ≤ y := by
    intro xs
    induction xs with
    | nil => intro a; exact ⟨Int.le_refl _, fun _ h => absurd h List.not_mem_nil⟩
    | cons x xs ih =>
      intro a
      have ⟨h1, h2⟩ := ih (min a x)
      refine ⟨?_, fun y hy => ?_⟩
      · exact Int.le_trans h1 (Int.min_le_left _ _)
      · rcases List.mem_cons.mp hy with rfl | hy
        · exact Int.le_trans h1 (Int.min_le_right _ _)
        · exact h2 y hy
  intro xs y hy
  cases xs with
  | nil => cases hy
  | cons x xs =>
    rcases List.mem_cons.mp hy with rfl | hy
    · exact (key xs _).1
    · exact (key xs x).2 y hy
theorem minL_mem : ∀ {xs : List Int}, xs ≠ [] → minL xs ∈ xs := by
  have key : ∀ (xs : List Int) (a : Int), xs.foldl min a = a ∨ xs.foldl min a ∈ xs := by
    intro xs
    induction xs with
    | nil => intro a; exact .inl rfl
    | cons x xs ih =>
      intro a
      rw [List.foldl_cons]
      rcases ih (min a x) with h | h
      · rw [h]
        by_cases hl : a ≤ x
        · exact .inl (by omega)
        · exact .inr (by rw [show min a x = x from by omega]; exact List.mem_cons_self)
      · exact .inr (List.mem_cons_of_mem _ h)
  intro xs h
  cases xs with
  | nil => exact absurd rfl h
  | cons x xs =>
    rcases key xs x with e | e
    · show xs.foldl min x ∈ _
      rw [e]
      exact List.mem_cons_self
    · exact List.mem_cons_of_mem _ e
theorem le_maxL : ∀ {xs : List Int} {y : Int}, y ∈ xs → y ≤ maxL xs := by
  have key : ∀ (xs : List Int) (a : Int), a ≤ xs.foldl max a ∧ ∀ y ∈ xs, y ≤ xs.foldl max a := by
    intro xs
    induction xs with
    | nil => intro a; exact ⟨Int.le_refl _, fun _ h => absurd h List.not_mem_nil⟩
    | cons x xs ih =>
      intro a
      have ⟨h1, h2⟩ := ih (max a x)
      refine ⟨?_, fun y hy => ?_⟩
      · exact Int.le_trans (Int.le_max_left _ _) h1
      · rcases List.mem_cons.mp hy with rfl | hy
        · exact Int.le_trans (Int.le_max_right _ _) h1
        · exact h2 y hy
  intro xs y hy
  cases xs with
  | nil => cases hy
  | cons x xs =>
    rcases List.mem_cons.mp hy with rfl | hy
    · exact (key xs _).1
    · exact (key xs x).2 y hy
theorem maxL_mem : ∀ {xs : List Int}, xs ≠ [] → maxL xs ∈ xs := by
  have key : ∀ (xs : List Int) (a : Int), xs.foldl max a = a ∨ xs.foldl max a ∈ xs := by
    intro xs
    induction xs with
    | nil => intro a; exact .inl rfl
    | cons x xs ih =>
      intro a
      rw [List.foldl_cons]
      rcases ih (max a x) with h | h
      · rw [h]
        by_cases hl : x ≤ a
        · exact .inl (by omega)
        · exact .inr (by rw [show max a x = x from by omega]; exact List.mem_cons_self)
      · exact .inr (List.mem_cons_of_mem _ h)
  intro xs h
  cases xs with
  | nil => exact absurd rfl h
  | cons x xs =>
    rcases key xs x with e | e
    · show xs.foldl max x ∈ _
      rw [e]
      exact List.mem_cons_self
    · exact List.mem_cons_of_mem _ e
theorem F1.minX {xs : List Int} (h : xs ≠ []) (q : Q (.int (Dl.minL xs)) M) : F1 G C (.builtin "min") [.lst (xs.map D.int)] M Q :=
  F1.minL (ns := xs) (.inl rfl) (by cases xs with | nil => exact absurd rfl h | cons => simp) fun m h1 h2 => by
    rw [show m = Dl.minL xs from Int.le_antisymm (h2 _ (minL_mem h)) (minL_le h1)]
    exact q
theorem F1.maxX {xs : List Int} (h : xs ≠ []) (q : Q (.int (Dl.maxL xs)) M) : F1 G C (.builtin "max") [.lst (xs.map D.int)] M Q :=
  F1.maxL (ns := xs) (.inl rfl) (by cases xs with | nil => exact absurd rfl h | cons => simp) fun m h1 h2 => by
    rw [show m = Dl.maxL xs from Int.le_antisymm (le_maxL h1) (h2 _ (maxL_mem h))]
    exact q
theorem F1.sumX {xs : List Int} (q : Q (.int xs.sum) M) : F1 G C (.builtin "sum") [.lst (xs.map D.int)] M Q := F1.sum (.inl rfl) q
def sortI (xs : List Int) : List Int := xs.mergeSort (· ≤ ·)
theorem perm_sorted_eq : ∀ {xs ys : List Int}, xs.Perm ys → xs.Pairwise (· ≤ ·) → ys.Pairwise (· ≤ ·) → xs = ys
  | [], ys, h, _, _ => (List.nil_perm.mp h).symm
  | x :: xs, [], h, _, _ => absurd h.symm (by simp)
  | x :: xs, y :: ys, h, h1, h2 => by
    have e : x = y := by
      have hx := h.mem_iff.mp (List.mem_cons_self (a := x) (l := xs))
      have hy := h.mem_iff.mpr (List.mem_cons_self (a := y) (l := ys))
      rcases List.mem_cons.mp hx with rfl | hx
      · rfl
      rcases List.mem_cons.mp hy with rfl | hy
      · rfl
      exact Int.le_antisymm ((List.pairwise_cons.mp h1).1 y hy) ((List.pairwise_cons.mp h2).1 x hx)
    subst e
    rw [perm_sorted_eq (List.perm_cons x |>.mp h) (List.pairwise_cons.mp h1).2 (List.pairwise_cons.mp h2).2]
theorem sortI_perm (xs : List Int) : (sortI xs).Perm xs := List.mergeSort_perm xs _
theorem sortI_sorted (xs : List Int) : (sortI xs).Pairwise (· ≤ ·) := by
  have := List.pairwise_mergeSort (le := fun a b : Int => decide (a ≤ b)) (fun a b c h1 h2 => by simp at *; omega) (fun a b => by simp; omega) xs
  exact this.imp fun h => by simpa using h
theorem F1.sortX {xs : List Int} (q : Q (.lst ((sortI xs).map D.int)) M) : F1 G C (.builtin "sorted") [.lst (xs.map D.int)] M Q :=
  F1.sorted (ns := xs) (.inl rfl) fun ns' h1 h2 => by
    rw [perm_sorted_eq (h1.trans (sortI_perm xs).symm) h2 (sortI_sorted xs)]
    exact q
theorem F1.lenX {α : Type} {f : α → D} {xs : List α} (q : Q (.int (xs.length : Int)) M) : F1 G C (.builtin "len") [.lst (xs.map f)] M Q := F1.lenL (.inl rfl) (by rw [List.length_map]; exact q)
theorem F1.lenXT {α : Type} {f : α → D} {xs : List α} (q : Q (.int (xs.length : Int)) M) : F1 G C (.builtin "len") [.tup (xs.map f)] M Q := F1.lenT (by rw [List.length_map]; exact q)
theorem F1.lenXM {α : Type} {f : α → D} {xs : List α} {p : Addr} (h : M p = some (.lst (xs.map f))) (q : Q (.int (xs.length : Int)) M) : F1 G C (.builtin "len") [.adr p] M Q := F1.lenL (.inr ⟨p, rfl, h⟩) (by rw [List.length_map]; exact q)
theorem F1.lenD {ds : List D} (q : Q (.int (ds.length : Int)) M) : F1 G C (.builtin "len") [.lst ds] M Q := F1.lenL (.inl rfl) q
/-- list(text), not written to -/
theorem F1.listC {l : List Nat} (hl : l.length ≤ 1000000) (q : ∀ p, M p = none → Q (.adr p) (mset M p (.lst (l.map fun c => .str [c])))) : F1 G C (.type "list") [.str l] M Q := F1.listS hl q
theorem atI_map {α : Type} {f : α → D} {xs : List α} {i : Int} {x : α} (h : atI xs i = some x) : atI (xs.map f) i = some (f x) := by
  unfold atI at h ⊢
  rw [List.length_map]
  cases hi : ixN xs.length i with
  | none => rw [hi] at h; cases h
  | some j =>
    rw [hi] at h
    show (xs.map f)[j]? = some (f x)
    rw [List.getElem?_map]
    have h : xs[j]? = some x := h
    rw [h]
    rfl
variable {Γ : Gm} {Ex : XPost}
/-- x[i], the kind of x known behind its evaluation -/
inductive IX (M : Mem) (Q : D → Mem → Prop) : D → D → Prop where
  | lst {ds : List D} {i : Int} {e : D} (h : atI ds i = some e) (q : Q e M) : IX M Q (.lst ds) (.int i)
  | own {p : Addr} {ds : List D} {i : Int} {e : D} (hm : M p = some (.lst ds)) (h : atI ds i = some e) (q : Q e M) : IX M Q (.adr p) (.int i)
  | tup {ds : List D} {i : Int} {e : D} (h : atI ds i = some e) (q : Q e M) : IX M Q (.tup ds) (.int i)
theorem cut_map {α : Type} {f : α → D} (xs : List α) (lo hi : Option Int) : cut (xs.map f) lo hi = (cut xs lo hi).map f := by
  unfold cut
  simp only [List.length_map, List.map_take, List.map_drop]
end
end Dl
/-! Dl19: the premises that mirrors name. -/
namespace Dl
open PySem PySem.Spec PyProof.Rows L2
abbrev mulOk (i j : Int) : Prop := i.natAbs.log2 + j.natAbs.log2 < 1000000
abbrev divOk (j : Int) : Prop := 0 < j ∧ j.natAbs.log2 < 9000
abbrev powOk (i : Int) : Prop := i.natAbs < 2 ^ 64
abbrev repOk (n : Int) (l : List Nat) : Prop := -1000000 ≤ n ∧ n ≤ 1000000 ∧ n.toNat * l.length ≤ 1000000
theorem mulOk.ok {i j : Int} (h : mulOk i j) : CMulW i j := h
theorem divOk.ok {i j : Int} (h : divOk j) : CDivW i j := h
theorem divOk.small {j : Int} (h : 0 < j) (h2 : j.natAbs < 2 ^ 100) : divOk j := divW (i := j) h h2
theorem mulOk.small {i j : Int} (h : i.natAbs < 2 ^ 100) (h2 : j.natAbs < 2 ^ 100) : mulOk i j := mulW h h2
def b2n (b : Bool) : Int := if b then 1 else 0
def optD {α : Type} (f : α → D) : Option α → D
  | none => .non
  | some x => f x
def setO {α : Type} (xs : List α) (i : Int) (v : α) : Option (List α) := match ixN xs.length i with
  | some j => some (xs.set j v)
  | none => none
theorem setO_ex {α : Type} {f : α → D} {xs ys : List α} {i : Int} {v : α} (h : setO xs i v = some ys) : ∃ j, ixN (xs.map f).length i = some j ∧ (xs.map f).set j (f v) = ys.map f := by
  unfold setO at h
  rw [List.length_map]
  cases hi : ixN xs.length i with
  | none => rw [hi] at h; cases h
  | some j =>
    rw [hi] at h
    cases h
    exact ⟨j, rfl, by rw [List.map_set]⟩
section
variable {G : Glob} {C : Sc} {Γ Γ0 Γ' : Gm} {M : Mem} {Ex : XPost}
theorem TgB.nm {x : Str} {pos : Pos} {own : List Nat} {d : D} {Q : Gm → Prop} (e : Γ0 = Γ) (h : Upd Γ x d Γ') (q : Q Γ') (hl : stoB C x = true := by decide +kernel) (ho : ownIx C.N own x = true := by decide +kernel) : TgB G C (.Name x pos) own d Γ0 M Q := by
  subst e
  exact TgB.name h q hl ho
theorem TgB.nmT {tg : Expr} {own : List Nat} {d : D} {Q : Gm → Prop} (e : Γ0 = Γ) (h : TgB G C tg own d Γ M Q) : TgB G C tg own d Γ0 M Q := by
  subst e
  exact h
theorem isNon_opt {α : Type} (f : α → D) (o : Option α) (h : ∀ a, isNon (f a) = false) : isNon (optD f o) = o.isNone := by
  cases o with
  | none => rfl
  | some a => exact h a
theorem OI.mono {o : Option Expr} {Q Q' : Option Int → Mem → Prop} (h : OI G C o Γ M Ex Q) (q : ∀ i M', Q i M' → Q' i M') : OI G C o Γ M Ex Q' := by
  cases o with
  | none => unfold OI at h ⊢; exact q _ _ h
  | some e => unfold OI at h ⊢; exact h.mono fun d M' ⟨i, e, z⟩ => ⟨i, e, q _ _ z⟩
theorem E.slX {e : Expr} {lo hi : Option Expr} {pos p2 : Pos} {Q : D → Mem → Prop} (h : E G C e Γ M Ex fun d M1 => OI G C lo Γ M1 Ex fun l M2 => OI G C hi Γ M2 Ex fun u M3 => ∃ (α : Type) (f : α → D) (xs : List α), d = .lst (xs.map f) ∧ Q (.lst ((cut xs l u).map f)) M3) : E G C (.Subscript e (.Slice lo hi none p2) pos) Γ M Ex Q :=
  E.slL (h.mono fun d M1 q => q.mono fun l M2 q => q.mono fun u M3 ⟨α, f, xs, e, z⟩ => ⟨xs.map f, .inl e, by rw [cut_map]; exact z⟩)
end
end Dl
/-! Dl20: draws as demands; own results of comprehensions. -/
namespace Dl
open PySem PySem.Spec PyProof.Rows L2
section
variable {τ : Type}
def nDraw (k : Int) : Nd Int := fun Q => 1 ≤ k ∧ k ≤ 1000 ∧ ∀ d : Int, 0 ≤ d → d < k → Q d
def nChoice (xs : List τ) : Nd τ := fun Q => xs ≠ [] ∧ xs.length ≤ 1000 ∧ ∀ x ∈ xs, Q x
def nMixed (xs : List τ) : Nd (List τ) := fun Q => xs.length ≤ 1000 ∧ ∀ ys : List τ, ys.Perm xs → Q ys
def nBag (k : Int) : Nd (List Nat) := fun Q => 2 ≤ k ∧ k ≤ 26 ∧ ∀ bag : List Nat, BagOf k.toNat bag → Q bag
def nStream (bag : List Nat) (n : Int) : Nd (List Nat) := fun Q => (1 ≤ bag.length ∧ bag.length ≤ 100 ∧ AscD bag ∧ 0 ≤ n ∧ n ≤ 1000) ∧ ∀ line : List Nat, Stream bag line n.toNat → Q line
def nSeen (bag : List Nat) (n : Int) : Nd (List Nat) := fun Q => (1 ≤ bag.length ∧ bag.length ≤ 100 ∧ AscD bag ∧ 0 ≤ n ∧ n ≤ 1000) ∧ ∀ line : List Nat, line.length = n.toNat → (∀ x ∈ line, x = 46 ∨ x ∈ bag) → Q line
theorem perm_map_lift {β : Type} {f : τ → β} : ∀ {ds es : List β}, ds.Perm es → ∀ xs : List τ, es = xs.map f → ∃ ys : List τ, ys.Perm xs ∧ ds = ys.map f := by
  intro ds es h
  induction h with
  | nil =>
    intro xs e
    cases xs with
    | nil => exact ⟨[], .refl _, rfl⟩
    | cons => cases e
  | cons x h ih =>
    intro xs e
    cases xs with
    | nil => cases e
    | cons y xs =>
      injection e with e1 e2
      obtain ⟨ys, h1, h2⟩ := ih xs e2
      exact ⟨y :: ys, h1.cons y, by rw [List.map_cons, ← e1, h2]⟩
  | swap x y l =>
    intro xs e
    cases xs with
    | nil => cases e
    | cons a xs =>
      cases xs with
      | nil => cases e
      | cons b xs =>
        injection e with e1 e2
        injection e2 with e2 e3
        exact ⟨b :: a :: xs, .swap _ _ _, by rw [List.map_cons, List.map_cons, ← e1, ← e2, ← e3]⟩
  | trans _ _ ih1 ih2 =>
    intro xs e
    obtain ⟨ys, h1, h2⟩ := ih2 xs e
    obtain ⟨zs, h3, h4⟩ := ih1 ys h2
    exact ⟨zs, h3.trans h1, h4⟩
end
section
variable {G : Glob} {C : Sc} {Γ : Gm} {M : Mem} {Ex : XPost} {tg iter : Expr}
abbrev AskXo (G : Glob) (C : Sc) (scope : Scope) (tg : Expr) (ix : List Nat) (elt : Expr) (Γ : Gm) (Q : D → Mem → Prop) (ds : List D) (ok : Mem → Prop) (M : Mem) : Prop :=
  ∃ (α β : Type) (xs : List α) (ys : List β) (g : α → D) (v : α → β) (f : β → D), ds = xs.map g ∧ ys = xs.map v ∧ xs.length ≤ 100000 ∧ ok M ∧ (∀ x ∈ xs, TgB G (C.blk scope) tg ix (g x) (wipeG Γ ix) M fun Γ2 => E G (C.blk scope) elt Γ2 M XNo fun e M3 => e = f (v x) ∧ M3 = M) ∧ ∀ p, M p = none → Q (.adr p) (mset M p (.lst (ys.map f)))
abbrev AskYo (G : Glob) (C : Sc) (scope : Scope) (tg : Expr) (ix : List Nat) (c elt : Expr) (Γ : Gm) (Q : D → Mem → Prop) (ds : List D) (ok : Mem → Prop) (M : Mem) : Prop :=
  ∃ (α β : Type) (xs : List α) (ys : List β) (g : α → D) (p : α → Bool) (v : α → β) (f : β → D), ds = xs.map g ∧ ys = (xs.filter p).map v ∧ xs.length ≤ 100000 ∧ ok M ∧ (∀ x ∈ xs, TgB G (C.blk scope) tg ix (g x) (wipeG Γ ix) M fun Γ2 => T G (C.blk scope) c Γ2 M XNo fun b M2 => b = p x ∧ M2 = M ∧ (p x = true → E G (C.blk scope) elt Γ2 M XNo (fun e M3 => e = f (v x) ∧ M3 = M))) ∧ ∀ p, M p = none → Q (.adr p) (mset M p (.lst (ys.map f)))
theorem AskXo.lc {scope : Scope} {ix : List Nat} {elt : Expr} {Q : D → Mem → Prop} {ds : List D} {ok : Mem → Prop} (h : AskXo G C scope tg ix elt Γ Q ds ok M) : LcAsk G C scope tg ix elt Γ (fun Γ2 M2 Q2 => Q2 true M2) Q ds ok M := by
  obtain ⟨α, β, xs, ys, g, v, f', e1, e2, hl, hok, ht, hd⟩ := h
  obtain ⟨hl, hok, f, ht, hd⟩ := AskX.lc (Q := fun d M1 => ∃ ds, d = .lst ds ∧ ∀ p, M1 p = none → Q (.adr p) (mset M1 p (.lst ds))) ⟨α, β, xs, ys, g, v, f', e1, e2, hl, hok, ht, _, rfl, hd⟩
  refine ⟨size1000' hl, fun i acc M' => M' = M ∧ acc = (List.range i).map f, ⟨rfl, rfl⟩, fun i acc M' h => by rw [h.1]; exact hok, fun i d acc M' hget ⟨e1, e2⟩ => ?_, fun acc M' ⟨e1, e2⟩ p hp => ?_⟩
  · subst e1 e2
    refine .mk fun X σ H B v s r => (ht i d hget X σ H B v s r).mono fun σ2 H2 ⟨q1, q2, Γ2, q3, q4⟩ => ⟨q1, q2, Γ2, q3, ?_⟩
    exact on_t rfl (q4.mono fun e M3 ⟨z1, z2⟩ => ⟨z2, by rw [z1, List.range_succ, List.map_append]; rfl⟩)
  · subst e1 e2
    obtain ⟨ds', e, hq⟩ := hd
    injection e with e
    rw [e]
    exact hq p hp
theorem AskYo.lc {scope : Scope} {ix : List Nat} {c elt : Expr} {Q : D → Mem → Prop} {ds : List D} {ok : Mem → Prop} (h : AskYo G C scope tg ix c elt Γ Q ds ok M) : LcAsk G C scope tg ix elt Γ (fun Γ2 M2 Q2 => T G (C.blk scope) c Γ2 M2 XNo Q2) Q ds ok M := by
  obtain ⟨α, β, xs, ys, g, pp, v, f', e1, e2, hl, hok, ht, hd⟩ := h
  obtain ⟨hl, hok, p, f, ht, hd⟩ := AskY.lc (Q := fun d M1 => ∃ ds, d = .lst ds ∧ ∀ p, M1 p = none → Q (.adr p) (mset M1 p (.lst ds))) ⟨α, β, xs, ys, g, pp, v, f', e1, e2, hl, hok, ht, _, rfl, hd⟩
  refine ⟨size1000' hl, fun i acc M' => M' = M ∧ acc = ((List.range i).filter p).map f, ⟨rfl, rfl⟩, fun i acc M' h => by rw [h.1]; exact hok, fun i d acc M' hget ⟨e1, e2⟩ => ?_, fun acc M' ⟨e1, e2⟩ q hq => ?_⟩
  · subst e1 e2
    refine .mk fun X σ H B v s r => (ht i d hget X σ H B v s r).mono fun σ2 H2 ⟨q1, q2, Γ2, q3, q4⟩ => ⟨q1, q2, Γ2, q3, q4.mono fun b M2 ⟨z1, z2, z3⟩ => ?_⟩
    subst z2
    refine on_c (fun hb => (z3 hb).mono fun e M3 ⟨y1, y2⟩ => ⟨y2, ?_⟩) fun hb => ⟨rfl, ?_⟩
    · rw [List.range_succ, List.filter_append, List.map_append, y1]
      rw [z1] at hb
      simp [hb]
    · rw [List.range_succ, List.filter_append, List.map_append]
      rw [z1] at hb
      simp [hb]
  · subst e1 e2
    obtain ⟨ds', e, hq2⟩ := hd
    injection e with e
    rw [e]
    exact hq2 q hq
theorem E.lcXo {elt : Expr} {scope : Scope} {pos : Pos} {Q : D → Mem → Prop} (own : List (Str × Nat)) (h : I1 G C tg iter Γ M Ex (AskXo G C scope tg (own.map (·.2)) elt Γ Q))
    (ok : blkC C.N C.sc scope own = true := by decide +kernel) (hs : ∀ env x, foldedSetIterable iter env x = pure x := by intro _ _; rfl) : E G C (.ListComp elt [⟨tg, iter, [], 0⟩] scope pos) Γ M Ex Q :=
  E.lc0 own (h.mono fun ds ok M1 q => AskXo.lc q) ok hs
theorem E.lcYo {elt c : Expr} {scope : Scope} {pos : Pos} {Q : D → Mem → Prop} (own : List (Str × Nat)) (h : I1 G C tg iter Γ M Ex (AskYo G C scope tg (own.map (·.2)) c elt Γ Q))
    (ok : blkC C.N C.sc scope own = true := by decide +kernel) (hs : ∀ env x, foldedSetIterable iter env x = pure x := by intro _ _; rfl) : E G C (.ListComp elt [⟨tg, iter, [c], 0⟩] scope pos) Γ M Ex Q :=
  E.lc1 own (h.mono fun ds ok M1 q => AskYo.lc q) ok hs
end
end Dl
/-! Dl21: own dicts. -/
namespace Dl
open PySem PySem.Spec PyProof.Rows L2
def kD : Key → D
  | .inl i => .int i
  | .inr x => .str x.cps.toList
section
variable {κ : Type} [DecidableEq κ]
def valD (kvs : List (κ × D)) (k : κ) : Option D := (kvs.find? fun e => decide (e.1 = k)).map (·.2)
def putD (kvs : List (κ × D)) (k : κ) (v : D) : List (κ × D) := if (kvs.any fun e => decide (e.1 = k)) = true then kvs.map (fun e => if e.1 = k then (e.1, v) else e) else kvs ++ [(k, v)]
end
theorem rep_kD {K : PySem.W.Frag} {B : Hp} {k : Key} {v : V} (r : rep K B (kD k) v) : v = kV k := by
  cases k with
  | inl i => exact rep_int.mp r
  | inr x => exact rep_str.mp r
theorem rep_kDs {K : PySem.W.Frag} {B : Hp} : ∀ {ks : List Key} {vs : List V}, repL K B (ks.map kD) vs → vs = ks.map kV
  | [], _, r => r.nil_inv
  | k :: ks, _, r => by
    obtain ⟨v, r', rfl, h1, h2⟩ := repL.cons_inv r
    rw [rep_kD h1, rep_kDs h2, List.map_cons]
section
variable {κ : Type} [DecidableEq κ] {K : PySem.W.Frag} {B : Hp}
theorem rKV.val {k : κ} : ∀ {kvs : List (κ × D)} {vs : List (κ × V)}, rKV K B kvs vs → (valD kvs k = none ∧ valV vs k = none) ∨ ∃ d v, valD kvs k = some d ∧ valV vs k = some v ∧ rep K B d v
  | [], vs, h => by
    have h : vs = [] := h
    subst h
    exact .inl ⟨rfl, rfl⟩
  | e :: kvs, _, ⟨v, r, e1, e2, e3⟩ => by
    subst e1
    by_cases h : e.1 = k
    · exact .inr ⟨e.2, v, by simp [valD, List.find?_cons, h], by simp [valV, List.find?_cons, h], e2⟩
    · rcases rKV.val (k := k) e3 with ⟨q1, q2⟩ | ⟨d, w, q1, q2, q3⟩
      · exact .inl ⟨by rw [← q1]; simp [valD, List.find?_cons, h], by rw [← q2]; simp [valV, List.find?_cons, h]⟩
      · exact .inr ⟨d, w, by rw [← q1]; simp [valD, List.find?_cons, h], by rw [← q2]; simp [valV, List.find?_cons, h], q3⟩
theorem rKV.any {k : κ} : ∀ {kvs : List (κ × D)} {vs : List (κ × V)}, rKV K B kvs vs → (kvs.any fun e => decide (e.1 = k)) = (vs.any fun e => decide (e.1 = k))
  | [], vs, h => by
    have h : vs = [] := h
    subst h
    rfl
  | e :: kvs, _, ⟨v, r, e1, e2, e3⟩ => by
    subst e1
    simp only [List.any_cons, rKV.any e3]
theorem rKV.repl {k : κ} {d : D} {w : V} (q : rep K B d w) : ∀ {kvs : List (κ × D)} {vs : List (κ × V)}, rKV K B kvs vs → rKV K B (kvs.map fun e => if e.1 = k then (e.1, d) else e) (vs.map fun e => if e.1 = k then (e.1, w) else e)
  | [], vs, h => by
    have h : vs = [] := h
    subst h
    rfl
  | e :: kvs, _, ⟨v, r, e1, e2, e3⟩ => by
    subst e1
    simp only [List.map_cons]
    by_cases h : e.1 = k
    · rw [if_pos h, if_pos h]
      exact ⟨w, _, rfl, q, rKV.repl q e3⟩
    · rw [if_neg h, if_neg h]
      exact ⟨v, _, rfl, e2, rKV.repl q e3⟩
theorem rKV.snoc {k : κ} {d : D} {w : V} (q : rep K B d w) : ∀ {kvs : List (κ × D)} {vs : List (κ × V)}, rKV K B kvs vs → rKV K B (kvs ++ [(k, d)]) (vs ++ [(k, w)])
  | [], vs, h => by
    have h : vs = [] := h
    subst h
    exact ⟨w, [], rfl, q, rfl⟩
  | e :: kvs, _, ⟨v, r, e1, e2, e3⟩ => by
    subst e1
    exact ⟨v, _, rfl, e2, rKV.snoc q e3⟩
theorem rKV.put {k : κ} {d : D} {w : V} {kvs : List (κ × D)} {vs : List (κ × V)} (h : rKV K B kvs vs) (q : rep K B d w) : rKV K B (putD kvs k d) (putK vs k w) := by
  unfold putD putK
  rw [rKV.any h]
  by_cases c : (vs.any fun e => decide (e.1 = k)) = true
  · rw [if_pos c, if_pos c]; exact rKV.repl q h
  · rw [if_neg c, if_neg c]; exact rKV.snoc q h
theorem rKV.length : ∀ {kvs : List (κ × D)} {vs : List (κ × V)}, rKV K B kvs vs → vs.length = kvs.length
  | [], vs, h => by
    have h : vs = [] := h
    subst h
    rfl
  | e :: kvs, _, ⟨v, r, e1, e2, e3⟩ => by
    subst e1
    simp [rKV.length e3]
end
/-- mo holds r at the key k -/
def DcGet (mo : MO) (k : D) (r : Option D) : Prop := (∃ kvs key, mo = .dK kvs ∧ k = kD key ∧ r = valD kvs key) ∨ ∃ kvs ks, mo = .dT kvs ∧ k = .tup (ks.map kD) ∧ r = valD kvs ks
def DcPut (mo : MO) (k v : D) (mo' : MO) : Prop := (∃ kvs key, mo = .dK kvs ∧ k = kD key ∧ kvs.length ≤ 1000000 ∧ mo' = .dK (putD kvs key v)) ∨ ∃ kvs ks, mo = .dT kvs ∧ k = .tup (ks.map kD) ∧ kvs.length ≤ 1000000 ∧ mo' = .dT (putD kvs ks v)
def IsDc : MO → Prop
  | .dK _ => True
  | .dT _ => True
  | _ => False
theorem DcGet.isDc {mo : MO} {k : D} {r : Option D} (h : DcGet mo k r) : IsDc mo := by
  rcases h with ⟨kvs, key, rfl, _⟩ | ⟨kvs, key, rfl, _⟩ <;> exact True.intro
section
variable {K : PySem.W.Frag} {H B : Hp} {M : Mem} {p : Addr} {mo mo' : MO} {k v : D}
theorem Hd.dget {r : Option D} {y : V} (g : Hd K H B M) (hm : M p = some mo) (h : DcGet mo k r) (ry : rep K B k y) : ∃ rv, DGet H p y rv ∧ rv.isSome = r.isSome ∧ ∀ d, r = some d → ∃ v, rv = some v ∧ rep K B d v := by
  obtain ⟨_, o, ho, ro⟩ := g.own p mo hm
  rcases h with ⟨kvs, key, rfl, rfl, rfl⟩ | ⟨kvs, ks, rfl, rfl, rfl⟩
  · obtain ⟨vs, rfl, rv⟩ := ro
    rw [rep_kD ry]
    refine ⟨valV vs key, .k ho, ?_, fun d e => ?_⟩
    · rcases rv.val (k := key) with ⟨q1, q2⟩ | ⟨d, w, q1, q2, q3⟩ <;> rw [q1, q2] <;> rfl
    · rcases rv.val (k := key) with ⟨q1, q2⟩ | ⟨d', w, q1, q2, q3⟩
      · rw [q1] at e; cases e
      · rw [q1] at e; cases e; exact ⟨w, q2, q3⟩
  · obtain ⟨vs, rfl, rv⟩ := ro
    obtain ⟨b, us, rfl, hb, ru⟩ := rep_tupE ry
    rw [rep_kDs ru] at hb
    refine ⟨valV vs ks, .t ho (g.sub _ _ hb), ?_, fun d e => ?_⟩
    · rcases rv.val (k := ks) with ⟨q1, q2⟩ | ⟨d, w, q1, q2, q3⟩ <;> rw [q1, q2] <;> rfl
    · rcases rv.val (k := ks) with ⟨q1, q2⟩ | ⟨d', w, q1, q2, q3⟩
      · rw [q1] at e; cases e
      · rw [q1] at e; cases e; exact ⟨w, q2, q3⟩
theorem Hd.dput {y w : V} (g : Hd K H B M) (hm : M p = some mo) (h : DcPut mo k v mo') (ry : rep K B k y) (rw_ : rep K B v w) : ∃ H', DPut H p y w H' ∧ Hd K H' B (mset M p mo') ∧ Stp B M H B (mset M p mo') H' := by
  obtain ⟨_, o, ho, ro⟩ := g.own p mo hm
  rcases h with ⟨kvs, key, rfl, rfl, hl, rfl⟩ | ⟨kvs, ks, rfl, rfl, hl, rfl⟩
  · obtain ⟨vs, rfl, rv⟩ := ro
    rw [rep_kD ry]
    exact ⟨_, .k ho (by rw [rv.length, sizeLine_eq]; omega), g.write hm ⟨_, rfl, rv.put rw_⟩, Stp.write hm⟩
  · obtain ⟨vs, rfl, rv⟩ := ro
    obtain ⟨b, us, rfl, hb, ru⟩ := rep_tupE ry
    rw [rep_kDs ru] at hb
    exact ⟨_, .t ho (g.sub _ _ hb) (by rw [rv.length, sizeLine_eq]; omega), g.write hm ⟨_, rfl, rv.put rw_⟩, Stp.write hm⟩
theorem Hd.isD (g : Hd K H B M) (hm : M p = some mo) (h : IsDc mo) : IsD H p := by
  obtain ⟨_, o, ho, ro⟩ := g.own p mo hm
  cases mo with
  | dK kvs => obtain ⟨vs, rfl, _⟩ := ro; exact .inl ⟨vs, .inl ho⟩
  | dT kvs => obtain ⟨vs, rfl, _⟩ := ro; exact .inr ⟨vs, .inl ho⟩
  | lst _ => exact h.elim
  | raw _ => exact h.elim
  | ins _ _ _ => exact h.elim
end
section
variable {G : Glob} {C : Sc} {Γ : Gm} {M : Mem} {Ex : XPost} {Q : D → Mem → Prop}
theorem Ctx.hu {X : Cx} (cx : Ctx G C X) : X.A.units + 1 < cLine := by have := cx.room.units; omega
theorem E.dictK {pos : Pos} (q : ∀ p, M p = none → Q (.adr p) (mset M p (.dK []))) : E G C (.Dict [] [] pos) Γ M Ex Q := .mk fun X σ H B s =>
  sE_of pe_dnewK fun p hp => VP.own (m := .dK []) s.hd ⟨[], rfl, rfl⟩ hp q
theorem E.dictT {pos : Pos} (q : ∀ p, M p = none → Q (.adr p) (mset M p (.dT []))) : E G C (.Dict [] [] pos) Γ M Ex Q := .mk fun X σ H B s =>
  sE_of pe_dnewT fun p hp => VP.own (m := .dT []) s.hd ⟨[], rfl, rfl⟩ hp q
theorem O2.inDc {p : Addr} {mo : MO} {k : D} {r : Option D} (hm : M p = some mo) (h : DcGet mo k r) (q : Q (.bl r.isSome) M) : O2 G C (compareOp .In) k (.adr p) M Q := .mk fun X H B x y cx g r1 r2 pins s σ v u kt I rv ru => by
  obtain ⟨rv', dg, e1, e2⟩ := g.dget hm h r1
  rw [rep_adr.mp r2] at ru
  obtain rfl : u = Value.ref p := ru
  exact d_in cx.hu I dg rv fun s3 I3 => ⟨.bl rv'.isSome, H, I3, rfl, VP.here g (rep_bl.mpr (by rw [e1])) q⟩
theorem O2.ninDc {p : Addr} {mo : MO} {k : D} {r : Option D} (hm : M p = some mo) (h : DcGet mo k r) (q : Q (.bl (!r.isSome)) M) : O2 G C (compareOp .NotIn) k (.adr p) M Q := .mk fun X H B x y cx g r1 r2 pins s σ v u kt I rv ru => by
  obtain ⟨rv', dg, e1, e2⟩ := g.dget hm h r1
  rw [rep_adr.mp r2] at ru
  obtain rfl : u = Value.ref p := ru
  exact d_notIn cx.hu I dg rv fun s3 I3 => ⟨.bl (!rv'.isSome), H, I3, rfl, VP.here g (rep_bl.mpr (by rw [e1])) q⟩
theorem E.dget {a b : Expr} {pos : Pos} (h : E G C a Γ M Ex fun d M1 => E G C b Γ M1 Ex fun k M2 => ∃ p mo e, d = .adr p ∧ M2 p = some mo ∧ DcGet mo k (some e) ∧ Q e M2) (hs : NoSl b := by intro _ _; rfl) : E G C (.Subscript a b pos) Γ M Ex Q := .mk fun X σ H B s pins s0 kt I => by
  refine subD_of PySem.F.slot_dict_getitem.lookup hs (thnT kt (h X σ H B s pins s0 kt I) fun u s1 k1 ⟨x, H1, I1, rx, d, B1, M1, g1, t1, r1, q1⟩ => ?_)
  refine thn (q1 X σ H1 B1 (s.step g1 t1) pins s1 k1 I1) fun iv s2 ⟨y, H2, I2, ry, k, B2, M2, g2, t2, r2, p, mo, e, ed, hm, hg, q2⟩ => ?_
  subst ed
  rw [rep_adr.mp r1] at rx
  obtain rfl : u = Value.ref p := rx
  obtain ⟨rv', dg, _, e2⟩ := g2.dget hm hg r2
  obtain ⟨w, rfl, rw_⟩ := e2 e rfl
  exact ⟨dict_typeIs I2 dg, d_getItem s.cx.hu I2 dg ry fun w' s3 I3 rw' => ⟨w, H2, I3, rw', VP.step (t1.trans t2) (VP.here g2 rw_ q2)⟩⟩
theorem E.dget2 {o e f : Expr} {apos cpos : Pos} (h : E G C o Γ M Ex fun d M1 => ∃ p mo, d = .adr p ∧ M1 p = some mo ∧ IsDc mo ∧ E G C e Γ M1 Ex fun k M2 => E G C f Γ M2 Ex fun z M3 => ∃ mo r, M3 p = some mo ∧ DcGet mo k r ∧ Q (r.getD z) M3)
    (hbase : ∀ env, attributeBase o "get" env (eval o env) = eval o env := by intro _; rfl)
    (hfew : ∀ env, ((backTo cpos (starEach [e, f] env)).all (fun x => !x.1) && (backToKw cpos (keywordEach [] env)).all (fun x => x.1.isSome)
      && decide (([e, f] : List Expr).length + ([] : List Keyword).length + (if ([] : List Keyword).isEmpty then 0 else 1) < 30)) = true := by intro _; rfl)
    (hline : (apos.endLine == cpos.line) = true := by rfl) (htr : ∀ env, backTo cpos (starEach [e, f] env) = [(false, eval e env), (false, eval f env)] := by intro _; rfl) :
    E G C (.Call (.Attribute o "get" apos) [e, f] [] cpos) Γ M Ex Q := .mk fun X σ H B s pins s0 kt I => by
  refine wpAny_Call_method (hbase _) (hfew _) hline PySem.F.plainAttrs_dict PySem.F.slot_dict_get PySem.F.type_dict_get (thnT kt (h X σ H B s pins s0 kt I) fun u s1 k1 ⟨x, H1, I1, rx, d, B1, M1, g1, t1, r1, p, mo, ed, hm, hd, q1⟩ => ?_)
  subst ed
  rw [rep_adr.mp r1] at rx
  obtain rfl : u = Value.ref p := rx
  obtain ⟨z1, z2, _⟩ := isD_at I1 (g1.isD hm hd)
  refine ⟨z1, z2, ?_⟩
  rw [htr]
  have S1 := s.step g1 t1
  refine Calls.callWith_builtin rfl (Calls.evalArgs_plain (Calls.spliced_cons (thnT k1 (q1 X σ H1 B1 S1 pins s1 k1 I1) fun iv s2 k2 ⟨y, H2, I2, ry, k, B2, M2, g2, t2, r2, q2⟩ =>
    Calls.spliced_cons (thn (q2 X σ H2 B2 (S1.step g2 t2) pins s2 k2 I2) fun fv s3 ⟨z, H3, I3, rz, dz, B3, M3, g3, t3, r3, mo3, r, hm3, hg, q3⟩ => Calls.spliced_nil ?_))))
  obtain ⟨rv', dg, _, e2⟩ := g3.dget hm3 hg (r2.mono t3.same)
  refine d_get2 s.cx.hu I3 dg ry rz fun w' s4 I4 rw' => ⟨_, H3, I4, rw', ?_⟩
  refine VP.step (t1.trans (t2.trans t3)) (VP.here g3 (d := r.getD dz) ?_ q3)
  cases r with
  | none =>
    have e1 : rv' = none := by
      rename_i e1
      cases rv' with
      | none => rfl
      | some _ => cases e1
    rw [e1]
    exact r3
  | some d =>
    obtain ⟨w, rfl, rw_⟩ := e2 d rfl
    exact rw_
theorem W.dput {o i e : Expr} {pos' pos : Pos} {rest : List Stmt} {P : DE} (h : E G C e Γ M P.ex fun v M1 => E G C o Γ M1 P.ex fun d M2 => E G C i Γ M2 P.ex fun k M3 => ∃ p mo mo', d = .adr p ∧ M3 p = some mo ∧ DcPut mo k v mo' ∧ W G C rest Γ (mset M3 p mo') P)
    (hs : ∀ env : Env, env.scope = C.sc → swapsWith e (some (.Subscript o i pos')) pos.line env = pure false := by intro _ _; rfl) : W G C (.Assign [.Subscript o i pos'] e pos :: rest) Γ M P := .mk fun X σ H B s => s_then fun pins s0 kt I => by
  refine wpAny_Assign_Subscript (thnT kt (h X σ H B s pins s0 kt I) fun r s1 k1 ⟨v, H1, I1, rv, dv, B1, M1, g1, t1, r1, q1⟩ => thnT k1 (q1 X σ H1 B1 (s.step g1 t1) pins s1 k1 I1) fun u s2 k2 ⟨x, H2, I2, rx, d, B2, M2, g2, t2, r2, q2⟩ =>
    thn (q2 X σ H2 B2 ((s.step g1 t1).step g2 t2) pins s2 k2 I2) fun iv s3 ⟨y, H3, I3, ry, k, B3, M3, g3, t3, r3, p, mo, mo', ed, hm, hp, q3⟩ => ?_) (hs _ s.cx.sc)
  subst ed
  rw [rep_adr.mp r2] at rx
  obtain rfl : u = Value.ref p := rx
  obtain ⟨H4, dp, g4, t4⟩ := g3.dput hm hp r3 (r1.mono (t2.trans t3).same)
  refine d_setItem s.cx.hu I3 dp ry rv fun s4 I4 => ⟨σ, H4, I4, ?_⟩
  have S4 := (((s.step g1 t1).step g2 t2).step g3 t3).step g4 t4
  exact DE.step (t1.trans (t2.trans (t3.trans t4))) (q3 X σ H4 B3 S4)
end
/-! ### kinds of keys and values -/
section
variable {κ τ : Type} [DecidableEq κ]
def getA (xs : List (κ × τ)) (k : κ) : Option τ := (xs.find? fun e => decide (e.1 = k)).map (·.2)
def putA (xs : List (κ × τ)) (k : κ) (v : τ) : List (κ × τ) := if (xs.any fun e => decide (e.1 = k)) = true then xs.map (fun e => if e.1 = k then (e.1, v) else e) else xs ++ [(k, v)]
/-- keys that are tuples, written by f; single ones -/
structure KyT (f : κ → D) (kf : κ → List Key) : Prop where
  eq : ∀ k, f k = .tup ((kf k).map kD)
  inj : ∀ a b, kf a = kf b → a = b
structure KyK (f : κ → D) (kf : κ → Key) : Prop where
  eq : ∀ k, f k = kD (kf k)
  inj : ∀ a b, kf a = kf b → a = b
theorem valD_map {μ : Type} [DecidableEq μ] {kf : κ → μ} (inj : ∀ a b, kf a = kf b → a = b) {vf : τ → D} (k : κ) : ∀ xs : List (κ × τ), valD (xs.map fun e => (kf e.1, vf e.2)) (kf k) = (getA xs k).map vf
  | [] => rfl
  | e :: xs => by
    have ih := valD_map inj (vf := vf) k xs
    unfold valD getA at ih ⊢
    by_cases h : e.1 = k
    · simp [List.find?_cons, h]
    · have h2 : ¬ kf e.1 = kf k := fun z => h (inj _ _ z)
      simp only [List.map_cons, List.find?_cons, h, h2, decide_false]
      exact ih
theorem putD_map {μ : Type} [DecidableEq μ] {kf : κ → μ} (inj : ∀ a b, kf a = kf b → a = b) {vf : τ → D} (k : κ) (v : τ) (xs : List (κ × τ)) : putD (xs.map fun e => (kf e.1, vf e.2)) (kf k) (vf v) = (putA xs k v).map fun e => (kf e.1, vf e.2) := by
  unfold putD putA
  have e : ((xs.map fun e => (kf e.1, vf e.2)).any fun e => decide (e.1 = kf k)) = (xs.any fun e => decide (e.1 = k)) := by
    rw [List.any_map]
    congr 1
    funext e
    exact decide_eq_decide.mpr ⟨fun z => inj _ _ z, fun h => congrArg kf h⟩
  rw [e]
  split
  · rw [List.map_map, List.map_map]
    apply List.map_congr_left
    intro e _
    by_cases h : e.1 = k
    · simp [h]
    · have h2 : ¬ kf e.1 = kf k := fun z => h (inj _ _ z)
      simp [h, h2]
  · rw [List.map_append]; rfl
abbrev moT (kf : κ → List Key) (vf : τ → D) (xs : List (κ × τ)) : MO := .dT (xs.map fun e => (kf e.1, vf e.2))
abbrev moK (kf : κ → Key) (vf : τ → D) (xs : List (κ × τ)) : MO := .dK (xs.map fun e => (kf e.1, vf e.2))
theorem KyT.get {f : κ → D} {kf : κ → List Key} (Y : KyT f kf) {vf : τ → D} (xs : List (κ × τ)) (k : κ) : DcGet (moT kf vf xs) (f k) ((getA xs k).map vf) := .inr ⟨_, kf k, rfl, Y.eq k, (valD_map Y.inj k xs).symm⟩
theorem KyK.get {f : κ → D} {kf : κ → Key} (Y : KyK f kf) {vf : τ → D} (xs : List (κ × τ)) (k : κ) : DcGet (moK kf vf xs) (f k) ((getA xs k).map vf) := .inl ⟨_, kf k, rfl, Y.eq k, (valD_map Y.inj k xs).symm⟩
theorem KyT.put {f : κ → D} {kf : κ → List Key} (Y : KyT f kf) {vf : τ → D} (xs : List (κ × τ)) (k : κ) (v : τ) (hl : xs.length ≤ 100000) : DcPut (moT kf vf xs) (f k) (vf v) (moT kf vf (putA xs k v)) :=
  .inr ⟨_, kf k, rfl, Y.eq k, by rw [List.length_map]; omega, by rw [putD_map Y.inj]⟩
theorem KyK.put {f : κ → D} {kf : κ → Key} (Y : KyK f kf) {vf : τ → D} (xs : List (κ × τ)) (k : κ) (v : τ) (hl : xs.length ≤ 100000) : DcPut (moK kf vf xs) (f k) (vf v) (moK kf vf (putA xs k v)) :=
  .inl ⟨_, kf k, rfl, Y.eq k, by rw [List.length_map]; omega, by rw [putD_map Y.inj]⟩
def kI (i : Int) : Key := .inl i
def kC (c : Nat) : Key := .inr ⟨#[c]⟩
def kS (s : List Nat) : Key := .inr ⟨s.toArray⟩
theorem Ky.int : KyK D.int kI := ⟨fun _ => rfl, fun a b h => by unfold kI at h; injection h⟩
theorem Ky.chr : KyK (fun c => D.str [c]) kC := ⟨fun _ => rfl, fun a b h => by unfold kC at h; injection h with h; injection h with h; simpa using congrArg Array.toList h⟩
theorem Ky.str : KyK D.str kS := ⟨fun _ => rfl, fun a b h => by unfold kS at h; injection h with h; injection h with h; simpa using congrArg Array.toList h⟩
theorem KyK.pair {μ : Type} [DecidableEq μ] {f : κ → D} {kf : κ → Key} {g : μ → D} {kg : μ → Key} (Y : KyK f kf) (Z : KyK g kg) : KyT (fun p : κ × μ => .tup [f p.1, g p.2]) (fun p => [kf p.1, kg p.2]) :=
  ⟨fun p => by rw [Y.eq, Z.eq]; rfl, fun a b h => by
    injection h with h1 h2
    injection h2 with h2 _
    exact Prod.ext (Y.inj _ _ h1) (Z.inj _ _ h2)⟩
theorem KyK.list {f : κ → D} {kf : κ → Key} (Y : KyK f kf) : KyT (fun xs : List κ => .tup (xs.map f)) (fun xs => xs.map kf) :=
  ⟨fun xs => by
    rw [List.map_map]
    congr 1
    exact List.map_congr_left fun x _ => Y.eq x, fun a b h => by
    induction a generalizing b with
    | nil => cases b with
      | nil => rfl
      | cons => cases h
    | cons x a ih => cases b with
      | nil => cases h
      | cons y b =>
        injection h with h1 h2
        rw [Y.inj _ _ h1, ih _ h2]⟩
/-- an own dict with keys written by f -/
structure DK (f : κ → D) (mo : ∀ {τ : Type}, (τ → D) → List (κ × τ) → MO) : Prop where
  get : ∀ {τ : Type} {vf : τ → D} (xs : List (κ × τ)) (k : κ), DcGet (mo vf xs) (f k) ((getA xs k).map vf)
  put : ∀ {τ : Type} {vf : τ → D} (xs : List (κ × τ)) (k : κ) (v : τ), xs.length ≤ 100000 → DcPut (mo vf xs) (f k) (vf v) (mo vf (putA xs k v))
  is : ∀ {τ : Type} {vf : τ → D} (xs : List (κ × τ)), IsDc (mo vf xs)
theorem DK.t {f : κ → D} {kf : κ → List Key} (Y : KyT f kf) : DK f (fun vf xs => moT kf vf xs) := ⟨fun xs k => Y.get xs k, fun xs k v h => Y.put xs k v h, fun _ => True.intro⟩
theorem DK.k {f : κ → D} {kf : κ → Key} (Y : KyK f kf) : DK f (fun vf xs => moK kf vf xs) := ⟨fun xs k => Y.get xs k, fun xs k v h => Y.put xs k v h, fun _ => True.intro⟩
variable {G : Glob} {C : Sc} {Γ : Gm} {M : Mem} {Ex : XPost} {Q : D → Mem → Prop} {f : κ → D} {mo : ∀ {τ : Type}, (τ → D) → List (κ × τ) → MO} {vf : τ → D} {xs : List (κ × τ)} {p : Addr}
theorem O2.inA {k : κ} (Y : DK f mo) (hm : M p = some (mo vf xs)) (q : Q (.bl (getA xs k).isSome) M) : O2 G C (compareOp .In) (f k) (.adr p) M Q := O2.inDc hm (Y.get xs k) (by rw [Option.isSome_map]; exact q)
theorem O2.ninA {k : κ} (Y : DK f mo) (hm : M p = some (mo vf xs)) (q : Q (.bl (!(getA xs k).isSome)) M) : O2 G C (compareOp .NotIn) (f k) (.adr p) M Q := O2.ninDc hm (Y.get xs k) (by rw [Option.isSome_map]; exact q)
theorem DK.getD {k : κ} {z : τ} : (((getA xs k).map vf).getD (vf z)) = vf ((getA xs k).getD z) := by cases getA xs k <;> rfl
end
end Dl
/-! Dl22: plain laws of runs and loops. -/
namespace Dl
section
variable {α β σ ρ : Type}
theorem Run.gd_ {c : Prop} [Decidable c] {k : Option α} {Q : α → Prop} (hc : c) (h : Run k Q) : Run (Dl.gd c k) Q := by unfold Dl.gd; rw [if_pos hc]; exact h
theorem Run.eq {o : Option α} {a : α} (h : Run o fun x => x = a) : o = some a := by obtain ⟨x, e, rfl⟩ := h; exact e
theorem Run.by_eq {o : Option α} {a : α} {Q : α → Prop} (e : o = some a) (h : Q a) : Run o Q := ⟨a, e, h⟩
theorem Run.bind_eq {o : Option α} {a : α} {f : α → Option β} {Q : β → Prop} (e : o = some a) (h : Run (f a) Q) : Run (o.bind f) Q := by rw [e]; exact h
theorem Run.ite {c : Bool} {a b : Option α} {Q : α → Prop} (h1 : c = true → Run a Q) (h2 : c = false → Run b Q) : Run (if c = true then a else b) Q := by
  cases c with
  | true => exact h1 rfl
  | false => exact h2 rfl
theorem if_c {c : Bool} {A B : Prop} (h1 : c = true → A) (h2 : c = false → B) : if c = true then A else B := by
  cases c with
  | true => exact h1 rfl
  | false => exact h2 rfl
theorem foldO_inv {f : α → σ → Option σ} {Q : σ → Prop} (I : Nat → σ → Prop) : ∀ {xs : List α} {s0 : σ}, I 0 s0 → (∀ i x s, xs[i]? = some x → I i s → Run (f x s) (I (i + 1))) → (∀ s, I xs.length s → Q s) → Run (foldO f xs s0) Q := by
  intro xs
  induction xs generalizing I with
  | nil => intro s0 h0 _ hq; exact ⟨s0, rfl, hq s0 h0⟩
  | cons x xs ih =>
    intro s0 h0 hs hq
    obtain ⟨s1, e1, h1⟩ := hs 0 x s0 rfl h0
    obtain ⟨s2, e2, h2⟩ := ih (fun i => I (i + 1)) h1 (fun i y s hy hi => hs (i + 1) y s (by simpa using hy) hi) (fun s h => hq s h)
    exact ⟨s2, by unfold foldO; rw [e1]; exact e2, h2⟩
theorem flowO_inv {f : α → σ → Option (Flow σ ρ)} {Q : Flow σ ρ → Prop} (I : Nat → σ → Prop) : ∀ {xs : List α} {s0 : σ}, I 0 s0 → (∀ i x s, xs[i]? = some x → I i s → Run (f x s) fun z => match z with
    | .nx s' => I (i + 1) s'
    | .bk s' => Q (.nx s')
    | .rt r => Q (.rt r)) → (∀ s, I xs.length s → Q (.nx s)) → Run (flowO f xs s0) Q := by
  intro xs
  induction xs generalizing I with
  | nil => intro s0 h0 _ hq; exact ⟨.nx s0, rfl, hq s0 h0⟩
  | cons x xs ih =>
    intro s0 h0 hs hq
    obtain ⟨z, e1, h1⟩ := hs 0 x s0 rfl h0
    cases z with
    | nx s1 =>
      obtain ⟨s2, e2, h2⟩ := ih (fun i => I (i + 1)) h1 (fun i y s hy hi => hs (i + 1) y s (by simpa using hy) hi) (fun s h => hq s h)
      exact ⟨s2, by unfold flowO; rw [e1]; exact e2, h2⟩
    | bk s1 => exact ⟨.nx s1, by unfold flowO; rw [e1]; rfl, h1⟩
    | rt r => exact ⟨.rt r, by unfold flowO; rw [e1]; rfl, h1⟩
theorem foldN_inv {f : α → σ → Nd σ} {Q : σ → Prop} (I : Nat → σ → Prop) : ∀ {xs : List α} {s0 : σ}, (∀ x s (N N' : σ → Prop), (∀ s', N s' → N' s') → f x s N → f x s N') → I 0 s0 → (∀ i x s, xs[i]? = some x → I i s → f x s (I (i + 1))) → (∀ s, I xs.length s → Q s) → foldN f xs s0 Q := by
  intro xs
  induction xs generalizing I with
  | nil => intro s0 _ h0 _ hq; exact hq s0 h0
  | cons x xs ih =>
    intro s0 hm h0 hs hq
    exact hm x s0 _ _ (fun s1 h1 => ih (fun i => I (i + 1)) hm h1 (fun i y s hy hi => hs (i + 1) y s (by simpa using hy) hi) (fun s h => hq s h)) (hs 0 x s0 rfl h0)
/-- a loop whose turns never leave it: for each turn the state that goes on is asked for nothing but I -/
theorem flowN_all {f : α → σ → Nd (Flow σ ρ)} {Q : Flow σ ρ → Prop} (I : Nat → σ → Prop) : ∀ {xs : List α} {s0 : σ}, I 0 s0 → (∀ i x s (N : Flow σ ρ → Prop), xs[i]? = some x → I i s → (∀ s', I (i + 1) s' → N (.nx s')) → f x s N) → (∀ s, I xs.length s → Q (.nx s)) → flowN f xs s0 Q := by
  intro xs
  induction xs generalizing I with
  | nil => intro s0 h0 _ hq; exact hq s0 h0
  | cons x xs ih =>
    intro s0 h0 hs hq
    refine hs 0 x s0 _ rfl h0 fun s1 h1 => ?_
    exact ih (fun i => I (i + 1)) h1 (fun i y s N hy hi => hs (i + 1) y s N (by simpa using hy) hi) (fun s h => hq s h)
theorem foldN_all {f : α → σ → Nd σ} {Q : σ → Prop} (I : Nat → σ → Prop) : ∀ {xs : List α} {s0 : σ}, I 0 s0 → (∀ i x s (N : σ → Prop), xs[i]? = some x → I i s → (∀ s', I (i + 1) s' → N s') → f x s N) → (∀ s, I xs.length s → Q s) → foldN f xs s0 Q := by
  intro xs
  induction xs generalizing I with
  | nil => intro s0 h0 _ hq; exact hq s0 h0
  | cons x xs ih =>
    intro s0 h0 hs hq
    refine hs 0 x s0 _ rfl h0 fun s1 h1 => ?_
    exact ih (fun i => I (i + 1)) h1 (fun i y s N hy hi => hs (i + 1) y s N (by simpa using hy) hi) (fun s h => hq s h)
/-- no state is carried -/
theorem flowN_unit {f : α → Unit → Nd (Flow Unit ρ)} {Q : Flow Unit ρ → Prop} {xs : List α} (hs : ∀ x (N : Flow Unit ρ → Prop), x ∈ xs → N (.nx ()) → f x () N) (hq : Q (.nx ())) : flowN f xs () Q :=
  flowN_all (fun _ _ => True) trivial (fun i x s N hx _ hn => hs x N (List.mem_of_getElem? hx) (hn () trivial)) (fun _ _ => hq)
theorem flowO_unit {f : α → Unit → Option (Flow Unit ρ)} {Q : Flow Unit ρ → Prop} {xs : List α} (hs : ∀ x, x ∈ xs → f x () = some (.nx ())) (hq : Q (.nx ())) : Run (flowO f xs ()) Q :=
  flowO_inv (fun _ _ => True) trivial (fun i x s hx _ => ⟨_, hs x (List.mem_of_getElem? hx), trivial⟩) (fun _ _ => hq)
theorem mapO_run {f : α → Option β} {v : α → β} {xs : List α} {Q : List β → Prop} (h : ∀ x ∈ xs, f x = some (v x)) (q : Q (xs.map v)) : Run (mapO f xs) Q := ⟨_, mapO_eq h, q⟩
theorem filterO_run {f : α → Option Bool} {p : α → Bool} {xs : List α} {Q : List α → Prop} (h : ∀ x ∈ xs, f x = some (p x)) (q : Q (xs.filter p)) : Run (filterO f xs) Q := ⟨_, filterO_eq h, q⟩
theorem getElem?_enumI {l : List α} {i : Nat} {p : Int × α} (h : (enumI l)[i]? = some p) : p.1 = (i : Int) ∧ l[i]? = some p.2 := by
  unfold enumI at h
  rw [List.getElem?_map, List.getElem?_zipIdx] at h
  cases hx : l[i]? with
  | none => rw [hx] at h; cases h
  | some x => rw [hx] at h; cases h; exact ⟨by simp, rfl⟩
theorem getElem?_rangeI {lo hi : Int} {i : Nat} {x : Int} (h : (rangeI lo hi)[i]? = some x) : x = lo + (i : Nat) ∧ x < hi := by
  unfold rangeI at h
  rw [List.getElem?_map] at h
  cases hx : (List.range (hi - lo).toNat)[i]? with
  | none => rw [hx] at h; cases h
  | some j =>
    rw [hx] at h
    cases h
    obtain ⟨h1, h2⟩ := List.getElem?_eq_some_iff.mp hx
    rw [List.getElem_range] at h2
    rw [List.length_range] at h1
    subst h2
    exact ⟨rfl, by show lo + (i : Int) < hi; omega⟩
theorem cut_lo0 (s : List α) {i : Int} (h : 0 ≤ i) : cut s (some i) none = s.drop i.toNat := cut_loI s h
theorem cut_hi0 (s : List α) {i : Int} (h : 0 ≤ i) : cut s none (some i) = s.take i.toNat := cut_hiI s h
end
end Dl
/-! Dl23: three stores at once, lists of ranges, list sums, in. -/
namespace Dl
open PySem PySem.Spec PyProof.Rows L2
section
variable {env : Env} {sc : Scope} {a b c : Expr}
theorem swap3 {x y z : Str} {px py pz pt pt2 : Pos} {kt k2} (he : env.scope = sc) (hk : sc.kind = .function) (ha : starB a = false) (hb : starB b = false) (hcs : starB c = false) (hx : sc.names.lookup x = some .local) (hy : sc.names.lookup y = some .local) (hz : sc.names.lookup z = some .local)
    (hl : (py.line == px.line) = true) (hl2 : (pz.line == px.line) = true) (hyx : (y == x) = false) (hzx : (z == x) = false) (hzy : (z == y) = false)
    (hf : [a, b, c].all (foldedForSure 8) = false) (hc : [a, b, c].all (constantsAlone 8) = false) : swappedStores [.Tuple [.Name x px, .Name y py, .Name z pz] kt pt] (.Tuple [a, b, c] k2 pt2) env = pure (some [x, y, z]) := by
  have kx : env.kindOf x = some .local := by unfold Env.kindOf; rw [he]; exact hx
  have ky : env.kindOf y = some .local := by unfold Env.kindOf; rw [he]; exact hy
  have kz : env.kindOf z = some .local := by unfold Env.kindOf; rw [he]; exact hz
  have bk : (env.blockKind != .function) = false := by unfold Env.blockKind; rw [he, hk]; rfl
  have hl' : (py.line == px.line) = true := hl
  have e1 : ∀ l : List Expr, (∀ z ∈ l, starB z = false) → (l.any fun | .Starred .. => true | _ => false) = false := fun l h => by
    rw [List.any_eq_false]
    intro z hz q
    have := h z hz
    cases z <;> first | (cases this; done) | (cases q; done)
  unfold swappedStores
  simp only [hf, hc, bk, kx, ky, kz, List.length_cons, List.length_nil, List.filterMap_cons, List.filterMap_nil, List.head?_cons, Option.map_some, Option.getD_some, Expr.pos, hl', hl2, beq_self_eq_true, Bool.and_self, if_true, List.eraseDups_cons, List.filter_cons, List.filter_nil, hyx, hzx, hzy, Bool.not_false, List.eraseDups_nil]
  have h0 := e1 [a, b, c] (by
    intro z hz
    simp only [List.mem_cons, List.not_mem_nil, or_false] at hz
    rcases hz with rfl | rfl | rfl <;> assumption)
  split
  · rename_i h
    exact absurd h (by decide)
  · split
    · rename_i h
      exact absurd (h.symm.trans h0) (by decide)
    · rfl
/-- all constants: no swap -/
theorem swapF {ts vs : List Expr} {kt pt k2 pt2} (hf : vs.all (foldedForSure 8) = true) : swappedStores [.Tuple ts kt pt] (.Tuple vs k2 pt2) env = pure none := by
  unfold swappedStores
  split
  · rename_i ts' vs' e
    simp only [Option.some.injEq, Prod.mk.injEq] at e
    obtain ⟨rfl, rfl⟩ := e
    split
    · rfl
    · split
      · rfl
      · dsimp only
        split
        · rfl
        · first | rfl | (rw [if_pos hf]; rfl)
  · rename_i h2
    exact (h2 _ _ rfl).elim
end
section
variable {X : Cx} {σ : L2.St} {H : Hp} {T : Nat} {a b c : Expr} {pos : Pos}
theorem vals3 {x y z : V} {us : List Value} (r : Vals [x, y, z] us) : ∃ u1 u2 u3, us = [u1, u2, u3] ∧ RelV x u1 ∧ RelV y u2 ∧ RelV z u3 := by
  cases r with
  | cons r1 r =>
    cases r with
    | cons r2 r =>
      cases r with
      | cons r3 r =>
        cases r
        exact ⟨_, _, _, rfl, r1, r2, r3⟩
theorem s_par3 {i j l : Nat} {x y z : Str} {px py pz pt pt2 : Pos} {kt k2} {D : Ends} {rest : List Stmt} (hcm : X.calm = true) (hN : X.N.Nodup) (hi : X.N[i]? = some x) (hj : X.N[j]? = some y) (hl : X.N[l]? = some z) (hij : i ≠ j) (hil : i ≠ l) (hjl : j ≠ l)
    (hx : X.env.scope.names.lookup x = some .local) (hy : X.env.scope.names.lookup y = some .local) (hz : X.env.scope.names.lookup z = some .local)
    (hw : swappedStores [.Tuple [.Name x px, .Name y py, .Name z pz] kt pt] (.Tuple [a, b, c] k2 pt2) X.env = pure (some [x, y, z]))
    (h : sA T X [a, b, c] σ H fun vs H1 => ∃ v w q, vs = [v, w, q] ∧ sSs T X rest D (((σ.set i (some v)).set j (some w)).set l (some q)) H1) : sSs T X (.Assign [.Tuple [.Name x px, .Name y py, .Name z pz] kt pt] (.Tuple [a, b, c] k2 pt2) pos :: rest) D σ H := s_then fun pins s k I => by
  refine PyProof.Rows.Assign_Tuple_swapped (names := [x, y, z]) (Tuple_ (thn (h pt2 pins s k I) fun us s1 ⟨vs, H1, I1, r1, v, w, q, ev, q1⟩ => ?_)) rfl hw
  rw [ev] at r1
  obtain ⟨u1, u2, u3, rfl, rv, rw2, rw3⟩ := vals3 r1
  refine wpAny_newObj_type ?_ (by show 3 ≤ sizeLine; decide)
  have I2 : Inv X pins σ H1 { s1 with heap := s1.heap.push { cls := .type "tuple", data := .seq [u1, u2, u3].toArray } } := I1.kept (t' := s1.toks) fun b o e => Heap.get?_push_of_some _ e
  refine unpackItems_tuple (items := #[u1, u2, u3]) (I.ok.hd hcm) (IsTup.new s1.heap _) fun h' hx' => ?_
  have I3 := I2.kept (h' := h') (t' := s1.toks) fun b o e => hx' b o (Nat.ne_of_lt (Heap.lt_size e)) e
  refine assignInOrder_cons (wpAny_bindName (store_ok I3 hN hl (.inl hz) rw3 (fun s2 I4 => ?_) (.inr hz)))
  refine assignInOrder_cons (wpAny_bindName (store_ok I4 hN hj (.inl hy) rw2 (fun s3 I5 => ?_) (.inr hy)))
  refine assignInOrder_cons (wpAny_bindName (store_ok I5 hN hi (.inl hx) rv (fun s4 I6 => assignInOrder_nil ?_) (.inr hx)))
  rw [List.set_comm _ _ (Ne.symm hjl), List.set_comm _ _ (Ne.symm hil), List.set_comm _ _ (Ne.symm hij)] at I6
  exact ⟨_, H1, I6, q1⟩
end
def par3B (sc : Scope) (x y z : Str) (px py pz : Pos) (a b c : Expr) : Bool := (match sc.kind with | .function => true | _ => false) && isLoc sc x && isLoc sc y && isLoc sc z && (py.line == px.line) && (pz.line == px.line) && !(y == x) && !(z == x) && !(z == y) && !starB a && !starB b && !starB c && ![a, b, c].all (foldedForSure 8) && ![a, b, c].all (constantsAlone 8)
section
variable {G : Glob} {C : Sc} {Γ : Gm} {M : Mem} {P : DE} {rest : List Stmt}
theorem W.par3 {x y z : Str} {px py pz pt pt2 pos : Pos} {kt k2} {a b c : Expr} (h : E G C a Γ M P.ex fun d1 M1 => E G C b Γ M1 P.ex fun d2 M2 => E G C c Γ M2 P.ex fun d3 M3 => ∃ Γ1 Γ2 Γ3, Upd Γ x d1 Γ1 ∧ Upd Γ1 y d2 Γ2 ∧ Upd Γ2 z d3 Γ3 ∧ W G C rest Γ3 M3 P)
    (hxn : x ∈ C.N := by decide +kernel) (hyn : y ∈ C.N := by decide +kernel) (hzn : z ∈ C.N := by decide +kernel) (hb : par3B C.sc x y z px py pz a b c = true := by decide +kernel)
    (hs : ∀ env, starEach [a, b, c] env = (false, eval a env) :: starEach [b, c] env := by intro _; rfl) (hs2 : ∀ env, starEach [b, c] env = (false, eval b env) :: starEach [c] env := by intro _; rfl) (hs3 : ∀ env, starEach [c] env = (false, eval c env) :: starEach [] env := by intro _; rfl) :
    W G C (.Assign [.Tuple [.Name x px, .Name y py, .Name z pz] kt pt] (.Tuple [a, b, c] k2 pt2) pos :: rest) Γ M P := by
  constructor
  intro X σ H B s
  unfold par3B at hb
  simp only [Bool.and_eq_true, Bool.not_eq_true'] at hb
  obtain ⟨⟨⟨⟨⟨⟨⟨⟨⟨⟨⟨⟨⟨b1, b2⟩, b3⟩, b4⟩, b5⟩, b6⟩, b7⟩, b8⟩, b9⟩, c1⟩, c2⟩, c3⟩, c4⟩, c5⟩ := hb
  have hk : C.sc.kind = .function := by
    split at b1 <;> first | assumption | cases b1
  obtain ⟨i, hi⟩ := List.mem_iff_getElem?.mp hxn
  obtain ⟨j, hj⟩ := List.mem_iff_getElem?.mp hyn
  obtain ⟨l, hl⟩ := List.mem_iff_getElem?.mp hzn
  have ne : ∀ {p q : Nat} {u v : Str}, C.N[p]? = some u → C.N[q]? = some v → (v == u) = false → p ≠ q := fun h1 h2 h3 e => by
    subst e
    rw [h1] at h2
    cases h2
    simp at h3
  refine s_par3 (i := i) (j := j) (l := l) s.cx.calm (by rw [s.cx.N]; exact s.cx.nd) (by rw [s.cx.N]; exact hi) (by rw [s.cx.N]; exact hj) (by rw [s.cx.N]; exact hl) (ne hi hj b7) (ne hi hl b8) (ne hj hl b9) (by rw [s.cx.sc]; exact isLoc_of b2) (by rw [s.cx.sc]; exact isLoc_of b3) (by rw [s.cx.sc]; exact isLoc_of b4)
    (swap3 s.cx.sc hk c1 c2 c3 (isLoc_of b2) (isLoc_of b3) (isLoc_of b4) b5 b6 b7 b8 b9 c4 c5) ?_
  refine s_cons (hs _) ((h X σ H B s).mono fun v1 H1 ⟨d1, B1, M1, g1, t1, r1, q1⟩ => ?_)
  refine s_cons (hs2 _) ((q1 X σ H1 B1 (s.step g1 t1)).mono fun v2 H2 ⟨d2, B2, M2, g2, t2, r2, q2⟩ => ?_)
  refine s_cons (hs3 _) ((q2 X σ H2 B2 ((s.step g1 t1).step g2 t2)).mono fun v3 H3 ⟨d3, B3, M3, g3, t3, r3, Γ1, Γ2, Γ3, u1, u2, u3, q3⟩ => ?_)
  obtain ⟨i', hi', ra⟩ := (((s.gm.mono t1.same).mono t2.same).mono t3.same).upd u1 ((r1.mono t2.same).mono t3.same)
  have e := nodup_ix s.cx.nd hi hi'
  subst e
  obtain ⟨j', hj', rb⟩ := ra.upd u2 (r2.mono t3.same)
  have e := nodup_ix s.cx.nd hj hj'
  subst e
  obtain ⟨l', hl', rc⟩ := rb.upd u3 r3
  have e := nodup_ix s.cx.nd hl hl'
  subst e
  exact sA_of pa_nil ⟨v1, v2, v3, rfl, DE.step (t1.trans (t2.trans t3)) (q3 X _ H3 B3 ⟨s.cx, g3, rc, ((s.xo.step t1).step t2).step t3⟩)⟩
/-- constants stored at once: by way of a tuple -/
theorem W.asgF {ts vs : List Expr} {kt pt k2 pt2} {pos : Pos} (h : E G C (.Tuple vs k2 pt2) Γ M P.ex fun d M1 => Tg G C (.Tuple ts kt pt) d Γ M1 P.ex fun Γ' M2 => W G C rest Γ' M2 P) (hf : vs.all (foldedForSure 8) = true := by decide +kernel) : W G C (.Assign [.Tuple ts kt pt] (.Tuple vs k2 pt2) pos :: rest) Γ M P :=
  W.asg h (fun _ _ => rfl) (fun _ _ => swapF hf) (fun _ => rfl)
end
section
variable {G : Glob} {C : Sc} {Γ : Gm} {M : Mem} {Ex : XPost}
theorem E.dn {e : Expr} {Q : D → Mem → Prop} (h : E G C e Γ M Ex (Dn Q)) : E G C e Γ M Ex Q := .mk fun X σ H B s => (h X σ H B s).mono fun v H' q => VP.dn q
theorem cr_range1 {X : Cx} : CallR X (.type "range") (fun vs H Q => ∃ j, vs = [V.int j] ∧ ∀ p, H p = none → Q (.ref p) (upd H p (.rng 0 j))) := by
  intro pins s σ H vs us Q I r h
  obtain ⟨j, rfl, q⟩ := h
  obtain ⟨u1, rfl, t, rfl⟩ := vals1 r
  refine call_range_1 ⟨.ref s.heap.objs.size, upd H s.heap.objs.size (.rng 0 j), I.laid (t' := s.toks + 1 + 1) (fun b o e => Heap.get?_push_of_some _ e) (Nat.le_refl _) ?_, rfl, q _ (I.hok.fresh (Nat.le_refl _))⟩
  exact ⟨s.toks, t, s.toks + 1, Heap.get?_push_size _ rfl⟩
theorem cr_range2' {X : Cx} : CallR X (.type "range") (fun vs H Q => ∃ i j, vs = [V.int i, V.int j] ∧ ∀ p, H p = none → Q (.ref p) (upd H p (.rng i j))) := by
  intro pins s σ H vs us Q I r h
  obtain ⟨i, j, rfl, q⟩ := h
  obtain ⟨u1, u2, rfl, ⟨t, rfl⟩, u, rfl⟩ := vals2 r
  refine call_range_2 ⟨.ref s.heap.objs.size, upd H s.heap.objs.size (.rng i j), I.laid (t' := s.toks + 1) (fun b o e => Heap.get?_push_of_some _ e) (Nat.le_refl _) ?_, rfl, q _ (I.hok.fresh (Nat.le_refl _))⟩
  exact ⟨t, u, s.toks, Heap.get?_push_size _ rfl⟩
theorem items_rng {lo : Int} {n : Nat} {acc : Array Value} (h : ItemsOf (fun i v => ∃ t, v = .int (lo + i * 1) t) acc n) : Vals ((List.range n).map fun (i : Nat) => V.int (lo + (i : Int))) acc.toList := by
  have hs : acc.toList.length = n := by simpa using h.1
  have key : ∀ (k : Nat) (us : List Value), us.length + k = n → (∀ (j : Nat) u, us[j]? = some u → ∃ t, u = .int (lo + ((k + j : Nat) : Int)) t) → Vals ((List.range' k us.length).map fun (i : Nat) => V.int (lo + (i : Int))) us := by
    intro k us
    induction us generalizing k with
    | nil => intro _ _; exact .nil
    | cons u us ih =>
      intro hl hu
      obtain ⟨t, rfl⟩ := hu 0 u (by simp)
      rw [List.length_cons, List.range'_succ, List.map_cons]
      refine .cons ⟨t, rfl⟩ (ih (k + 1) (by simp at hl; omega) fun j u h1 => ?_)
      obtain ⟨t2, e⟩ := hu (j + 1) u (by simpa using h1)
      exact ⟨t2, by rw [e]; simp; omega⟩
  have := key 0 acc.toList (by omega) fun j u h1 => by
    obtain ⟨t, e⟩ := h.2 j u (by simpa using h1)
    exact ⟨t, by rw [e]; simp⟩
  rw [hs] at this
  rwa [List.range_eq_range']
theorem cr_listRng {X : Cx} (hc : X.calm = true) : CallR X (.type "list") (fun xs H Q => ∃ p lo hi, xs = [.ref p] ∧ H p = some (.rng lo hi) ∧ rngOk lo hi ∧ ∀ q, H q = none → Q (.ref q) (upd H q (.lst ((rangeI lo hi).map V.int)))) := fun pins s σ H xs us Q I r ⟨p, lo, hi, e, hp, ok, q⟩ => by
  subst e
  obtain ⟨u, rfl, rfl⟩ := vals1 r
  obtain ⟨t, u, v, ho⟩ := (show ∃ t u v, s.heap.get? p = some { cls := .type "range", data := .fields #[.int lo t, .int hi u, .int 1 v] } from I.hok p _ hp)
  have ok' := rngOk.two ok
  refine PySem.call_list_range (n := (hi - lo).toNat) (I.ok.hd hc) ho (small_one ok'.1 ok'.2.1 ok'.2.2.1 ok'.2.2.2) (by rw [rangeSize_one]; split <;> omega) (by have := ok; omega) (fun h' tk acc c' kp e it => ?_)
  refine ⟨.ref s.heap.objs.size, _, I.laid (t' := tk) kp (Nat.le_refl _) (o := .lst ((rangeI lo hi).map V.int)) ?_, rfl, q _ (I.hok.fresh (Nat.le_refl _))⟩
  refine ⟨by rw [List.length_map, length_rangeI]; have := ok; rw [sizeLine_eq]; omega, acc.toList, c', ?_, by simpa using e⟩
  have := items_rng it
  unfold rangeI
  rw [List.map_map]
  exact this
theorem F1.range1 {j : Int} {Q : D → Mem → Prop} (q : ∀ p, M p = none → Q (.adr p) (mset M p (.raw (.rng 0 j)))) : F1 G C (.type "range") [.int j] M Q := .of fun X H B xs cx g r => by
  obtain ⟨v, rfl, rv⟩ := r.one
  exact ⟨_, cr_range1, j, by rw [rep_int.mp rv], fun p hp => VP.own (m := .raw (.rng 0 j)) g rfl hp q⟩
theorem F1.range2 {i j : Int} {Q : D → Mem → Prop} (q : ∀ p, M p = none → Q (.adr p) (mset M p (.raw (.rng i j)))) : F1 G C (.type "range") [.int i, .int j] M Q := .of fun X H B xs cx g r => by
  obtain ⟨v, u, rfl, rv, ru⟩ := r.two
  exact ⟨_, cr_range2', i, j, by rw [rep_int.mp rv, rep_int.mp ru], fun p hp => VP.own (m := .raw (.rng i j)) g rfl hp q⟩
theorem F1.listRng {p : Addr} {lo hi : Int} {Q : D → Mem → Prop} (hp : M p = some (.raw (.rng lo hi))) (ok : rngOk lo hi) (q : ∀ r, M r = none → Q (.adr r) (mset M r (.lst ((rangeI lo hi).map D.int)))) : F1 G C (.type "list") [.adr p] M Q := .of fun X H B xs cx g r => by
  obtain ⟨v, rfl, rv⟩ := r.one
  obtain ⟨_, o, ho, ro⟩ := g.own p _ hp
  have ro : o = .rng lo hi := ro
  subst ro
  exact ⟨_, cr_listRng cx.calm, p, lo, hi, by rw [rep_adr.mp rv], ho, ok, fun r hr => VP.own (m := .lst ((rangeI lo hi).map D.int)) g ⟨_, rfl, repL.ofMap (fun i => rep_int.mpr rfl) _⟩ hr q⟩
/-- list(range(n)), list(range(m, n)): a value -/
theorem E.listR1 {x y : Str} {a : Expr} {p p2 pos pos2 : Pos} {Q : D → Mem → Prop} (hm : G.mg "list" = none) (hm2 : G.mg "range" = none) (h : E G C a Γ M Ex fun d M1 => ∃ n, d = .int n ∧ rngOk 0 n ∧ Q (.lst ((rangeI 0 n).map D.int)) M1) (ex : x = "list") (ey : y = "range")
    (hv : bootBuiltins "list" = some (.type "list") := by kernel_rfl) (hv2 : bootBuiltins "range" = some (.type "range") := by kernel_rfl)
    (hg : glB C.sc "list" = true := by decide +kernel) (hg2 : glB C.sc "range" = true := by decide +kernel) (hs : ∀ env, starEach [a] env = (false, eval a env) :: starEach [] env := by intro _; rfl) :
    E G C (.Call (.Name x p) [.Call (.Name y p2) [a] [] pos2] [] pos) Γ M Ex Q := by
  subst ex ey
  refine E.dn (E.freeze (E.callTy hm hv (A.cons (E.callTy hm2 hv2 (A.cons (h.mono ?_) hs) hg2 (he := hs) (hpl := fun _ => rfl))) hg))
  intro d M1 ⟨n, e, ok, q⟩
  subst e
  refine A.nil (F1.range1 fun r hr => A.nil (F1.listRng mset_same ok fun r2 hr2 => ⟨r2, _, _, rfl, hr2, rfl, M1, fun z m e => ?_, q⟩))
  rw [mset_ne (fun z' => by rw [z', hr] at e; cases e)]
  exact e
theorem E.listR2 {x y : Str} {a b : Expr} {p p2 pos pos2 : Pos} {Q : D → Mem → Prop} (hm : G.mg "list" = none) (hm2 : G.mg "range" = none) (h : E G C a Γ M Ex fun d M1 => E G C b Γ M1 Ex fun d2 M2 => ∃ m n, d = .int m ∧ d2 = .int n ∧ rngOk m n ∧ Q (.lst ((rangeI m n).map D.int)) M2) (ex : x = "list") (ey : y = "range")
    (hv : bootBuiltins "list" = some (.type "list") := by kernel_rfl) (hv2 : bootBuiltins "range" = some (.type "range") := by kernel_rfl)
    (hg : glB C.sc "list" = true := by decide +kernel) (hg2 : glB C.sc "range" = true := by decide +kernel) (hs : ∀ env, starEach [a, b] env = (false, eval a env) :: starEach [b] env := by intro _; rfl) (hs2 : ∀ env, starEach [b] env = (false, eval b env) :: starEach [] env := by intro _; rfl) :
    E G C (.Call (.Name x p) [.Call (.Name y p2) [a, b] [] pos2] [] pos) Γ M Ex Q := by
  subst ex ey
  refine E.dn (E.freeze (E.callTy hm hv (A.cons (E.callTy hm2 hv2 (A.cons (h.mono ?_) hs) hg2 (he := hs) (hpl := fun _ => by rw [hs2]; rfl))) hg))
  intro d M1 q
  refine A.cons (q.mono ?_) hs2
  intro d2 M2 ⟨m, n, e, e2, ok, qq⟩
  subst e e2
  refine A.nil (F1.range2 fun r hr => A.nil (F1.listRng mset_same ok fun r2 hr2 => ⟨r2, _, _, rfl, hr2, rfl, M2, fun z m e => ?_, qq⟩))
  rw [mset_ne (fun z' => by rw [z', hr] at e; cases e)]
  exact e
/-- list + list -/
theorem Inv.lstE {X : Cx} {pins : List (Addr × Obj)} {σ : L2.St} {H : Hp} {s : Shared} {a : Addr} {xs : List V} (I : Inv X pins σ H s) (h : SqE X.K H a xs) : xs.length ≤ sizeLine ∧ ∃ (its : List Value) (n : Nat), Vals xs its ∧ s.heap.get? a = some { cls := .type "list", data := .seq its.toArray n } := by
  rcases h with h | ⟨its, n, h1, h2, h3⟩
  · obtain ⟨z, its, n, r, e⟩ := h.ok I.hok
    exact ⟨z, its, n, r, e⟩
  · refine ⟨?_, its.toList, n, h3, ?_⟩
    · have e := h3.length
      simp at e
      omega
    · have := I.kIn a _ h1
      simpa using this
theorem op_catE {X : Cx} : OpR X (binaryOp .Add) (fun x y H Q => ∃ l b xs zs, x = .ref l ∧ y = .ref b ∧ SqE X.K H l xs ∧ SqE X.K H b zs ∧ xs.length + zs.length ≤ sizeLine ∧ ∀ p, H p = none → Q (.ref p) (upd H p (.lst (xs ++ zs)))) := by
  intro pins s σ H x y v u Q I rx ry h
  obtain ⟨l, b, xs, zs, rfl, rfl, hH, hB, hz, q⟩ := h
  obtain rfl : v = Value.ref l := rx
  obtain rfl : u = Value.ref b := ry
  obtain ⟨_, its, n, r, e⟩ := Inv.lstE I hH
  obtain ⟨_, its2, n2, r2, e2⟩ := Inv.lstE I hB
  have hl := r.length
  have hl2 := r2.length
  refine PySem.P.add_list e e2 ?_ (by rw [List.size_toArray, List.size_toArray]; omega)
  have ea : its.toArray ++ its2.toArray = (its ++ its2).toArray := by simp
  rw [ea]
  exact ⟨.ref _, _, I.lnew (t' := s.toks) (r.append r2) (by rw [List.length_append]; omega), rfl, q _ I.fresh⟩
theorem op_repE {X : Cx} : OpR X (binaryOp .Mult) (fun x y H Q => ∃ l k xs, x = .ref l ∧ y = .int k ∧ SqE X.K H l xs ∧ -(2 ^ 63) ≤ k ∧ k < 2 ^ 63 ∧ xs.length * k.toNat ≤ sizeLine ∧ ∀ p, H p = none → Q (.ref p) (upd H p (.lst (List.replicate k.toNat xs).flatten))) := by
  intro pins s σ H x y v u Q I rx ry h
  obtain ⟨l, k, xs, rfl, rfl, hH, h1, h2, hz, q⟩ := h
  obtain rfl : v = Value.ref l := rx
  obtain ⟨t, rfl⟩ := ry
  obtain ⟨_, its, n, r, e⟩ := Inv.lstE I hH
  have hl := r.length
  have len : its.toArray.size * k.toNat ≤ sizeLine := by rw [List.size_toArray, ← hl]; exact hz
  have cap : ¬ its.toArray.size * k.toNat > (2 ^ 63 - 1) / 8 := fun z => by
    have : (sizeLine : Nat) ≤ (2 ^ 63 - 1) / 8 := by decide
    omega
  have fit : ¬ (!Builtin.List.listFitsIndex k) = true := by rw [fitsIndex_both h1 h2]; simp
  have lng : ¬ Builtin.List.listTooLong (its.toArray.size * k.toNat) = true := by rw [notLongL len]; simp
  have fold : ∀ m : Nat, List.foldl (fun x1 x2 => x1 ++ x2) #[] (List.replicate m its.toArray) = (List.replicate m its).flatten.toArray := fun m => by
    have z := foldl_rep its m []
    rwa [List.nil_append] at z
  have new_ : List.foldl (fun x1 x2 => x1 ++ x2) #[] (List.replicate (if its.toArray.isEmpty = true then 0 else k.toNat) its.toArray) = (List.replicate k.toNat its).flatten.toArray := by
    rw [fold]
    cases its with
    | nil => simp
    | cons a r' => rw [if_neg (by simp)]
  have inner := call_meets (prog := X.prog) (w := X.w) (A := X.A) (E := X.xe) (s := s) F.slot_list_mul (show s.TypeIs (.ref l) "list" from ⟨_, e, rfl⟩) F.entry_list_mul (F.args_list_mul_2 (.ref l) (.int k t)) (AutoListH.list___mul___list_int_3 l its.toArray n k t fit cap lng)
    (Q := EP X pins σ Q) ⟨e, by rw [new_]; exact ⟨.ref _, _, I.lnew (t' := s.toks) (r.rep k.toNat) (by rw [PyProof.Rows.lm_len_rep_flat, Nat.mul_comm]; exact hz), rfl, q _ I.fresh⟩⟩
  exact wpAny_binaryOp_repeat_ref (T := "list") (U := "int") (by decide) ⟨_, e, rfl⟩ (fun s' => typeIs_int s' k t) noFill_list_mul F.fills_int_mul F.slot_int_rmul repeat_list F.slot_int_index.lookup
    (call_meets F.slot_int_rmul (typeIs_int s k t) F.entry_int_rmul (F.args_int_rmul_2 _ _) (int___rmul___int_list k t l its.toArray n) ⟨e, rfl, ⟨_, e, rfl⟩, inner⟩)
theorem O2.addX {α : Type} {f : α → D} {xs ys : List α} {Q : D → Mem → Prop} (hl : xs.length + ys.length ≤ 100000) (q : Q (.lst ((xs ++ ys).map f)) M) : O2 G C (binaryOp .Add) (.lst (xs.map f)) (.lst (ys.map f)) M Q := .of fun X H B x y cx g r1 r2 => by
  obtain ⟨a, vs, rfl, h1, h2⟩ := rep_lstE r1
  obtain ⟨b, us, rfl, h3, h4⟩ := rep_lstE r2
  refine ⟨_, op_catE, a, b, vs, us, rfl, rfl, by rw [cx.K]; exact Same.sqE g.sub h1, by rw [cx.K]; exact Same.sqE g.sub h3, ?_, fun p hp => VP.lst g (by rw [List.map_append]; exact repL.append h2 h4) hp q⟩
  rw [h2.length, h4.length, List.length_map, List.length_map, sizeLine_eq]
  omega
theorem O2.mulX {α : Type} {f : α → D} {xs : List α} {n : Int} {Q : D → Mem → Prop} (h0 : -40000 ≤ n) (h1 : n ≤ 40000) (hl : xs.length * n.toNat ≤ 100000) (q : Q (.lst (((List.replicate n.toNat xs).flatten).map f)) M) : O2 G C (binaryOp .Mult) (.lst (xs.map f)) (.int n) M Q := .of fun X H B x y cx g r1 r2 => by
  obtain ⟨a, vs, rfl, h1', h2⟩ := rep_lstE r1
  rw [rep_int.mp r2]
  refine ⟨_, op_repE, a, n, vs, rfl, rfl, by rw [cx.K]; exact Same.sqE g.sub h1', by omega, by omega, ?_, fun p hp => VP.lst g ?_ hp q⟩
  · rw [h2.length, List.length_map, sizeLine_eq]; omega
  · have key : ∀ k : Nat, repL G.K B (((List.replicate k xs).flatten).map f) (List.replicate k vs).flatten := by
      intro k
      induction k with
      | zero => exact repL.nil
      | succ k ih => rw [List.replicate_succ, List.replicate_succ, List.flatten_cons, List.flatten_cons, List.map_append]; exact repL.append h2 ih
    exact key _
/-- x in a list of a kind -/
theorem O2.inK {α : Type} [DecidableEq α] {k : Nat} {ok : α → Prop} {f : α → D} {x : α} {xs : List α} {Q : D → Mem → Prop} (Kn : Knd k ok f) (hk : k + 1 ≤ 64) (h1 : ok x) (h2 : ∀ y ∈ xs, ok y) (q : Q (.bl (decide (x ∈ xs))) M) : O2 G C (compareOp .In) (f x) (.lst (xs.map f)) M Q := .of fun X H B u v cx g r1 r2 => by
  have s1 := (Kn.shp x h1).shp (k := k) (by omega)
  have s2 := (Knd.lst Kn).shp xs h2 |>.shp (k := k + 1) hk
  have hu : X.A.units + 65 < cLine := by have := cx.room.un; omega
  refine ⟨_, op_inD hu, toP (f x), toPs (xs.map f), by rw [cx.K]; exact rep.dp g.sub s1.ok r1, by rw [cx.K]; exact rep.dp g.sub s2.ok r2, s1.shaped, s2.shaped, ?_⟩
  have e : ((toPs (xs.map f)).any fun z => PyData.eqv z (toP (f x))) = decide (x ∈ xs) := by
    rw [toPs_eq, List.map_map, List.any_map]
    rw [Bool.eq_iff_iff, List.any_eq_true, decide_eq_true_iff]
    constructor
    · rintro ⟨y, hy, e⟩
      have e : dEq (f y) (f x) = true := e
      rw [Kn.eq] at e
      rw [← of_decide_eq_true e]; exact hy
    · intro hx
      exact ⟨x, hx, by show dEq (f x) (f x) = true; rw [Kn.eq]; exact decide_eq_true rfl⟩
  rw [e]
  exact VP.here g (rep_bl.mpr rfl) q
theorem O2.ninK {α : Type} [DecidableEq α] {k : Nat} {ok : α → Prop} {f : α → D} {x : α} {xs : List α} {Q : D → Mem → Prop} (Kn : Knd k ok f) (hk : k + 1 ≤ 64) (h1 : ok x) (h2 : ∀ y ∈ xs, ok y) (q : Q (.bl (!decide (x ∈ xs))) M) : O2 G C (compareOp .NotIn) (f x) (.lst (xs.map f)) M Q := .of fun X H B u v cx g r1 r2 => by
  have s1 := (Kn.shp x h1).shp (k := k) (by omega)
  have s2 := (Knd.lst Kn).shp xs h2 |>.shp (k := k + 1) hk
  have hu : X.A.units + 65 < cLine := by have := cx.room.un; omega
  refine ⟨_, op_notInD hu, toP (f x), toPs (xs.map f), by rw [cx.K]; exact rep.dp g.sub s1.ok r1, by rw [cx.K]; exact rep.dp g.sub s2.ok r2, s1.shaped, s2.shaped, ?_⟩
  have e : ((toPs (xs.map f)).any fun z => PyData.eqv z (toP (f x))) = decide (x ∈ xs) := by
    rw [toPs_eq, List.map_map, List.any_map]
    rw [Bool.eq_iff_iff, List.any_eq_true, decide_eq_true_iff]
    constructor
    · rintro ⟨y, hy, e⟩
      have e : dEq (f y) (f x) = true := e
      rw [Kn.eq] at e
      rw [← of_decide_eq_true e]; exact hy
    · intro hx
      exact ⟨x, hx, by show dEq (f x) (f x) = true; rw [Kn.eq]; exact decide_eq_true rfl⟩
  rw [e]
  exact VP.here g (rep_bl.mpr rfl) q
end
end Dl
/-! Dl24: an own list that nobody writes to from here on. -/
namespace Dl
open PySem PySem.Spec PyProof.Rows L2
theorem mdel_ne {M : Mem} {p b : Addr} (h : b ≠ p) : mdel M p b = M b := by unfold mdel; rw [if_neg h]
theorem mdel_same {M : Mem} {p : Addr} : mdel M p p = none := by unfold mdel; rw [if_pos rfl]
theorem mset_mdel {M : Mem} {p : Addr} {m : MO} (h : M p = some m) : mset (mdel M p) p m = M := by
  funext b
  by_cases e : b = p
  · rw [e, mset_same, h]
  · rw [mset_ne e, mdel_ne e]
theorem SrcM.del {p q : Addr} {M : Mem} (h : SrcM p M) (e : q ≠ p) : SrcM p (mdel M q) := by
  obtain ⟨b, s, h1, h2⟩ := h
  exact ⟨b, s, by rw [mdel_ne (Ne.symm e)]; exact h1, h2⟩
theorem Kp.del {ps : List Addr} {M M' : Mem} {p : Addr} (k : Kp ps M M') (h : M p = none) : Kp ps M (mdel M' p) := fun q m hq e => by
  rw [mdel_ne (fun z => by rw [z, h] at e; cases e)]
  exact k q m hq e
theorem W.frz2 {G : Glob} {C : Sc} {Γ Γ' : Gm} {M : Mem} {P : DE} {st : List Stmt} {x : Str} {p : Addr} {ds : List D} (u : Upd Γ x (.adr p) Γ') (hm : M p = some (.lst ds)) (h : ∀ Γ2, Upd Γ x (.lst ds) Γ2 → W G C st Γ2 (mdel M p) P) : W G C st Γ' M P := by
  rw [← mset_mdel hm]
  exact W.frz u mdel_same h
end Dl
/-! Dl25: three stores by way of a tuple. -/
namespace Dl
open PySem PySem.Spec PyProof.Rows L2
section
variable {env : Env} {sc : Scope} {a b c : Expr}
theorem swap3N {x y z : Str} {px py pz pt pt2 : Pos} {kt k2} (he : env.scope = sc) (hx : (sc.names.lookup x == some .local && sc.names.lookup y == some .local && sc.names.lookup z == some .local) = false) :
    swappedStores [.Tuple [.Name x px, .Name y py, .Name z pz] kt pt] (.Tuple [a, b, c] k2 pt2) env = pure none := by
  have kx : env.kindOf x = sc.names.lookup x := by unfold Env.kindOf; rw [he]
  have ky : env.kindOf y = sc.names.lookup y := by unfold Env.kindOf; rw [he]
  have kz : env.kindOf z = sc.names.lookup z := by unfold Env.kindOf; rw [he]
  have h : (sc.names.lookup x == some .local) = false ∨ (sc.names.lookup y == some .local) = false ∨ (sc.names.lookup z == some .local) = false := by
    rcases Bool.and_eq_false_iff.mp hx with h | h
    · rcases Bool.and_eq_false_iff.mp h with h | h
      · exact .inl h
      · exact .inr (.inl h)
    · exact .inr (.inr h)
  unfold swappedStores
  split
  · rename_i ts vs e
    simp only [Option.some.injEq, Prod.mk.injEq] at e
    obtain ⟨rfl, rfl⟩ := e
    have fm : ∀ (f : Expr → Option Str) (l : List Expr) (e : Expr), e ∈ l → f e = none → (l.filterMap f).length ≠ l.length := by
      intro f l e he hf
      have lt : ∀ l : List Expr, (l.filterMap f).length ≤ l.length := fun l => List.length_filterMap_le f l
      induction l with
      | nil => cases he
      | cons a l ih =>
        rw [List.filterMap_cons]
        rcases List.mem_cons.mp he with rfl | he
        · rw [hf]
          have := lt l
          simp only [List.length_cons]
          omega
        · have := ih he
          have := lt l
          cases f a <;> simp only [List.length_cons] <;> omega
    have key : (List.filterMap (fun (w : Expr) => match w with
          | .Name id pos => if (env.kindOf id == some NameKind.local && pos.line == (Option.map (fun (w : Expr) => w.pos.line) [Expr.Name x px, Expr.Name y py, Expr.Name z pz].head?).getD 0) = true then some id else none
          | _ => none) [Expr.Name x px, Expr.Name y py, Expr.Name z pz]).length ≠ [Expr.Name x px, Expr.Name y py, Expr.Name z pz].length := by
      rcases h with h | h | h
      · exact fm _ _ (.Name x px) (by simp) (by simp only [kx, h, Bool.false_and, Bool.false_eq_true, if_false])
      · exact fm _ _ (.Name y py) (by simp) (by simp only [ky, h, Bool.false_and, Bool.false_eq_true, if_false])
      · exact fm _ _ (.Name z pz) (by simp) (by simp only [kz, h, Bool.false_and, Bool.false_eq_true, if_false])
    split
    · rfl
    · split
      · rfl
      · dsimp only
        rw [if_pos]
        rw [Bool.or_eq_true]
        left
        rw [bne_iff_ne]
        exact key
  · rename_i h2
    exact (h2 _ _ rfl).elim
end
section
variable {G : Glob} {C : Sc} {Γ : Gm} {M : Mem} {P : DE} {rest : List Stmt}
theorem W.par3N {x y z : Str} {px py pz pt pt2 pos : Pos} {kt k2} {a b c : Expr} (h : E G C a Γ M P.ex fun d1 M1 => E G C b Γ M1 P.ex fun d2 M2 => E G C c Γ M2 P.ex fun d3 M3 => ∃ Γ1 Γ2 Γ3, Upd Γ x d1 Γ1 ∧ Upd Γ1 y d2 Γ2 ∧ Upd Γ2 z d3 Γ3 ∧ W G C rest Γ3 M3 P)
    (hb : (C.sc.names.lookup x == some .local && C.sc.names.lookup y == some .local && C.sc.names.lookup z == some .local) = false := by decide +kernel) (hlx : stoB C x = true := by decide +kernel) (hly : stoB C y = true := by decide +kernel) (hlz : stoB C z = true := by decide +kernel)
    (hs : ∀ env, starEach [a, b, c] env = (false, eval a env) :: starEach [b, c] env := by intro _; rfl) (hs2 : ∀ env, starEach [b, c] env = (false, eval b env) :: starEach [c] env := by intro _; rfl) (hs3 : ∀ env, starEach [c] env = (false, eval c env) :: starEach [] env := by intro _; rfl) :
    W G C (.Assign [.Tuple [.Name x px, .Name y py, .Name z pz] kt pt] (.Tuple [a, b, c] k2 pt2) pos :: rest) Γ M P :=
  W.asg (E.tup (A.cons (h.mono fun d1 M1 q => A.cons (q.mono fun d2 M2 q => A.cons (q.mono fun d3 M3 ⟨Γ1, Γ2, Γ3, u1, u2, u3, w⟩ => A.nil ⟨by simp, Tg.tup (Tgs.cons rfl u1 (Tgs.cons rfl u2 (Tgs.cons rfl u3 (Tgs.nil w) hlz) hly) hlx)⟩) hs3) hs2) hs)) (fun _ _ => rfl) fun env he => swap3N he hb
end
end Dl
/-! Dl26: own lists in comparisons, in; len and sorted of an own dict. -/
namespace Dl
open PySem PySem.Spec PyProof.Rows L2
section
variable {G : Glob} {C : Sc} {M : Mem}
/-- d is this value, or an own list of it -/
def AsL (M : Mem) (d e : D) : Prop := d = e ∨ ∃ p ds, d = .adr p ∧ M p = some (.lst ds) ∧ e = .lst ds
theorem AsL.dp {d e : D} {v : V} {X : Cx} {H B : Hp} (a : AsL M d e) (cx : Ctx G C X) (g : Hd G.K H B M) (s : Shp e) (r : rep G.K B d v) : Dp X.K H v (toP e) := by
  rw [cx.K]
  rcases a with rfl | ⟨p, ds, rfl, hp, rfl⟩
  · exact rep.dp g.sub s.ok r
  · rw [rep_adr.mp r]
    obtain ⟨_, o, e, vs, rfl, q⟩ := g.own p _ hp
    have := s.ok
    unfold shp at this
    unfold toP
    exact .lst (SqL.of e) (repL.dps g.sub this q)
theorem AsL.val {d : D} : AsL M d d := .inl rfl
theorem AsL.own {p : Addr} {ds : List D} (h : M p = some (.lst ds)) : AsL M (.adr p) (.lst ds) := .inr ⟨p, ds, rfl, h, rfl⟩
theorem O2.eqKM {α : Type} [DecidableEq α] {k : Nat} {ok : α → Prop} {f : α → D} {a b : α} {d1 d2 : D} {Q : D → Mem → Prop} (K : Knd k ok f) (a1 : AsL M d1 (f a)) (a2 : AsL M d2 (f b)) (hk : k ≤ 64) (h1 : ok a) (h2 : ok b) (q : Q (.bl (decide (a = b))) M) : O2 G C (compareOp .Eq) d1 d2 M Q := O2.eqM a1 a2 ((K.shp a h1).shp hk) ((K.shp b h2).shp hk) (by rw [K.eq]; exact q)
theorem O2.neKM {α : Type} [DecidableEq α] {k : Nat} {ok : α → Prop} {f : α → D} {a b : α} {d1 d2 : D} {Q : D → Mem → Prop} (K : Knd k ok f) (a1 : AsL M d1 (f a)) (a2 : AsL M d2 (f b)) (hk : k ≤ 64) (h1 : ok a) (h2 : ok b) (q : Q (.bl (!decide (a = b))) M) : O2 G C (compareOp .NotEq) d1 d2 M Q := O2.neM a1 a2 ((K.shp a h1).shp hk) ((K.shp b h2).shp hk) (by rw [K.eq]; exact q)
theorem any_eqv {α : Type} [DecidableEq α] {k : Nat} {ok : α → Prop} {f : α → D} (Kn : Knd k ok f) (x : α) (xs : List α) : ((toPs (xs.map f)).any fun z => PyData.eqv z (toP (f x))) = decide (x ∈ xs) := by
  rw [toPs_eq, List.map_map, List.any_map]
  rw [Bool.eq_iff_iff, List.any_eq_true, decide_eq_true_iff]
  constructor
  · rintro ⟨y, hy, e⟩
    have e : dEq (f y) (f x) = true := e
    rw [Kn.eq] at e
    rw [← of_decide_eq_true e]; exact hy
  · intro hx
    exact ⟨x, hx, by show dEq (f x) (f x) = true; rw [Kn.eq]; exact decide_eq_true rfl⟩
theorem O2.inKM {α : Type} [DecidableEq α] {k : Nat} {ok : α → Prop} {f : α → D} {x : α} {xs : List α} {p : Addr} {Q : D → Mem → Prop} (hm : M p = some (.lst (xs.map f))) (Kn : Knd k ok f) (hk : k + 1 ≤ 64) (h1 : ok x) (h2 : ∀ y ∈ xs, ok y) (q : Q (.bl (decide (x ∈ xs))) M) : O2 G C (compareOp .In) (f x) (.adr p) M Q := .of fun X H B u v cx g r1 r2 => by
  have s1 := (Kn.shp x h1).shp (k := k) (by omega)
  have s2 := (Knd.lst Kn).shp xs h2 |>.shp (k := k + 1) hk
  have hu : X.A.units + 65 < cLine := by have := cx.room.un; omega
  refine ⟨_, op_inD hu, toP (f x), toPs (xs.map f), by rw [cx.K]; exact rep.dp g.sub s1.ok r1, (AsL.own hm).dp cx g s2 r2, s1.shaped, s2.shaped, ?_⟩
  rw [any_eqv Kn]
  exact VP.here g (rep_bl.mpr rfl) q
theorem O2.ninKM {α : Type} [DecidableEq α] {k : Nat} {ok : α → Prop} {f : α → D} {x : α} {xs : List α} {p : Addr} {Q : D → Mem → Prop} (hm : M p = some (.lst (xs.map f))) (Kn : Knd k ok f) (hk : k + 1 ≤ 64) (h1 : ok x) (h2 : ∀ y ∈ xs, ok y) (q : Q (.bl (!decide (x ∈ xs))) M) : O2 G C (compareOp .NotIn) (f x) (.adr p) M Q := .of fun X H B u v cx g r1 r2 => by
  have s1 := (Kn.shp x h1).shp (k := k) (by omega)
  have s2 := (Knd.lst Kn).shp xs h2 |>.shp (k := k + 1) hk
  have hu : X.A.units + 65 < cLine := by have := cx.room.un; omega
  refine ⟨_, op_notInD hu, toP (f x), toPs (xs.map f), by rw [cx.K]; exact rep.dp g.sub s1.ok r1, (AsL.own hm).dp cx g s2 r2, s1.shaped, s2.shaped, ?_⟩
  rw [any_eqv Kn]
  exact VP.here g (rep_bl.mpr rfl) q
theorem rKV.fst {κ : Type} {K : PySem.W.Frag} {B : Hp} : ∀ {kvs : List (κ × D)} {vs : List (κ × V)}, rKV K B kvs vs → vs.map (·.1) = kvs.map (·.1)
  | [], vs, h => by
    have h : vs = [] := h
    subst h
    rfl
  | e :: kvs, _, ⟨v, r, e1, e2, e3⟩ => by
    subst e1
    simp [rKV.fst e3]
theorem F1.lenDK {κ τ : Type} {kf : κ → Key} {vf : τ → D} {xs : List (κ × τ)} {p : Addr} {Q : D → Mem → Prop} (h : M p = some (moK kf vf xs)) (q : Q (.int (xs.length : Int)) M) : F1 G C (.builtin "len") [.adr p] M Q := .of fun X H B vs cx g r => by
  obtain ⟨v, rfl, rv⟩ := r.one
  obtain ⟨_, o, ho, ws, rfl, rk⟩ := g.own p _ h
  have hl := congrArg List.length (rKV.fst rk)
  simp only [List.length_map] at hl
  exact ⟨_, call_lenD, p, ws, by rw [rep_adr.mp rv], ho, VP.here g (rep_int.mpr (by rw [hl])) q⟩
theorem F1.sortDI {τ : Type} {vf : τ → D} {xs : List (Int × τ)} {p : Addr} {Q : D → Mem → Prop} (h : M p = some (moK kI vf xs)) (hl : xs.length < 64) (q : Q (.lst ((sortI (xs.map (·.1))).map D.int)) M) : F1 G C (.builtin "sorted") [.adr p] M Q := .of fun X H B vs cx g r => by
  obtain ⟨v, rfl, rv⟩ := r.one
  obtain ⟨_, o, ho, ws, rfl, rk⟩ := g.own p _ h
  have hk := rKV.fst rk
  rw [List.map_map] at hk
  refine ⟨_, call_sortedDI cx.calm, p, ws, xs.map (·.1), by rw [rep_adr.mp rv], .inl ho, by rw [hk, List.map_map]; rfl, by rw [List.length_map]; exact hl, fun ys a h1 h2 ha => ?_⟩
  rw [← perm_sorted_eq (h1.trans (sortI_perm (xs.map (·.1))).symm) h2 (sortI_sorted _)] at q
  exact VP.lst g (repL.ofMap (fun i => rep_int.mpr rfl) ys) ha q
end
end Dl
/-! Dl27: a comprehension stored under a name that a scope within it keeps; list(range(a, b, c)). -/
namespace Dl
open PySem PySem.Spec PyProof.Rows L2
theorem sw_cell {C : Sc} {x : Str} {px pos : Pos} {line : Nat} {elt : Expr} {gens : List Comprehension} {scope : Scope} (hl : C.sc.names.lookup x = some .cell) :
    ∀ env : Env, env.scope = C.sc → swapsWithSole [.Name x px] (.ListComp elt gens scope pos) line env = pure false := by
  intro env he
  have hk : (env.kindOf x == some .local) = false := by
    unfold Env.kindOf
    rw [he, hl]
    rfl
  show (pure (env.blockKind == .function && env.kindOf x == some .local && px.line == pos.line && !(scope.names.any fun (n, k) => n == x && (k == .local || k == .cell))) : Sem Bool) = pure false
  rw [hk]
  simp
theorem dec_irr {p : Prop} (i j : Decidable p) : @decide p i = @decide p j := by cases i <;> cases j <;> first | rfl | contradiction
end Dl
/-! Dl28: None or a pair. -/
namespace Dl
open PySem PySem.Spec PyProof.Rows L2
theorem dEq_non_tup (ds : List D) : dEq .non (.tup ds) = false := by unfold dEq toP; rfl
theorem dEq_tup_non (ds : List D) : dEq (.tup ds) .non = false := by unfold dEq toP; rfl
theorem dEq_non : dEq .non .non = true := by unfold dEq toP; rfl
/-- f writes tuples -/
theorem Knd.opt {α : Type} [DecidableEq α] {k : Nat} {ok : α → Prop} {f : α → D} (h : Knd k ok f) (ht : ∀ a, ∃ ds, f a = .tup ds) : Knd k (fun o : Option α => ∀ a, o = some a → ok a) (optD f) := ⟨fun a b => by
  cases a with
  | none =>
    cases b with
    | none => exact dEq_non
    | some b => obtain ⟨ds, e⟩ := ht b; show dEq .non (f b) = _; rw [e, dEq_non_tup]; rfl
  | some a =>
    cases b with
    | none => obtain ⟨ds, e⟩ := ht a; show dEq (f a) .non = _; rw [e, dEq_tup_non]; rfl
    | some b => show dEq (f a) (f b) = _; rw [h.eq]; simp, fun a ha => by
  cases a with
  | none => exact ShpN.non.mono (Nat.zero_le _)
  | some a => exact h.shp a (ha a rfl)⟩
end Dl
/-! Dl29: enumerate of a list; zip of a text and a list. -/
namespace Dl
open PySem PySem.Spec PyProof.Rows L2
/-- place, item -/
def enumD (ds : List D) : List D := ds.zipIdx.map fun p => .tup [.int (p.2 : Int), p.1]
theorem enumD_get {ds : List D} {i : Nat} {d : D} (h : (enumD ds)[i]? = some d) : ∃ e, ds[i]? = some e ∧ d = .tup [.int (i : Int), e] := by
  unfold enumD at h
  rw [List.getElem?_map, List.getElem?_zipIdx] at h
  cases e : ds[i]? with
  | none => rw [e] at h; cases h
  | some c =>
    rw [e] at h
    refine ⟨c, rfl, ?_⟩
    have := Option.some.inj h
    rw [← this]
    simp
theorem enumD_length (ds : List D) : (enumD ds).length = ds.length := by simp [enumD]
theorem enumD_map {α : Type} (f : α → D) (xs : List α) : enumD (xs.map f) = (enumI xs).map fun p => .tup [.int p.1, f p.2] := by
  unfold enumD enumI
  rw [List.zipIdx_map, List.map_map, List.map_map]
  rfl
section
variable {G : Glob} {C : Sc} {Γ : Gm} {M : Mem} {Ex : XPost}
theorem I1.enumL {e : Expr} {p pos tpos : Pos} {elts : List Expr} {kk : Nat} {Q : List D → (Mem → Prop) → Mem → Prop} (hm : G.mg "enumerate" = none) (h : E G C e Γ M Ex fun d M1 => ∃ ds, d = .lst ds ∧ Q (enumD ds) (fun _ => True) M1) (hg : glB C.sc "enumerate" = true := by decide +kernel)
    (hs : ∀ env, starEach [e] env = [(false, eval e env)] := by intro _; rfl) : I1 G C (.Tuple elts kk tpos) (.Call (.Name "enumerate" p) [e] [] pos) Γ M Ex Q := by
  constructor
  intro X σ H B s pins sh kt I
  have hA : sA G.T X [e] σ H (fun vs H1 => ∃ ds B1 M1 a us, vs = [.ref a] ∧ SqL G.K B1 a us ∧ repL G.K B1 ds us ∧ Hd G.K H1 B1 M1 ∧ Stp B M H B1 M1 H1 ∧ Q (enumD ds) (fun _ => True) M1) := by
    refine s_cons (by rw [hs]; rfl) ?_
    refine (h X σ H B s).mono fun v H1 ⟨d, B1, M1, g1, t1, r1, ds, e, q1⟩ => ?_
    subst e
    obtain ⟨a, us, rfl, e1, e2⟩ := rep_lst.mp r1
    exact sA_of pa_nil ⟨ds, B1, M1, a, us, rfl, e1, e2, g1, t1, q1⟩
  refine Call_ (ld_blt I (gl_of s.cx hg) (by rw [s.cx.mg]; exact hm) boot_enumerate (PyProof.Rows.callWith_type1 (thn (hA pos pins sh kt I) fun us s1 h1 => ?_) (hs _) rfl))
  obtain ⟨vs, H1, J, r1, ds, B1, M1, a, ws, ev, sq, rl, g1, t1, q1⟩ := h1
  subst ev
  cases r1 with
  | cons r rr =>
    cases rr
    cases r
    have hq : SqL X.K H1 a ws := by rw [s.cx.K]; exact g1.sub.seq sq
    obtain ⟨its, rv, p', hz⟩ := J.list hq
    refine call_enumerate_list p'.isList fun h' he hit hsz hk => wpAny_pyIter_enum he ?_
    have J2 : Inv X pins σ H1 { s1 with heap := h' } := J.kept (t' := s1.toks) hk
    refine ⟨s1.heap.objs.size + 1, [s1.heap.objs.size + 1, s1.heap.objs.size], _, _, H1, rfl, J2, turn_enum a (s1.heap.objs.size + 1) s1.heap.objs.size, ⟨⟨.none, he⟩, hit, Nat.succ_ne_self _⟩, fun b hb => ?_, enumD ds, (fun _ => True), B1, M1, g1, t1, ?_, q1⟩
    · have e' : b = s1.heap.objs.size + 1 ∨ b = s1.heap.objs.size := by simpa using hb
      have hle : s1.heap.objs.size ≤ b := by
        rcases e' with z | z
        · rw [z]; exact Nat.le_add_right _ _
        · rw [z]; exact Nat.le_refl _
      exact J.fpOk hle (J.hok.fresh hle)
    · rw [s.cx.K]
      intro H2 B2 M2 e g2 _
      have sq2 : SqL G.K H2 a ws := g2.sub.seq (e.seq sq)
      refine ⟨fun i d hd => ?_, ws, sq2, by rw [enumD_length, rl.length]; exact Nat.le_refl _⟩
      obtain ⟨x, hx, rfl⟩ := enumD_get hd
      obtain ⟨y, e1, e2⟩ := rl.get hx
      refine ⟨⟨ws, y, sq2, e1⟩, fun v H' ⟨T, z, ev, hT, eH, hy⟩ => ?_⟩
      have : z = y := Option.some.inj ((hy ws sq2).symm.trans e1)
      subst this
      subst ev eH
      have sm := (Stp.newB g2 (o := .tup [.int (i : Nat), z]) hT).same
      exact ⟨upd B2 T (.tup [.int (i : Nat), z]), g2.newB _ hT, Stp.newB g2 hT, rep_tup.mpr ⟨T, [.int (i : Nat), z], rfl, upd_same, repL.cons (rep_int.mpr rfl) (repL.cons ((e2.mono e).mono sm) repL.nil)⟩⟩
/-- sign, item -/
def zipSD (a : List Nat) (b : List D) : List D := (a.zip b).map fun p => .tup [.str [p.1], p.2]
theorem zipSD_get {a : List Nat} {b : List D} {i : Nat} {d : D} (h : (zipSD a b)[i]? = some d) : ∃ x y, a[i]? = some x ∧ b[i]? = some y ∧ d = .tup [.str [x], y] := by
  unfold zipSD at h
  rw [List.getElem?_map] at h
  cases e : (a.zip b)[i]? with
  | none => rw [e] at h; cases h
  | some p =>
    rw [e] at h
    obtain ⟨x, y⟩ := p
    rw [List.getElem?_zip_eq_some] at e
    exact ⟨x, y, e.1, e.2, (Option.some.inj h).symm⟩
theorem zipSD_length (a : List Nat) (b : List D) : (zipSD a b).length = min a.length b.length := by simp [zipSD]
theorem zipSD_map {α : Type} (f : α → D) (a : List Nat) (xs : List α) : zipSD a (xs.map f) = (a.zip xs).map fun p => .tup [.str [p.1], f p.2] := by
  unfold zipSD
  rw [List.zip_map_right, List.map_map]
  rfl
theorem I1.zipSL {e e2 : Expr} {p pos tpos : Pos} {elts : List Expr} {kk : Nat} {Q : List D → (Mem → Prop) → Mem → Prop} (hm : G.mg "zip" = none) (h : A G C [e, e2] Γ M Ex fun ds M1 => ∃ a b, ds = [.str a, .lst b] ∧ Q (zipSD a b) (fun _ => True) M1) (hg : glB C.sc "zip" = true := by decide +kernel)
    (hs : ∀ env, starEach [e, e2] env = [(false, eval e env), (false, eval e2 env)] := by intro _; rfl) (hs2 : ∀ env, starEach [e2] env = [(false, eval e2 env)] := by intro _; rfl) : I1 G C (.Tuple elts kk tpos) (.Call (.Name "zip" p) [e, e2] [] pos) Γ M Ex Q := by
  constructor
  intro X σ H B s pins sh kt I
  have hA := h X σ H B s
  refine Call_ (ld_blt I (gl_of s.cx hg) (by rw [s.cx.mg]; exact hm) boot_zip (PyProof.Rows.callWith_type1 (thn (hA pos pins sh kt I) fun us s1 h1 => ?_) (by rw [hs, hs2]) (by rw [hs2]; rfl)))
  obtain ⟨vs, H1, J, r1, ds, B1, M1, g1, t1, rd, l1, b, ed, q1⟩ := h1
  subst ed
  obtain ⟨v1, v2, rfl, ra, rb⟩ := rd.two
  have ra := rep_str.mp ra
  subst ra
  obtain ⟨a, ws, rfl, sq, rl⟩ := rep_lst.mp rb
  obtain ⟨u1, u2, rfl, r1, r2⟩ := vals2 r1
  obtain ⟨tk1, rfl⟩ := r1
  cases r2
  have hq : SqL X.K H1 a ws := by rw [s.cx.K]; exact g1.sub.seq sq
  obtain ⟨its, rv, p', hz'⟩ := J.list hq
  refine zip_begins2 (begins_text _ tk1) (begins_list a its.toArray) trivial p'.isList fun h' hz hTI hTO ho1 ho2 hsz hk => ?_
  generalize hN : s1.heap.objs.size = N at *
  have J2 : Inv X pins σ H1 { s1 with heap := h' } := J.kept (t' := s1.toks) hk
  have st1 : h'.IsStrIter N (strIterType ⟨l1.toArray⟩) ⟨l1.toArray⟩ tk1 0 := ⟨_, ho1, rfl, rfl⟩
  have st2 : h'.IsListIter (N + 1) a 0 := ⟨_, ho2, rfl, rfl⟩
  have sf : ∀ (A : Around) (s0 : Shared) (Q : Value → Shared → Prop) (E : Value → Shared → Prop), IsZip s0.heap (N + 4) (N + 2) (N + 3) .none → Q (.ref (N + 4)) s0 → wpAny (model X.prog X.w) A (pyIter (.ref (N + 4))) Q E s0 := fun A s0 Q E hz hq => wpAny_pyIter_zip hz hq
  refine sf X.A _ _ _ hz ?_
  refine ⟨N + 4, [N + 4, N + 2, N + 3, N, N + 1], fun i h => IsZip h (N + 4) (N + 2) (N + 3) .none ∧ IsTupOf2 h (N + 2) (.ref N) (.ref (N + 1)) ∧ (∃ a1 a2, IsTupOf2 h (N + 3) a1 a2) ∧ h.IsStrIter N (strIterType ⟨l1.toArray⟩) ⟨l1.toArray⟩ tk1 i ∧ h.IsListIter (N + 1) a i,
    ItP (min l1.length ws.length) (fun H => SqL X.K H a ws) (fun i _ x y => ∃ c, l1[i]? = some c ∧ x = .str ⟨#[c]⟩ ∧ ws[i]? = some y), H1, rfl, J2, ?_, ⟨hz, hTI, ⟨_, _, hTO⟩, st1, st2⟩, fun b hb => ?_, zipSD l1 b, (fun _ => True), B1, M1, g1, t1, ?_, q1⟩
  · refine turn_pairs (wr := [N + 4, N + 3, N, N + 1]) (by simp) (by simp) (fun i h ⟨a1, a2, a3, a4, a5⟩ => ?_) (fun i h h' st k => ?_) (fun A i s0 Q E st hq => sf A s0 Q E st.1 hq) ?_
    · obtain ⟨o, ho, hc, hdd⟩ := a5
      exact zip_obj a1 a2 a3 a4 ho fun v q => by rw [hdd] at q; cases q
    · obtain ⟨a1, a2, ⟨b1, b2, a3⟩, ⟨o4, a4, c4⟩, a5⟩ := st
      exact ⟨k _ (by simp) _ a1, k _ (by simp) _ a2, ⟨b1, b2, k _ (by simp) _ a3⟩, ⟨o4, k _ (by simp) _ a4, c4⟩, a5.at fun o q => k _ (by simp) o q⟩
    · intro Y hP hw hK hc pins' s' σ' H' I' hf hsrc
      rw [← hK] at hsrc
      obtain ⟨its2, rv2, p2, hz2⟩ := I'.list hsrc
      have D1 := Draws.text (prog := X.prog) (w := X.w) (A := Y.A.in1) (I'.ok.hd hc) N ⟨l1.toArray⟩ tk1
      have haN : a < N := by
        obtain ⟨o', n', e', _⟩ := p'
        have := Heap.lt_size e'
        rw [hN] at this
        exact this
      have D2 := Draws.list (prog := X.prog) (w := X.w) (A := Y.A.in1) (I'.ok.hd hc) (N + 1) a (Nat.ne_of_lt (Nat.lt_succ_of_lt haN)) its2.toArray
      have W := GoesN.zip2 (elts := elts) (x1 := kk) (pos := tpos) (zip_sep2 (N := N) (fp1 := []) (fp2 := [a]) (by simp) (by simpa using haN)) D1 D2
      have ez : (⟨l1.toArray⟩ : Str).cps.size = l1.length := by simp
      have ez2 : its2.toArray.size = ws.length := by rw [List.size_toArray, rv2.length]
      rw [ez, ez2] at W
      refine ⟨_, _, _, W, fun i st => ⟨st.1, st.2.1, st.2.2.1, st.2.2.2.1, st.2.2.2.2, p2.isList⟩, fun i h' st => ⟨st.1, st.2.1, st.2.2.1, st.2.2.2.1, st.2.2.2.2.1⟩, fun i v h' hi ⟨T, x, y, ev, hT, ⟨c, u, hc', ex⟩, hy, ht⟩ => ?_⟩
      have hwi : i < ws.length := by omega
      obtain ⟨u2, hu2, ru2⟩ := rv2.get (List.getElem?_eq_getElem hwi)
      have : y = u2 := by
        rw [List.getElem?_toArray] at hy
        exact Option.some.inj (hy.symm.trans hu2)
      subst this
      refine ⟨T, _, _, .str ⟨#[c]⟩, ws[i], ev, hT, ht, ⟨u, ex⟩, ru2, c, ?_, rfl, List.getElem?_eq_getElem hwi⟩
      have h2 : l1.toArray[i]? = some c := hc'
      rwa [List.getElem?_toArray] at h2
  · have hle : N ≤ b := by
      have : b = N + 4 ∨ b = N + 2 ∨ b = N + 3 ∨ b = N ∨ b = N + 1 := by simpa using hb
      rcases this with r | r | r | r | r <;> rw [r] <;> first | exact Nat.le_refl _ | exact Nat.le_add_right _ _
    exact J.fpOk (by rw [hN]; exact hle) (J.hok.fresh (by rw [hN]; exact hle))
  · refine walks_pairs (by rw [zipSD_length, rl.length]) (fun H2 B2 M2 e g _ => by rw [s.cx.K]; exact g.sub.seq (e.seq sq)) fun i d H2 B2 M2 x y e g o hd ⟨c, hc, ex, ey⟩ => ?_
    obtain ⟨x', y', hx', hy', rfl⟩ := zipSD_get hd
    rw [hc] at hx'
    cases hx'
    subst ex
    obtain ⟨z, e1, e2⟩ := rl.get hy'
    rw [ey] at e1
    cases e1
    exact ⟨_, _, rfl, rep_str.mpr rfl, e2.mono e⟩
end
end Dl
/-! Dl30: text.index(sign) where the sign is in the text. -/
namespace Dl
open PySem PySem.Spec PyProof.Rows L2
theorem subAt_one {l : List Nat} {c i : Nat} : Builtin.Str.subAt ⟨l.toArray⟩ ⟨#[c]⟩ i = decide (l[i]? = some c) := by
  unfold Builtin.Str.subAt
  show ((l.toArray.extract i (i + 1)) == #[c]) = _
  rw [Bool.eq_iff_iff, beq_iff_eq, decide_eq_true_iff]
  have e : l.toArray.extract i (i + 1) = ((l.drop i).take 1).toArray := by simp
  rw [e]
  have e2 : (l.drop i).take 1 = l[i]?.toList := by
    rw [List.take_one, List.head?_drop]
  rw [e2]
  constructor
  · intro h
    have h : l[i]?.toList = [c] := by simpa using congrArg Array.toList h
    cases hx : l[i]? with
    | none => rw [hx] at h; cases h
    | some x => rw [hx] at h; simp at h; rw [h]
  · intro h; rw [h]; rfl
theorem idxOf_first {c : Nat} : ∀ {l : List Nat} {i : Nat}, l[i]? = some c → (∀ k, k < i → l[k]? ≠ some c) → l.idxOf c = i := by
  intro l
  induction l with
  | nil => intro i h; simp at h
  | cons x l ih =>
    intro i h hk
    by_cases hx : x = c
    · subst hx
      cases i with
      | zero => simp
      | succ i => exact absurd rfl (hk 0 (Nat.succ_pos _))
    · cases i with
      | zero => simp at h; exact absurd h hx
      | succ i =>
        rw [List.idxOf_cons]
        have : (x == c) = false := by simpa using hx
        rw [this]
        show l.idxOf c + 1 = i + 1
        rw [ih (by simpa using h) fun k hk2 => by simpa using hk (k + 1) (by omega)]
theorem occ_sign {l : List Nat} {c : Nat} (h : c ∈ l) : ∃ r, Builtin.Str.occurrences ⟨l.toArray⟩ ⟨#[c]⟩ 0 (⟨l.toArray⟩ : Str).length 1 = l.idxOf c :: r := by
  have hat : ∀ i, PySem.StrLaws.At ⟨l.toArray⟩ ⟨#[c]⟩ (⟨l.toArray⟩ : Str).length i ↔ l[i]? = some c := by
    intro i
    unfold PySem.StrLaws.At
    rw [subAt_one, decide_eq_true_iff]
    constructor
    · exact fun z => z.2
    · intro z
      refine ⟨?_, z⟩
      have := (List.getElem?_eq_some_iff.mp z).1

      have e : (⟨l.toArray⟩ : Str).length = l.length := by show l.toArray.size = _; simp
      rw [e]
      show i + 1 ≤ l.length
      exact this
  rcases PySem.StrLaws.occ_head ⟨l.toArray⟩ ⟨#[c]⟩ 1 (Nat.le_refl _) with ⟨_, h0⟩ | ⟨i, r, e, h1, h2⟩
  · obtain ⟨i, hi⟩ := List.mem_iff_getElem?.mp h
    exact absurd ((hat i).mpr hi) (h0 i)
  · have := idxOf_first ((hat i).mp h1) fun k hk z => h2 k hk ((hat k).mpr z)
    exact ⟨r, by rw [e, this]⟩
section
variable {G : Glob} {C : Sc} {Γ : Gm} {M : Mem} {Ex : XPost}
theorem Mt.index {l : List Nat} {c : Nat} {Q : D → Mem → Prop} (h : c ∈ l) (q : Q (.int (l.idxOf c : Nat)) M) : Mt G C "str.index" (.str l) [.str [c]] M Q := by
  constructor
  intro X H B x vs cx g r rs
  obtain ⟨v, rfl, rv⟩ := rs.one
  obtain ⟨rest, e⟩ := occ_sign h
  exact sM_of mt_sindex ⟨⟨l.toArray⟩, ⟨#[c]⟩, l.idxOf c, rest, rep_str.mp r, by rw [rep_str.mp rv], e, VP.here g (rep_int.mpr rfl) q⟩
theorem E.index {o e : Expr} {apos cpos : Pos} {Q : D → Mem → Prop} (h : E G C o Γ M Ex fun d M1 => TyD M1 "str" d ∧ E G C e Γ M1 Ex fun d2 M2 => ∃ (l : List Nat) (c : Nat), d = .str l ∧ d2 = .str [c] ∧ c ∈ l ∧ Q (.int (l.idxOf c : Nat)) M2)
    (hbase : ∀ env, attributeBase o "index" env (eval o env) = eval o env := by intro _; rfl)
    (hfew : ∀ env, ((backTo cpos (starEach [e] env)).all (fun x => !x.1) && (backToKw cpos (keywordEach [] env)).all (fun x => x.1.isSome)
      && decide ([e].length + ([] : List Keyword).length + (if ([] : List Keyword).isEmpty then 0 else 1) < 30)) = true := by intro _; rfl)
    (hline : (apos.endLine == cpos.line) = true := by rfl) (hs : ∀ env, starEach [e] env = (false, eval e env) :: starEach [] env := by intro _; rfl) :
    E G C (.Call (.Attribute o "index" apos) [e] [] cpos) Γ M Ex Q :=
  E.mt F.plainAttrs_str F.slot_str_index F.type_str_index (h.mono fun d M1 ⟨ty, h2⟩ => ⟨ty, A.cons (h2.mono fun d2 M2 ⟨l, c, e1, e2, hm, q⟩ => A.nil (by rw [e1, e2]; exact Mt.index hm q)) hs⟩) hbase hfew hline hs
end
end Dl
/-! Dl31: a text's sign, counted from the end. -/
namespace Dl
open PySem PySem.Spec PyProof.Rows L2
section
variable {X : Cx} {σ : L2.St} {H : Hp} {T : Nat} {a b : Expr} {pos : Pos}
theorem s_ixSn {Q : VK} (hs : PlainIxT b) (h : sE T X a σ H fun x H1 => sE T X b σ H1 fun y H2 => ∃ z i c, x = .str z ∧ y = .int i ∧ i < 0 ∧ -(2 ^ 63 : Int) ≤ i ∧ -(z.length : Int) ≤ i ∧ z.cps[(i + z.length).toNat]? = some c ∧ Q (.str ⟨#[c]⟩) H2) : sE T X (.Subscript a b pos) σ H Q := fun pins s k I =>
  Subscript_ (s_two k I h fun v u s2 x y H2 _ I2 rx ry ⟨z, i, c, ex, ey, h0, h63, h1, hc, q⟩ => by
    rw [ex] at rx
    rw [ey] at ry
    obtain ⟨t, rfl⟩ := rx
    obtain ⟨t2, rfl⟩ := ry
    have n1 : decide (i < -(2 ^ 63 : Int)) = false := decide_eq_false (by omega)
    have n2 : decide (i ≥ 2 ^ 63) = false := decide_eq_false (by omega)
    exact tail_any (typeIs_str s2 z t) slot_str_getitem.lookup (getItem_str (c := c) (by rw [n1, n2] <;> rfl) (by rw [PySem.StrLaws.seqIndex_neg h0 h1]; exact hc) ⟨.str ⟨#[c]⟩, H2, I2.tok _, ⟨_, rfl⟩, q⟩) (hs _ _))
end
section
variable {G : Glob} {C : Sc} {Γ : Gm} {M : Mem} {Ex : XPost}
theorem E.ixSn {a b : Expr} {pos : Pos} {Q : D → Mem → Prop} (h : E G C a Γ M Ex fun d M1 => E G C b Γ M1 Ex fun d2 M2 => ∃ l i c, d = .str l ∧ d2 = .int i ∧ i < 0 ∧ l.length ≤ 1000000 ∧ (-(l.length : Int) ≤ i ∧ l[(i + l.length).toNat]? = some c) ∧ Q (.str [c]) M2) (hs : PlainIxT b := by intro _ _; rfl) : E G C (.Subscript a b pos) Γ M Ex Q := by
  constructor
  intro X σ H B s
  refine s_ixSn hs ?_
  refine (h X σ H B s).mono fun v1 H1 ⟨d1, B1, M1, g1, t1, r1, q1⟩ => ?_
  refine (q1 X σ H1 B1 (s.step g1 t1)).mono fun v2 H2 ⟨d2, B2, M2, g2, t2, r2, l, i, c, e1, e2, h0, hl, ⟨hlo, hi⟩, q2⟩ => ?_
  subst e1 e2
  have hlen : ((⟨l.toArray⟩ : Str).length) = l.length := by
    show l.toArray.size = l.length
    simp
  refine ⟨⟨l.toArray⟩, i, c, rep_str.mp r1, rep_int.mp r2, h0, ?_, ?_, ?_, .str [c], B2, M2, g2, t1.trans t2, rep_str.mpr rfl, q2⟩
  · omega
  · rw [hlen]; exact hlo
  · rw [hlen]; simpa using hi
end
/-- the last sign but so many -/
def backI (l : List Nat) (i : Int) : Option Nat := if i < 0 ∧ -(l.length : Int) ≤ i then l[(i + l.length).toNat]? else none
theorem backI_ok {l : List Nat} {i : Int} {c : Nat} (h : backI l i = some c) : i < 0 ∧ (-(l.length : Int) ≤ i ∧ l[(i + l.length).toNat]? = some c) := by
  unfold backI at h
  by_cases hc : i < 0 ∧ -(l.length : Int) ≤ i
  · rw [if_pos hc] at h
    exact ⟨hc.1, hc.2, h⟩
  · rw [if_neg hc] at h
    cases h
end Dl
/-! Dl32: a list comprehension whose items are drawn. -/
namespace Dl
open PySem PySem.Spec PyProof.Rows L2
def nMap {α β : Type} (f : α → Nd β) : List α → Nd (List β)
  | [] => fun Q => Q []
  | x :: xs => fun Q => f x fun y => nMap f xs fun ys => Q (y :: ys)
section
variable {G : Glob} {C : Sc} {Γ : Gm} {M : Mem} {Ex : XPost} {tg iter : Expr}
abbrev AskN (G : Glob) (C : Sc) (scope : Scope) (tg : Expr) (ix : List Nat) (elt : Expr) (Γ : Gm) (Q : D → Mem → Prop) (ds : List D) (ok : Mem → Prop) (M : Mem) : Prop :=
  ∃ (α β : Type) (src : Addr) (xs : List α) (g : α → D) (f : β → D) (nd : α → Nd β) (N : List β → Prop), ds = xs.map g ∧ xs.length ≤ 100000 ∧ SrcM src M ∧ (∀ M', Drawn src M M' → ok M') ∧ nMap nd xs N ∧
    (∀ x, x ∈ xs → ∀ (M' : Mem) (N' : β → Prop), Drawn src M M' → nd x N' → TgB G (C.blk scope) tg ix (g x) (wipeG Γ ix) M' fun Γ2 => E G (C.blk scope) elt Γ2 M' XNo fun e M3 => ∃ y, e = f y ∧ Drawn src M M3 ∧ N' y) ∧
    ∀ ys M', Drawn src M M' → N ys → Q (.lst (ys.map f)) M'
theorem AskN.lc {scope : Scope} {ix : List Nat} {elt : Expr} {Q : D → Mem → Prop} {ds : List D} {ok : Mem → Prop} (h : AskN G C scope tg ix elt Γ Q ds ok M) : LcAsk G C scope tg ix elt Γ (fun Γ2 M2 Q2 => Q2 true M2) (fun d M' => ∃ p ds M0, d = .adr p ∧ M0 p = none ∧ M' = mset M0 p (.lst ds) ∧ Q (.lst ds) M0) ds ok M := by
  obtain ⟨α, β, src, xs, g, f, nd, N, e1, hl, hs, hok, hn, ht, hd⟩ := h
  subst e1
  refine LcAsk.frz (fun i acc M' => ∃ ys : List β, acc = ys.map f ∧ Drawn src M M' ∧ nMap nd (xs.drop i) fun zs => N (ys ++ zs)) (size1000' (by rw [List.length_map]; exact hl)) ⟨[], rfl, Drawn.refl hs, hn⟩ (fun i acc M' ⟨_, _, dr, _⟩ => hok _ dr) (fun i d acc M' hget ⟨ys, e2, dr, hn⟩ => ?_) fun acc M' ⟨ys, e2, dr, hn⟩ => ?_
  · subst e2
    rw [List.getElem?_map] at hget
    cases hx : xs[i]? with
    | none => rw [hx] at hget; cases hget
    | some x =>
      rw [hx] at hget
      cases hget
      obtain ⟨hi, hxi⟩ := List.getElem?_eq_some_iff.mp hx
      rw [List.drop_eq_getElem_cons hi, hxi] at hn
      have hstep := ht x (List.mem_of_getElem? hx) M' _ dr hn
      refine .mk fun X σ H B v s r => (hstep X σ H B v s r).mono fun σ2 H2 ⟨q1, q2, Γ2, q3, q4⟩ => ⟨q1, q2, Γ2, q3, ?_⟩
      refine on_t rfl (q4.mono fun e M3 ⟨y, z1, z2, z3⟩ => ⟨ys ++ [y], ?_, z2, ?_⟩)
      · rw [z1, List.map_append]; rfl
      · have : (fun zs => N (ys ++ [y] ++ zs)) = fun zs => N (ys ++ y :: zs) := by funext zs; simp
        rw [this]
        exact z3
  · subst e2
    rw [List.length_map, List.drop_length] at hn
    have hn : N (ys ++ []) := hn
    rw [List.append_nil] at hn
    exact hd ys M' dr hn
theorem E.lcN {elt : Expr} {scope : Scope} {pos : Pos} {Q : D → Mem → Prop} (own : List (Str × Nat)) (h : I1 G C tg iter Γ M Ex (AskN G C scope tg (own.map (·.2)) elt Γ Q))
    (ok : blkC C.N C.sc scope own = true := by decide +kernel) (hs : ∀ env x, foldedSetIterable iter env x = pure x := by intro _ _; rfl) : E G C (.ListComp elt [⟨tg, iter, [], 0⟩] scope pos) Γ M Ex Q :=
  E.freeze (E.lc0 own (h.mono fun ds ok M1 q => AskN.lc q) ok hs)
end
theorem nMap_all {α β : Type} {f : α → Nd β} {P : α → β → Prop} : ∀ {xs : List α} {Q : List β → Prop}, (∀ x ∈ xs, ∀ N : β → Prop, (∀ y, P x y → N y) → f x N) → (∀ ys : List β, ys.length = xs.length → (∀ (i : Nat) (x : α) (y : β), xs[i]? = some x → ys[i]? = some y → P x y) → Q ys) → nMap f xs Q
  | [], Q, _, hq => hq [] rfl fun i x y h => by simp at h
  | x :: xs, Q, hs, hq => by
    show f x fun y => nMap f xs fun ys => Q (y :: ys)
    refine hs x List.mem_cons_self _ fun y hy => nMap_all (fun z hz => hs z (List.mem_cons_of_mem _ hz)) fun ys hl h => hq _ (by simp [hl]) fun i a b ha hb => ?_
    cases i with
    | zero =>
      simp at ha hb
      subst ha hb
      exact hy
    | succ i => exact h i a b (by simpa using ha) (by simpa using hb)
end Dl
/-! Dl33: four comparisons in one test. -/
namespace Dl
open PySem PySem.Spec PyProof.Rows L2
section
variable {X : Cx} {σ : L2.St} {H : Hp} {T : Nat} {a b c d e : Expr} {pos : Pos}
theorem s_tchain4 {o1 o2 o3 o4 : CmpOp} {Q : Bool → Hp → Prop} (hm : lastMarks [o1, o2, o3, o4] [b, c, d, e] = false) (h : sE T X a σ H fun x H1 => sE T X b σ H1 fun y H2 => sO T X (compareOp o1) x y H2 fun z H3 => ∃ k, z = .bl k ∧
    if k = true then sE T X c σ H3 fun w H4 => sO T X (compareOp o2) y w H4 fun z H5 => ∃ k, z = .bl k ∧
      if k = true then sE T X d σ H5 fun u H6 => sO T X (compareOp o3) w u H6 fun z H7 => ∃ k, z = .bl k ∧
        if k = true then sE T X e σ H7 fun t H8 => sO T X (compareOp o4) u t H8 fun z H9 => ∃ k, z = .bl k ∧ Q k H9 else Q false H7
      else Q false H5
    else Q false H3) : sT T X (.Compare a [o1, o2, o3, o4] [b, c, d, e] pos) σ H Q := fun pins s k I => by
  refine isTrue_chain (thnT k (h pins s k I) fun v s1 k1 ⟨x, H1, I1, r1, q1⟩ => test_link (thnT k1 (q1 pins s1 k1 I1) fun u s2 k2 ⟨y, H2, I2, r2, q2⟩ => thnT k2 (q2 pins s2 σ v u k2 I2 r1 r2) fun dd s3 k3 ⟨z, H3, I3, r3, j, ej, q3⟩ => ?_)) hm
  rw [ej] at r3
  cases r3
  refine wpAny_truthy_bool ?_
  cases j with
  | false => exact ite_ff ⟨H3, I3, q3⟩
  | true =>
    refine ite_tt (test_link (r' := eval d X.env) (rs := evalEach [e] X.env) (thnT k3 (q3 pins s3 k3 I3) fun w s4 k4 ⟨z4, H4, I4, r4, q4⟩ => thnT k4 (q4 pins s4 σ u w k4 I4 r2 r4) fun d5 s5 k5 ⟨z5, H5, I5, r5, j5, e5, q5⟩ => ?_))
    rw [e5] at r5
    cases r5
    refine wpAny_truthy_bool ?_
    cases j5 with
    | false => exact ite_ff ⟨H5, I5, q5⟩
    | true =>
      refine ite_tt (test_link (r' := eval e X.env) (rs := evalEach [] X.env) (thnT k5 (q5 pins s5 k5 I5) fun t s6 k6 ⟨z6, H6, I6, r6, q6⟩ => thnT k6 (q6 pins s6 σ w t k6 I6 r4 r6) fun d7 s7 k7 ⟨z7, H7, I7, r7, j7, e7, q7⟩ => ?_))
      rw [e7] at r7
      cases r7
      refine wpAny_truthy_bool ?_
      cases j7 with
      | false => exact ite_ff ⟨H7, I7, q7⟩
      | true =>
        refine ite_tt (test_last (thnT k7 (q7 pins s7 k7 I7) fun w8 s8 k8 ⟨z8, H8, I8, r8, q8⟩ => thn (q8 pins s8 σ t w8 k8 I8 r6 r8) fun d9 s9 ⟨z9, H9, I9, r9, j9, e9, q9⟩ => ?_))
        rw [e9] at r9
        cases r9
        exact wpAny_truthy_bool ⟨H9, I9, q9⟩
end
section
variable {G : Glob} {C : Sc} {Γ : Gm} {M : Mem} {Ex : XPost}
theorem T.chain4 {o1 o2 o3 o4 : CmpOp} {a b c d e : Expr} {pos : Pos} {Q : Bool → Mem → Prop} (h : E G C a Γ M Ex fun d1 M1 => E G C b Γ M1 Ex fun d2 M2 => O2 G C (compareOp o1) d1 d2 M2 (QB fun k M3 => if k = true then
      E G C c Γ M3 Ex fun d3 M4 => O2 G C (compareOp o2) d2 d3 M4 (QB fun k M5 => if k = true then
        E G C d Γ M5 Ex fun d4 M6 => O2 G C (compareOp o3) d3 d4 M6 (QB fun k M7 => if k = true then
          E G C e Γ M7 Ex fun d5 M8 => O2 G C (compareOp o4) d4 d5 M8 (QB Q) else Q false M7)
        else Q false M5)
      else Q false M3))
    (hm : lastMarks [o1, o2, o3, o4] [b, c, d, e] = false := by rfl) : T G C (.Compare a [o1, o2, o3, o4] [b, c, d, e] pos) Γ M Ex Q := by
  constructor
  intro X σ H B s
  refine s_tchain4 hm ?_
  refine (h X σ H B s).mono fun v1 H1 ⟨d1, B1, M1, g1, t1, r1, q1⟩ => ?_
  refine (q1 X σ H1 B1 (s.step g1 t1)).mono fun v2 H2 ⟨d2, B2, M2, g2, t2, r2, q2⟩ => ?_
  refine (q2 X H2 B2 v1 v2 s.cx g2 (r1.mono t2.same) r2).mono fun v H3 ⟨dd, B3, M3, g3, t3, r3, k3, e3, q3⟩ => ?_
  subst e3
  refine ⟨k3, rep_bl.mp r3, ?_⟩
  have T3 := (t1.trans t2).trans t3
  cases k3 with
  | false =>
    rw [if_neg (by decide)] at q3 ⊢
    exact ⟨B3, M3, g3, T3, q3⟩
  | true =>
    rw [if_pos rfl] at q3 ⊢
    refine (q3 X σ H3 B3 (s.step g3 T3)).mono fun v4 H4 ⟨d4, B4, M4, g4, t4, r4, q4⟩ => ?_
    refine (q4 X H4 B4 v2 v4 s.cx g4 ((r2.mono t3.same).mono t4.same) r4).mono fun v H5 ⟨dd, B5, M5, g5, t5, r5, k5, e5, q5⟩ => ?_
    subst e5
    refine ⟨k5, rep_bl.mp r5, ?_⟩
    have T5 := (T3.trans t4).trans t5
    cases k5 with
    | false =>
      rw [if_neg (by decide)] at q5 ⊢
      exact ⟨B5, M5, g5, T5, q5⟩
    | true =>
      rw [if_pos rfl] at q5 ⊢
      refine (q5 X σ H5 B5 (s.step g5 T5)).mono fun v6 H6 ⟨d6, B6, M6, g6, t6, r6, q6⟩ => ?_
      refine (q6 X H6 B6 v4 v6 s.cx g6 ((r4.mono t5.same).mono t6.same) r6).mono fun v H7 ⟨dd, B7, M7, g7, t7, r7, k7, e7, q7⟩ => ?_
      subst e7
      refine ⟨k7, rep_bl.mp r7, ?_⟩
      have T7 := (T5.trans t6).trans t7
      cases k7 with
      | false =>
        rw [if_neg (by decide)] at q7 ⊢
        exact ⟨B7, M7, g7, T7, q7⟩
      | true =>
        rw [if_pos rfl] at q7 ⊢
        refine (q7 X σ H7 B7 (s.step g7 T7)).mono fun v8 H8 ⟨d8, B8, M8, g8, t8, r8, q8⟩ => ?_
        refine (q8 X H8 B8 v6 v8 s.cx g8 ((r6.mono t7.same).mono t8.same) r8).mono fun v H9 ⟨d9, B9, M9, g9, t9, r9, k9, e9, q9⟩ => ?_
        subst e9
        exact ⟨k9, rep_bl.mp r9, B9, M9, g9, (T7.trans t8).trans t9, q9⟩
end
end Dl
namespace Row
open PySem PySem.Spec PyProof.Rows L2 Dl
def top (i : Nat) : Stmt := PySem.Challenge.pw_bagdraws_k06_whole_waits_for_a_letter.main.body.getD i (.Pass ⟨0, 0, 0, 0⟩)
abbrev s_is_bag : Stmt := top 10
abbrev s_need_bag : Stmt := top 11
abbrev s_is_row_of : Stmt := top 12
abbrev s_need_row : Stmt := top 13
abbrev s_need_letter : Stmt := top 14
abbrev s_parts_of : Stmt := top 16
abbrev s_are_different : Stmt := top 17
abbrev s_fits_row : Stmt := top 18
abbrev s_all_starts : Stmt := top 19
abbrev s_coming_letters : Stmt := top 21
abbrev s_can_follow : Stmt := top 22
abbrev s_waits : Stmt := top 23
abbrev s_wait_range : Stmt := top 24
abbrev s_law_source : Stmt := top 26
abbrev s_law_draw : Stmt := top 27
abbrev s_law_choice : Stmt := top 28
abbrev s_law_mixed : Stmt := top 29
abbrev s_law_bag : Stmt := top 30
abbrev s_law_stream : Stmt := top 31
abbrev s_law_seen : Stmt := top 32
abbrev s_law_good : Stmt := top 33
abbrev s_law_starts : Stmt := top 34
abbrev s_law_agree : Stmt := top 35
abbrev s_law : Stmt := top 36
def fn : List He.DefD := [
  ⟨("is_bag", none), "is_bag", "is_bag", defArgs s_is_bag, defBody s_is_bag, defScope s_is_bag, [], []⟩,
  ⟨("need_bag", none), "need_bag", "need_bag", defArgs s_need_bag, defBody s_need_bag, defScope s_need_bag, [], []⟩,
  ⟨("is_row_of", none), "is_row_of", "is_row_of", defArgs s_is_row_of, defBody s_is_row_of, defScope s_is_row_of, [], []⟩,
  ⟨("need_row", none), "need_row", "need_row", defArgs s_need_row, defBody s_need_row, defScope s_need_row, [], []⟩,
  ⟨("need_letter", none), "need_letter", "need_letter", defArgs s_need_letter, defBody s_need_letter, defScope s_need_letter, [], []⟩,
  ⟨("parts_of", none), "parts_of", "parts_of", defArgs s_parts_of, defBody s_parts_of, defScope s_parts_of, [], []⟩,
  ⟨("are_different", none), "are_different", "are_different", defArgs s_are_different, defBody s_are_different, defScope s_are_different, [], []⟩,
  ⟨("fits_row", none), "fits_row", "fits_row", defArgs s_fits_row, defBody s_fits_row, defScope s_fits_row, [], []⟩,
  ⟨("all_starts", none), "all_starts", "all_starts", defArgs s_all_starts, defBody s_all_starts, defScope s_all_starts, [], []⟩,
  ⟨("coming_letters", none), "coming_letters", "coming_letters", defArgs s_coming_letters, defBody s_coming_letters, defScope s_coming_letters, [], []⟩,
  ⟨("can_follow", none), "can_follow", "can_follow", defArgs s_can_follow, defBody s_can_follow, defScope s_can_follow, [], []⟩,
  ⟨("waits", none), "waits", "waits", defArgs s_waits, defBody s_waits, defScope s_waits, [], []⟩,
  ⟨("wait_range", none), "wait_range", "wait_range", defArgs s_wait_range, defBody s_wait_range, defScope s_wait_range, [], []⟩,
  ⟨("_law_source", none), "_law_source", "_law_source", defArgs s_law_source, defBody s_law_source, defScope s_law_source, [], []⟩,
  ⟨("_law_draw", none), "_law_draw", "_law_draw", defArgs s_law_draw, defBody s_law_draw, defScope s_law_draw, [], []⟩,
  ⟨("_law_choice", none), "_law_choice", "_law_choice", defArgs s_law_choice, defBody s_law_choice, defScope s_law_choice, [], []⟩,
  ⟨("_law_mixed", none), "_law_mixed", "_law_mixed", defArgs s_law_mixed, defBody s_law_mixed, defScope s_law_mixed, [], []⟩,
  ⟨("_law_bag", none), "_law_bag", "_law_bag", defArgs s_law_bag, defBody s_law_bag, defScope s_law_bag, [], []⟩,
  ⟨("_law_stream", none), "_law_stream", "_law_stream", defArgs s_law_stream, defBody s_law_stream, defScope s_law_stream, [], []⟩,
  ⟨("_law_seen", none), "_law_seen", "_law_seen", defArgs s_law_seen, defBody s_law_seen, defScope s_law_seen, [], []⟩,
  ⟨("_law_good", none), "_law_good", "_law_good", defArgs s_law_good, defBody s_law_good, defScope s_law_good, [], []⟩,
  ⟨("_law_starts", none), "_law_starts", "_law_starts", defArgs s_law_starts, defBody s_law_starts, defScope s_law_starts, [], []⟩,
  ⟨("_law_agree", none), "_law_agree", "_law_agree", defArgs s_law_agree, defBody s_law_agree, defScope s_law_agree, [], []⟩,
  ⟨("law", none), "law", "law", defArgs s_law, defBody s_law, defScope s_law, [], []⟩]
def fa : List He.Fa := [
  .glo "is_bag",
  .glo "need_bag",
  .glo "is_row_of",
  .glo "need_row",
  .glo "need_letter",
  .glo "parts_of",
  .glo "are_different",
  .glo "fits_row",
  .glo "all_starts",
  .glo "coming_letters",
  .glo "can_follow",
  .glo "waits",
  .glo "wait_range",
  .glo "_law_source",
  .glo "_law_draw",
  .glo "_law_choice",
  .glo "_law_mixed",
  .glo "_law_bag",
  .glo "_law_stream",
  .glo "_law_seen",
  .glo "_law_good",
  .glo "_law_starts",
  .glo "_law_agree",
  .glo "law",
  .free "ValueError",
  .free "abs",
  .free "all",
  .free "enumerate",
  .free "int",
  .free "isinstance",
  .free "len",
  .free "list",
  .free "max",
  .free "min",
  .free "range",
  .free "set",
  .free "str",
  .free "tuple",
  .free "zip",
  .str "LETTERS" "abcdefghijklmnopqrstuvwxyz",
  .str "UNSEEN" ".",
  .int "MOST_SIZE" 8,
  .int "MOST_DRAWS" 40,
  .glo "BagError",
  .exc "BagError",
  .glo "InvalidBag",
  .exc "InvalidBag",
  .glo "InvalidRow",
  .exc "InvalidRow",
  .glo "InvalidLetter",
  .exc "InvalidLetter"]
abbrev us : List Str := ["UNSEEN"]
/-- what the module's names are -/
structure Ok (G : Glob) : Prop where
  d_is_bag : HasDef G "is_bag" s_is_bag
  d_need_bag : HasDef G "need_bag" s_need_bag
  d_is_row_of : HasDef G "is_row_of" s_is_row_of
  d_need_row : HasDef G "need_row" s_need_row
  d_need_letter : HasDef G "need_letter" s_need_letter
  d_parts_of : HasDef G "parts_of" s_parts_of
  d_are_different : HasDef G "are_different" s_are_different
  d_fits_row : HasDef G "fits_row" s_fits_row
  d_all_starts : HasDef G "all_starts" s_all_starts
  d_coming_letters : HasDef G "coming_letters" s_coming_letters
  d_can_follow : HasDef G "can_follow" s_can_follow
  d_waits : HasDef G "waits" s_waits
  d_wait_range : HasDef G "wait_range" s_wait_range
  d_law_source : HasDef G "_law_source" s_law_source
  d_law_draw : HasDef G "_law_draw" s_law_draw
  d_law_choice : HasDef G "_law_choice" s_law_choice
  d_law_mixed : HasDef G "_law_mixed" s_law_mixed
  d_law_bag : HasDef G "_law_bag" s_law_bag
  d_law_stream : HasDef G "_law_stream" s_law_stream
  d_law_seen : HasDef G "_law_seen" s_law_seen
  d_law_good : HasDef G "_law_good" s_law_good
  d_law_starts : HasDef G "_law_starts" s_law_starts
  d_law_agree : HasDef G "_law_agree" s_law_agree
  d_law : HasDef G "law" s_law
  b_ValueError : G.mg "ValueError" = none
  b_abs : G.mg "abs" = none
  b_all : G.mg "all" = none
  b_enumerate : G.mg "enumerate" = none
  b_int : G.mg "int" = none
  b_isinstance : G.mg "isinstance" = none
  b_len : G.mg "len" = none
  b_list : G.mg "list" = none
  b_max : G.mg "max" = none
  b_min : G.mg "min" = none
  b_range : G.mg "range" = none
  b_set : G.mg "set" = none
  b_str : G.mg "str" = none
  b_tuple : G.mg "tuple" = none
  b_zip : G.mg "zip" = none
  c_LETTERS : ∃ t, G.mg "LETTERS" = some (.str "abcdefghijklmnopqrstuvwxyz" t)
  c_UNSEEN : ∃ t, G.mg "UNSEEN" = some (.str "." t)
  c_MOST_SIZE : ∃ t, G.mg "MOST_SIZE" = some (.int 8 t)
  c_MOST_DRAWS : ∃ t, G.mg "MOST_DRAWS" = some (.int 40 t)
  u_UNSEEN : ∃ t, G.mg "UNSEEN" = some (.str ⟨#[46]⟩ t) ∧ t ≠ 0 ∧ t < G.T
theorem ok {G : Glob} (s : Says fa fn us G) : Ok G :=
  ⟨s.def_ 0 0 rfl rfl,
   s.def_ 1 1 rfl rfl,
   s.def_ 2 2 rfl rfl,
   s.def_ 3 3 rfl rfl,
   s.def_ 4 4 rfl rfl,
   s.def_ 5 5 rfl rfl,
   s.def_ 6 6 rfl rfl,
   s.def_ 7 7 rfl rfl,
   s.def_ 8 8 rfl rfl,
   s.def_ 9 9 rfl rfl,
   s.def_ 10 10 rfl rfl,
   s.def_ 11 11 rfl rfl,
   s.def_ 12 12 rfl rfl,
   s.def_ 13 13 rfl rfl,
   s.def_ 14 14 rfl rfl,
   s.def_ 15 15 rfl rfl,
   s.def_ 16 16 rfl rfl,
   s.def_ 17 17 rfl rfl,
   s.def_ 18 18 rfl rfl,
   s.def_ 19 19 rfl rfl,
   s.def_ 20 20 rfl rfl,
   s.def_ 21 21 rfl rfl,
   s.def_ 22 22 rfl rfl,
   s.def_ 23 23 rfl rfl,
   s.free 24 rfl,
   s.free 25 rfl,
   s.free 26 rfl,
   s.free 27 rfl,
   s.free 28 rfl,
   s.free 29 rfl,
   s.free 30 rfl,
   s.free 31 rfl,
   s.free 32 rfl,
   s.free 33 rfl,
   s.free 34 rfl,
   s.free 35 rfl,
   s.free 36 rfl,
   s.free 37 rfl,
   s.free 38 rfl,
   s.str_ 39 rfl,
   s.str_ 40 rfl,
   s.int_ 41 rfl,
   s.int_ 42 rfl,
   s.tok_ 40 (z := ".") rfl (by decide +kernel) (by decide +kernel)⟩
theorem bb_abs : bootBuiltins "abs" = some (.builtin "abs") := by kernel_rfl
theorem bb_all : bootBuiltins "all" = some (.builtin "all") := by kernel_rfl
theorem bb_enumerate : bootBuiltins "enumerate" = some (.type "enumerate") := by kernel_rfl
theorem bb_int : bootBuiltins "int" = some (.type "int") := by kernel_rfl
theorem bb_isinstance : bootBuiltins "isinstance" = some (.builtin "isinstance") := by kernel_rfl
theorem bb_len : bootBuiltins "len" = some (.builtin "len") := by kernel_rfl
theorem bb_list : bootBuiltins "list" = some (.type "list") := by kernel_rfl
theorem bb_max : bootBuiltins "max" = some (.builtin "max") := by kernel_rfl
theorem bb_min : bootBuiltins "min" = some (.builtin "min") := by kernel_rfl
theorem bb_range : bootBuiltins "range" = some (.type "range") := by kernel_rfl
theorem bb_set : bootBuiltins "set" = some (.type "set") := by kernel_rfl
theorem bb_str : bootBuiltins "str" = some (.type "str") := by kernel_rfl
theorem bb_tuple : bootBuiltins "tuple" = some (.type "tuple") := by kernel_rfl
theorem bb_zip : bootBuiltins "zip" = some (.type "zip") := by kernel_rfl
theorem l_0 : (Str.ofString "abcdefghijklmnopqrstuvwxyz").cps.toList = (abcL : List Nat) := by decide +kernel
theorem l_1 : (Str.ofString ".").cps.toList = ([46] : List Nat) := by decide +kernel
theorem l_2 : (Str.ofString "").cps.toList = ([] : List Nat) := by decide +kernel
theorem l_3 : (Str.ofString "not a bag").cps.toList = ([110, 111, 116, 32, 97, 32, 98, 97, 103] : List Nat) := by decide +kernel
theorem l_4 : (Str.ofString "not a row for the bag").cps.toList = ([110, 111, 116, 32, 97, 32, 114, 111, 119, 32, 102, 111, 114, 32, 116, 104, 101, 32, 98, 97, 103] : List Nat) := by decide +kernel
theorem l_5 : (Str.ofString "not a letter of the bag").cps.toList = ([110, 111, 116, 32, 97, 32, 108, 101, 116, 116, 101, 114, 32, 111, 102, 32, 116, 104, 101, 32, 98, 97, 103] : List Nat) := by decide +kernel
theorem l_6 : (Str.ofString "abc").cps.toList = ([97, 98, 99] : List Nat) := by decide +kernel
theorem l_7 : (Str.ofString "a").cps.toList = ([97] : List Nat) := by decide +kernel
theorem l_8 : (Str.ofString "aab").cps.toList = ([97, 97, 98] : List Nat) := by decide +kernel
theorem l_9 : (Str.ofString "c").cps.toList = ([99] : List Nat) := by decide +kernel
abbrev n_is_bag : List Str := ["value", "letter", "one", "other"]
theorem f_is_bag : FnScope n_is_bag ["value"] (defScope s_is_bag) := ⟨rfl, rfl, rfl, by decide +kernel, rfl, by decide +kernel, by decide +kernel⟩
theorem t_is_bag (a : D) : startG n_is_bag [a] = ([("value", some a), ("letter", none), ("one", none), ("other", none)] : List (Str × Option D)) := rfl
theorem k_is_bag {G : Glob} (o : Ok G) (k : Nat) {sp : D → Mem → XPost → (D → Mem → Prop) → Prop}
    (body : ∀ a M Ex Q, sp a M Ex Q → W G ⟨n_is_bag, defScope s_is_bag, k, []⟩ (defBody s_is_bag) [("value", some a), ("letter", none), ("one", none), ("other", none)] M { nx := fun _ M2 => Dn Q .non M2, rt := Dn Q, ex := Ex }) :
    Cal G "is_bag" (k + 1) (fun ds M Ex Q => ∃ a, ds = [a] ∧ sp a M Ex Q) :=
  Cal.of o.d_is_bag f_is_bag (fun _ _ _ _ ⟨_, e, _⟩ => by rw [e]; rfl) (fun _ _ F => F.bindsN fun _ _ _ _ _ _ us hl => match us, hl with | [_], _ => rfl)
    fun ds M Ex Q ⟨a, eq, h⟩ => by rw [eq, t_is_bag]; exact body a M Ex Q h
abbrev n_need_bag : List Str := ["bag"]
theorem f_need_bag : FnScope n_need_bag ["bag"] (defScope s_need_bag) := ⟨rfl, rfl, rfl, by decide +kernel, rfl, by decide +kernel, by decide +kernel⟩
theorem t_need_bag (a : D) : startG n_need_bag [a] = ([("bag", some a)] : List (Str × Option D)) := rfl
theorem k_need_bag {G : Glob} (o : Ok G) (k : Nat) {sp : D → Mem → XPost → (D → Mem → Prop) → Prop}
    (body : ∀ a M Ex Q, sp a M Ex Q → W G ⟨n_need_bag, defScope s_need_bag, k, []⟩ (defBody s_need_bag) [("bag", some a)] M { nx := fun _ M2 => Dn Q .non M2, rt := Dn Q, ex := Ex }) :
    Cal G "need_bag" (k + 1) (fun ds M Ex Q => ∃ a, ds = [a] ∧ sp a M Ex Q) :=
  Cal.of o.d_need_bag f_need_bag (fun _ _ _ _ ⟨_, e, _⟩ => by rw [e]; rfl) (fun _ _ F => F.bindsN fun _ _ _ _ _ _ us hl => match us, hl with | [_], _ => rfl)
    fun ds M Ex Q ⟨a, eq, h⟩ => by rw [eq, t_need_bag]; exact body a M Ex Q h
abbrev n_is_row_of : List Str := ["bag", "value", "most", "sign"]
theorem f_is_row_of : FnScope n_is_row_of ["bag", "value", "most"] (defScope s_is_row_of) := ⟨rfl, rfl, rfl, by decide +kernel, rfl, by decide +kernel, by decide +kernel⟩
theorem t_is_row_of (a b c : D) : startG n_is_row_of [a, b, c] = ([("bag", some a), ("value", some b), ("most", some c), ("sign", none)] : List (Str × Option D)) := rfl
theorem k_is_row_of {G : Glob} (o : Ok G) (k : Nat) {sp : D → D → D → Mem → XPost → (D → Mem → Prop) → Prop}
    (body : ∀ a b c M Ex Q, sp a b c M Ex Q → W G ⟨n_is_row_of, defScope s_is_row_of, k, []⟩ (defBody s_is_row_of) [("bag", some a), ("value", some b), ("most", some c), ("sign", none)] M { nx := fun _ M2 => Dn Q .non M2, rt := Dn Q, ex := Ex }) :
    Cal G "is_row_of" (k + 1) (fun ds M Ex Q => ∃ a b c, ds = [a, b, c] ∧ sp a b c M Ex Q) :=
  Cal.of o.d_is_row_of f_is_row_of (fun _ _ _ _ ⟨_, _, _, e, _⟩ => by rw [e]; rfl) (fun _ _ F => F.bindsN fun _ _ _ _ _ _ us hl => match us, hl with | [_, _, _], _ => rfl)
    fun ds M Ex Q ⟨a, b, c, eq, h⟩ => by rw [eq, t_is_row_of]; exact body a b c M Ex Q h
abbrev n_need_row : List Str := ["bag", "row"]
theorem f_need_row : FnScope n_need_row ["bag", "row"] (defScope s_need_row) := ⟨rfl, rfl, rfl, by decide +kernel, rfl, by decide +kernel, by decide +kernel⟩
theorem t_need_row (a b : D) : startG n_need_row [a, b] = ([("bag", some a), ("row", some b)] : List (Str × Option D)) := rfl
theorem k_need_row {G : Glob} (o : Ok G) (k : Nat) {sp : D → D → Mem → XPost → (D → Mem → Prop) → Prop}
    (body : ∀ a b M Ex Q, sp a b M Ex Q → W G ⟨n_need_row, defScope s_need_row, k, []⟩ (defBody s_need_row) [("bag", some a), ("row", some b)] M { nx := fun _ M2 => Dn Q .non M2, rt := Dn Q, ex := Ex }) :
    Cal G "need_row" (k + 1) (fun ds M Ex Q => ∃ a b, ds = [a, b] ∧ sp a b M Ex Q) :=
  Cal.of o.d_need_row f_need_row (fun _ _ _ _ ⟨_, _, e, _⟩ => by rw [e]; rfl) (fun _ _ F => F.bindsN fun _ _ _ _ _ _ us hl => match us, hl with | [_, _], _ => rfl)
    fun ds M Ex Q ⟨a, b, eq, h⟩ => by rw [eq, t_need_row]; exact body a b M Ex Q h
abbrev n_need_letter : List Str := ["bag", "letter"]
theorem f_need_letter : FnScope n_need_letter ["bag", "letter"] (defScope s_need_letter) := ⟨rfl, rfl, rfl, by decide +kernel, rfl, by decide +kernel, by decide +kernel⟩
theorem t_need_letter (a b : D) : startG n_need_letter [a, b] = ([("bag", some a), ("letter", some b)] : List (Str × Option D)) := rfl
theorem k_need_letter {G : Glob} (o : Ok G) (k : Nat) {sp : D → D → Mem → XPost → (D → Mem → Prop) → Prop}
    (body : ∀ a b M Ex Q, sp a b M Ex Q → W G ⟨n_need_letter, defScope s_need_letter, k, []⟩ (defBody s_need_letter) [("bag", some a), ("letter", some b)] M { nx := fun _ M2 => Dn Q .non M2, rt := Dn Q, ex := Ex }) :
    Cal G "need_letter" (k + 1) (fun ds M Ex Q => ∃ a b, ds = [a, b] ∧ sp a b M Ex Q) :=
  Cal.of o.d_need_letter f_need_letter (fun _ _ _ _ ⟨_, _, e, _⟩ => by rw [e]; rfl) (fun _ _ F => F.bindsN fun _ _ _ _ _ _ us hl => match us, hl with | [_, _], _ => rfl)
    fun ds M Ex Q ⟨a, b, eq, h⟩ => by rw [eq, t_need_letter]; exact body a b M Ex Q h
abbrev n_parts_of : List Str := ["size", "row", "start", "found", "place", "sign"]
theorem f_parts_of : FnScope n_parts_of ["size", "row", "start"] (defScope s_parts_of) := ⟨rfl, rfl, rfl, by decide +kernel, rfl, by decide +kernel, by decide +kernel⟩
theorem t_parts_of (a b c : D) : startG n_parts_of [a, b, c] = ([("size", some a), ("row", some b), ("start", some c), ("found", none), ("place", none), ("sign", none)] : List (Str × Option D)) := rfl
theorem k_parts_of {G : Glob} (o : Ok G) (k : Nat) {sp : D → D → D → Mem → XPost → (D → Mem → Prop) → Prop}
    (body : ∀ a b c M Ex Q, sp a b c M Ex Q → W G ⟨n_parts_of, defScope s_parts_of, k, []⟩ (defBody s_parts_of) [("size", some a), ("row", some b), ("start", some c), ("found", none), ("place", none), ("sign", none)] M { nx := fun _ M2 => Dn Q .non M2, rt := Dn Q, ex := Ex }) :
    Cal G "parts_of" (k + 1) (fun ds M Ex Q => ∃ a b c, ds = [a, b, c] ∧ sp a b c M Ex Q) :=
  Cal.of o.d_parts_of f_parts_of (fun _ _ _ _ ⟨_, _, _, e, _⟩ => by rw [e]; rfl) (fun _ _ F => F.bindsN fun _ _ _ _ _ _ us hl => match us, hl with | [_, _, _], _ => rfl)
    fun ds M Ex Q ⟨a, b, c, eq, h⟩ => by rw [eq, t_parts_of]; exact body a b c M Ex Q h
abbrev n_are_different : List Str := ["signs", "seen"]
theorem f_are_different : FnScope n_are_different ["signs"] (defScope s_are_different) := ⟨rfl, rfl, rfl, by decide +kernel, rfl, by decide +kernel, by decide +kernel⟩
theorem t_are_different (a : D) : startG n_are_different [a] = ([("signs", some a), ("seen", none)] : List (Str × Option D)) := rfl
theorem k_are_different {G : Glob} (o : Ok G) (k : Nat) {sp : D → Mem → XPost → (D → Mem → Prop) → Prop}
    (body : ∀ a M Ex Q, sp a M Ex Q → W G ⟨n_are_different, defScope s_are_different, k, []⟩ (defBody s_are_different) [("signs", some a), ("seen", none)] M { nx := fun _ M2 => Dn Q .non M2, rt := Dn Q, ex := Ex }) :
    Cal G "are_different" (k + 1) (fun ds M Ex Q => ∃ a, ds = [a] ∧ sp a M Ex Q) :=
  Cal.of o.d_are_different f_are_different (fun _ _ _ _ ⟨_, e, _⟩ => by rw [e]; rfl) (fun _ _ F => F.bindsN fun _ _ _ _ _ _ us hl => match us, hl with | [_], _ => rfl)
    fun ds M Ex Q ⟨a, eq, h⟩ => by rw [eq, t_are_different]; exact body a M Ex Q h
abbrev n_fits_row : List Str := ["size", "row", "start", "part"]
theorem f_fits_row : FnScope n_fits_row ["size", "row", "start"] (defScope s_fits_row) := ⟨rfl, rfl, rfl, by decide +kernel, rfl, by decide +kernel, by decide +kernel⟩
theorem t_fits_row (a b c : D) : startG n_fits_row [a, b, c] = ([("size", some a), ("row", some b), ("start", some c), ("part", none)] : List (Str × Option D)) := rfl
theorem k_fits_row {G : Glob} (o : Ok G) (k : Nat) {sp : D → D → D → Mem → XPost → (D → Mem → Prop) → Prop}
    (body : ∀ a b c M Ex Q, sp a b c M Ex Q → W G ⟨n_fits_row, defScope s_fits_row, k, []⟩ (defBody s_fits_row) [("size", some a), ("row", some b), ("start", some c), ("part", none)] M { nx := fun _ M2 => Dn Q .non M2, rt := Dn Q, ex := Ex }) :
    Cal G "fits_row" (k + 1) (fun ds M Ex Q => ∃ a b c, ds = [a, b, c] ∧ sp a b c M Ex Q) :=
  Cal.of o.d_fits_row f_fits_row (fun _ _ _ _ ⟨_, _, _, e, _⟩ => by rw [e]; rfl) (fun _ _ F => F.bindsN fun _ _ _ _ _ _ us hl => match us, hl with | [_, _, _], _ => rfl)
    fun ds M Ex Q ⟨a, b, c, eq, h⟩ => by rw [eq, t_fits_row]; exact body a b c M Ex Q h
abbrev n_all_starts : List Str := ["size", "row", "start"]
theorem f_all_starts : FnScope n_all_starts ["size", "row"] (defScope s_all_starts) := ⟨rfl, rfl, rfl, by decide +kernel, rfl, by decide +kernel, by decide +kernel⟩
theorem t_all_starts (a b : D) : startG n_all_starts [a, b] = ([("size", some a), ("row", some b), ("start", none)] : List (Str × Option D)) := rfl
theorem k_all_starts {G : Glob} (o : Ok G) (k : Nat) {sp : D → D → Mem → XPost → (D → Mem → Prop) → Prop}
    (body : ∀ a b M Ex Q, sp a b M Ex Q → W G ⟨n_all_starts, defScope s_all_starts, k, []⟩ (defBody s_all_starts) [("size", some a), ("row", some b), ("start", none)] M { nx := fun _ M2 => Dn Q .non M2, rt := Dn Q, ex := Ex }) :
    Cal G "all_starts" (k + 1) (fun ds M Ex Q => ∃ a b, ds = [a, b] ∧ sp a b M Ex Q) :=
  Cal.of o.d_all_starts f_all_starts (fun _ _ _ _ ⟨_, _, e, _⟩ => by rw [e]; rfl) (fun _ _ F => F.bindsN fun _ _ _ _ _ _ us hl => match us, hl with | [_, _], _ => rfl)
    fun ds M Ex Q ⟨a, b, eq, h⟩ => by rw [eq, t_all_starts]; exact body a b M Ex Q h
abbrev n_coming_letters : List Str := ["bag", "row", "size", "fit", "least", "last", "start", "letter"]
theorem f_coming_letters : FnScope n_coming_letters ["bag", "row"] (defScope s_coming_letters) := ⟨rfl, rfl, rfl, by decide +kernel, rfl, by decide +kernel, by decide +kernel⟩
theorem t_coming_letters (a b : D) : startG n_coming_letters [a, b] = ([("bag", some a), ("row", some b), ("size", none), ("fit", none), ("least", none), ("last", none), ("start", none), ("letter", none)] : List (Str × Option D)) := rfl
theorem k_coming_letters {G : Glob} (o : Ok G) (k : Nat) {sp : D → D → Mem → XPost → (D → Mem → Prop) → Prop}
    (body : ∀ a b M Ex Q, sp a b M Ex Q → W G ⟨n_coming_letters, defScope s_coming_letters, k, []⟩ (defBody s_coming_letters) [("bag", some a), ("row", some b), ("size", none), ("fit", none), ("least", none), ("last", none), ("start", none), ("letter", none)] M { nx := fun _ M2 => Dn Q .non M2, rt := Dn Q, ex := Ex }) :
    Cal G "coming_letters" (k + 1) (fun ds M Ex Q => ∃ a b, ds = [a, b] ∧ sp a b M Ex Q) :=
  Cal.of o.d_coming_letters f_coming_letters (fun _ _ _ _ ⟨_, _, e, _⟩ => by rw [e]; rfl) (fun _ _ F => F.bindsN fun _ _ _ _ _ _ us hl => match us, hl with | [_, _], _ => rfl)
    fun ds M Ex Q ⟨a, b, eq, h⟩ => by rw [eq, t_coming_letters]; exact body a b M Ex Q h
abbrev n_can_follow : List Str := ["bag", "row", "letter"]
theorem f_can_follow : FnScope n_can_follow ["bag", "row", "letter"] (defScope s_can_follow) := ⟨rfl, rfl, rfl, by decide +kernel, rfl, by decide +kernel, by decide +kernel⟩
theorem t_can_follow (a b c : D) : startG n_can_follow [a, b, c] = ([("bag", some a), ("row", some b), ("letter", some c)] : List (Str × Option D)) := rfl
theorem k_can_follow {G : Glob} (o : Ok G) (k : Nat) {sp : D → D → D → Mem → XPost → (D → Mem → Prop) → Prop}
    (body : ∀ a b c M Ex Q, sp a b c M Ex Q → W G ⟨n_can_follow, defScope s_can_follow, k, []⟩ (defBody s_can_follow) [("bag", some a), ("row", some b), ("letter", some c)] M { nx := fun _ M2 => Dn Q .non M2, rt := Dn Q, ex := Ex }) :
    Cal G "can_follow" (k + 1) (fun ds M Ex Q => ∃ a b c, ds = [a, b, c] ∧ sp a b c M Ex Q) :=
  Cal.of o.d_can_follow f_can_follow (fun _ _ _ _ ⟨_, _, _, e, _⟩ => by rw [e]; rfl) (fun _ _ F => F.bindsN fun _ _ _ _ _ _ us hl => match us, hl with | [_, _, _], _ => rfl)
    fun ds M Ex Q ⟨a, b, c, eq, h⟩ => by rw [eq, t_can_follow]; exact body a b c M Ex Q h
abbrev n_waits : List Str := ["bag", "row", "start", "letter", "size", "drawn", "last", "left"]
theorem f_waits : FnScope n_waits ["bag", "row", "start", "letter"] (defScope s_waits) := ⟨rfl, rfl, rfl, by decide +kernel, rfl, by decide +kernel, by decide +kernel⟩
theorem t_waits (a b c d : D) : startG n_waits [a, b, c, d] = ([("bag", some a), ("row", some b), ("start", some c), ("letter", some d), ("size", none), ("drawn", none), ("last", none), ("left", none)] : List (Str × Option D)) := rfl
theorem k_waits {G : Glob} (o : Ok G) (k : Nat) {sp : D → D → D → D → Mem → XPost → (D → Mem → Prop) → Prop}
    (body : ∀ a b c d M Ex Q, sp a b c d M Ex Q → W G ⟨n_waits, defScope s_waits, k, []⟩ (defBody s_waits) [("bag", some a), ("row", some b), ("start", some c), ("letter", some d), ("size", none), ("drawn", none), ("last", none), ("left", none)] M { nx := fun _ M2 => Dn Q .non M2, rt := Dn Q, ex := Ex }) :
    Cal G "waits" (k + 1) (fun ds M Ex Q => ∃ a b c d, ds = [a, b, c, d] ∧ sp a b c d M Ex Q) :=
  Cal.of o.d_waits f_waits (fun _ _ _ _ ⟨_, _, _, _, e, _⟩ => by rw [e]; rfl) (fun _ _ F => F.bindsN fun _ _ _ _ _ _ us hl => match us, hl with | [_, _, _, _], _ => rfl)
    fun ds M Ex Q ⟨a, b, c, d, eq, h⟩ => by rw [eq, t_waits]; exact body a b c d M Ex Q h
abbrev n_wait_range : List Str := ["bag", "row", "letter", "found", "start", "least", "greatest"]
theorem f_wait_range : FnScope n_wait_range ["bag", "row", "letter"] (defScope s_wait_range) := ⟨rfl, rfl, rfl, by decide +kernel, rfl, by decide +kernel, by decide +kernel⟩
theorem t_wait_range (a b c : D) : startG n_wait_range [a, b, c] = ([("bag", some a), ("row", some b), ("letter", some c), ("found", none), ("start", none), ("least", none), ("greatest", none)] : List (Str × Option D)) := rfl
theorem k_wait_range {G : Glob} (o : Ok G) (k : Nat) {sp : D → D → D → Mem → XPost → (D → Mem → Prop) → Prop}
    (body : ∀ a b c M Ex Q, sp a b c M Ex Q → W G ⟨n_wait_range, defScope s_wait_range, k, []⟩ (defBody s_wait_range) [("bag", some a), ("row", some b), ("letter", some c), ("found", none), ("start", none), ("least", none), ("greatest", none)] M { nx := fun _ M2 => Dn Q .non M2, rt := Dn Q, ex := Ex }) :
    Cal G "wait_range" (k + 1) (fun ds M Ex Q => ∃ a b c, ds = [a, b, c] ∧ sp a b c M Ex Q) :=
  Cal.of o.d_wait_range f_wait_range (fun _ _ _ _ ⟨_, _, _, e, _⟩ => by rw [e]; rfl) (fun _ _ F => F.bindsN fun _ _ _ _ _ _ us hl => match us, hl with | [_, _, _], _ => rfl)
    fun ds M Ex Q ⟨a, b, c, eq, h⟩ => by rw [eq, t_wait_range]; exact body a b c M Ex Q h
abbrev n_law_source : List Str := ["script", "index", "cell"]
theorem f_law_source : FnScope n_law_source ["script", "index"] (defScope s_law_source) := ⟨rfl, rfl, rfl, by decide +kernel, rfl, by decide +kernel, by decide +kernel⟩
theorem t_law_source (a b : D) : startG n_law_source [a, b] = ([("script", some a), ("index", some b), ("cell", none)] : List (Str × Option D)) := rfl
theorem k_law_source {G : Glob} (o : Ok G) (k : Nat) {sp : D → D → Mem → XPost → (D → Mem → Prop) → Prop}
    (body : ∀ a b M Ex Q, sp a b M Ex Q → W G ⟨n_law_source, defScope s_law_source, k, []⟩ (defBody s_law_source) [("script", some a), ("index", some b), ("cell", none)] M { nx := fun _ M2 => Dn Q .non M2, rt := Dn Q, ex := Ex }) :
    Cal G "_law_source" (k + 1) (fun ds M Ex Q => ∃ a b, ds = [a, b] ∧ sp a b M Ex Q) :=
  Cal.of o.d_law_source f_law_source (fun _ _ _ _ ⟨_, _, e, _⟩ => by rw [e]; rfl) (fun _ _ F => F.bindsN fun _ _ _ _ _ _ us hl => match us, hl with | [_, _], _ => rfl)
    fun ds M Ex Q ⟨a, b, eq, h⟩ => by rw [eq, t_law_source]; exact body a b M Ex Q h
abbrev n_law_draw : List Str := ["source", "size", "drawn"]
theorem f_law_draw : FnScope n_law_draw ["source", "size"] (defScope s_law_draw) := ⟨rfl, rfl, rfl, by decide +kernel, rfl, by decide +kernel, by decide +kernel⟩
theorem t_law_draw (a b : D) : startG n_law_draw [a, b] = ([("source", some a), ("size", some b), ("drawn", none)] : List (Str × Option D)) := rfl
theorem k_law_draw {G : Glob} (o : Ok G) (k : Nat) {sp : D → D → Mem → XPost → (D → Mem → Prop) → Prop}
    (body : ∀ a b M Ex Q, sp a b M Ex Q → W G ⟨n_law_draw, defScope s_law_draw, k, []⟩ (defBody s_law_draw) [("source", some a), ("size", some b), ("drawn", none)] M { nx := fun _ M2 => Dn Q .non M2, rt := Dn Q, ex := Ex }) :
    Cal G "_law_draw" (k + 1) (fun ds M Ex Q => ∃ a b, ds = [a, b] ∧ sp a b M Ex Q) :=
  Cal.of o.d_law_draw f_law_draw (fun _ _ _ _ ⟨_, _, e, _⟩ => by rw [e]; rfl) (fun _ _ F => F.bindsN fun _ _ _ _ _ _ us hl => match us, hl with | [_, _], _ => rfl)
    fun ds M Ex Q ⟨a, b, eq, h⟩ => by rw [eq, t_law_draw]; exact body a b M Ex Q h
abbrev n_law_choice : List Str := ["source", "items"]
theorem f_law_choice : FnScope n_law_choice ["source", "items"] (defScope s_law_choice) := ⟨rfl, rfl, rfl, by decide +kernel, rfl, by decide +kernel, by decide +kernel⟩
theorem t_law_choice (a b : D) : startG n_law_choice [a, b] = ([("source", some a), ("items", some b)] : List (Str × Option D)) := rfl
theorem k_law_choice {G : Glob} (o : Ok G) (k : Nat) {sp : D → D → Mem → XPost → (D → Mem → Prop) → Prop}
    (body : ∀ a b M Ex Q, sp a b M Ex Q → W G ⟨n_law_choice, defScope s_law_choice, k, []⟩ (defBody s_law_choice) [("source", some a), ("items", some b)] M { nx := fun _ M2 => Dn Q .non M2, rt := Dn Q, ex := Ex }) :
    Cal G "_law_choice" (k + 1) (fun ds M Ex Q => ∃ a b, ds = [a, b] ∧ sp a b M Ex Q) :=
  Cal.of o.d_law_choice f_law_choice (fun _ _ _ _ ⟨_, _, e, _⟩ => by rw [e]; rfl) (fun _ _ F => F.bindsN fun _ _ _ _ _ _ us hl => match us, hl with | [_, _], _ => rfl)
    fun ds M Ex Q ⟨a, b, eq, h⟩ => by rw [eq, t_law_choice]; exact body a b M Ex Q h
abbrev n_law_mixed : List Str := ["source", "items", "left", "found"]
theorem f_law_mixed : FnScope n_law_mixed ["source", "items"] (defScope s_law_mixed) := ⟨rfl, rfl, rfl, by decide +kernel, rfl, by decide +kernel, by decide +kernel⟩
theorem t_law_mixed (a b : D) : startG n_law_mixed [a, b] = ([("source", some a), ("items", some b), ("left", none), ("found", none)] : List (Str × Option D)) := rfl
theorem k_law_mixed {G : Glob} (o : Ok G) (k : Nat) {sp : D → D → Mem → XPost → (D → Mem → Prop) → Prop}
    (body : ∀ a b M Ex Q, sp a b M Ex Q → W G ⟨n_law_mixed, defScope s_law_mixed, k, []⟩ (defBody s_law_mixed) [("source", some a), ("items", some b), ("left", none), ("found", none)] M { nx := fun _ M2 => Dn Q .non M2, rt := Dn Q, ex := Ex }) :
    Cal G "_law_mixed" (k + 1) (fun ds M Ex Q => ∃ a b, ds = [a, b] ∧ sp a b M Ex Q) :=
  Cal.of o.d_law_mixed f_law_mixed (fun _ _ _ _ ⟨_, _, e, _⟩ => by rw [e]; rfl) (fun _ _ F => F.bindsN fun _ _ _ _ _ _ us hl => match us, hl with | [_, _], _ => rfl)
    fun ds M Ex Q ⟨a, b, eq, h⟩ => by rw [eq, t_law_mixed]; exact body a b M Ex Q h
abbrev n_law_bag : List Str := ["source", "size", "signs", "count"]
theorem f_law_bag : FnScope n_law_bag ["source", "size"] (defScope s_law_bag) := ⟨rfl, rfl, rfl, by decide +kernel, rfl, by decide +kernel, by decide +kernel⟩
theorem t_law_bag (a b : D) : startG n_law_bag [a, b] = ([("source", some a), ("size", some b), ("signs", none), ("count", none)] : List (Str × Option D)) := rfl
theorem k_law_bag {G : Glob} (o : Ok G) (k : Nat) {sp : D → D → Mem → XPost → (D → Mem → Prop) → Prop}
    (body : ∀ a b M Ex Q, sp a b M Ex Q → W G ⟨n_law_bag, defScope s_law_bag, k, []⟩ (defBody s_law_bag) [("source", some a), ("size", some b), ("signs", none), ("count", none)] M { nx := fun _ M2 => Dn Q .non M2, rt := Dn Q, ex := Ex }) :
    Cal G "_law_bag" (k + 1) (fun ds M Ex Q => ∃ a b, ds = [a, b] ∧ sp a b M Ex Q) :=
  Cal.of o.d_law_bag f_law_bag (fun _ _ _ _ ⟨_, _, e, _⟩ => by rw [e]; rfl) (fun _ _ F => F.bindsN fun _ _ _ _ _ _ us hl => match us, hl with | [_, _], _ => rfl)
    fun ds M Ex Q ⟨a, b, eq, h⟩ => by rw [eq, t_law_bag]; exact body a b M Ex Q h
abbrev n_law_stream : List Str := ["source", "bag", "count", "found", "begin"]
theorem f_law_stream : FnScope n_law_stream ["source", "bag", "count"] (defScope s_law_stream) := ⟨rfl, rfl, rfl, by decide +kernel, rfl, by decide +kernel, by decide +kernel⟩
theorem t_law_stream (a b c : D) : startG n_law_stream [a, b, c] = ([("source", some a), ("bag", some b), ("count", some c), ("found", none), ("begin", none)] : List (Str × Option D)) := rfl
theorem k_law_stream {G : Glob} (o : Ok G) (k : Nat) {sp : D → D → D → Mem → XPost → (D → Mem → Prop) → Prop}
    (body : ∀ a b c M Ex Q, sp a b c M Ex Q → W G ⟨n_law_stream, defScope s_law_stream, k, []⟩ (defBody s_law_stream) [("source", some a), ("bag", some b), ("count", some c), ("found", none), ("begin", none)] M { nx := fun _ M2 => Dn Q .non M2, rt := Dn Q, ex := Ex }) :
    Cal G "_law_stream" (k + 1) (fun ds M Ex Q => ∃ a b c, ds = [a, b, c] ∧ sp a b c M Ex Q) :=
  Cal.of o.d_law_stream f_law_stream (fun _ _ _ _ ⟨_, _, _, e, _⟩ => by rw [e]; rfl) (fun _ _ F => F.bindsN fun _ _ _ _ _ _ us hl => match us, hl with | [_, _, _], _ => rfl)
    fun ds M Ex Q ⟨a, b, c, eq, h⟩ => by rw [eq, t_law_stream]; exact body a b c M Ex Q h
abbrev n_law_seen : List Str := ["source", "bag", "count", "found", "hide", "signs", "sign"]
theorem f_law_seen : FnScope n_law_seen ["source", "bag", "count"] (defScope s_law_seen) := ⟨rfl, rfl, rfl, by decide +kernel, rfl, by decide +kernel, by decide +kernel⟩
theorem t_law_seen (a b c : D) : startG n_law_seen [a, b, c] = ([("source", some a), ("bag", some b), ("count", some c), ("found", none), ("hide", none), ("signs", none), ("sign", none)] : List (Str × Option D)) := rfl
theorem k_law_seen {G : Glob} (o : Ok G) (k : Nat) {sp : D → D → D → Mem → XPost → (D → Mem → Prop) → Prop}
    (body : ∀ a b c M Ex Q, sp a b c M Ex Q → W G ⟨n_law_seen, defScope s_law_seen, k, []⟩ (defBody s_law_seen) [("source", some a), ("bag", some b), ("count", some c), ("found", none), ("hide", none), ("signs", none), ("sign", none)] M { nx := fun _ M2 => Dn Q .non M2, rt := Dn Q, ex := Ex }) :
    Cal G "_law_seen" (k + 1) (fun ds M Ex Q => ∃ a b c, ds = [a, b, c] ∧ sp a b c M Ex Q) :=
  Cal.of o.d_law_seen f_law_seen (fun _ _ _ _ ⟨_, _, _, e, _⟩ => by rw [e]; rfl) (fun _ _ F => F.bindsN fun _ _ _ _ _ _ us hl => match us, hl with | [_, _, _], _ => rfl)
    fun ds M Ex Q ⟨a, b, c, eq, h⟩ => by rw [eq, t_law_seen]; exact body a b c M Ex Q h
abbrev n_law_good : List Str := ["size", "line", "start", "seen", "place", "sign", "key"]
theorem f_law_good : FnScope n_law_good ["size", "line", "start"] (defScope s_law_good) := ⟨rfl, rfl, rfl, by decide +kernel, rfl, by decide +kernel, by decide +kernel⟩
theorem t_law_good (a b c : D) : startG n_law_good [a, b, c] = ([("size", some a), ("line", some b), ("start", some c), ("seen", none), ("place", none), ("sign", none), ("key", none)] : List (Str × Option D)) := rfl
theorem k_law_good {G : Glob} (o : Ok G) (k : Nat) {sp : D → D → D → Mem → XPost → (D → Mem → Prop) → Prop}
    (body : ∀ a b c M Ex Q, sp a b c M Ex Q → W G ⟨n_law_good, defScope s_law_good, k, []⟩ (defBody s_law_good) [("size", some a), ("line", some b), ("start", some c), ("seen", none), ("place", none), ("sign", none), ("key", none)] M { nx := fun _ M2 => Dn Q .non M2, rt := Dn Q, ex := Ex }) :
    Cal G "_law_good" (k + 1) (fun ds M Ex Q => ∃ a b c, ds = [a, b, c] ∧ sp a b c M Ex Q) :=
  Cal.of o.d_law_good f_law_good (fun _ _ _ _ ⟨_, _, _, e, _⟩ => by rw [e]; rfl) (fun _ _ F => F.bindsN fun _ _ _ _ _ _ us hl => match us, hl with | [_, _, _], _ => rfl)
    fun ds M Ex Q ⟨a, b, c, eq, h⟩ => by rw [eq, t_law_good]; exact body a b c M Ex Q h
abbrev n_law_starts : List Str := ["size", "line", "start"]
theorem f_law_starts : FnScope n_law_starts ["size", "line"] (defScope s_law_starts) := ⟨rfl, rfl, rfl, by decide +kernel, rfl, by decide +kernel, by decide +kernel⟩
theorem t_law_starts (a b : D) : startG n_law_starts [a, b] = ([("size", some a), ("line", some b), ("start", none)] : List (Str × Option D)) := rfl
theorem k_law_starts {G : Glob} (o : Ok G) (k : Nat) {sp : D → D → Mem → XPost → (D → Mem → Prop) → Prop}
    (body : ∀ a b M Ex Q, sp a b M Ex Q → W G ⟨n_law_starts, defScope s_law_starts, k, []⟩ (defBody s_law_starts) [("size", some a), ("line", some b), ("start", none)] M { nx := fun _ M2 => Dn Q .non M2, rt := Dn Q, ex := Ex }) :
    Cal G "_law_starts" (k + 1) (fun ds M Ex Q => ∃ a b, ds = [a, b] ∧ sp a b M Ex Q) :=
  Cal.of o.d_law_starts f_law_starts (fun _ _ _ _ ⟨_, _, e, _⟩ => by rw [e]; rfl) (fun _ _ F => F.bindsN fun _ _ _ _ _ _ us hl => match us, hl with | [_, _], _ => rfl)
    fun ds M Ex Q ⟨a, b, eq, h⟩ => by rw [eq, t_law_starts]; exact body a b M Ex Q h
abbrev n_law_agree : List Str := ["bag", "line", "more", "found", "place", "signs", "longer", "past", "sign"]
theorem f_law_agree : FnScope n_law_agree ["bag", "line", "more"] (defScope s_law_agree) := ⟨rfl, rfl, rfl, by decide +kernel, rfl, by decide +kernel, by decide +kernel⟩
theorem t_law_agree (a b c : D) : startG n_law_agree [a, b, c] = ([("bag", some a), ("line", some b), ("more", some c), ("found", none), ("place", none), ("signs", none), ("longer", none), ("past", none), ("sign", none)] : List (Str × Option D)) := rfl
theorem k_law_agree {G : Glob} (o : Ok G) (k : Nat) {sp : D → D → D → Mem → XPost → (D → Mem → Prop) → Prop}
    (body : ∀ a b c M Ex Q, sp a b c M Ex Q → W G ⟨n_law_agree, defScope s_law_agree, k, []⟩ (defBody s_law_agree) [("bag", some a), ("line", some b), ("more", some c), ("found", none), ("place", none), ("signs", none), ("longer", none), ("past", none), ("sign", none)] M { nx := fun _ M2 => Dn Q .non M2, rt := Dn Q, ex := Ex }) :
    Cal G "_law_agree" (k + 1) (fun ds M Ex Q => ∃ a b c, ds = [a, b, c] ∧ sp a b c M Ex Q) :=
  Cal.of o.d_law_agree f_law_agree (fun _ _ _ _ ⟨_, _, _, e, _⟩ => by rw [e]; rfl) (fun _ _ F => F.bindsN fun _ _ _ _ _ _ us hl => match us, hl with | [_, _, _], _ => rfl)
    fun ds M Ex Q ⟨a, b, c, eq, h⟩ => by rw [eq, t_law_agree]; exact body a b c M Ex Q h
abbrev n_law : List Str := ["script", "k", "source", "bag", "line", "every", "sign", "turn", "places", "seen", "at", "low", "high", "one"]
theorem f_law : FnScope n_law ["script"] (defScope s_law) := ⟨rfl, rfl, rfl, by decide +kernel, rfl, by decide +kernel, by decide +kernel⟩
theorem t_law (a : D) : startG n_law [a] = ([("script", some a), ("k", none), ("source", none), ("bag", none), ("line", none), ("every", none), ("sign", none), ("turn", none), ("places", none), ("seen", none), ("at", none), ("low", none), ("high", none), ("one", none)] : List (Str × Option D)) := rfl
theorem k_law {G : Glob} (o : Ok G) (k : Nat) {sp : D → Mem → XPost → (D → Mem → Prop) → Prop}
    (body : ∀ a M Ex Q, sp a M Ex Q → W G ⟨n_law, defScope s_law, k, []⟩ (defBody s_law) [("script", some a), ("k", none), ("source", none), ("bag", none), ("line", none), ("every", none), ("sign", none), ("turn", none), ("places", none), ("seen", none), ("at", none), ("low", none), ("high", none), ("one", none)] M { nx := fun _ M2 => Dn Q .non M2, rt := Dn Q, ex := Ex }) :
    Cal G "law" (k + 1) (fun ds M Ex Q => ∃ a, ds = [a] ∧ sp a M Ex Q) :=
  Cal.of o.d_law f_law (fun _ _ _ _ ⟨_, e, _⟩ => by rw [e]; rfl) (fun _ _ F => F.bindsN fun _ _ _ _ _ _ us hl => match us, hl with | [_], _ => rfl)
    fun ds M Ex Q ⟨a, eq, h⟩ => by rw [eq, t_law]; exact body a M Ex Q h
end Row
namespace Row
open PySem PySem.Spec PyProof.Rows L2 Dl
section
local macro_rules | `(tactic| walk_at "look") => `(tactic| first | with_reducible exact Look.here | (with_reducible apply Look.there; walk_at "look") | exact Look.here | (apply Look.there; walk_at "look"))
local macro_rules | `(tactic| walk_at "upd") => `(tactic| first | with_reducible exact Upd.here | (with_reducible apply Upd.there; walk_at "upd") | exact Upd.here | (apply Upd.there; walk_at "upd"))
local macro_rules | `(tactic| walk_at "xwa") => `(tactic| first
  | refine W.par2 ?_
  | refine W.par2N ?_
  | refine W.set ?_
  | refine W.asg ?_)
local macro_rules | `(tactic| walk_at "xw") => `(tactic| first
  | ((refine W.idA ?_; walk_at "xwa"))
  | refine W.nil ?_
  | refine W.ite ?_
  | refine W.ret ?_
  | refine W.expr ?_)
local macro_rules | `(tactic| walk_at "xt") => `(tactic| first
  | refine T.bool ?_
  | refine T.not ?_
  | refine T.chain ?_
  | refine T.cmp ?_
  | refine T.val ?_)
local macro_rules | `(tactic| walk_at "xtb") => `(tactic| first
  | refine TB.or ?_
  | refine TB.and ?_
  | refine TB.or1 ?_
  | refine TB.and1 ?_)
local macro_rules | `(tactic| walk_at "xa") => `(tactic| first
  | refine A.cons ?_
  | refine A.nil ?_)
local macro_rules | `(tactic| walk_at "xn") => `(tactic| first
  | refine E.var (by walk_at "look") ?_
  | ((with_reducible refine E.idN (x := "enumerate") ?_); refine E.ty (Ok.b_enumerate (by assumption)) bb_enumerate ?_)
  | ((with_reducible refine E.idN (x := "int") ?_); refine E.ty (Ok.b_int (by assumption)) bb_int ?_)
  | ((with_reducible refine E.idN (x := "list") ?_); refine E.ty (Ok.b_list (by assumption)) bb_list ?_)
  | ((with_reducible refine E.idN (x := "range") ?_); refine E.ty (Ok.b_range (by assumption)) bb_range ?_)
  | ((with_reducible refine E.idN (x := "set") ?_); refine E.ty (Ok.b_set (by assumption)) bb_set ?_)
  | ((with_reducible refine E.idN (x := "str") ?_); refine E.ty (Ok.b_str (by assumption)) bb_str ?_)
  | ((with_reducible refine E.idN (x := "tuple") ?_); refine E.ty (Ok.b_tuple (by assumption)) bb_tuple ?_)
  | ((with_reducible refine E.idN (x := "zip") ?_); refine E.ty (Ok.b_zip (by assumption)) bb_zip ?_)
  | ((with_reducible refine E.idN (x := "LETTERS") ?_); refine E.gstr (Ok.c_LETTERS (by assumption)) l_0 ?_)
  | ((with_reducible refine E.idN (x := "UNSEEN") ?_); refine E.gstr (Ok.c_UNSEEN (by assumption)) l_1 ?_)
  | ((with_reducible refine E.idN (x := "MOST_SIZE") ?_); refine E.gint (Ok.c_MOST_SIZE (by assumption)) ?_)
  | ((with_reducible refine E.idN (x := "MOST_DRAWS") ?_); refine E.gint (Ok.c_MOST_DRAWS (by assumption)) ?_))
local macro_rules | `(tactic| walk_at "xc") => `(tactic| first
  | ((with_reducible refine E.idC (x := "abs") ?_); refine E.callB (Ok.b_abs (by assumption)) bb_abs ?_)
  | ((with_reducible refine E.idC (x := "all") ?_); refine E.callB (Ok.b_all (by assumption)) bb_all ?_)
  | ((with_reducible refine E.idC (x := "enumerate") ?_); refine E.callTy (Ok.b_enumerate (by assumption)) bb_enumerate ?_)
  | ((with_reducible refine E.idC (x := "int") ?_); refine E.callTy (Ok.b_int (by assumption)) bb_int ?_)
  | ((with_reducible refine E.idC (x := "isinstance") ?_); refine E.callB (Ok.b_isinstance (by assumption)) bb_isinstance ?_)
  | ((with_reducible refine E.idC (x := "len") ?_); refine E.callB (Ok.b_len (by assumption)) bb_len ?_)
  | ((with_reducible refine E.idC (x := "list") ?_); refine E.callTy (Ok.b_list (by assumption)) bb_list ?_)
  | ((with_reducible refine E.idC (x := "max") ?_); refine E.callB (Ok.b_max (by assumption)) bb_max ?_)
  | ((with_reducible refine E.idC (x := "min") ?_); refine E.callB (Ok.b_min (by assumption)) bb_min ?_)
  | ((with_reducible refine E.idC (x := "range") ?_); refine E.callTy (Ok.b_range (by assumption)) bb_range ?_)
  | ((with_reducible refine E.idC (x := "set") ?_); refine E.callTy (Ok.b_set (by assumption)) bb_set ?_)
  | ((with_reducible refine E.idC (x := "str") ?_); refine E.callTy (Ok.b_str (by assumption)) bb_str ?_)
  | ((with_reducible refine E.idC (x := "tuple") ?_); refine E.callTy (Ok.b_tuple (by assumption)) bb_tuple ?_)
  | ((with_reducible refine E.idC (x := "zip") ?_); refine E.callTy (Ok.b_zip (by assumption)) bb_zip ?_))
local macro_rules | `(tactic| walk_at "xs_") => `(tactic| first
  | ((with_reducible refine E.idS (x := "abcdefghijklmnopqrstuvwxyz") ?_); refine E.str l_0 ?_)
  | ((with_reducible refine E.idS (x := ".") ?_); refine E.str l_1 ?_)
  | ((with_reducible refine E.idS (x := "") ?_); refine E.str l_2 ?_)
  | ((with_reducible refine E.idS (x := "not a bag") ?_); refine E.str l_3 ?_)
  | ((with_reducible refine E.idS (x := "not a row for the bag") ?_); refine E.str l_4 ?_)
  | ((with_reducible refine E.idS (x := "not a letter of the bag") ?_); refine E.str l_5 ?_)
  | ((with_reducible refine E.idS (x := "abc") ?_); refine E.str l_6 ?_)
  | ((with_reducible refine E.idS (x := "a") ?_); refine E.str l_7 ?_)
  | ((with_reducible refine E.idS (x := "aab") ?_); refine E.str l_8 ?_)
  | ((with_reducible refine E.idS (x := "c") ?_); refine E.str l_9 ?_))
local macro_rules | `(tactic| walk_at "xe") => `(tactic| first
  | ((refine E.idN ?_; walk_at "xn"))
  | ((refine E.idC ?_; walk_at "xc"))
  | ((refine E.idS ?_; walk_at "xs_"))
  | refine E.int ?_
  | refine E.bl ?_
  | refine E.non ?_
  | refine E.bin ?_
  | refine E.cmp ?_
  | refine E.chain ?_
  | refine E.not ?_
  | refine E.neg ?_
  | refine E.ife ?_
  | refine E.and ?_
  | refine E.or ?_
  | refine E.one ?_
  | refine E.append ?_
  | refine E.popAt ?_
  | refine E.join ?_
  | refine E.count ?_)
local macro_rules | `(tactic| walk_at "xo") => `(tactic| first
  | refine O2.add ?_
  | refine O2.sub ?_
  | refine O2.lt ?_
  | refine O2.le ?_
  | refine O2.gt ?_
  | refine O2.ge ?_)
local macro_rules | `(tactic| walk_at "x") => `(tactic| first
  | ((refine E.id_ ?_; walk_at "xe"))
  | ((refine A.id_ ?_; walk_at "xa"))
  | ((refine W.id_ ?_; walk_at "xw"))
  | ((refine T.id_ ?_; walk_at "xt"))
  | ((refine TB.id_ ?_; walk_at "xtb"))
  | ((refine O2.id_ ?_; walk_at "xo"))
  | refine Tg.sub ?_
  | refine Tg.name (by walk_at "upd") ?_
  | refine ⟨_, by walk_at "upd", ?_⟩
  | refine ⟨_, _, by walk_at "upd", by walk_at "upd", ?_⟩
  | refine ⟨.inl ⟨rfl, _, rfl⟩, ?_⟩
  | refine ⟨.inr ⟨rfl, _, .inr ⟨_, rfl, by assumption⟩⟩, ?_⟩
  | refine ⟨_, rfl, ?_⟩)
local macro_rules | `(tactic| walk_at "xs") => `(tactic| repeat walk_at "x")
variable {G : Glob}
theorem c_law_source (o : Ok G) : Cal G "_law_source" 3 (fun ds M Ex Q => ∃ a b, ds = [a, b] ∧ spSource a b M Ex Q) := by
  refine k_law_source o 2 fun a b M Ex Q ⟨ns, k, ea, eb, h0, h1, q⟩ => ?_
  subst ea eb
  have fin : ∀ cell : Int, 0 ≤ cell → ∀ st, st = ([("script", some (.lst (iL ns))), ("index", some (.int k)), ("cell", some (.int cell))] : Gm) → W G ⟨n_law_source, defScope s_law_source, 2, []⟩ ((defBody s_law_source).drop 2) st M { nx := fun _ M2 => Dn Q .non M2, rt := Dn Q, ex := Ex } := fun cell hc st est => by
    subst est
    walk_at "xs"
    refine O2.pow ⟨by decide, by decide, by decide⟩ ?_
    walk_at "xs"
    refine on_c (fun hb => ?_) fun hb => ?_
    · have hb : cell < 10 ^ 18 := of_decide_eq_true hb
      have e18 : (10 : Int) ^ 18 = 1000000000000000000 := by decide
      walk_at "xs"
      refine E.lstO ?_
      walk_at "xs"
      refine O2.mul (mulW (by omega) (by decide)) ?_
      walk_at "xs"
      refine O2.mul (mulW (by decide) (by omega)) ?_
      walk_at "xs"
      refine F1.intI ?_
      walk_at "xs"
      refine O2.mod (by decide) ?_
      walk_at "xs"
      exact ⟨by simp, fun p hp => .same (q p _ _ hp ⟨by decide, by omega, by omega⟩)⟩
    · walk_at "xs"
      refine E.lstO ?_
      walk_at "xs"
      refine F1.intI ?_
      walk_at "xs"
      refine O2.mod (by decide) ?_
      walk_at "xs"
      exact ⟨by simp, fun p hp => .same (q p _ _ hp ⟨hc, by omega, by omega⟩)⟩
  walk_at "xs"
  refine F1.lenL (.inl rfl) ?_
  walk_at "xs"
  refine on_c (fun hb => ?_) fun hb => ?_
  · have hb := of_decide_eq_true hb
    have hlt : k.toNat < ns.length := by
      have : (iL ns).length = ns.length := by unfold iL; simp
      omega
    walk_at "xs"
    refine E.ixL ?_
    walk_at "xs"
    refine ⟨iL ns, k, .int ns[k.toNat], .inl rfl, rfl, ?_, ?_⟩
    · have := atI_nat (iL ns) k.toNat
      rw [Int.toNat_of_nonneg h0] at this
      rw [this]
      unfold iL
      simp [hlt]
    refine A.nil (F1.abs ⟨_, by walk_at "upd", W.nil ?_⟩)
    exact fin _ (Int.natCast_nonneg _) _ rfl
  · refine W.nil ?_
    exact fin 0 (by decide) _ rfl
local macro_rules | `(tactic| walk_at "xc") => `(tactic| (with_reducible refine E.idC (x := "_law_source") ?_); refine E.call (c_law_source (by assumption)) (by decide) ?_)
theorem c_law_draw (o : Ok G) : Cal G "_law_draw" 3 (fun ds M Ex Q => ∃ a b, ds = [a, b] ∧ spDraw a b M Ex Q) := by
  refine k_law_draw o 2 fun a b M Ex Q ⟨p, k, ea, eb, ⟨big, seed, hp, h0, h1, h2⟩, hk, hk2, q⟩ => ?_
  subst ea eb
  walk_at "xs"
  refine E.ixL ?_
  walk_at "xs"
  refine ⟨_, 0, _, .inr ⟨p, rfl, hp⟩, rfl, rfl, ?_⟩
  walk_at "xs"
  refine on_c (fun hb => ?_) fun hb => ?_
  · have hb := of_decide_eq_true hb
    walk_at "xs"
    refine E.ixL ?_
    walk_at "xs"
    refine ⟨_, 0, _, .inr ⟨p, rfl, hp⟩, rfl, rfl, ?_⟩
    walk_at "xs"
    refine F1.intI ?_
    walk_at "xs"
    refine O2.mod (by omega) ?_
    walk_at "xs"
    refine E.ixL ?_
    walk_at "xs"
    refine ⟨_, 0, _, .inr ⟨p, rfl, hp⟩, rfl, rfl, ?_⟩
    walk_at "xs"
    refine O2.fdiv (divW (by omega) (by omega)) ?_
    walk_at "xs"
    refine ⟨p, _, 0, 0, rfl, hp, rfl, rfl, ?_⟩
    walk_at "xs"
    refine .same (q _ _ (Int.emod_nonneg _ (by omega)) (Int.emod_lt_of_pos _ (by omega)) ⟨big / k, seed, ⟨Int.ediv_nonneg h0 (by omega), h1, h2⟩, rfl⟩)
  · walk_at "xs"
    refine E.ixL ?_
    walk_at "xs"
    refine ⟨_, 1, _, .inr ⟨p, rfl, hp⟩, rfl, rfl, ?_⟩
    walk_at "xs"
    refine O2.mul (mulW (by omega) (by decide)) ?_
    walk_at "xs"
    refine F1.intI ?_
    walk_at "xs"
    refine O2.mod (by decide) ?_
    walk_at "xs"
    refine ⟨p, _, 1, 1, rfl, hp, rfl, rfl, ?_⟩
    have hp2 : mset M p (.lst ([D.int big, D.int seed].set 1 (.int (seed * 48271 % 2147483647)))) p = some (srcL big (seed * 48271 % 2147483647)) := mset_same
    have r1 : 0 ≤ seed * 48271 % 2147483647 := by omega
    have r2 : seed * 48271 % 2147483647 < 2147483647 := by omega
    generalize seed * 48271 % 2147483647 = sd at hp2 r1 r2
    walk_at "xs"
    refine E.ixL ?_
    walk_at "xs"
    refine ⟨_, 1, _, .inr ⟨p, rfl, hp2⟩, rfl, rfl, ?_⟩
    walk_at "xs"
    refine E.ixL ?_
    walk_at "xs"
    refine ⟨_, 1, _, .inr ⟨p, rfl, hp2⟩, rfl, rfl, ?_⟩
    refine O2.mul (mulW (by omega) (by omega)) ?_
    walk_at "xs"
    refine F1.intI ?_
    walk_at "xs"
    refine O2.mod (by decide) ?_
    walk_at "xs"
    refine O2.fdiv (divW (by decide) (by decide)) ?_
    walk_at "xs"
    refine F1.intI ?_
    walk_at "xs"
    refine O2.mod (by omega) ?_
    exact .same (q _ _ (Int.emod_nonneg _ (by omega)) (Int.emod_lt_of_pos _ (by omega)) ⟨big, sd, ⟨h0, r1, r2⟩, rfl⟩)
local macro_rules | `(tactic| walk_at "xc") => `(tactic| (with_reducible refine E.idC (x := "_law_draw") ?_); refine E.call (c_law_draw (by assumption)) (by decide) ?_)
theorem c_law_choice (o : Ok G) : Cal G "_law_choice" 6 (fun ds M Ex Q => ∃ a b, ds = [a, b] ∧ spChoice a b M Ex Q) := by
  refine k_law_choice o 5 fun a b M Ex Q ⟨p, ds, ea, eb, hs, h0, h1, q⟩ => ?_
  subst ea
  have at_ : ∀ (k : Int) M', 0 ≤ k → k < (ds.length : Int) → Drawn p M M' → ∃ e, atI ds k = some e ∧ Q e M' := fun k M' h2 h3 dr => by
    have hlt : k.toNat < ds.length := by omega
    refine ⟨ds[k.toNat], ?_, q _ _ (List.getElem_mem hlt) dr⟩
    have := atI_nat ds k.toNat
    rw [Int.toNat_of_nonneg h2] at this
    rw [this, List.getElem?_eq_getElem hlt]
  rcases eb with rfl | rfl | ⟨r, rfl, hr, hm⟩
  · refine W.ret (E.ixL ?_)
    walk_at "xs"
    refine F1.lenL (.inl rfl) ?_
    walk_at "xs"
    refine ⟨_, _, rfl, p, _, rfl, rfl, hs, by omega, by omega, fun k M' h2 h3 dr => ?_⟩
    obtain ⟨e, h4, h5⟩ := at_ k M' h2 h3 dr
    exact ⟨ds, k, e, .inl rfl, rfl, h4, .same h5⟩
  · refine W.ret (E.ixT ?_)
    walk_at "xs"
    refine F1.lenT ?_
    walk_at "xs"
    refine ⟨_, _, rfl, p, _, rfl, rfl, hs, by omega, by omega, fun k M' h2 h3 dr => ?_⟩
    obtain ⟨e, h4, h5⟩ := at_ k M' h2 h3 dr
    exact ⟨ds, k, e, rfl, rfl, h4, .same h5⟩
  · refine W.ret (E.ixL ?_)
    walk_at "xs"
    refine F1.lenL (.inr ⟨r, rfl, hm⟩) ?_
    walk_at "xs"
    refine ⟨_, _, rfl, p, _, rfl, rfl, hs, by omega, by omega, fun k M' h2 h3 dr => ?_⟩
    obtain ⟨e, h4, h5⟩ := at_ k M' h2 h3 dr
    exact ⟨ds, k, e, .inr ⟨r, rfl, by rw [dr.ne hr]; exact hm⟩, rfl, h4, .same h5⟩
local macro_rules | `(tactic| walk_at "xc") => `(tactic| (with_reducible refine E.idC (x := "_law_choice") ?_); refine E.call (c_law_choice (by assumption)) (by decide) ?_)
theorem c_law_mixed (o : Ok G) : Cal G "_law_mixed" 6 (fun ds M Ex Q => ∃ a b, ds = [a, b] ∧ spMixed a b M Ex Q) := by
  refine k_law_mixed o 5 fun a b M Ex Q ⟨p, ds, ea, eb, hs, hd, h1, q⟩ => ?_
  subst ea
  walk_at "xs"
  refine F1.listL eb fun p1 hp1 => ?_
  refine E.lstO ?_
  refine A.nil ⟨by simp, fun p2 hp2 => ?_⟩
  have n12 : p2 ≠ p1 := fun z => by rw [z, mset_same] at hp2; cases hp2
  have hp2' : M p2 = none := by rw [mset_ne n12] at hp2; exact hp2
  have n1 := hs.ne hp1
  have n2 := hs.ne hp2'
  walk_at "xs"
  refine W.while_ (fun m Γ' M' => Γ' = ([("source", some (.adr p)), ("items", some b), ("left", some (.adr p1)), ("found", some (.adr p2))] : Gm) ∧ ∃ l f, M' p1 = some (.lst l) ∧ M' p2 = some (.lst f) ∧ (f ++ l).Perm ds ∧ m = l.length ∧ SrcM p M' ∧ ∀ q m, q ≠ p → M q = some m → M' q = some m)
    ⟨_, rfl, ds, [], by rw [mset_ne (Ne.symm n12)]; exact mset_same, mset_same, .refl _, rfl, (hs.new hp1).new hp2, fun q m _ h => by
      rw [mset_ne (ne_key hp2' h), mset_ne (ne_key hp1 h)]
      exact h⟩ ?_
  rintro m Γ' M' ⟨rfl, l, f, hl, hf, hpm, rfl, hs', kp⟩
  have hlen : l.length ≤ 1000 := by
    have := hpm.length_eq
    rw [List.length_append] at this
    omega
  have hflen : f.length ≤ 1000 := by
    have := hpm.length_eq
    rw [List.length_append] at this
    omega
  have hshp : ∀ d ∈ l, ShpN 3 d := fun d h => hd d (hpm.mem_iff.mp (List.mem_append_right _ h))
  walk_at "xs"
  refine E.lst ?_
  refine A.nil ⟨by simp, ?_⟩
  refine O2.neM (.inr ⟨p1, l, rfl, hl, rfl⟩) (.inl rfl) (ShpN.lst hshp).shp (ShpN.lst (k := 0) (fun d h => absurd h List.not_mem_nil)).shp ⟨_, rfl, ?_⟩
  rw [dEq_nil]
  cases l with
  | nil =>
    refine on_f rfl ?_
    walk_at "xs"
    refine F1.tupL (.inl (.inr ⟨p2, rfl, hf⟩)) ?_
    exact Drawn.dn hs' kp fun M2 dr => q f M2 (by rw [List.append_nil] at hpm; exact hpm) dr
  | cons x l =>
    refine on_t rfl ?_
    walk_at "xs"
    refine F1.lenL (.inr ⟨p1, rfl, hl⟩) ?_
    walk_at "xs"
    refine ⟨_, _, rfl, p, _, rfl, rfl, hs', by simp; omega, by omega, fun d M2 h0 hlt dr => ?_⟩
    have hl2 : M2 p1 = some (.lst (x :: l)) := by rw [dr.ne n1]; exact hl
    have hf2 : M2 p2 = some (.lst f) := by rw [dr.ne n2]; exact hf
    have hlt' : d.toNat < (x :: l).length := by omega
    refine ⟨p1, _, d, (x :: l)[d.toNat], rfl, rfl, hl2, h0, by omega, List.getElem?_eq_getElem hlt', ?_⟩
    refine ⟨p2, f, rfl, by rw [mset_ne n12]; exact hf2, by omega, ?_⟩
    refine W.nil ⟨_, ?_, rfl, (x :: l).eraseIdx d.toNat, f ++ [(x :: l)[d.toNat]], by rw [mset_ne (Ne.symm n12)]; exact mset_same, mset_same, ?_, rfl, (dr.src.set n1).set n2, fun q m hq h => ?_⟩
    · rw [List.length_eraseIdx_of_lt hlt']
      simp
    · refine List.Perm.trans ?_ hpm
      rw [List.append_assoc]
      refine List.Perm.append_left _ ?_
      exact perm_erase hlt'
    · rw [mset_ne (ne_key hp2' h), mset_ne (ne_key hp1 h), dr.ne hq]
      exact kp q m hq h
local macro_rules | `(tactic| walk_at "xc") => `(tactic| (with_reducible refine E.idC (x := "_law_mixed") ?_); refine E.call (c_law_mixed (by assumption)) (by decide) ?_)
theorem c_law_bag (o : Ok G) : Cal G "_law_bag" 6 (fun ds M Ex Q => ∃ a b, ds = [a, b] ∧ spBag a b M Ex Q) := by
  refine k_law_bag o 5 fun a b M Ex Q ⟨p, k, ea, eb, hs, h0, h1, q⟩ => ?_
  subst ea eb
  have abl : abcL.length = 26 := by decide
  walk_at "xs"
  refine F1.listS (by rw [abl]; decide) fun p1 hp1 => ?_
  have n1 := hs.ne hp1
  walk_at "xs"
  refine ⟨_, _, rfl, p, _, rfl, rfl, hs.new hp1, by omega, by omega, fun d M2 hd0 hd1 dr => ?_⟩
  walk_at "xs"
  refine W.while_ (fun m Γ' M' => Γ' = ([("source", some (.adr p)), ("size", some (.int k)), ("signs", some (.adr p1)), ("count", some (.int (2 + d)))] : Gm) ∧ ∃ l, l.Sublist abcL ∧ M' p1 = some (.lst (sgL l)) ∧ 2 + d ≤ (l.length : Int) ∧ m = l.length ∧ SrcM p M' ∧ ∀ q m, q ≠ p → M q = some m → M' q = some m)
    ⟨_, rfl, abcL, .refl _, by rw [dr.ne n1]; exact mset_same, by omega, rfl, dr.src, fun q m hq h => by rw [dr.ne hq, mset_ne (ne_key hp1 h)]; exact h⟩ ?_
  rintro m Γ' M' ⟨rfl, l, hsub, hl, hge, rfl, hs', kp⟩
  have hle : l.length ≤ 26 := by
    have := hsub.length_le
    omega
  walk_at "xs"
  refine F1.lenL (.inr ⟨p1, rfl, hl⟩) ?_
  rw [sgL_length]
  walk_at "xs"
  refine on_c (fun hb => ?_) fun hb => ?_
  · have hb := of_decide_eq_true hb
    walk_at "xs"
    refine F1.lenL (.inr ⟨p1, rfl, hl⟩) ?_
    rw [sgL_length]
    walk_at "xs"
    refine ⟨_, _, rfl, p, _, rfl, rfl, hs', by omega, by omega, fun e M3 he0 he1 dr3 => ?_⟩
    have hl3 : M3 p1 = some (.lst (sgL l)) := by rw [dr3.ne n1]; exact hl
    have hlt : e.toNat < l.length := by omega
    refine ⟨p1, _, e, .str [l[e.toNat]], rfl, rfl, hl3, he0, by rw [sgL_length]; omega, sgL_at hlt, ?_⟩
    rw [sgL_erase]
    have hel := List.length_eraseIdx_of_lt hlt
    refine W.nil ⟨_, by rw [hel]; omega, rfl, l.eraseIdx e.toNat, (List.eraseIdx_sublist _ _).trans hsub, mset_same, by omega, rfl, dr3.src.set n1, fun q m hq h => ?_⟩
    rw [mset_ne (ne_key hp1 h), dr3.ne hq]
    exact kp q m hq h
  · have hb := of_decide_eq_false hb
    walk_at "xs"
    refine ⟨l.map fun c => [c], rfl, .inl (.inr ⟨p1, rfl, by rw [← sgL_eq]; exact hl⟩), by rw [one_sum]; omega, ?_⟩
    rw [one_flat]
    exact Drawn.dn hs' kp fun M2 dr2 => q l M2 ⟨hsub, by omega, by omega⟩ dr2
local macro_rules | `(tactic| walk_at "xc") => `(tactic| (with_reducible refine E.idC (x := "_law_bag") ?_); refine E.call (c_law_bag (by assumption)) (by decide) ?_)
theorem c_law_stream (o : Ok G) : Cal G "_law_stream" 9 (fun ds M Ex Q => ∃ a b c, ds = [a, b, c] ∧ spStream a b c M Ex Q) := by
  refine k_law_stream o 8 fun a b c M Ex Q ⟨p, bag, n, ea, eb, ec, hs, h0, h1, hasc, hn, q⟩ => ?_
  subst ea eb ec
  walk_at "xs"
  refine F1.lenS (by omega) ?_
  walk_at "xs"
  refine ⟨_, _, rfl, p, _, rfl, rfl, hs, by omega, by omega, fun b M2 hb0 hb1 dr => ?_⟩
  walk_at "xs"
  refine W.while_ (fun m Γ' M' => ∃ ps : List (List Nat), (∀ q ∈ ps, q.Perm bag) ∧ ps.flatten.length ≤ 1500 ∧ Γ' = ([("source", some (.adr p)), ("bag", some (.str bag)), ("count", some (.int n)), ("found", some (.str ps.flatten)), ("begin", some (.int b))] : Gm) ∧ m = 1500 - ps.flatten.length ∧ SrcM p M' ∧ ∀ q m, q ≠ p → M q = some m → M' q = some m)
    ⟨_, [], fun _ h => absurd h List.not_mem_nil, by simp, rfl, rfl, dr.src, fun q m hq h => by rw [dr.ne hq]; exact h⟩ ?_
  rintro m Γ' M' ⟨ps, hps, hl, rfl, rfl, hs', kp⟩
  walk_at "xs"
  refine F1.lenS (by omega) ?_
  walk_at "xs"
  refine on_c (fun hb => ?_) fun hb => ?_
  · have hb := of_decide_eq_true hb
    walk_at "xs"
    refine F1.listS (by omega) fun p1 hp1 => ?_
    walk_at "xs"
    refine ⟨_, _, rfl, p, sgL bag, rfl, .inl (.inr ⟨p1, rfl, mset_same⟩), hs'.new hp1, fun d h => (shp_sgL hasc d h).mono (by decide), by rw [sgL_length]; omega, fun ds' M3 hpm dr3 => ?_⟩
    obtain ⟨l', hl', rfl⟩ := sgL_perm hpm
    have hlen := hl'.length_eq
    refine ⟨l'.map fun c => [c], rfl, .inr (by rw [← sgL_eq]), by rw [one_sum]; omega, ?_⟩
    rw [one_flat]
    refine O2.addS (by omega) ?_
    walk_at "xs"
    have e : ps.flatten ++ l' = (ps ++ [l']).flatten := by simp
    have e2 : (ps ++ [l']).flatten.length = ps.flatten.length + bag.length := by rw [← e, List.length_append, hlen]
    rw [e]
    refine ⟨_, ?_, ps ++ [l'], fun q hq => ?_, ?_, rfl, rfl, dr3.src, fun q m hq h => ?_⟩
    · rw [e2]; omega
    · rcases List.mem_append.mp hq with h | h
      · exact hps q h
      · rw [List.mem_singleton.mp h]; exact hl'
    · rw [e2]; omega
    · rw [dr3.ne hq, mset_ne (ne_key hp1 (kp q m hq h))]
      exact kp q m hq h
  · have hb := of_decide_eq_false hb
    walk_at "xs"
    refine E.slS ?_
    walk_at "xs"
    refine OI.some_ ?_
    walk_at "xs"
    refine OI.some_ ?_
    walk_at "xs"
    refine ⟨by omega, ?_⟩
    rw [cut_twoI _ hb0 (by omega)]
    refine Drawn.dn hs' kp fun M2 dr2 => q _ M2 ⟨ps, b.toNat, hps, by omega, by omega, ?_⟩ dr2
    congr 1
    omega
local macro_rules | `(tactic| walk_at "xc") => `(tactic| (with_reducible refine E.idC (x := "_law_stream") ?_); refine E.call (c_law_stream (by assumption)) (by decide) ?_)
theorem c_law_seen (o : Ok G) : Cal G "_law_seen" 12 (fun ds M Ex Q => ∃ a b c, ds = [a, b, c] ∧ spSeen a b c M Ex Q) := by
  refine k_law_seen o 11 fun a b c M Ex Q ⟨p, bag, n, ea, eb, ec, hs, h0, h1, hasc, hn, q⟩ => ?_
  subst ea eb ec
  walk_at "xs"
  refine ⟨_, _, _, rfl, p, bag, n, rfl, rfl, rfl, hs, h0, h1, hasc, hn, fun line M1 st dr1 => ?_⟩
  have hlen := st.length
  walk_at "xs"
  refine E.lst ?_
  walk_at "xs"
  refine ⟨by simp, ?_⟩
  walk_at "xs"
  refine ⟨_, _, rfl, p, _, rfl, .inl rfl, dr1.src, by simp, by simp, fun hd M2 hm dr2 => ?_⟩
  have hh : ∃ h : Int, hd = .int h := by
    simp at hm
    rcases hm with rfl | rfl | rfl | rfl <;> exact ⟨_, rfl⟩
  obtain ⟨h, rfl⟩ := hh
  have dr2 := dr1.trans dr2
  refine ⟨_, by walk_at "upd", ?_⟩
  refine W.lc0 [("sign", 6)] (I1.str ?_)
  walk_at "xs"
  refine ⟨size1000' (by rw [sgL_length]; omega), fun i acc M' => ∃ l : List Nat, acc = sgL l ∧ l.length = i ∧ (∀ x ∈ l, x = 46 ∨ x ∈ bag) ∧ Drawn p M M', ⟨[], rfl, rfl, fun _ h => absurd h List.not_mem_nil, dr2⟩, fun _ _ _ _ => trivial, ?_, ?_⟩
  · rintro i d acc M' hd ⟨l, rfl, rfl, hl, dr⟩
    obtain ⟨c, hc, rfl⟩ := sgL_get hd
    have hcb := st.mem (List.mem_of_getElem? hc)
    refine TgB.name (by walk_at "upd") ?_
    refine on_t rfl ?_
    walk_at "xs"
    refine ⟨_, _, rfl, p, _, rfl, rfl, dr.src, by omega, by omega, fun e M3 he0 he1 dr3 => ?_⟩
    walk_at "xs"
    have key : ∀ z : Nat, (z = 46 ∨ z ∈ bag) → ∃ l' : List Nat, sgL l ++ [D.str [z]] = sgL l' ∧ l'.length = l.length + 1 ∧ (∀ x ∈ l', x = 46 ∨ x ∈ bag) ∧ Drawn p M M3 := fun z hz =>
      ⟨l ++ [z], by simp [sgL], by simp, fun x hx => (List.mem_append.mp hx).elim (hl x) fun h => by rw [List.mem_singleton.mp h]; exact hz, dr.trans dr3⟩
    refine on_c (fun hb => ?_) fun hb => ?_
    · walk_at "xs"
      exact key c (.inr hcb)
    · walk_at "xs"
      exact key 46 (.inl rfl)
  · rintro acc M' ⟨l, rfl, hll, hl, dr⟩ p1 hp1
    rw [sgL_length] at hll
    have n1 := dr.src.ne hp1
    have hM : M p1 = none := by rw [dr.ne n1] at hp1; exact hp1
    have hasc2 : ∀ x ∈ l, x < 128 := fun x hx => (hl x hx).elim (fun e => by rw [e]; decide) fun e => hasc x e
    -- the end, for a list of such signs
    have fin : ∀ (l2 : List Nat) (M5 : Mem), l2.length = n → (∀ x ∈ l2, x = 46 ∨ x ∈ bag) → M5 p1 = some (.lst (sgL l2)) → SrcM p M5 → (∀ q m, q ≠ p → M q = some m → M5 q = some m) →
        W G ⟨n_law_seen, defScope s_law_seen, 11, []⟩ ((defBody s_law_seen).drop 4) [("source", some (.adr p)), ("bag", some (.str bag)), ("count", some (.int n)), ("found", some (.str line)), ("hide", some (.int h)), ("signs", some (.adr p1)), ("sign", none)] M5 { nx := fun _ M2 => Dn Q .non M2, rt := Dn Q, ex := Ex } := fun l2 M5 h2 h3 h4 h5 h6 => by
      walk_at "xs"
      refine ⟨l2.map fun c => [c], rfl, .inl (.inr ⟨p1, rfl, by rw [← sgL_eq]; exact h4⟩), by rw [one_sum]; omega, ?_⟩
      rw [one_flat]
      exact Drawn.dn h5 h6 fun M2 dr2 => q l2 M2 h2 h3 dr2
    refine ⟨_, by walk_at "upd", ?_⟩
    have hl1 : mset M' p1 (.lst (sgL l)) p1 = some (.lst (sgL l)) := mset_same
    have kp : ∀ q m, q ≠ p → M q = some m → mset M' p1 (.lst (sgL l)) q = some m := fun q m hq h => by rw [mset_ne (ne_key hM h), dr.ne hq]; exact h
    have hs1 := dr.src.new (m := .lst (sgL l)) hp1
    generalize mset M' p1 (.lst (sgL l)) = M4 at hl1 kp hs1 ⊢
    walk_at "xs"
    refine E.lst ?_
    refine A.nil ⟨by simp, ?_⟩
    refine O2.neM (.inr ⟨p1, _, rfl, hl1, rfl⟩) (.inl rfl) (ShpN.lst (shp_sgL hasc2)).shp (ShpN.lst (k := 0) (fun d h => absurd h List.not_mem_nil)).shp ⟨_, rfl, ?_⟩
    rw [dEq_nil]
    refine on_c (fun hb => ?_) fun hb => ?_
    · have hpos : 0 < l.length := by
        cases l with
        | nil => cases hb
        | cons => simp
      walk_at "xs"
      refine ⟨_, _, rfl, p, _, rfl, rfl, hs1, by omega, by omega, fun e M3 he0 he1 dr3 => ?_⟩
      have hl3 : M3 p1 = some (.lst (sgL l)) := by rw [dr3.ne n1]; exact hl1
      have kp3 : ∀ q m, q ≠ p → M q = some m → M3 q = some m := fun q m hq h => by rw [dr3.ne hq]; exact kp q m hq h
      walk_at "xs"
      refine O2.eq (ShpN.int.shp) (ShpN.int.shp) ⟨_, rfl, ?_⟩
      refine on_c (fun hb => ?_) fun hb => ?_
      · walk_at "xs"
        refine F1.listS (by omega) fun p2 hp2 => ?_
        have n21 : p1 ≠ p2 := fun z => by rw [← z, hl3] at hp2; cases hp2
        have hs5 := dr3.src.new (m := .lst (sgL bag)) hp2
        walk_at "xs"
        refine ⟨_, _, rfl, p, sgL bag, rfl, .inr (.inr ⟨p2, rfl, dr3.src.ne hp2, mset_same⟩), hs5, by rw [sgL_length]; omega, by rw [sgL_length]; omega, fun d M6 hd dr6 => ?_⟩
        have hz : ∃ z ∈ bag, d = .str [z] := by
          unfold sgL at hd
          obtain ⟨z, hz, rfl⟩ := List.mem_map.mp hd
          exact ⟨z, hz, rfl⟩
        obtain ⟨z, hzb, rfl⟩ := hz
        have hl6 : M6 p1 = some (.lst (sgL l)) := by rw [dr6.ne n1, mset_ne n21]; exact hl3
        walk_at "xs"
        refine F1.lenL (.inr ⟨p1, rfl, hl6⟩) ?_
        rw [sgL_length]
        walk_at "xs"
        refine ⟨_, _, rfl, p, _, rfl, rfl, dr6.src, by omega, by omega, fun k M7 hk0 hk1 dr7 => ?_⟩
        have hl7 : M7 p1 = some (.lst (sgL l)) := by rw [dr7.ne n1]; exact hl6
        have hset : (sgL l).set k.toNat (.str [z]) = sgL (l.set k.toNat z) := by
          unfold sgL
          rw [List.map_set]
        refine ⟨p1, _, k, k.toNat, rfl, hl7, rfl, ?_, ?_⟩
        · rw [sgL_length]
          unfold ixN
          rw [if_pos hk0, if_pos hk1]
        rw [hset]
        refine W.nil ?_
        refine fin (l.set k.toNat z) _ (by simp; omega) (fun x hx => ?_) mset_same (dr7.src.set n1) fun q m hq h => ?_
        · rcases List.mem_or_eq_of_mem_set hx with h | h
          · exact hl x h
          · rw [h]; exact .inr hzb
        · rw [mset_ne (ne_key hM h), dr7.ne hq, dr6.ne hq, mset_ne (ne_key hp2 (kp3 q m hq h))]
          exact kp3 q m hq h
      · refine W.nil ?_
        exact fin l M3 (by omega) hl hl3 dr3.src kp3
    · refine W.nil ?_
      exact fin l M4 (by omega) hl hl1 hs1 kp
local macro_rules | `(tactic| walk_at "xc") => `(tactic| (with_reducible refine E.idC (x := "_law_seen") ?_); refine E.call (c_law_seen (by assumption)) (by decide) ?_)
end
variable {G : Glob}
def m_is_bag (value' : List Nat) : Option (Bool) :=
gd ((!true) = false → (value'.length ≤ 1000000)) <|
if ((!true) || (!((decide ((2 : Int) ≤ (value'.length : Int))) && (decide ((value'.length : Int) ≤ (8 : Int)))))) = true then
some false
else
gd (value'.length ≤ 100000) <|
if (!((value'.map fun (letter' : Nat) => (decide (letter' ∈ abcL))).all id)) = true then
some false
else
gd (value'.length ≤ 1000000) <|
gd (value'.length ≤ 100000) <|
some (((value'.zip (cut value' (some (1 : Int)) none)).map fun ((one', other') : Nat × Nat) => (decide (one' < other'))).all id)

def m_need_bag (bag' : List Nat) : Option (Unit) :=
(m_is_bag bag').bind fun x1 =>
if (!x1) = true then
none
else
some ()

def m_is_row_of (bag' : List Nat) (value' : List Nat) (most' : Int) : Option (Bool) :=
gd ((!true) = false → (value'.length ≤ 1000000)) <|
if ((!true) || (decide (most' < (value'.length : Int)))) = true then
some false
else
gd (value'.length ≤ 100000) <|
some ((value'.map fun (sign' : Nat) => ((decide (sign' = (46 : Nat))) || (decide (sign' ∈ bag')))).all id)

def m_need_row (bag' : List Nat) (row' : List Nat) : Option (Unit) :=
(m_is_row_of bag' row' (40 : Int)).bind fun x1 =>
if (!x1) = true then
none
else
some ()

def m_need_letter (bag' : List Nat) (letter' : Nat) : Option (Unit) :=
if ((!true) || ((!decide (([letter'].length : Int) = (1 : Int))) || (!(decide (letter' ∈ bag'))))) = true then
none
else
some ()

def m_parts_of (size' : Int) (row' : List Nat) (start' : Int) : Option (List (List Nat)) :=
(foldO (fun ((place', sign') : Int × Nat) (found' : (List (List Nat))) =>
gd ((decide (place' = (0 : Int))) = false → (0 < size')) <|
if ((decide (place' = (0 : Int))) || (decide (((place' + start') % size') = (0 : Int)))) = true then
gd (found'.length ≤ 100000) <|
some (found' ++ [[sign']])
else
(atI found' (-(1 : Int))).bind fun x13 =>
gd (x13.length + [sign'].length ≤ 1000000) <|
(setO found' (-(1 : Int)) (x13 ++ [sign'])).bind fun x15 =>
some x15) (enumI row') ([] : List (List Nat))).bind fun (found' : (List (List Nat))) =>
some found'

def m_are_different (signs' : List Nat) : Option (Bool) :=
gd (signs'.length ≤ 1000000) <|
gd ((signs'.filter (· != 46)).length < 4000) <|
gd ((signs'.filter (· != 46)).length ≤ 1000000) <|
some (decide ((((dd (signs'.filter (· != 46))).length : Nat) : Int) = ((signs'.filter (· != 46)).length : Int)))

def m_fits_row (size' : Int) (row' : List Nat) (start' : Int) : Option (Bool) :=
(m_parts_of size' row' start').bind fun x1 =>
gd (x1.length ≤ 100000) <|
(mapO (fun (part' : List Nat) => (m_are_different part').bind fun x3 =>
some x3) x1).bind fun y4 =>
some (y4.all id)

def m_all_starts (size' : Int) (row' : List Nat) : Option (List Int) :=
gd (rngOk (0 : Int) size') <|
(filterO (fun (start' : Int) => (m_fits_row size' row' start').bind fun x2 =>
some x2) (rangeI (0 : Int) size')).bind fun z3 =>
some z3

def m_coming_letters (bag' : List Nat) (row' : List Nat) : Option (List Nat) :=
gd (bag'.length ≤ 1000000) <|
(m_all_starts (bag'.length : Int) row').bind fun x2 =>
if (decide (x2 = ([] : List (Int)))) = true then
some ([] : List Nat)
else
gd (x2.length ≤ 100000) <|
(mapO (fun (start' : Int) => gd (row'.length ≤ 1000000) <|
gd (0 < (bag'.length : Int)) <|
some ((start' + (row'.length : Int)) % (bag'.length : Int))) x2).bind fun y7 =>
gd (y7 ≠ []) <|
gd (row'.length ≤ 1000000) <|
gd (row'.length ≤ 1000000) <|
gd (row'.length ≤ 1000000) <|
gd (bag'.length ≤ 100000) <|
gd ((bag'.filter fun (letter' : Nat) => (!(decide (letter' ∈ (cut row' (some ((row'.length : Int) - (min (minL y7) (row'.length : Int)))) none))))).length ≤ 1000000) <|
some (bag'.filter fun (letter' : Nat) => (!(decide (letter' ∈ (cut row' (some ((row'.length : Int) - (min (minL y7) (row'.length : Int)))) none)))))

def m_can_follow (bag' : List Nat) (row' : List Nat) (letter' : Nat) : Option (Bool) :=
(m_need_bag bag').bind fun x1 =>
(m_need_row bag' row').bind fun x2 =>
(m_need_letter bag' letter').bind fun x3 =>
(m_coming_letters bag' row').bind fun x4 =>
some (decide (letter' ∈ x4))

def m_waits (bag' : List Nat) (row' : List Nat) (start' : Int) (letter' : Nat) : Option (Int × Int) :=
gd (bag'.length ≤ 1000000) <|
gd (row'.length ≤ 1000000) <|
gd (0 < (bag'.length : Int)) <|
gd (row'.length ≤ 1000000) <|
gd (row'.length ≤ 1000000) <|
gd (row'.length ≤ 1000000) <|
if (decide (letter' ∈ (cut row' (some ((row'.length : Int) - (min ((start' + (row'.length : Int)) % (bag'.length : Int)) (row'.length : Int)))) none))) = true then
some ((((bag'.length : Int) - ((start' + (row'.length : Int)) % (bag'.length : Int))) + (1 : Int)), (((bag'.length : Int) - ((start' + (row'.length : Int)) % (bag'.length : Int))) + (bag'.length : Int)))
else
gd ((decide ((46 : Nat) ∈ (cut row' (some ((row'.length : Int) - (min ((start' + (row'.length : Int)) % (bag'.length : Int)) (row'.length : Int)))) none))) = false → ((cut row' (some ((row'.length : Int) - (min ((start' + (row'.length : Int)) % (bag'.length : Int)) (row'.length : Int)))) none).length ≤ 1000000)) <|
if ((decide ((46 : Nat) ∈ (cut row' (some ((row'.length : Int) - (min ((start' + (row'.length : Int)) % (bag'.length : Int)) (row'.length : Int)))) none))) || (decide (((cut row' (some ((row'.length : Int) - (min ((start' + (row'.length : Int)) % (bag'.length : Int)) (row'.length : Int)))) none).length : Int) < ((start' + (row'.length : Int)) % (bag'.length : Int))))) = true then
some ((1 : Int), (((bag'.length : Int) - ((start' + (row'.length : Int)) % (bag'.length : Int))) + (bag'.length : Int)))
else
some ((1 : Int), ((bag'.length : Int) - ((start' + (row'.length : Int)) % (bag'.length : Int))))

def m_wait_range (bag' : List Nat) (row' : List Nat) (letter' : Nat) : Option (Option (Int × Int)) :=
(m_need_bag bag').bind fun x1 =>
(m_need_row bag' row').bind fun x2 =>
(m_need_letter bag' letter').bind fun x3 =>
gd (bag'.length ≤ 1000000) <|
(m_all_starts (bag'.length : Int) row').bind fun x5 =>
gd (x5.length ≤ 100000) <|
(mapO (fun (start' : Int) => (m_waits bag' row' start' letter').bind fun x7 =>
some x7) x5).bind fun y8 =>
if (decide (y8 = [])) = true then
some none
else
gd (y8.length ≤ 100000) <|
gd ((y8.map fun ((least', greatest') : Int × Int) => least') ≠ []) <|
gd (y8.length ≤ 100000) <|
gd ((y8.map fun ((least'2, greatest'2) : Int × Int) => greatest'2) ≠ []) <|
some (some ((minL (y8.map fun ((least', greatest') : Int × Int) => least')), (maxL (y8.map fun ((least'2, greatest'2) : Int × Int) => greatest'2))))

def m_law_good (size' : Int) (line' : List Nat) (start' : Int) : Option (Bool) :=
(flowO (fun ((place', sign') : Int × Nat) (seen' : (List ((Int × Nat) × (Bool)))) =>
gd (divOk size') <|
if ((!(decide (sign' = (46 : Nat)))) && (getA seen' (((place' + start') / size'), sign')).isSome) = true then
some (.rt false)
else
gd (seen'.length ≤ 100000) <|
some (.nx (putA seen' (((place' + start') / size'), sign') true))) (enumI line') ([] : List ((Int × Nat) × (Bool)))).bind fun z => match z with
| .nx seen' => (
some true)
| .bk _ => none
| .rt r => some r

def m_law_starts (size' : Int) (line' : List Nat) : Option (List Int) :=
gd (rngOk (0 : Int) size') <|
(filterO (fun (start' : Int) => (m_law_good size' line' start').bind fun x2 =>
some x2) (rangeI (0 : Int) size')).bind fun z3 =>
some z3

def m_law_agree (bag' : List Nat) (line' : List Nat) (more' : Int) : Option (List (List Nat)) :=
gd (line'.length ≤ 1000000) <|
gd (rngOk (0 : Int) ((line'.length : Int) + more')) <|
(foldO (fun (place' : Int) (found' : (List (List Nat))) =>
gd (line'.length ≤ 1000000) <|
gd ((decide ((line'.length : Int) ≤ place')) = false → (line'.length ≤ 1000000 ∧ 0 ≤ place')) <|
((if (decide ((line'.length : Int) ≤ place')) = true then some default else line'[place'.toNat]?)).bind fun x11 =>
gd (((decide ((line'.length : Int) ≤ place')) || (decide (x11 = (46 : Nat)))) = false → (line'.length ≤ 1000000 ∧ 0 ≤ place')) <|
((if ((decide ((line'.length : Int) ≤ place')) || (decide (x11 = (46 : Nat)))) = true then some default else line'[place'.toNat]?)).bind fun x13 =>
(foldO (fun (past' : List Nat) (longer' : (List (List Nat))) =>
gd ((if ((decide ((line'.length : Int) ≤ place')) || (decide (x11 = (46 : Nat)))) = true then bag' else [x13]).length ≤ 100000) <|
(filterO (fun (sign' : Nat) => gd (bag'.length ≤ 1000000) <|
gd (past'.length + [sign'].length ≤ 1000000) <|
(m_law_starts (bag'.length : Int) (past' ++ [sign'])).bind fun x25 =>
some (!(decide (x25 = ([] : List (Int)))))) (if ((decide ((line'.length : Int) ≤ place')) || (decide (x11 = (46 : Nat)))) = true then bag' else [x13])).bind fun z26 =>
(mapO (fun (sign' : Nat) => gd (past'.length + [sign'].length ≤ 1000000) <|
some (past' ++ [sign'])) z26).bind fun y28 =>
gd (longer'.length + y28.length ≤ 100000) <|
some (longer' ++ y28)) found' ([] : List (List Nat))).bind fun (longer' : (List (List Nat))) =>
some longer') (rangeI (0 : Int) ((line'.length : Int) + more')) [([] : List Nat)]).bind fun (found' : (List (List Nat))) =>
some found'

def m_law (script' : List Int) : Nd Bool := fun Q =>
(rngOk (0 : Int) ((1 : Int) + (min (script'.length : Int) (5 : Int)))) ∧
flowN (fun (k' : Int) (_ : Unit) K3 =>
(0 ≤ k' ∧ k' ≤ 1000) ∧
nBag (3 : Int) fun x11 =>
nDraw (5 : Int) fun x14 =>
nSeen x11 x14 fun x15 =>
(x11.length ≤ 1000000) ∧
(mulOk (2 : Int) (x11.length : Int)) ∧
Run (m_law_agree x11 x15 (((2 : Int) * (x11.length : Int)) - (1 : Int))) fun x22 =>
flowN (fun (sign' : Nat) (_ : Unit) K24 =>
(x22.length ≤ 100000) ∧
Run (mapO (fun (one' : List Nat) => gd (x15.length ≤ 1000000) <|
gd (one'.length ≤ 1000000) <|
gd ((cut one' (some (x15.length : Int)) none).length + [sign'].length ≤ 1000000) <|
gd (sign' ∈ ((cut one' (some (x15.length : Int)) none) ++ [sign'])) <|
some (((((cut one' (some (x15.length : Int)) none) ++ [sign']).idxOf sign' : Nat) : Int) + (1 : Int))) x22) fun y34 =>
Run (m_wait_range x11 x15 sign') fun x37 =>
((!(decide (y34 = ([] : List (Int))))) = true → (y34 ≠ [])) ∧
((!(decide (y34 = ([] : List (Int))))) = true → (y34 ≠ [])) ∧
if (!(decide (x37 = (if (!(decide (y34 = ([] : List (Int))))) = true then (some ((minL y34), (maxL y34))) else none)))) = true then
K24 (.rt false)
else
K24 (.nx ())) x11 () fun z => match z with
| .nx _ => (
nBag (8 : Int) fun x43 =>
(rngOk (0 : Int) (6 : Int)) ∧
flowN (fun (turn' : Int) (_ : Unit) K48 =>
nStream x43 (40 : Int) fun x53 =>
nDraw (20 : Int) fun x56 =>
(x43.length ≤ 1000000) ∧
nChoice x43 fun x58 =>
(x53.length ≤ 1000000) ∧
((cut x53 none (some x56)).length ≤ 100000) ∧
nMap (fun (one'2 : Nat) K69 =>
nDraw (4 : Int) fun x67 =>
K69 (if (decide ((0 : Int) < x67)) = true then one'2 else (46 : Nat))) (cut x53 none (some x56)) fun y68 =>
(y68.length ≤ 1000000) ∧
Run (m_wait_range x43 y68 x58) fun x80 =>
Run (x80) fun x81 =>
((decide ((1 : Int) ≤ x81.1)) = true → (x53.length ≤ 1000000)) ∧
((decide ((1 : Int) ≤ x81.1)) = true → (x58 ∈ (cut x53 (some x56) none))) ∧
((decide ((1 : Int) ≤ x81.1)) = true → ((decide (x81.1 ≤ ((((cut x53 (some x56) none).idxOf x58 : Nat) : Int) + (1 : Int)))) = true → ((decide (((((cut x53 (some x56) none).idxOf x58 : Nat) : Int) + (1 : Int)) ≤ x81.2)) = true → (x43.length ≤ 1000000)))) ∧
((decide ((1 : Int) ≤ x81.1)) = true → ((decide (x81.1 ≤ ((((cut x53 (some x56) none).idxOf x58 : Nat) : Int) + (1 : Int)))) = true → ((decide (((((cut x53 (some x56) none).idxOf x58 : Nat) : Int) + (1 : Int)) ≤ x81.2)) = true → (mulOk (2 : Int) (x43.length : Int))))) ∧
if (!((decide ((1 : Int) ≤ x81.1)) && ((decide (x81.1 ≤ ((((cut x53 (some x56) none).idxOf x58 : Nat) : Int) + (1 : Int)))) && ((decide (((((cut x53 (some x56) none).idxOf x58 : Nat) : Int) + (1 : Int)) ≤ x81.2)) && (decide (x81.2 ≤ (((2 : Int) * (x43.length : Int)) - (1 : Int)))))))) = true then
K48 (.rt false)
else
Run (m_can_follow x43 y68 x58) fun x90 =>
if (!(decide ((decide (x81.1 = (1 : Int))) = x90))) = true then
K48 (.rt false)
else
K48 (.nx ())) (rangeI (0 : Int) (6 : Int)) () fun z => match z with
| .nx _ => (
K3 (.nx ()))
| .bk _ => False
| .rt r => K3 (.rt r))
| .bk _ => False
| .rt r => K3 (.rt r)) (rangeI (0 : Int) ((1 : Int) + (min (script'.length : Int) (5 : Int)))) () fun z => match z with
| .nx _ => (
Run (m_wait_range ([97, 98, 99] : List Nat) ([97, 97, 98] : List Nat) (99 : Nat)) fun x94 =>
Run ((if (!(decide (x94 = (some ((1 : Int), (1 : Int)))))) = true then some default else m_wait_range ([97, 98, 99] : List Nat) ([97, 97, 98] : List Nat) (97 : Nat))) fun x95 =>
if ((!(decide (x94 = (some ((1 : Int), (1 : Int)))))) || (!(decide (x95 = (some ((2 : Int), (4 : Int))))))) = true then
Q false
else
Run (m_wait_range ([97, 98, 99] : List Nat) ([] : List Nat) (97 : Nat)) fun x98 =>
Q (decide (x98 = (some ((1 : Int), (5 : Int))))))
| .bk _ => False
| .rt r => Q r

theorem c_is_bag (o : Ok G) : Cal G "is_bag" 3 (fun ds M Ex Q => ∃ (value' : List Nat), ds = [.str value'] ∧ Run (m_is_bag value') fun r => Q (.bl r) M) := by
  refine Cal.imp (k_is_bag o 2 (sp := fun za M Ex Q => ∃ (value' : List Nat), za = .str value' ∧ Run (m_is_bag value') fun r => Q (.bl r) M) ?_) (fun ds M Ex Q ⟨value', e, h⟩ => ⟨_, e, value', rfl, h⟩)
  rintro _ M Ex Q ⟨value', rfl, h⟩
  unfold m_is_bag at h
  obtain ⟨g1, h⟩ := Run.gd h
  refine W.ite ?_
  refine T.det (b := ((!true) || (!((decide ((2 : Int) ≤ (value'.length : Int))) && (decide ((value'.length : Int) ≤ (8 : Int))))))) ?_ ?_
  · skip
    refine T.bool ?_
    refine TB.or ?_
    refine T.not ?_
    refine T.val ?_
    refine E.callB o.b_isinstance bb_isinstance ?_
    refine A.cons ?_
    refine E.var .here ?_
    refine A.cons ?_
    refine E.ty o.b_str bb_str ?_
    refine A.nil ?_
    refine F1.isiS ?_
    refine ⟨_, rfl, ?_⟩
    refine on_c (fun c2 => ?_) fun c2 => ?_
    · skip
      exact ⟨by rw [c2]; first | rfl | exact dec_irr _ _ | exact congrArg Bool.not (dec_irr _ _), rfl⟩
    · skip
      refine TB.or1 ?_
      refine T.not ?_
      refine T.det (b := ((decide ((2 : Int) ≤ (value'.length : Int))) && (decide ((value'.length : Int) ≤ (8 : Int))))) ?_ ?_
      · skip
        refine T.chain ?_
        refine E.int ?_
        refine E.callB o.b_len bb_len ?_
        refine A.cons ?_
        refine E.var .here ?_
        refine A.nil ?_
        refine F1.lenS (g1 c2) ?_
        refine O2.le ?_
        refine ⟨_, rfl, ?_⟩
        refine on_c (fun c3 => ?_) fun c3 => ?_
        · skip
          refine E.gint o.c_MOST_SIZE ?_
          refine O2.le ?_
          refine ⟨_, rfl, ?_⟩
          exact ⟨by rw [c3]; first | rfl | exact dec_irr _ _ | exact congrArg Bool.not (dec_irr _ _), rfl⟩
        · skip
          exact ⟨by rw [c3]; first | rfl | exact dec_irr _ _ | exact congrArg Bool.not (dec_irr _ _), rfl⟩
      exact ⟨by rw [c2]; first | rfl | exact dec_irr _ _ | exact congrArg Bool.not (dec_irr _ _), rfl⟩
  refine on_c (fun c4 => ?_) fun c4 => ?_
  · skip
    have h := Run.ifT c4 h
    refine W.ret ?_
    refine E.bl ?_
    exact Dn.kp Kp.refl ((Run.get h :))
  have h := Run.ifF c4 h
  refine W.nil ?_
  obtain ⟨g5, h⟩ := Run.gd h
  refine W.ite ?_
  refine T.not ?_
  refine T.val ?_
  refine E.callB o.b_all bb_all ?_
  refine A.cons ?_
  refine E.lcX [("letter", 1)] (I1.str ?_)
  refine E.var .here ?_
  refine ⟨_, rfl, ?_⟩
  refine ⟨_, _, value', (value'.map fun (letter' : Nat) => (decide (letter' ∈ abcL))), (fun x => .str [x]), (fun (letter' : Nat) => (decide (letter' ∈ abcL))), D.bl, rfl, rfl, g5, trivial, ?_, ?_⟩
  · skip
    rintro letter' hx6
    refine TgB.nm (Γ := ([("value", some (.str value')), ("letter", none), ("one", none), ("other", none)] : Gm)) (by rfl) (.there .here) ?_
    refine E.cmp ?_
    refine E.var (.there .here) ?_
    refine E.gstr o.c_LETTERS l_0 ?_
    refine O2.inS ?_
    exact ⟨rfl, rfl⟩
  refine A.nil ?_
  refine F1.allL ?_
  refine ⟨_, rfl, ?_⟩
  refine on_c (fun c7 => ?_) fun c7 => ?_
  · skip
    have h := Run.ifT c7 h
    refine W.ret ?_
    refine E.bl ?_
    exact Dn.kp Kp.refl ((Run.get h :))
  have h := Run.ifF c7 h
  refine W.nil ?_
  obtain ⟨g8, h⟩ := Run.gd h
  obtain ⟨g9, h⟩ := Run.gd h
  refine W.ret ?_
  refine E.callB o.b_all bb_all ?_
  refine A.cons ?_
  refine E.lcX [("one", 2), ("other", 3)] (I1.zipSS o.b_zip ?_)
  refine A.cons ?_
  refine E.var .here ?_
  refine A.cons ?_
  refine E.slS ?_
  refine E.var .here ?_
  refine OI.some_ ?_
  refine E.int ?_
  refine ⟨_, rfl, ?_⟩
  refine OI.none_ ?_
  refine ⟨_, rfl, g8, ?_⟩
  refine A.nil ?_
  refine ⟨_, _, rfl, ?_⟩
  refine ⟨_, _, (value'.zip (cut value' (some (1 : Int)) none)), ((value'.zip (cut value' (some (1 : Int)) none)).map fun ((one', other') : Nat × Nat) => (decide (one' < other'))), (fun x => .tup [(.str [x.1] : D), (.str [x.2] : D)]), (fun ((one', other') : Nat × Nat) => (decide (one' < other'))), D.bl, (zipSS_I _ _), rfl, (by rw [List.length_zip]; exact Nat.le_trans (Nat.min_le_left _ _) g9), trivial, ?_, ?_⟩
  · skip
    rintro ⟨one', other'⟩ hx10
    refine TgB.nmT (Γ := ([("value", some (.str value')), ("letter", none), ("one", none), ("other", none)] : Gm)) (by rfl) (TgB.tup ?_)
    refine TgBs.cons rfl (.there (.there .here)) ?_
    refine TgBs.cons rfl (.there (.there (.there .here))) ?_
    refine TgBs.nil ?_
    refine E.cmp ?_
    refine E.var (.there (.there .here)) ?_
    refine E.var (.there (.there (.there .here))) ?_
    refine O2.ltC ?_
    exact ⟨rfl, rfl⟩
  refine A.nil ?_
  refine F1.allL ?_
  exact Dn.kp Kp.refl ((Run.get h :))

theorem c_need_bag (o : Ok G) : Cal G "need_bag" 6 (fun ds M Ex Q => ∃ (bag' : List Nat), ds = [.str bag'] ∧ Run (m_need_bag bag') fun r => Q (.non) M) := by
  refine Cal.imp (k_need_bag o 5 (sp := fun za M Ex Q => ∃ (bag' : List Nat), za = .str bag' ∧ Run (m_need_bag bag') fun r => Q (.non) M) ?_) (fun ds M Ex Q ⟨bag', e, h⟩ => ⟨_, e, bag', rfl, h⟩)
  rintro _ M Ex Q ⟨bag', rfl, h⟩
  unfold m_need_bag at h
  obtain ⟨x1, ex1, h⟩ := Run.ex h
  refine W.ite ?_
  refine T.not ?_
  refine T.val ?_
  refine E.call (c_is_bag o) (by decide) ?_
  refine A.cons ?_
  refine E.var .here ?_
  refine A.nil ?_
  refine ⟨bag', rfl, _, ex1, ?_⟩
  refine ⟨_, rfl, ?_⟩
  refine on_c (fun c2 => ?_) fun c2 => ?_
  · skip
    have h := Run.ifT c2 h
    exact (Run.no h).elim
  have h := Run.ifF c2 h
  refine W.nil ?_
  refine W.nil ?_
  exact Dn.kp Kp.refl ((Run.get h :))

theorem c_is_row_of (o : Ok G) : Cal G "is_row_of" 3 (fun ds M Ex Q => ∃ (bag' : List Nat) (value' : List Nat) (most' : Int), ds = [.str bag', .str value', .int most'] ∧ Run (m_is_row_of bag' value' most') fun r => Q (.bl r) M) := by
  refine Cal.imp (k_is_row_of o 2 (sp := fun za zb zc M Ex Q => ∃ (bag' : List Nat) (value' : List Nat) (most' : Int), za = .str bag' ∧ zb = .str value' ∧ zc = .int most' ∧ Run (m_is_row_of bag' value' most') fun r => Q (.bl r) M) ?_) (fun ds M Ex Q ⟨bag', value', most', e, h⟩ => ⟨_, _, _, e, bag', value', most', rfl, rfl, rfl, h⟩)
  rintro _ _ _ M Ex Q ⟨bag', value', most', rfl, rfl, rfl, h⟩
  unfold m_is_row_of at h
  obtain ⟨g1, h⟩ := Run.gd h
  refine W.ite ?_
  refine T.det (b := ((!true) || (decide (most' < (value'.length : Int))))) ?_ ?_
  · skip
    refine T.bool ?_
    refine TB.or ?_
    refine T.not ?_
    refine T.val ?_
    refine E.callB o.b_isinstance bb_isinstance ?_
    refine A.cons ?_
    refine E.var (.there .here) ?_
    refine A.cons ?_
    refine E.ty o.b_str bb_str ?_
    refine A.nil ?_
    refine F1.isiS ?_
    refine ⟨_, rfl, ?_⟩
    refine on_c (fun c2 => ?_) fun c2 => ?_
    · skip
      exact ⟨by rw [c2]; first | rfl | exact dec_irr _ _ | exact congrArg Bool.not (dec_irr _ _), rfl⟩
    · skip
      refine TB.or1 ?_
      refine T.cmp ?_
      refine E.callB o.b_len bb_len ?_
      refine A.cons ?_
      refine E.var (.there .here) ?_
      refine A.nil ?_
      refine F1.lenS (g1 c2) ?_
      refine E.var (.there (.there .here)) ?_
      refine O2.gt ?_
      refine ⟨_, rfl, ?_⟩
      exact ⟨by rw [c2]; first | rfl | exact dec_irr _ _ | exact congrArg Bool.not (dec_irr _ _), rfl⟩
  refine on_c (fun c3 => ?_) fun c3 => ?_
  · skip
    have h := Run.ifT c3 h
    refine W.ret ?_
    refine E.bl ?_
    exact Dn.kp Kp.refl ((Run.get h :))
  have h := Run.ifF c3 h
  refine W.nil ?_
  obtain ⟨g4, h⟩ := Run.gd h
  refine W.ret ?_
  refine E.callB o.b_all bb_all ?_
  refine A.cons ?_
  refine E.lcX [("sign", 3)] (I1.str ?_)
  refine E.var (.there .here) ?_
  refine ⟨_, rfl, ?_⟩
  refine ⟨_, _, value', (value'.map fun (sign' : Nat) => ((decide (sign' = (46 : Nat))) || (decide (sign' ∈ bag')))), (fun x => .str [x]), (fun (sign' : Nat) => ((decide (sign' = (46 : Nat))) || (decide (sign' ∈ bag')))), D.bl, rfl, rfl, g4, trivial, ?_, ?_⟩
  · skip
    rintro sign' hx5
    refine TgB.nm (Γ := ([("bag", some (.str bag')), ("value", some (.str value')), ("most", some (.int most')), ("sign", none)] : Gm)) (by rfl) (.there (.there (.there .here))) ?_
    refine E.det (d := .bl ((decide (sign' = (46 : Nat))) || (decide (sign' ∈ bag')))) ?_ ?_
    · skip
      refine E.or ?_
      refine E.cmp ?_
      refine E.var (.there (.there (.there .here))) ?_
      refine E.gstr o.c_UNSEEN l_1 ?_
      refine O2.eqC ?_
      refine ⟨_, rfl, ?_⟩
      refine on_c (fun c6 => ?_) fun c6 => ?_
      · skip
        exact ⟨by rw [c6]; first | rfl | exact dec_irr _ _ | exact congrArg Bool.not (dec_irr _ _), rfl⟩
      · skip
        refine E.one ?_
        refine E.cmp ?_
        refine E.var (.there (.there (.there .here))) ?_
        refine E.var .here ?_
        refine O2.inS ?_
        exact ⟨by rw [c6]; first | rfl | exact dec_irr _ _ | exact congrArg Bool.not (dec_irr _ _), rfl⟩
    exact ⟨rfl, rfl⟩
  refine A.nil ?_
  refine F1.allL ?_
  exact Dn.kp Kp.refl ((Run.get h :))

theorem c_need_row (o : Ok G) : Cal G "need_row" 6 (fun ds M Ex Q => ∃ (bag' : List Nat) (row' : List Nat), ds = [.str bag', .str row'] ∧ Run (m_need_row bag' row') fun r => Q (.non) M) := by
  refine Cal.imp (k_need_row o 5 (sp := fun za zb M Ex Q => ∃ (bag' : List Nat) (row' : List Nat), za = .str bag' ∧ zb = .str row' ∧ Run (m_need_row bag' row') fun r => Q (.non) M) ?_) (fun ds M Ex Q ⟨bag', row', e, h⟩ => ⟨_, _, e, bag', row', rfl, rfl, h⟩)
  rintro _ _ M Ex Q ⟨bag', row', rfl, rfl, h⟩
  unfold m_need_row at h
  obtain ⟨x1, ex1, h⟩ := Run.ex h
  refine W.ite ?_
  refine T.not ?_
  refine T.val ?_
  refine E.call (c_is_row_of o) (by decide) ?_
  refine A.cons ?_
  refine E.var .here ?_
  refine A.cons ?_
  refine E.var (.there .here) ?_
  refine A.cons ?_
  refine E.gint o.c_MOST_DRAWS ?_
  refine A.nil ?_
  refine ⟨bag', row', (40 : Int), rfl, _, ex1, ?_⟩
  refine ⟨_, rfl, ?_⟩
  refine on_c (fun c2 => ?_) fun c2 => ?_
  · skip
    have h := Run.ifT c2 h
    exact (Run.no h).elim
  have h := Run.ifF c2 h
  refine W.nil ?_
  refine W.nil ?_
  exact Dn.kp Kp.refl ((Run.get h :))

theorem c_need_letter (o : Ok G) : Cal G "need_letter" 3 (fun ds M Ex Q => ∃ (bag' : List Nat) (letter' : Nat), ds = [.str bag', .str [letter']] ∧ Run (m_need_letter bag' letter') fun r => Q (.non) M) := by
  refine Cal.imp (k_need_letter o 2 (sp := fun za zb M Ex Q => ∃ (bag' : List Nat) (letter' : Nat), za = .str bag' ∧ zb = .str [letter'] ∧ Run (m_need_letter bag' letter') fun r => Q (.non) M) ?_) (fun ds M Ex Q ⟨bag', letter', e, h⟩ => ⟨_, _, e, bag', letter', rfl, rfl, h⟩)
  rintro _ _ M Ex Q ⟨bag', letter', rfl, rfl, h⟩
  unfold m_need_letter at h
  refine W.ite ?_
  refine T.det (b := ((!true) || ((!decide (([letter'].length : Int) = (1 : Int))) || (!(decide (letter' ∈ bag')))))) ?_ ?_
  · skip
    refine T.bool ?_
    refine TB.or ?_
    refine T.not ?_
    refine T.val ?_
    refine E.callB o.b_isinstance bb_isinstance ?_
    refine A.cons ?_
    refine E.var (.there .here) ?_
    refine A.cons ?_
    refine E.ty o.b_str bb_str ?_
    refine A.nil ?_
    refine F1.isiS ?_
    refine ⟨_, rfl, ?_⟩
    refine on_c (fun c1 => ?_) fun c1 => ?_
    · skip
      exact ⟨by rw [c1]; first | rfl | exact dec_irr _ _ | exact congrArg Bool.not (dec_irr _ _), rfl⟩
    · skip
      refine TB.or ?_
      refine T.cmp ?_
      refine E.callB o.b_len bb_len ?_
      refine A.cons ?_
      refine E.var (.there .here) ?_
      refine A.nil ?_
      refine F1.lenS (by simp) ?_
      refine E.int ?_
      refine O2.neI ?_
      refine ⟨_, rfl, ?_⟩
      refine on_c (fun c2 => ?_) fun c2 => ?_
      · skip
        exact ⟨by rw [c1, c2]; first | rfl | exact dec_irr _ _ | exact congrArg Bool.not (dec_irr _ _), rfl⟩
      · skip
        refine TB.or1 ?_
        refine T.cmp ?_
        refine E.var (.there .here) ?_
        refine E.var .here ?_
        refine O2.ninS ?_
        refine ⟨_, rfl, ?_⟩
        exact ⟨by rw [c1, c2]; first | rfl | exact dec_irr _ _ | exact congrArg Bool.not (dec_irr _ _), rfl⟩
  refine on_c (fun c3 => ?_) fun c3 => ?_
  · skip
    have h := Run.ifT c3 h
    exact (Run.no h).elim
  have h := Run.ifF c3 h
  refine W.nil ?_
  refine W.nil ?_
  exact Dn.kp Kp.refl ((Run.get h :))

theorem r_parts_of (o : Ok G) : Cal G "parts_of" 3 (fun ds M Ex Q => ∃ (size' : Int) (row' : List Nat) (start' : Int), ds = [.int size', .str row', .int start'] ∧ Run (m_parts_of size' row' start') fun r => ∀ p, M p = none → Q (.adr p) (mset M p (.lst (r.map D.str)))) := by
  refine Cal.imp (k_parts_of o 2 (sp := fun za zb zc M Ex Q => ∃ (size' : Int) (row' : List Nat) (start' : Int), za = .int size' ∧ zb = .str row' ∧ zc = .int start' ∧ Run (m_parts_of size' row' start') fun r => ∀ p, M p = none → Q (.adr p) (mset M p (.lst (r.map D.str)))) ?_) (fun ds M Ex Q ⟨size', row', start', e, h⟩ => ⟨_, _, _, e, size', row', start', rfl, rfl, rfl, h⟩)
  rintro _ _ _ M Ex Q ⟨size', row', start', rfl, rfl, rfl, h⟩
  unfold m_parts_of at h
  refine W.set ?_
  refine E.lstO ?_
  refine A.nil ⟨len_ok rfl, fun a_found' n_found' => ?_⟩
  refine ⟨_, (.there (.there (.there .here))), ?_⟩
  have f_found' : (mset M a_found' (.lst [])) a_found' = some (.lst (([] : List (List Nat)).map D.str)) := by first | exact mset_same | (rw [mset_same]; simp)
  have n0_a_found' : M a_found' = none := Kp.fresh Kp.refl n_found' (List.not_mem_nil)
  have kp : Kp [] M (mset M a_found' (.lst [])) := Kp.new Kp.refl n0_a_found'
  generalize (mset M a_found' (.lst [])) = M1 at f_found' kp ⊢
  refine W.for_ (I1.enumS o.b_enumerate ?_)
  refine E.var (.there .here) ?_
  refine ⟨_, rfl, ?_⟩
  obtain ⟨N2, hN2, h⟩ := Run.cut h
  refine for_foldO (fun (found' : (List (List Nat))) Γ' M' => Γ' = ([("size", some (.int size')), ("row", some (.str row')), ("start", some (.int start')), ("found", some (.adr a_found')), ("place", none), ("sign", none)] : Gm) ∧ Kp [] M M' ∧ M' a_found' = some (.lst (found'.map D.str)) ∧ True) h (enumS_I _) (fun _ _ _ _ => trivial) ⟨_, (.keep (.keep (.keep (.keep (.drop (.drop .nil)))))), rfl, kp, f_found', trivial⟩ ?_ ?_
  · skip
    rintro ⟨place', sign'⟩ found' Γ' M4 N5 hx6 ⟨rfl, kp, f_found', _⟩ h
    refine Tg.tup ?_
    refine Tgs.cons rfl (.there (.there (.there (.there .here)))) ?_
    refine Tgs.cons rfl (.there (.there (.there (.there (.there .here))))) ?_
    refine Tgs.nil ?_
    obtain ⟨g8, h⟩ := Run.gd h
    refine W.ite ?_
    refine T.det (b := ((decide (place' = (0 : Int))) || (decide (((place' + start') % size') = (0 : Int))))) ?_ ?_
    · skip
      refine T.bool ?_
      refine TB.or ?_
      refine T.cmp ?_
      refine E.var (.there (.there (.there (.there .here)))) ?_
      refine E.int ?_
      refine O2.eqI ?_
      refine ⟨_, rfl, ?_⟩
      refine on_c (fun c9 => ?_) fun c9 => ?_
      · skip
        exact ⟨by rw [c9]; first | rfl | exact dec_irr _ _ | exact congrArg Bool.not (dec_irr _ _), rfl⟩
      · skip
        refine TB.or1 ?_
        refine T.cmp ?_
        refine E.bin ?_
        refine E.bin ?_
        refine E.var (.there (.there (.there (.there .here)))) ?_
        refine E.var (.there (.there .here)) ?_
        refine O2.add ?_
        refine E.var .here ?_
        refine O2.mod (g8 c9) ?_
        refine E.int ?_
        refine O2.eqI ?_
        refine ⟨_, rfl, ?_⟩
        exact ⟨by rw [c9]; first | rfl | exact dec_irr _ _ | exact congrArg Bool.not (dec_irr _ _), rfl⟩
    refine on_c (fun c10 => ?_) fun c10 => ?_
    · skip
      have h := Run.ifT c10 h
      obtain ⟨g11, h⟩ := Run.gd h
      refine W.expr ?_
      refine E.append ?_
      refine E.var (.there (.there (.there .here))) ?_
      refine ⟨.inr ⟨rfl, _, .inr ⟨_, rfl, f_found'⟩⟩, ?_⟩
      refine E.var (.there (.there (.there (.there (.there .here))))) ?_
      refine ⟨_, _, rfl, f_found', (by rw [List.length_map]; exact Nat.le_trans g11 (by decide)), ?_⟩
      have f_found' : (mset M4 a_found' (.lst (found'.map D.str ++ [.str [sign']]))) a_found' = some (.lst ((found' ++ [[sign']]).map D.str)) := by first | exact mset_same | (rw [mset_same]; simp)
      have kp : Kp [] M (mset M4 a_found' (.lst (found'.map D.str ++ [.str [sign']]))) := Kp.new kp n0_a_found'
      generalize (mset M4 a_found' (.lst (found'.map D.str ++ [.str [sign']]))) = M12 at f_found' kp ⊢
      refine W.nil ?_
      refine W.nil ?_
      exact ⟨_, (.keep (.keep (.keep (.keep (.drop (.drop .nil)))))), (found' ++ [[sign']]), ⟨rfl, kp, f_found', trivial⟩, (Run.get h :)⟩
    · skip
      have h := Run.ifF c10 h
      obtain ⟨x13, ex13, h⟩ := Run.ex h
      obtain ⟨g14, h⟩ := Run.gd h
      obtain ⟨x15, ex15, h⟩ := Run.ex h
      refine W.asg ?_
      refine E.bin ?_
      refine E.ixL ?_
      refine E.var (.there (.there (.there .here))) ?_
      refine E.neg ?_
      refine E.int ?_
      refine ⟨_, rfl, ?_⟩
      refine ⟨_, _, _, .inr ⟨_, rfl, f_found'⟩, rfl, atI_map ex13, ?_⟩
      refine E.var (.there (.there (.there (.there (.there .here))))) ?_
      refine O2.addS g14 ?_
      refine Tg.sub ?_
      refine E.var (.there (.there (.there .here))) ?_
      refine E.neg ?_
      refine E.int ?_
      refine ⟨_, rfl, ?_⟩
      obtain ⟨j16, hj16, sj16⟩ := setO_ex (f := D.str) ex15
      refine ⟨_, _, _, j16, rfl, f_found', rfl, hj16, ?_⟩
      rw [sj16]
      have f_found' : (mset M4 a_found' (.lst (x15.map D.str))) a_found' = some (.lst (x15.map D.str)) := by first | exact mset_same | (rw [mset_same]; simp)
      have kp : Kp [] M (mset M4 a_found' (.lst (x15.map D.str))) := Kp.new kp n0_a_found'
      generalize (mset M4 a_found' (.lst (x15.map D.str))) = M17 at f_found' kp ⊢
      refine W.nil ?_
      refine W.nil ?_
      exact ⟨_, (.keep (.keep (.keep (.keep (.drop (.drop .nil)))))), x15, ⟨rfl, kp, f_found', trivial⟩, (Run.get h :)⟩
  rintro found' Γ' M18 ⟨rfl, kp, f_found', _⟩ h
  have h := hN2 _ h
  refine W.ret ?_
  refine E.var (.there (.there (.there .here))) ?_
  exact Dn.own kp f_found' n0_a_found' ((Run.get h :))
theorem c_parts_of (o : Ok G) : Cal G "parts_of" 3 (fun ds M Ex Q => ∃ (size' : Int) (row' : List Nat) (start' : Int), ds = [.int size', .str row', .int start'] ∧ Run (m_parts_of size' row' start') fun r => Q (.lst (r.map D.str)) M) :=
  Cal.imp (Cal.frz (r_parts_of o)) fun ds M Ex Q ⟨size', row', start', e, h⟩ => ⟨size', row', start', e, h.mono fun r q p hp => ⟨p, _, M, rfl, hp, rfl, q⟩⟩

theorem c_are_different (o : Ok G) : Cal G "are_different" 3 (fun ds M Ex Q => ∃ (signs' : List Nat), ds = [.str signs'] ∧ Run (m_are_different signs') fun r => Q (.bl r) M) := by
  refine Cal.imp (k_are_different o 2 (sp := fun za M Ex Q => ∃ (signs' : List Nat), za = .str signs' ∧ Run (m_are_different signs') fun r => Q (.bl r) M) ?_) (fun ds M Ex Q ⟨signs', e, h⟩ => ⟨_, e, signs', rfl, h⟩)
  rintro _ M Ex Q ⟨signs', rfl, h⟩
  unfold m_are_different at h
  obtain ⟨g1, h⟩ := Run.gd h
  refine W.set ?_
  refine E.strike o.u_UNSEEN ?_
  refine E.var .here ?_
  refine ⟨_, rfl, g1, ?_⟩
  refine ⟨_, (.there .here), ?_⟩
  obtain ⟨g2, h⟩ := Run.gd h
  obtain ⟨g3, h⟩ := Run.gd h
  refine W.ret ?_
  refine E.cmp ?_
  refine E.lenset o.b_len o.b_set ?_
  refine E.var (.there .here) ?_
  refine ⟨_, rfl, g2, ?_⟩
  refine E.callB o.b_len bb_len ?_
  refine A.cons ?_
  refine E.var (.there .here) ?_
  refine A.nil ?_
  refine F1.lenS g3 ?_
  refine O2.eqI ?_
  exact Dn.kp Kp.refl ((Run.get h :))

theorem c_fits_row (o : Ok G) : Cal G "fits_row" 6 (fun ds M Ex Q => ∃ (size' : Int) (row' : List Nat) (start' : Int), ds = [.int size', .str row', .int start'] ∧ Run (m_fits_row size' row' start') fun r => Q (.bl r) M) := by
  refine Cal.imp (k_fits_row o 5 (sp := fun za zb zc M Ex Q => ∃ (size' : Int) (row' : List Nat) (start' : Int), za = .int size' ∧ zb = .str row' ∧ zc = .int start' ∧ Run (m_fits_row size' row' start') fun r => Q (.bl r) M) ?_) (fun ds M Ex Q ⟨size', row', start', e, h⟩ => ⟨_, _, _, e, size', row', start', rfl, rfl, rfl, h⟩)
  rintro _ _ _ M Ex Q ⟨size', row', start', rfl, rfl, rfl, h⟩
  unfold m_fits_row at h
  obtain ⟨x1, ex1, h⟩ := Run.ex h
  obtain ⟨g2, h⟩ := Run.gd h
  obtain ⟨y4, vy4, hy4, ey4, h⟩ := mapO_ex h
  refine W.ret ?_
  refine E.callB o.b_all bb_all ?_
  refine A.cons ?_
  refine E.lcX [("part", 3)] (I1.list ?_)
  refine E.call (c_parts_of o) (by decide) ?_
  refine A.cons ?_
  refine E.var .here ?_
  refine A.cons ?_
  refine E.var (.there .here) ?_
  refine A.cons ?_
  refine E.var (.there (.there .here)) ?_
  refine A.nil ?_
  refine ⟨size', row', start', rfl, _, ex1, ?_⟩
  refine .inl ⟨_, rfl, ?_⟩
  refine ⟨_, _, x1, y4, D.str, vy4, D.bl, rfl, hy4, g2, trivial, ?_, ?_⟩
  · skip
    rintro part' hx5
    refine TgB.nm (Γ := ([("size", some (.int size')), ("row", some (.str row')), ("start", some (.int start')), ("part", none)] : Gm)) (by rfl) (.there (.there (.there .here))) ?_
    have h6 := ey4 _ hx5
    obtain ⟨x3, ex3, h6⟩ := Run.ex h6
    refine E.call (c_are_different o) (by decide) ?_
    refine A.cons ?_
    refine E.var (.there (.there (.there .here))) ?_
    refine A.nil ?_
    refine ⟨part', rfl, _, ex3, ?_⟩
    exact ⟨by first | rw [(Run.get h6 :)] | rw [← (Run.get h6 :)], rfl⟩
  refine A.nil ?_
  refine F1.allL ?_
  exact Dn.kp Kp.refl ((Run.get h :))

theorem r_all_starts (o : Ok G) : Cal G "all_starts" 9 (fun ds M Ex Q => ∃ (size' : Int) (row' : List Nat), ds = [.int size', .str row'] ∧ Run (m_all_starts size' row') fun r => ∀ p, M p = none → Q (.adr p) (mset M p (.lst (r.map D.int)))) := by
  refine Cal.imp (k_all_starts o 8 (sp := fun za zb M Ex Q => ∃ (size' : Int) (row' : List Nat), za = .int size' ∧ zb = .str row' ∧ Run (m_all_starts size' row') fun r => ∀ p, M p = none → Q (.adr p) (mset M p (.lst (r.map D.int)))) ?_) (fun ds M Ex Q ⟨size', row', e, h⟩ => ⟨_, _, e, size', row', rfl, rfl, h⟩)
  rintro _ _ M Ex Q ⟨size', row', rfl, rfl, h⟩
  unfold m_all_starts at h
  obtain ⟨g1, h⟩ := Run.gd h
  obtain ⟨z3, pz3, hz3, ez3, h⟩ := filterO_ex h
  refine W.ret ?_
  refine E.lcYo [("start", 2)] (I1.range1 o.b_range ?_)
  refine E.var .here ?_
  refine ⟨_, rfl, (rngOk.one g1).1, (rngOk.one g1).2, ?_⟩
  refine ⟨_, _, (rangeI (0 : Int) size'), z3, D.int, pz3, (fun x => x), D.int, rngD_0, (by rw [hz3]; exact (List.map_id' _).symm), (rngOk.len g1), trivial, ?_, ?_⟩
  · skip
    rintro start' hx6
    refine TgB.nm (Γ := ([("size", some (.int size')), ("row", some (.str row')), ("start", none)] : Gm)) (by rfl) (.there (.there .here)) ?_
    have h7 := ez3 _ hx6
    obtain ⟨x2, ex2, h7⟩ := Run.ex h7
    refine T.val ?_
    refine E.call (c_fits_row o) (by decide) ?_
    refine A.cons ?_
    refine E.var .here ?_
    refine A.cons ?_
    refine E.var (.there .here) ?_
    refine A.cons ?_
    refine E.var (.there (.there .here)) ?_
    refine A.nil ?_
    refine ⟨size', row', start', rfl, _, ex2, ?_⟩
    refine ⟨_, rfl, ?_⟩
    refine ⟨(Run.get h7 :), rfl, fun hp8 => ?_⟩
    refine E.var (.there (.there .here)) ?_
    exact ⟨rfl, rfl⟩
  intro a4 n5
  exact Dn.own (Kp.new Kp.refl n5) mset_same n5 (Run.get h :)
theorem c_all_starts (o : Ok G) : Cal G "all_starts" 9 (fun ds M Ex Q => ∃ (size' : Int) (row' : List Nat), ds = [.int size', .str row'] ∧ Run (m_all_starts size' row') fun r => Q (.lst (r.map D.int)) M) :=
  Cal.imp (Cal.frz (r_all_starts o)) fun ds M Ex Q ⟨size', row', e, h⟩ => ⟨size', row', e, h.mono fun r q p hp => ⟨p, _, M, rfl, hp, rfl, q⟩⟩

theorem c_coming_letters (o : Ok G) : Cal G "coming_letters" 12 (fun ds M Ex Q => ∃ (bag' : List Nat) (row' : List Nat), ds = [.str bag', .str row'] ∧ Run (m_coming_letters bag' row') fun r => Q (.str r) M) := by
  refine Cal.imp (k_coming_letters o 11 (sp := fun za zb M Ex Q => ∃ (bag' : List Nat) (row' : List Nat), za = .str bag' ∧ zb = .str row' ∧ Run (m_coming_letters bag' row') fun r => Q (.str r) M) ?_) (fun ds M Ex Q ⟨bag', row', e, h⟩ => ⟨_, _, e, bag', row', rfl, rfl, h⟩)
  rintro _ _ M Ex Q ⟨bag', row', rfl, rfl, h⟩
  unfold m_coming_letters at h
  obtain ⟨g1, h⟩ := Run.gd h
  refine W.set ?_
  refine E.callB o.b_len bb_len ?_
  refine A.cons ?_
  refine E.var .here ?_
  refine A.nil ?_
  refine F1.lenS g1 ?_
  refine ⟨_, (.there (.there .here)), ?_⟩
  obtain ⟨x2, ex2, h⟩ := Run.ex h
  refine W.set ?_
  refine E.call (c_all_starts o) (by decide) ?_
  refine A.cons ?_
  refine E.var (.there (.there .here)) ?_
  refine A.cons ?_
  refine E.var (.there .here) ?_
  refine A.nil ?_
  refine ⟨(bag'.length : Int), row', rfl, _, ex2, ?_⟩
  refine ⟨_, (.there (.there (.there .here))), ?_⟩
  refine W.ite ?_
  refine T.cmp ?_
  refine E.var (.there (.there (.there .here))) ?_
  refine E.lst ?_
  refine A.nil ⟨len_ok rfl, ?_⟩
  refine O2.eqK (a := x2) (b := ([] : List (Int))) (Knd.lst Knd.int) (by decide) (fun _ _ => trivial) (fun _ _ => trivial) ?_
  refine ⟨_, rfl, ?_⟩
  refine on_c (fun c3 => ?_) fun c3 => ?_
  · skip
    have h := Run.ifT c3 h
    refine W.ret ?_
    refine E.str l_2 ?_
    exact Dn.kp Kp.refl ((Run.get h :))
  have h := Run.ifF c3 h
  refine W.nil ?_
  obtain ⟨g4, h⟩ := Run.gd h
  obtain ⟨y7, vy7, hy7, ey7, h⟩ := mapO_ex h
  obtain ⟨g8, h⟩ := Run.gd h
  refine W.set ?_
  refine E.callB o.b_min bb_min ?_
  refine A.cons ?_
  refine E.lcX [("start", 6)] (I1.list ?_)
  refine E.var (.there (.there (.there .here))) ?_
  refine .inl ⟨_, rfl, ?_⟩
  refine ⟨_, _, x2, y7, D.int, vy7, D.int, rfl, hy7, g4, trivial, ?_, ?_⟩
  · skip
    rintro start' hx9
    refine TgB.nm (Γ := ([("bag", some (.str bag')), ("row", some (.str row')), ("size", some (.int (bag'.length : Int))), ("fit", some (.lst (x2.map D.int))), ("least", none), ("last", none), ("start", none), ("letter", none)] : Gm)) (by rfl) (.there (.there (.there (.there (.there (.there .here)))))) ?_
    have h10 := ey7 _ hx9
    obtain ⟨g5, h10⟩ := Run.gd h10
    obtain ⟨g6, h10⟩ := Run.gd h10
    refine E.bin ?_
    refine E.bin ?_
    refine E.var (.there (.there (.there (.there (.there (.there .here)))))) ?_
    refine E.callB o.b_len bb_len ?_
    refine A.cons ?_
    refine E.var (.there .here) ?_
    refine A.nil ?_
    refine F1.lenS g5 ?_
    refine O2.add ?_
    refine E.var (.there (.there .here)) ?_
    refine O2.mod g6 ?_
    exact ⟨by first | rw [(Run.get h10 :)] | rw [← (Run.get h10 :)], rfl⟩
  refine A.nil ?_
  refine F1.minX g8 ?_
  refine ⟨_, (.there (.there (.there (.there .here)))), ?_⟩
  obtain ⟨g11, h⟩ := Run.gd h
  obtain ⟨g12, h⟩ := Run.gd h
  obtain ⟨g13, h⟩ := Run.gd h
  refine W.set ?_
  refine E.slS ?_
  refine E.var (.there .here) ?_
  refine OI.some_ ?_
  refine E.bin ?_
  refine E.callB o.b_len bb_len ?_
  refine A.cons ?_
  refine E.var (.there .here) ?_
  refine A.nil ?_
  refine F1.lenS g11 ?_
  refine E.callB o.b_min bb_min ?_
  refine A.cons ?_
  refine E.var (.there (.there (.there (.there .here)))) ?_
  refine A.cons ?_
  refine E.callB o.b_len bb_len ?_
  refine A.cons ?_
  refine E.var (.there .here) ?_
  refine A.nil ?_
  refine F1.lenS g12 ?_
  refine A.nil ?_
  refine F1.min2 ?_
  refine O2.sub ?_
  refine ⟨_, rfl, ?_⟩
  refine OI.none_ ?_
  refine ⟨_, rfl, g13, ?_⟩
  refine ⟨_, (.there (.there (.there (.there (.there .here))))), ?_⟩
  obtain ⟨g14, h⟩ := Run.gd h
  obtain ⟨g15, h⟩ := Run.gd h
  refine W.ret ?_
  refine E.join ?_
  refine E.str l_2 ?_
  refine ⟨.inl ⟨rfl, _, rfl⟩, ?_⟩
  refine E.lcY [("letter", 7)] (I1.str ?_)
  refine E.var .here ?_
  refine ⟨_, rfl, ?_⟩
  refine ⟨_, _, bag', (bag'.filter fun (letter' : Nat) => (!(decide (letter' ∈ (cut row' (some ((row'.length : Int) - (min (minL y7) (row'.length : Int)))) none))))), (fun x => .str [x]), (fun (letter' : Nat) => (!(decide (letter' ∈ (cut row' (some ((row'.length : Int) - (min (minL y7) (row'.length : Int)))) none))))), (fun x => x), (fun x => .str [x]), rfl, (List.map_id' _).symm, g14, trivial, ?_, ?_⟩
  · skip
    rintro letter' hx16
    refine TgB.nm (Γ := ([("bag", some (.str bag')), ("row", some (.str row')), ("size", some (.int (bag'.length : Int))), ("fit", some (.lst (x2.map D.int))), ("least", some (.int (minL y7))), ("last", some (.str (cut row' (some ((row'.length : Int) - (min (minL y7) (row'.length : Int)))) none))), ("start", none), ("letter", none)] : Gm)) (by rfl) (.there (.there (.there (.there (.there (.there (.there .here))))))) ?_
    refine T.cmp ?_
    refine E.var (.there (.there (.there (.there (.there (.there (.there .here))))))) ?_
    refine E.var (.there (.there (.there (.there (.there .here))))) ?_
    refine O2.ninS ?_
    refine ⟨_, rfl, ?_⟩
    refine ⟨rfl, rfl, fun hp17 => ?_⟩
    refine E.var (.there (.there (.there (.there (.there (.there (.there .here))))))) ?_
    exact ⟨rfl, rfl⟩
  refine ⟨(bag'.filter fun (letter' : Nat) => (!(decide (letter' ∈ (cut row' (some ((row'.length : Int) - (min (minL y7) (row'.length : Int)))) none))))).map fun c => [c], rfl, .inl (.inl (by rw [← sgL_eq]; rfl)), by rw [one_sum]; exact g15, ?_⟩
  rw [one_flat]
  exact Dn.kp Kp.refl ((Run.get h :))

theorem c_can_follow (o : Ok G) : Cal G "can_follow" 15 (fun ds M Ex Q => ∃ (bag' : List Nat) (row' : List Nat) (letter' : Nat), ds = [.str bag', .str row', .str [letter']] ∧ Run (m_can_follow bag' row' letter') fun r => Q (.bl r) M) := by
  refine Cal.imp (k_can_follow o 14 (sp := fun za zb zc M Ex Q => ∃ (bag' : List Nat) (row' : List Nat) (letter' : Nat), za = .str bag' ∧ zb = .str row' ∧ zc = .str [letter'] ∧ Run (m_can_follow bag' row' letter') fun r => Q (.bl r) M) ?_) (fun ds M Ex Q ⟨bag', row', letter', e, h⟩ => ⟨_, _, _, e, bag', row', letter', rfl, rfl, rfl, h⟩)
  rintro _ _ _ M Ex Q ⟨bag', row', letter', rfl, rfl, rfl, h⟩
  unfold m_can_follow at h
  obtain ⟨x1, ex1, h⟩ := Run.ex h
  refine W.expr ?_
  refine E.call (c_need_bag o) (by decide) ?_
  refine A.cons ?_
  refine E.var .here ?_
  refine A.nil ?_
  refine ⟨bag', rfl, _, ex1, ?_⟩
  obtain ⟨x2, ex2, h⟩ := Run.ex h
  refine W.expr ?_
  refine E.call (c_need_row o) (by decide) ?_
  refine A.cons ?_
  refine E.var .here ?_
  refine A.cons ?_
  refine E.var (.there .here) ?_
  refine A.nil ?_
  refine ⟨bag', row', rfl, _, ex2, ?_⟩
  obtain ⟨x3, ex3, h⟩ := Run.ex h
  refine W.expr ?_
  refine E.call (c_need_letter o) (by decide) ?_
  refine A.cons ?_
  refine E.var .here ?_
  refine A.cons ?_
  refine E.var (.there (.there .here)) ?_
  refine A.nil ?_
  refine ⟨bag', letter', rfl, _, ex3, ?_⟩
  obtain ⟨x4, ex4, h⟩ := Run.ex h
  refine W.ret ?_
  refine E.cmp ?_
  refine E.var (.there (.there .here)) ?_
  refine E.call (c_coming_letters o) (by decide) ?_
  refine A.cons ?_
  refine E.var .here ?_
  refine A.cons ?_
  refine E.var (.there .here) ?_
  refine A.nil ?_
  refine ⟨bag', row', rfl, _, ex4, ?_⟩
  refine O2.inS ?_
  exact Dn.kp Kp.refl ((Run.get h :))

theorem c_waits (o : Ok G) : Cal G "waits" 3 (fun ds M Ex Q => ∃ (bag' : List Nat) (row' : List Nat) (start' : Int) (letter' : Nat), ds = [.str bag', .str row', .int start', .str [letter']] ∧ Run (m_waits bag' row' start' letter') fun r => Q (.tup [(.int r.1 : D), (.int r.2 : D)]) M) := by
  refine Cal.imp (k_waits o 2 (sp := fun za zb zc zd M Ex Q => ∃ (bag' : List Nat) (row' : List Nat) (start' : Int) (letter' : Nat), za = .str bag' ∧ zb = .str row' ∧ zc = .int start' ∧ zd = .str [letter'] ∧ Run (m_waits bag' row' start' letter') fun r => Q (.tup [(.int r.1 : D), (.int r.2 : D)]) M) ?_) (fun ds M Ex Q ⟨bag', row', start', letter', e, h⟩ => ⟨_, _, _, _, e, bag', row', start', letter', rfl, rfl, rfl, rfl, h⟩)
  rintro _ _ _ _ M Ex Q ⟨bag', row', start', letter', rfl, rfl, rfl, rfl, h⟩
  unfold m_waits at h
  obtain ⟨g1, h⟩ := Run.gd h
  refine W.set ?_
  refine E.callB o.b_len bb_len ?_
  refine A.cons ?_
  refine E.var .here ?_
  refine A.nil ?_
  refine F1.lenS g1 ?_
  refine ⟨_, (.there (.there (.there (.there .here)))), ?_⟩
  obtain ⟨g2, h⟩ := Run.gd h
  obtain ⟨g3, h⟩ := Run.gd h
  refine W.set ?_
  refine E.bin ?_
  refine E.bin ?_
  refine E.var (.there (.there .here)) ?_
  refine E.callB o.b_len bb_len ?_
  refine A.cons ?_
  refine E.var (.there .here) ?_
  refine A.nil ?_
  refine F1.lenS g2 ?_
  refine O2.add ?_
  refine E.var (.there (.there (.there (.there .here)))) ?_
  refine O2.mod g3 ?_
  refine ⟨_, (.there (.there (.there (.there (.there .here))))), ?_⟩
  obtain ⟨g4, h⟩ := Run.gd h
  obtain ⟨g5, h⟩ := Run.gd h
  obtain ⟨g6, h⟩ := Run.gd h
  refine W.set ?_
  refine E.slS ?_
  refine E.var (.there .here) ?_
  refine OI.some_ ?_
  refine E.bin ?_
  refine E.callB o.b_len bb_len ?_
  refine A.cons ?_
  refine E.var (.there .here) ?_
  refine A.nil ?_
  refine F1.lenS g4 ?_
  refine E.callB o.b_min bb_min ?_
  refine A.cons ?_
  refine E.var (.there (.there (.there (.there (.there .here))))) ?_
  refine A.cons ?_
  refine E.callB o.b_len bb_len ?_
  refine A.cons ?_
  refine E.var (.there .here) ?_
  refine A.nil ?_
  refine F1.lenS g5 ?_
  refine A.nil ?_
  refine F1.min2 ?_
  refine O2.sub ?_
  refine ⟨_, rfl, ?_⟩
  refine OI.none_ ?_
  refine ⟨_, rfl, g6, ?_⟩
  refine ⟨_, (.there (.there (.there (.there (.there (.there .here)))))), ?_⟩
  refine W.set ?_
  refine E.bin ?_
  refine E.var (.there (.there (.there (.there .here)))) ?_
  refine E.var (.there (.there (.there (.there (.there .here))))) ?_
  refine O2.sub ?_
  refine ⟨_, (.there (.there (.there (.there (.there (.there (.there .here))))))), ?_⟩
  refine W.ite ?_
  refine T.cmp ?_
  refine E.var (.there (.there (.there .here))) ?_
  refine E.var (.there (.there (.there (.there (.there (.there .here)))))) ?_
  refine O2.inS ?_
  refine ⟨_, rfl, ?_⟩
  refine on_c (fun c7 => ?_) fun c7 => ?_
  · skip
    have h := Run.ifT c7 h
    refine W.ret ?_
    refine E.tup ?_
    refine A.cons ?_
    refine E.bin ?_
    refine E.var (.there (.there (.there (.there (.there (.there (.there .here))))))) ?_
    refine E.int ?_
    refine O2.add ?_
    refine A.cons ?_
    refine E.bin ?_
    refine E.var (.there (.there (.there (.there (.there (.there (.there .here))))))) ?_
    refine E.var (.there (.there (.there (.there .here)))) ?_
    refine O2.add ?_
    refine A.nil ⟨len_ok rfl, ?_⟩
    exact Dn.kp Kp.refl ((Run.get h :))
  have h := Run.ifF c7 h
  refine W.nil ?_
  obtain ⟨g8, h⟩ := Run.gd h
  refine W.ite ?_
  refine T.det (b := ((decide ((46 : Nat) ∈ (cut row' (some ((row'.length : Int) - (min ((start' + (row'.length : Int)) % (bag'.length : Int)) (row'.length : Int)))) none))) || (decide (((cut row' (some ((row'.length : Int) - (min ((start' + (row'.length : Int)) % (bag'.length : Int)) (row'.length : Int)))) none).length : Int) < ((start' + (row'.length : Int)) % (bag'.length : Int)))))) ?_ ?_
  · skip
    refine T.bool ?_
    refine TB.or ?_
    refine T.cmp ?_
    refine E.gstr o.c_UNSEEN l_1 ?_
    refine E.var (.there (.there (.there (.there (.there (.there .here)))))) ?_
    refine O2.inS ?_
    refine ⟨_, rfl, ?_⟩
    refine on_c (fun c9 => ?_) fun c9 => ?_
    · skip
      exact ⟨by rw [c9]; first | rfl | exact dec_irr _ _ | exact congrArg Bool.not (dec_irr _ _), rfl⟩
    · skip
      refine TB.or1 ?_
      refine T.cmp ?_
      refine E.var (.there (.there (.there (.there (.there .here))))) ?_
      refine E.callB o.b_len bb_len ?_
      refine A.cons ?_
      refine E.var (.there (.there (.there (.there (.there (.there .here)))))) ?_
      refine A.nil ?_
      refine F1.lenS (g8 c9) ?_
      refine O2.gt ?_
      refine ⟨_, rfl, ?_⟩
      exact ⟨by rw [c9]; first | rfl | exact dec_irr _ _ | exact congrArg Bool.not (dec_irr _ _), rfl⟩
  refine on_c (fun c10 => ?_) fun c10 => ?_
  · skip
    have h := Run.ifT c10 h
    refine W.ret ?_
    refine E.tup ?_
    refine A.cons ?_
    refine E.int ?_
    refine A.cons ?_
    refine E.bin ?_
    refine E.var (.there (.there (.there (.there (.there (.there (.there .here))))))) ?_
    refine E.var (.there (.there (.there (.there .here)))) ?_
    refine O2.add ?_
    refine A.nil ⟨len_ok rfl, ?_⟩
    exact Dn.kp Kp.refl ((Run.get h :))
  have h := Run.ifF c10 h
  refine W.nil ?_
  refine W.ret ?_
  refine E.tup ?_
  refine A.cons ?_
  refine E.int ?_
  refine A.cons ?_
  refine E.var (.there (.there (.there (.there (.there (.there (.there .here))))))) ?_
  refine A.nil ⟨len_ok rfl, ?_⟩
  exact Dn.kp Kp.refl ((Run.get h :))

theorem c_wait_range (o : Ok G) : Cal G "wait_range" 12 (fun ds M Ex Q => ∃ (bag' : List Nat) (row' : List Nat) (letter' : Nat), ds = [.str bag', .str row', .str [letter']] ∧ Run (m_wait_range bag' row' letter') fun r => Q ((optD (fun x => .tup [(.int x.1 : D), (.int x.2 : D)]) r)) M) := by
  refine Cal.imp (k_wait_range o 11 (sp := fun za zb zc M Ex Q => ∃ (bag' : List Nat) (row' : List Nat) (letter' : Nat), za = .str bag' ∧ zb = .str row' ∧ zc = .str [letter'] ∧ Run (m_wait_range bag' row' letter') fun r => Q ((optD (fun x => .tup [(.int x.1 : D), (.int x.2 : D)]) r)) M) ?_) (fun ds M Ex Q ⟨bag', row', letter', e, h⟩ => ⟨_, _, _, e, bag', row', letter', rfl, rfl, rfl, h⟩)
  rintro _ _ _ M Ex Q ⟨bag', row', letter', rfl, rfl, rfl, h⟩
  unfold m_wait_range at h
  obtain ⟨x1, ex1, h⟩ := Run.ex h
  refine W.expr ?_
  refine E.call (c_need_bag o) (by decide) ?_
  refine A.cons ?_
  refine E.var .here ?_
  refine A.nil ?_
  refine ⟨bag', rfl, _, ex1, ?_⟩
  obtain ⟨x2, ex2, h⟩ := Run.ex h
  refine W.expr ?_
  refine E.call (c_need_row o) (by decide) ?_
  refine A.cons ?_
  refine E.var .here ?_
  refine A.cons ?_
  refine E.var (.there .here) ?_
  refine A.nil ?_
  refine ⟨bag', row', rfl, _, ex2, ?_⟩
  obtain ⟨x3, ex3, h⟩ := Run.ex h
  refine W.expr ?_
  refine E.call (c_need_letter o) (by decide) ?_
  refine A.cons ?_
  refine E.var .here ?_
  refine A.cons ?_
  refine E.var (.there (.there .here)) ?_
  refine A.nil ?_
  refine ⟨bag', letter', rfl, _, ex3, ?_⟩
  obtain ⟨g4, h⟩ := Run.gd h
  obtain ⟨x5, ex5, h⟩ := Run.ex h
  obtain ⟨g6, h⟩ := Run.gd h
  obtain ⟨y8, vy8, hy8, ey8, h⟩ := mapO_ex h
  refine W.lcX [("start", 4)] (Γr := fun d => ([("bag", some (.str bag')), ("row", some (.str row')), ("letter", some (.str [letter'])), ("found", some d), ("start", none), ("least", none), ("greatest", none)] : Gm)) (fun _ => (.there (.there (.there .here)))) (I1.list ?_)
  refine E.call (c_all_starts o) (by decide) ?_
  refine A.cons ?_
  refine E.callB o.b_len bb_len ?_
  refine A.cons ?_
  refine E.var .here ?_
  refine A.nil ?_
  refine F1.lenS g4 ?_
  refine A.cons ?_
  refine E.var (.there .here) ?_
  refine A.nil ?_
  refine ⟨(bag'.length : Int), row', rfl, _, ex5, ?_⟩
  refine .inl ⟨_, rfl, ?_⟩
  refine ⟨_, _, x5, y8, D.int, vy8, (fun x => .tup [(.int x.1 : D), (.int x.2 : D)]), rfl, hy8, g6, trivial, ?_, ?_⟩
  · skip
    rintro start' hx9
    refine TgB.nm (Γ := ([("bag", some (.str bag')), ("row", some (.str row')), ("letter", some (.str [letter'])), ("found", none), ("start", none), ("least", none), ("greatest", none)] : Gm)) (by rfl) (.there (.there (.there (.there .here)))) ?_
    have h10 := ey8 _ hx9
    obtain ⟨x7, ex7, h10⟩ := Run.ex h10
    refine E.call (c_waits o) (by decide) ?_
    refine A.cons ?_
    refine E.var .here ?_
    refine A.cons ?_
    refine E.var (.there .here) ?_
    refine A.cons ?_
    refine E.var (.there (.there (.there (.there .here)))) ?_
    refine A.cons ?_
    refine E.var (.there (.there .here)) ?_
    refine A.nil ?_
    refine ⟨bag', row', start', letter', rfl, _, ex7, ?_⟩
    exact ⟨by first | rw [(Run.get h10 :)] | rw [← (Run.get h10 :)], rfl⟩
  refine W.ite ?_
  refine T.cmp ?_
  refine E.var (.there (.there (.there .here))) ?_
  refine E.lst ?_
  refine A.nil ⟨len_ok rfl, ?_⟩
  refine O2.eqK (a := y8) (b := []) (Knd.lst (Knd.pair Knd.int Knd.int)) (by decide) (fun _ _ => ⟨trivial, trivial⟩) (fun _ _ => ⟨trivial, trivial⟩) ?_
  refine ⟨_, rfl, ?_⟩
  refine on_c (fun c11 => ?_) fun c11 => ?_
  · skip
    have h := Run.ifT c11 h
    refine W.ret ?_
    refine E.non ?_
    exact Dn.kp Kp.refl ((Run.get h :))
  have h := Run.ifF c11 h
  refine W.nil ?_
  obtain ⟨g12, h⟩ := Run.gd h
  obtain ⟨g13, h⟩ := Run.gd h
  obtain ⟨g14, h⟩ := Run.gd h
  obtain ⟨g15, h⟩ := Run.gd h
  refine W.ret ?_
  refine E.tup ?_
  refine A.cons ?_
  refine E.callB o.b_min bb_min ?_
  refine A.cons ?_
  refine E.lcX [("least", 5), ("greatest", 6)] (I1.list ?_)
  refine E.var (.there (.there (.there .here))) ?_
  refine .inl ⟨_, rfl, ?_⟩
  refine ⟨_, _, y8, (y8.map fun ((least', greatest') : Int × Int) => least'), (fun x => .tup [(.int x.1 : D), (.int x.2 : D)]), (fun ((least', greatest') : Int × Int) => least'), D.int, rfl, rfl, g12, trivial, ?_, ?_⟩
  · skip
    rintro ⟨least', greatest'⟩ hx16
    refine TgB.nmT (Γ := ([("bag", some (.str bag')), ("row", some (.str row')), ("letter", some (.str [letter'])), ("found", some (.lst (y8.map (fun x => .tup [(.int x.1 : D), (.int x.2 : D)])))), ("start", none), ("least", none), ("greatest", none)] : Gm)) (by rfl) (TgB.tup ?_)
    refine TgBs.cons rfl (.there (.there (.there (.there (.there .here))))) ?_
    refine TgBs.cons rfl (.there (.there (.there (.there (.there (.there .here)))))) ?_
    refine TgBs.nil ?_
    refine E.var (.there (.there (.there (.there (.there .here))))) ?_
    exact ⟨rfl, rfl⟩
  refine A.nil ?_
  refine F1.minX g13 ?_
  refine A.cons ?_
  refine E.callB o.b_max bb_max ?_
  refine A.cons ?_
  refine E.lcX [("least", 5), ("greatest", 6)] (I1.list ?_)
  refine E.var (.there (.there (.there .here))) ?_
  refine .inl ⟨_, rfl, ?_⟩
  refine ⟨_, _, y8, (y8.map fun ((least'2, greatest'2) : Int × Int) => greatest'2), (fun x => .tup [(.int x.1 : D), (.int x.2 : D)]), (fun ((least'2, greatest'2) : Int × Int) => greatest'2), D.int, rfl, rfl, g14, trivial, ?_, ?_⟩
  · skip
    rintro ⟨least'2, greatest'2⟩ hx17
    refine TgB.nmT (Γ := ([("bag", some (.str bag')), ("row", some (.str row')), ("letter", some (.str [letter'])), ("found", some (.lst (y8.map (fun x => .tup [(.int x.1 : D), (.int x.2 : D)])))), ("start", none), ("least", none), ("greatest", none)] : Gm)) (by rfl) (TgB.tup ?_)
    refine TgBs.cons rfl (.there (.there (.there (.there (.there .here))))) ?_
    refine TgBs.cons rfl (.there (.there (.there (.there (.there (.there .here)))))) ?_
    refine TgBs.nil ?_
    refine E.var (.there (.there (.there (.there (.there (.there .here)))))) ?_
    exact ⟨rfl, rfl⟩
  refine A.nil ?_
  refine F1.maxX g15 ?_
  refine A.nil ⟨len_ok rfl, ?_⟩
  exact Dn.kp Kp.refl ((Run.get h :))

theorem c_law_good (o : Ok G) : Cal G "_law_good" 3 (fun ds M Ex Q => ∃ (size' : Int) (line' : List Nat) (start' : Int), ds = [.int size', .str line', .int start'] ∧ Run (m_law_good size' line' start') fun r => Q (.bl r) M) := by
  refine Cal.imp (k_law_good o 2 (sp := fun za zb zc M Ex Q => ∃ (size' : Int) (line' : List Nat) (start' : Int), za = .int size' ∧ zb = .str line' ∧ zc = .int start' ∧ Run (m_law_good size' line' start') fun r => Q (.bl r) M) ?_) (fun ds M Ex Q ⟨size', line', start', e, h⟩ => ⟨_, _, _, e, size', line', start', rfl, rfl, rfl, h⟩)
  rintro _ _ _ M Ex Q ⟨size', line', start', rfl, rfl, rfl, h⟩
  unfold m_law_good at h
  refine W.set ?_
  refine E.dictT fun a_seen' n_seen' => ?_
  refine ⟨_, (.there (.there (.there .here))), ?_⟩
  have f_seen' : (mset M a_seen' (.dT [])) a_seen' = some (moT (fun p => [kI p.1, kC p.2]) D.bl ([] : List ((Int × Nat) × (Bool)))) := by first | exact mset_same | (rw [mset_same]; simp)
  have n0_a_seen' : M a_seen' = none := Kp.fresh Kp.refl n_seen' (List.not_mem_nil)
  have kp : Kp [] M (mset M a_seen' (.dT [])) := Kp.new Kp.refl n0_a_seen'
  generalize (mset M a_seen' (.dT [])) = M1 at f_seen' kp ⊢
  refine W.for_ (I1.enumS o.b_enumerate ?_)
  refine E.var (.there .here) ?_
  refine ⟨_, rfl, ?_⟩
  obtain ⟨N2, hN2, h⟩ := Run.cut h
  refine for_flowO (fun (seen' : (List ((Int × Nat) × (Bool)))) Γ' M' => Γ' = ([("size", some (.int size')), ("line", some (.str line')), ("start", some (.int start')), ("seen", some (.adr a_seen')), ("place", none), ("sign", none), ("key", none)] : Gm) ∧ Kp [] M M' ∧ M' a_seen' = some (moT (fun p => [kI p.1, kC p.2]) D.bl seen') ∧ True) h (enumS_I _) (fun _ _ _ _ => trivial) ⟨_, (.keep (.keep (.keep (.keep (.drop (.drop (.drop .nil))))))), rfl, kp, f_seen', trivial⟩ ?_ ?_
  · skip
    rintro ⟨place', sign'⟩ seen' Γ' M4 N5 hx6 ⟨rfl, kp, f_seen', _⟩ hr7 h
    refine Tg.tup ?_
    refine Tgs.cons rfl (.there (.there (.there (.there .here)))) ?_
    refine Tgs.cons rfl (.there (.there (.there (.there (.there .here))))) ?_
    refine Tgs.nil ?_
    obtain ⟨g8, h⟩ := Run.gd h
    refine W.set ?_
    refine E.tup ?_
    refine A.cons ?_
    refine E.bin ?_
    refine E.bin ?_
    refine E.var (.there (.there (.there (.there .here)))) ?_
    refine E.var (.there (.there .here)) ?_
    refine O2.add ?_
    refine E.var .here ?_
    refine O2.fdiv (divOk.ok g8) ?_
    refine A.cons ?_
    refine E.var (.there (.there (.there (.there (.there .here))))) ?_
    refine A.nil ⟨len_ok rfl, ?_⟩
    refine ⟨_, (.there (.there (.there (.there (.there (.there .here)))))), ?_⟩
    refine W.ite ?_
    refine T.det (b := ((!(decide (sign' = (46 : Nat)))) && (getA seen' (((place' + start') / size'), sign')).isSome)) ?_ ?_
    · skip
      refine T.bool ?_
      refine TB.and ?_
      refine T.cmp ?_
      refine E.var (.there (.there (.there (.there (.there .here))))) ?_
      refine E.str l_1 ?_
      refine O2.neC ?_
      refine ⟨_, rfl, ?_⟩
      refine on_c (fun c9 => ?_) fun c9 => ?_
      · skip
        refine TB.and1 ?_
        refine T.cmp ?_
        refine E.var (.there (.there (.there (.there (.there (.there .here)))))) ?_
        refine E.var (.there (.there (.there .here))) ?_
        refine O2.inA (k := (((place' + start') / size'), sign')) (DK.t (KyK.pair Ky.int Ky.chr)) f_seen' ?_
        refine ⟨_, rfl, ?_⟩
        exact ⟨by rw [c9]; first | rfl | exact dec_irr _ _ | exact congrArg Bool.not (dec_irr _ _), rfl⟩
      · skip
        exact ⟨by rw [c9]; first | rfl | exact dec_irr _ _ | exact congrArg Bool.not (dec_irr _ _), rfl⟩
    refine on_c (fun c10 => ?_) fun c10 => ?_
    · skip
      have h := Run.ifT c10 h
      refine W.ret ?_
      refine E.bl ?_
      exact Dn.kp kp ((Run.get (hN2 _ (hr7 _ ((Run.get h :)))) :))
    have h := Run.ifF c10 h
    refine W.nil ?_
    obtain ⟨g11, h⟩ := Run.gd h
    refine W.dput ?_
    refine E.bl ?_
    refine E.var (.there (.there (.there .here))) ?_
    refine E.var (.there (.there (.there (.there (.there (.there .here)))))) ?_
    refine ⟨_, _, _, rfl, f_seen', (DK.t (KyK.pair Ky.int Ky.chr)).put (vf := D.bl) seen' (((place' + start') / size'), sign') true g11, ?_⟩
    have f_seen' : (mset M4 a_seen' (moT (fun p => [kI p.1, kC p.2]) D.bl (putA seen' (((place' + start') / size'), sign') true))) a_seen' = some (moT (fun p => [kI p.1, kC p.2]) D.bl (putA seen' (((place' + start') / size'), sign') true)) := by first | exact mset_same | (rw [mset_same]; simp)
    have kp : Kp [] M (mset M4 a_seen' (moT (fun p => [kI p.1, kC p.2]) D.bl (putA seen' (((place' + start') / size'), sign') true))) := Kp.new kp n0_a_seen'
    generalize (mset M4 a_seen' (moT (fun p => [kI p.1, kC p.2]) D.bl (putA seen' (((place' + start') / size'), sign') true))) = M12 at f_seen' kp ⊢
    refine W.nil ?_
    exact ⟨_, (.keep (.keep (.keep (.keep (.drop (.drop (.drop .nil))))))), (putA seen' (((place' + start') / size'), sign') true), ⟨rfl, kp, f_seen', trivial⟩, (Run.get h :)⟩
  rintro seen' Γ' M13 ⟨rfl, kp, f_seen', _⟩ h
  have h := hN2 _ h
  refine W.ret ?_
  refine E.bl ?_
  exact Dn.kp kp ((Run.get h :))

theorem c_law_starts (o : Ok G) : Cal G "_law_starts" 6 (fun ds M Ex Q => ∃ (size' : Int) (line' : List Nat), ds = [.int size', .str line'] ∧ Run (m_law_starts size' line') fun r => Q (.lst (r.map D.int)) M) := by
  refine Cal.imp (k_law_starts o 5 (sp := fun za zb M Ex Q => ∃ (size' : Int) (line' : List Nat), za = .int size' ∧ zb = .str line' ∧ Run (m_law_starts size' line') fun r => Q (.lst (r.map D.int)) M) ?_) (fun ds M Ex Q ⟨size', line', e, h⟩ => ⟨_, _, e, size', line', rfl, rfl, h⟩)
  rintro _ _ M Ex Q ⟨size', line', rfl, rfl, h⟩
  unfold m_law_starts at h
  obtain ⟨g1, h⟩ := Run.gd h
  obtain ⟨z3, pz3, hz3, ez3, h⟩ := filterO_ex h
  refine W.ret ?_
  refine E.lcY [("start", 2)] (I1.range1 o.b_range ?_)
  refine E.var .here ?_
  refine ⟨_, rfl, (rngOk.one g1).1, (rngOk.one g1).2, ?_⟩
  refine ⟨_, _, (rangeI (0 : Int) size'), z3, D.int, pz3, (fun x => x), D.int, rngD_0, (by rw [hz3]; exact (List.map_id' _).symm), (rngOk.len g1), trivial, ?_, ?_⟩
  · skip
    rintro start' hx4
    refine TgB.nm (Γ := ([("size", some (.int size')), ("line", some (.str line')), ("start", none)] : Gm)) (by rfl) (.there (.there .here)) ?_
    have h5 := ez3 _ hx4
    obtain ⟨x2, ex2, h5⟩ := Run.ex h5
    refine T.val ?_
    refine E.call (c_law_good o) (by decide) ?_
    refine A.cons ?_
    refine E.var .here ?_
    refine A.cons ?_
    refine E.var (.there .here) ?_
    refine A.cons ?_
    refine E.var (.there (.there .here)) ?_
    refine A.nil ?_
    refine ⟨size', line', start', rfl, _, ex2, ?_⟩
    refine ⟨_, rfl, ?_⟩
    refine ⟨(Run.get h5 :), rfl, fun hp6 => ?_⟩
    refine E.var (.there (.there .here)) ?_
    exact ⟨rfl, rfl⟩
  exact Dn.kp Kp.refl ((Run.get h :))

theorem c_law_agree (o : Ok G) : Cal G "_law_agree" 9 (fun ds M Ex Q => ∃ (bag' : List Nat) (line' : List Nat) (more' : Int), ds = [.str bag', .str line', .int more'] ∧ Run (m_law_agree bag' line' more') fun r => Q (.lst (r.map D.str)) M) := by
  refine Cal.imp (k_law_agree o 8 (sp := fun za zb zc M Ex Q => ∃ (bag' : List Nat) (line' : List Nat) (more' : Int), za = .str bag' ∧ zb = .str line' ∧ zc = .int more' ∧ Run (m_law_agree bag' line' more') fun r => Q (.lst (r.map D.str)) M) ?_) (fun ds M Ex Q ⟨bag', line', more', e, h⟩ => ⟨_, _, _, e, bag', line', more', rfl, rfl, rfl, h⟩)
  rintro _ _ _ M Ex Q ⟨bag', line', more', rfl, rfl, rfl, h⟩
  unfold m_law_agree at h
  refine W.set ?_
  refine E.lst ?_
  refine A.cons ?_
  refine E.str l_2 ?_
  refine A.nil ⟨len_ok rfl, ?_⟩
  refine ⟨_, (.there (.there (.there .here))), ?_⟩
  obtain ⟨g1, h⟩ := Run.gd h
  obtain ⟨g2, h⟩ := Run.gd h
  refine W.for_ (I1.range1 o.b_range ?_)
  refine E.bin ?_
  refine E.callB o.b_len bb_len ?_
  refine A.cons ?_
  refine E.var (.there .here) ?_
  refine A.nil ?_
  refine F1.lenS g1 ?_
  refine E.var (.there (.there .here)) ?_
  refine O2.add ?_
  refine ⟨_, rfl, (rngOk.one g2).1, (rngOk.one g2).2, ?_⟩
  obtain ⟨N3, hN3, h⟩ := Run.cut h
  refine for_foldO (fun (found' : (List (List Nat))) Γ' M' => Γ' = ([("bag", some (.str bag')), ("line", some (.str line')), ("more", some (.int more')), ("found", some (.lst (found'.map D.str))), ("place", none), ("signs", none), ("longer", none), ("past", none), ("sign", none)] : Gm) ∧ Kp [] M M' ∧ True) h (rngD_0) (fun _ _ _ _ => trivial) ⟨_, (.keep (.keep (.keep (.keep (.drop (.drop (.drop (.drop (.drop .nil))))))))), rfl, Kp.refl, trivial⟩ ?_ ?_
  · skip
    rintro place' found' Γ' M5 N6 hx7 ⟨rfl, kp, _⟩ h
    refine Tg.name (.there (.there (.there (.there .here)))) ?_
    obtain ⟨g9, h⟩ := Run.gd h
    obtain ⟨g10, h⟩ := Run.gd h
    obtain ⟨x11, ex11, h⟩ := Run.ex h
    obtain ⟨g12, h⟩ := Run.gd h
    obtain ⟨x13, ex13, h⟩ := Run.ex h
    refine W.set ?_
    refine E.det (d := .str (if ((decide ((line'.length : Int) ≤ place')) || (decide (x11 = (46 : Nat)))) = true then bag' else [x13])) ?_ ?_
    · skip
      refine E.ife ?_
      refine T.det (b := ((decide ((line'.length : Int) ≤ place')) || (decide (x11 = (46 : Nat))))) ?_ ?_
      · skip
        refine T.bool ?_
        refine TB.or ?_
        refine T.cmp ?_
        refine E.var (.there (.there (.there (.there .here)))) ?_
        refine E.callB o.b_len bb_len ?_
        refine A.cons ?_
        refine E.var (.there .here) ?_
        refine A.nil ?_
        refine F1.lenS g9 ?_
        refine O2.ge ?_
        refine ⟨_, rfl, ?_⟩
        refine on_c (fun c14 => ?_) fun c14 => ?_
        · skip
          exact ⟨by rw [c14]; first | rfl | exact dec_irr _ _ | exact congrArg Bool.not (dec_irr _ _), rfl⟩
        · skip
          refine TB.or1 ?_
          refine T.cmp ?_
          refine E.ixS ?_
          refine E.var (.there .here) ?_
          refine E.var (.there (.there (.there (.there .here)))) ?_
          refine ⟨_, _, _, rfl, rfl, (g10 c14).2, (g10 c14).1, (exF c14 ex11), ?_⟩
          refine E.str l_1 ?_
          refine O2.eqC ?_
          refine ⟨_, rfl, ?_⟩
          exact ⟨by rw [c14]; first | rfl | exact dec_irr _ _ | exact congrArg Bool.not (dec_irr _ _), rfl⟩
      refine on_c (fun c15 => ?_) fun c15 => ?_
      · skip
        refine E.var .here ?_
        exact ⟨by rw [c15]; first | rfl | exact dec_irr _ _ | exact congrArg Bool.not (dec_irr _ _), rfl⟩
      · skip
        refine E.ixS ?_
        refine E.var (.there .here) ?_
        refine E.var (.there (.there (.there (.there .here)))) ?_
        refine ⟨_, _, _, rfl, rfl, (g12 c15).2, (g12 c15).1, (exF c15 ex13), ?_⟩
        exact ⟨by rw [c15]; first | rfl | exact dec_irr _ _ | exact congrArg Bool.not (dec_irr _ _), rfl⟩
    refine ⟨_, (.there (.there (.there (.there (.there .here))))), ?_⟩
    refine W.set ?_
    refine E.lst ?_
    refine A.nil ⟨len_ok rfl, ?_⟩
    refine ⟨_, (.there (.there (.there (.there (.there (.there .here)))))), ?_⟩
    refine W.for_ (I1.list ?_)
    refine E.var (.there (.there (.there .here))) ?_
    refine .inl ⟨_, rfl, ?_⟩
    obtain ⟨N16, hN16, h⟩ := Run.cut h
    refine for_foldO (fun (longer' : (List (List Nat))) Γ' M' => Γ' = ([("bag", some (.str bag')), ("line", some (.str line')), ("more", some (.int more')), ("found", some (.lst (found'.map D.str))), ("place", some (.int place')), ("signs", some (.str (if ((decide ((line'.length : Int) ≤ place')) || (decide (x11 = (46 : Nat)))) = true then bag' else [x13]))), ("longer", some (.lst (longer'.map D.str))), ("past", none), ("sign", none)] : Gm) ∧ Kp [] M M' ∧ True) h rfl (fun _ _ _ _ => trivial) ⟨_, (.keep (.keep (.keep (.keep (.keep (.keep (.keep (.drop (.drop .nil))))))))), rfl, kp, trivial⟩ ?_ ?_
    · skip
      rintro past' longer' Γ' M18 N19 hx20 ⟨rfl, kp, _⟩ h
      refine Tg.name (.there (.there (.there (.there (.there (.there (.there .here))))))) ?_
      obtain ⟨g22, h⟩ := Run.gd h
      obtain ⟨z26, pz26, hz26, ez26, h⟩ := filterO_ex h
      obtain ⟨y28, vy28, hy28, ey28, h⟩ := mapO_ex h
      obtain ⟨g29, h⟩ := Run.gd h
      refine W.set ?_
      refine E.bin ?_
      refine E.var (.there (.there (.there (.there (.there (.there .here)))))) ?_
      refine E.lcY [("sign", 8)] (I1.str ?_)
      refine E.var (.there (.there (.there (.there (.there .here))))) ?_
      refine ⟨_, rfl, ?_⟩
      refine ⟨_, _, (if ((decide ((line'.length : Int) ≤ place')) || (decide (x11 = (46 : Nat)))) = true then bag' else [x13]), y28, (fun x => .str [x]), pz26, vy28, D.str, rfl, (by rw [hy28, hz26]), g22, trivial, ?_, ?_⟩
      · skip
        rintro sign' hx30
        refine TgB.nm (Γ := ([("bag", some (.str bag')), ("line", some (.str line')), ("more", some (.int more')), ("found", some (.lst (found'.map D.str))), ("place", some (.int place')), ("signs", some (.str (if ((decide ((line'.length : Int) ≤ place')) || (decide (x11 = (46 : Nat)))) = true then bag' else [x13]))), ("longer", some (.lst (longer'.map D.str))), ("past", some (.str past')), ("sign", none)] : Gm)) (by rfl) (.there (.there (.there (.there (.there (.there (.there (.there .here)))))))) ?_
        have h31 := ez26 _ hx30
        obtain ⟨g23, h31⟩ := Run.gd h31
        obtain ⟨g24, h31⟩ := Run.gd h31
        obtain ⟨x25, ex25, h31⟩ := Run.ex h31
        refine T.cmp ?_
        refine E.call (c_law_starts o) (by decide) ?_
        refine A.cons ?_
        refine E.callB o.b_len bb_len ?_
        refine A.cons ?_
        refine E.var .here ?_
        refine A.nil ?_
        refine F1.lenS g23 ?_
        refine A.cons ?_
        refine E.bin ?_
        refine E.var (.there (.there (.there (.there (.there (.there (.there .here))))))) ?_
        refine E.var (.there (.there (.there (.there (.there (.there (.there (.there .here)))))))) ?_
        refine O2.addS g24 ?_
        refine A.nil ?_
        refine ⟨(bag'.length : Int), (past' ++ [sign']), rfl, _, ex25, ?_⟩
        refine E.lst ?_
        refine A.nil ⟨len_ok rfl, ?_⟩
        refine O2.neK (a := x25) (b := ([] : List (Int))) (Knd.lst Knd.int) (by decide) (fun _ _ => trivial) (fun _ _ => trivial) ?_
        refine ⟨_, rfl, ?_⟩
        refine ⟨(Run.get h31 :), rfl, fun hp32 => ?_⟩
        have h33 := ey28 _ (mem_flt hz26 hx30 hp32)
        obtain ⟨g27, h33⟩ := Run.gd h33
        refine E.bin ?_
        refine E.var (.there (.there (.there (.there (.there (.there (.there .here))))))) ?_
        refine E.var (.there (.there (.there (.there (.there (.there (.there (.there .here)))))))) ?_
        refine O2.addS g27 ?_
        exact ⟨by first | rw [(Run.get h33 :)] | rw [← (Run.get h33 :)], rfl⟩
      refine O2.addX (f := D.str) (xs := longer') (ys := y28) g29 ?_
      refine ⟨_, (.there (.there (.there (.there (.there (.there .here)))))), ?_⟩
      refine W.nil ?_
      exact ⟨_, (.keep (.keep (.keep (.keep (.keep (.keep (.keep (.drop (.drop .nil))))))))), (longer' ++ y28), ⟨rfl, kp, trivial⟩, (Run.get h :)⟩
    rintro longer' Γ' M34 ⟨rfl, kp, _⟩ h
    have h := hN16 _ h
    refine W.set ?_
    refine E.var (.there (.there (.there (.there (.there (.there .here)))))) ?_
    refine ⟨_, (.there (.there (.there .here))), ?_⟩
    refine W.nil ?_
    exact ⟨_, (.keep (.keep (.keep (.keep (.drop (.drop (.drop (.drop (.drop .nil))))))))), longer', ⟨rfl, kp, trivial⟩, (Run.get h :)⟩
  rintro found' Γ' M35 ⟨rfl, kp, _⟩ h
  have h := hN3 _ h
  refine W.ret ?_
  refine E.var (.there (.there (.there .here))) ?_
  exact Dn.kp kp ((Run.get h :))

theorem w_law (o : Ok G) (pure_law : ∀ ns : List Int, ns.length ≤ 63 → m_law ns fun r => r = true) : Cal G "law" 60 (spLaw 63) := by
  refine Cal.imp (k_law o 59 (sp := fun za M Ex Q => ∃ (script' : List Int), za = .lst (script'.map D.int) ∧ (∀ M', Q (.bl true) M') ∧ m_law script' fun r => r = true) ?_) (fun ds M Ex Q ⟨ns, e, h1, h2⟩ => ⟨_, e, ns, rfl, h2, pure_law ns h1⟩)
  rintro _ M Ex Q ⟨script', rfl, q, h⟩
  unfold m_law at h
  obtain ⟨g1, h⟩ := h
  refine W.for_ (I1.range1 o.b_range ?_)
  refine E.bin ?_
  refine E.int ?_
  refine E.callB o.b_min bb_min ?_
  refine A.cons ?_
  refine E.callB o.b_len bb_len ?_
  refine A.cons ?_
  refine E.var .here ?_
  refine A.nil ?_
  refine F1.lenX ?_
  refine A.cons ?_
  refine E.int ?_
  refine A.nil ?_
  refine F1.min2 ?_
  refine O2.add ?_
  refine ⟨_, rfl, (rngOk.one g1).1, (rngOk.one g1).2, ?_⟩
  replace h : flowN _ _ _ _ := h
  obtain ⟨N2, hN2, h⟩ := Nd.cut h
  refine for_flowN (fun (_ : Unit) Γ' M' => Γ' = ([("script", some (.lst (script'.map D.int))), ("k", none), ("source", none), ("bag", none), ("line", none), ("every", none), ("sign", none), ("turn", none), ("places", none), ("seen", none), ("at", none), ("low", none), ("high", none), ("one", none)] : Gm) ∧ True) h (rngD_0) (fun _ _ _ _ => trivial) ⟨_, (.keep (.drop (.drop (.drop (.drop (.drop (.drop (.drop (.drop (.drop (.drop (.drop (.drop (.drop .nil)))))))))))))), rfl, trivial⟩ ?_ ?_
  · skip
    rintro k' _ Γ' M4 N5 hx6 ⟨rfl, _⟩ hr7 h
    refine Tg.name (.there .here) ?_
    obtain ⟨g8, h⟩ := h
    refine W.set ?_
    refine E.call (c_law_source o) (by decide) ?_
    refine A.cons ?_
    refine E.var .here ?_
    refine A.cons ?_
    refine E.var (.there .here) ?_
    refine A.nil ?_
    refine ⟨_, _, rfl, _, _, rfl, rfl, g8.1, g8.2, fun p_src b_ s_ n9 sd => ?_⟩
    refine ⟨_, (.there (.there .here)), ?_⟩
    have hs : SrcM p_src (mset M4 p_src (srcL b_ s_)) := ⟨b_, s_, mset_same, sd⟩
    generalize mset M4 p_src (srcL b_ s_) = M10 at hs ⊢
    refine W.set ?_
    refine E.call (c_law_bag o) (by decide) ?_
    refine A.cons ?_
    refine E.var (.there (.there .here)) ?_
    refine A.cons ?_
    refine E.int ?_
    refine A.nil ?_
    obtain ⟨gx11, kx11, h⟩ := h
    refine ⟨_, _, rfl, p_src, Int.toNat (3 : Int), rfl, (by rw [Int.toNat_of_nonneg (by omega)]), hs, (by omega), (by omega), fun x11 M12 h0x11 dr13 => ?_⟩
    replace h := h x11 h0x11
    have hs := dr13.src
    refine ⟨_, (.there (.there (.there .here))), ?_⟩
    refine W.set ?_
    refine E.call (c_law_seen o) (by decide) ?_
    refine A.cons ?_
    refine E.var (.there (.there .here)) ?_
    refine A.cons ?_
    refine E.var (.there (.there (.there .here))) ?_
    refine A.cons ?_
    refine E.call (c_law_draw o) (by decide) ?_
    refine A.cons ?_
    refine E.var (.there (.there .here)) ?_
    refine A.cons ?_
    refine E.int ?_
    refine A.nil ?_
    obtain ⟨gx14, kx14, h⟩ := h
    refine ⟨_, _, rfl, p_src, _, rfl, rfl, hs, gx14, kx14, fun x14 M16 h0x14 h1x14 dr17 => ?_⟩
    replace h := h x14 h0x14 h1x14
    have hs := dr17.src
    refine A.nil ?_
    obtain ⟨gx15, h⟩ := h
    refine ⟨_, _, _, rfl, p_src, _, Int.toNat x14, rfl, rfl, (by rw [Int.toNat_of_nonneg gx15.2.2.2.1]), hs, gx15.1, gx15.2.1, gx15.2.2.1, (by have := gx15.2.2.2; omega), fun x15 M18 h0x15 h1x15 dr19 => ?_⟩
    replace h := h x15 h0x15 h1x15
    have hs := dr19.src
    refine ⟨_, (.there (.there (.there (.there .here)))), ?_⟩
    obtain ⟨g20, h⟩ := h
    obtain ⟨g21, h⟩ := h
    obtain ⟨x22, ex22, h⟩ := h
    refine W.set ?_
    refine E.call (c_law_agree o) (by decide) ?_
    refine A.cons ?_
    refine E.var (.there (.there (.there .here))) ?_
    refine A.cons ?_
    refine E.var (.there (.there (.there (.there .here)))) ?_
    refine A.cons ?_
    refine E.bin ?_
    refine E.bin ?_
    refine E.int ?_
    refine E.callB o.b_len bb_len ?_
    refine A.cons ?_
    refine E.var (.there (.there (.there .here))) ?_
    refine A.nil ?_
    refine F1.lenS g20 ?_
    refine O2.mul (mulOk.ok g21) ?_
    refine E.int ?_
    refine O2.sub ?_
    refine A.nil ?_
    refine ⟨x11, x15, (((2 : Int) * (x11.length : Int)) - (1 : Int)), rfl, _, ex22, ?_⟩
    refine ⟨_, (.there (.there (.there (.there (.there .here))))), ?_⟩
    refine W.for_ (I1.str ?_)
    refine E.var (.there (.there (.there .here))) ?_
    refine ⟨_, rfl, ?_⟩
    replace h : flowN _ _ _ _ := h
    obtain ⟨N23, hN23, h⟩ := Nd.cut h
    refine for_flowN (fun (_ : Unit) Γ' M' => Γ' = ([("script", some (.lst (script'.map D.int))), ("k", some (.int k')), ("source", some (.adr p_src)), ("bag", some (.str x11)), ("line", some (.str x15)), ("every", some (.lst (x22.map D.str))), ("sign", none), ("turn", none), ("places", none), ("seen", none), ("at", none), ("low", none), ("high", none), ("one", none)] : Gm) ∧ SrcM p_src M' ∧ True) h rfl (fun _ _ _ _ => trivial) ⟨_, (.keep (.keep (.keep (.keep (.keep (.keep (.drop (.drop (.drop (.drop (.drop (.drop (.drop (.drop .nil)))))))))))))), rfl, hs, trivial⟩ ?_ ?_
    · skip
      rintro sign' _ Γ' M25 N26 hx27 ⟨rfl, hs, _⟩ hr28 h
      refine Tg.name (.there (.there (.there (.there (.there (.there .here)))))) ?_
      obtain ⟨g29, h⟩ := h
      obtain ⟨y34, vy34, hy34, ey34, h⟩ := mapO_exN h
      refine W.lcX [("one", 13)] (Γr := fun d => ([("script", some (.lst (script'.map D.int))), ("k", some (.int k')), ("source", some (.adr p_src)), ("bag", some (.str x11)), ("line", some (.str x15)), ("every", some (.lst (x22.map D.str))), ("sign", some (.str [sign'])), ("turn", none), ("places", some d), ("seen", none), ("at", none), ("low", none), ("high", none), ("one", none)] : Gm)) (fun _ => (.there (.there (.there (.there (.there (.there (.there (.there .here))))))))) (I1.list ?_)
      refine E.var (.there (.there (.there (.there (.there .here))))) ?_
      refine .inl ⟨_, rfl, ?_⟩
      refine ⟨_, _, x22, y34, D.str, vy34, D.int, rfl, hy34, g29, trivial, ?_, ?_⟩
      · skip
        rintro one' hx35
        refine TgB.nm (Γ := ([("script", some (.lst (script'.map D.int))), ("k", some (.int k')), ("source", some (.adr p_src)), ("bag", some (.str x11)), ("line", some (.str x15)), ("every", some (.lst (x22.map D.str))), ("sign", some (.str [sign'])), ("turn", none), ("places", none), ("seen", none), ("at", none), ("low", none), ("high", none), ("one", none)] : Gm)) (by rfl) (.there (.there (.there (.there (.there (.there (.there (.there (.there (.there (.there (.there (.there .here))))))))))))) ?_
        have h36 := ey34 _ hx35
        obtain ⟨g30, h36⟩ := Run.gd h36
        obtain ⟨g31, h36⟩ := Run.gd h36
        obtain ⟨g32, h36⟩ := Run.gd h36
        obtain ⟨g33, h36⟩ := Run.gd h36
        refine E.bin ?_
        refine E.index ?_
        refine E.bin ?_
        refine E.slS ?_
        refine E.var (.there (.there (.there (.there (.there (.there (.there (.there (.there (.there (.there (.there (.there .here))))))))))))) ?_
        refine OI.some_ ?_
        refine E.callB o.b_len bb_len ?_
        refine A.cons ?_
        refine E.var (.there (.there (.there (.there .here)))) ?_
        refine A.nil ?_
        refine F1.lenS g30 ?_
        refine ⟨_, rfl, ?_⟩
        refine OI.none_ ?_
        refine ⟨_, rfl, g31, ?_⟩
        refine E.var (.there (.there (.there (.there (.there (.there .here)))))) ?_
        refine O2.addS g32 ?_
        refine ⟨.inl ⟨rfl, _, rfl⟩, ?_⟩
        refine E.var (.there (.there (.there (.there (.there (.there .here)))))) ?_
        refine ⟨_, _, rfl, rfl, g33, ?_⟩
        refine E.int ?_
        refine O2.add ?_
        exact ⟨by first | rw [(Run.get h36 :)] | rw [← (Run.get h36 :)], rfl⟩
      obtain ⟨x37, ex37, h⟩ := h
      obtain ⟨g38, h⟩ := h
      obtain ⟨g39, h⟩ := h
      refine W.ite ?_
      refine T.cmp ?_
      refine E.call (c_wait_range o) (by decide) ?_
      refine A.cons ?_
      refine E.var (.there (.there (.there .here))) ?_
      refine A.cons ?_
      refine E.var (.there (.there (.there (.there .here)))) ?_
      refine A.cons ?_
      refine E.var (.there (.there (.there (.there (.there (.there .here)))))) ?_
      refine A.nil ?_
      refine ⟨x11, x15, sign', rfl, _, ex37, ?_⟩
      refine E.det (d := (optD (fun x => .tup [(.int x.1 : D), (.int x.2 : D)]) (if (!(decide (y34 = ([] : List (Int))))) = true then (some ((minL y34), (maxL y34))) else none))) ?_ ?_
      · skip
        refine E.ife ?_
        refine T.cmp ?_
        refine E.var (.there (.there (.there (.there (.there (.there (.there (.there .here)))))))) ?_
        refine E.lst ?_
        refine A.nil ⟨len_ok rfl, ?_⟩
        refine O2.neK (a := y34) (b := ([] : List (Int))) (Knd.lst Knd.int) (by decide) (fun _ _ => trivial) (fun _ _ => trivial) ?_
        refine ⟨_, rfl, ?_⟩
        refine on_c (fun c40 => ?_) fun c40 => ?_
        · skip
          refine E.tup ?_
          refine A.cons ?_
          refine E.callB o.b_min bb_min ?_
          refine A.cons ?_
          refine E.var (.there (.there (.there (.there (.there (.there (.there (.there .here)))))))) ?_
          refine A.nil ?_
          refine F1.minX (g38 c40) ?_
          refine A.cons ?_
          refine E.callB o.b_max bb_max ?_
          refine A.cons ?_
          refine E.var (.there (.there (.there (.there (.there (.there (.there (.there .here)))))))) ?_
          refine A.nil ?_
          refine F1.maxX (g39 c40) ?_
          refine A.nil ⟨len_ok rfl, ?_⟩
          exact ⟨by rw [c40]; first | rfl | exact dec_irr _ _ | exact congrArg Bool.not (dec_irr _ _), rfl⟩
        · skip
          refine E.non ?_
          exact ⟨by rw [c40]; first | rfl | exact dec_irr _ _ | exact congrArg Bool.not (dec_irr _ _), rfl⟩
      refine O2.neK (a := x37) (b := (if (!(decide (y34 = ([] : List (Int))))) = true then (some ((minL y34), (maxL y34))) else none)) (Knd.opt (Knd.pair Knd.int Knd.int) (fun _ => ⟨_, rfl⟩)) (by decide) (fun _ _ => ⟨trivial, trivial⟩) (fun _ _ => ⟨trivial, trivial⟩) ?_
      refine ⟨_, rfl, ?_⟩
      refine on_c (fun c41 => ?_) fun c41 => ?_
      · skip
        have h := pT c41 h
        refine W.ret ?_
        refine E.bl ?_
        have hz : false = true := hN2 _ (hr7 _ (hN23 _ (hr28 _ (h))))
        rw [hz]
        exact .same (q _)
      have h := pF c41 h
      refine W.nil ?_
      refine W.nil ?_
      exact ⟨_, (.keep (.keep (.keep (.keep (.keep (.keep (.drop (.drop (.drop (.drop (.drop (.drop (.drop (.drop .nil)))))))))))))), (), ⟨rfl, hs, trivial⟩, h⟩
    rintro _ Γ' M42 ⟨rfl, hs, _⟩ h
    have h := hN23 _ h
    refine W.set ?_
    refine E.call (c_law_bag o) (by decide) ?_
    refine A.cons ?_
    refine E.var (.there (.there .here)) ?_
    refine A.cons ?_
    refine E.int ?_
    refine A.nil ?_
    obtain ⟨gx43, kx43, h⟩ := h
    refine ⟨_, _, rfl, p_src, Int.toNat (8 : Int), rfl, (by rw [Int.toNat_of_nonneg (by omega)]), hs, (by omega), (by omega), fun x43 M44 h0x43 dr45 => ?_⟩
    replace h := h x43 h0x43
    have hs := dr45.src
    refine ⟨_, (.there (.there (.there .here))), ?_⟩
    obtain ⟨g46, h⟩ := h
    refine W.for_ (I1.range1 o.b_range ?_)
    refine E.int ?_
    refine ⟨_, rfl, (rngOk.one g46).1, (rngOk.one g46).2, ?_⟩
    replace h : flowN _ _ _ _ := h
    obtain ⟨N47, hN47, h⟩ := Nd.cut h
    refine for_flowN (fun (_ : Unit) Γ' M' => Γ' = ([("script", some (.lst (script'.map D.int))), ("k", some (.int k')), ("source", some (.adr p_src)), ("bag", some (.str x43)), ("line", none), ("every", some (.lst (x22.map D.str))), ("sign", none), ("turn", none), ("places", none), ("seen", none), ("at", none), ("low", none), ("high", none), ("one", none)] : Gm) ∧ SrcM p_src M' ∧ True) h (rngD_0) (fun _ _ _ _ => trivial) ⟨_, (.keep (.keep (.keep (.keep (.drop (.keep (.drop (.drop (.drop (.drop (.drop (.drop (.drop (.drop .nil)))))))))))))), rfl, hs, trivial⟩ ?_ ?_
    · skip
      rintro turn' _ Γ' M49 N50 hx51 ⟨rfl, hs, _⟩ hr52 h
      refine Tg.name (.there (.there (.there (.there (.there (.there (.there .here))))))) ?_
      refine W.set ?_
      refine E.call (c_law_stream o) (by decide) ?_
      refine A.cons ?_
      refine E.var (.there (.there .here)) ?_
      refine A.cons ?_
      refine E.var (.there (.there (.there .here))) ?_
      refine A.cons ?_
      refine E.int ?_
      refine A.nil ?_
      obtain ⟨gx53, h⟩ := h
      refine ⟨_, _, _, rfl, p_src, _, Int.toNat (40 : Int), rfl, rfl, (by rw [Int.toNat_of_nonneg gx53.2.2.2.1]), hs, gx53.1, gx53.2.1, gx53.2.2.1, (by have := gx53.2.2.2; omega), fun x53 M54 h0x53 dr55 => ?_⟩
      replace h := h x53 h0x53
      have hs := dr55.src
      refine ⟨_, (.there (.there (.there (.there .here)))), ?_⟩
      refine W.par2N ?_
      refine E.call (c_law_draw o) (by decide) ?_
      refine A.cons ?_
      refine E.var (.there (.there .here)) ?_
      refine A.cons ?_
      refine E.int ?_
      refine A.nil ?_
      obtain ⟨gx56, kx56, h⟩ := h
      refine ⟨_, _, rfl, p_src, _, rfl, rfl, hs, gx56, kx56, fun x56 M59 h0x56 h1x56 dr60 => ?_⟩
      replace h := h x56 h0x56 h1x56
      have hs := dr60.src
      obtain ⟨g57, h⟩ := h
      refine E.call (c_law_choice o) (by decide) ?_
      refine A.cons ?_
      refine E.var (.there (.there .here)) ?_
      refine A.cons ?_
      refine E.freeze (E.callTy o.b_list bb_list ?_)
      refine A.cons ?_
      refine E.var (.there (.there (.there .here))) ?_
      refine A.nil ?_
      refine F1.listC g57 fun a61 n62 => ⟨a61, _, _, rfl, n62, rfl, ?_⟩
      refine A.nil ?_
      obtain ⟨gx58, kx58, h⟩ := h
      refine ⟨_, _, rfl, p_src, x43.map (fun x => .str [x]), rfl, .inl rfl, hs, (by rw [List.length_map]; exact List.length_pos_iff.mpr gx58), (by rw [List.length_map]; exact kx58), fun zx58 M63 mx58 dr64 => ?_⟩
      obtain ⟨x58, h0x58, rfl⟩ := List.mem_map.mp mx58
      replace h := h x58 h0x58
      have hs := dr64.src
      refine ⟨_, _, (.there (.there (.there (.there (.there (.there (.there (.there (.there (.there .here)))))))))), (.there (.there (.there (.there (.there (.there .here)))))), ?_⟩
      obtain ⟨g65, h⟩ := h
      obtain ⟨g66, h⟩ := h
      refine W.set ?_
      refine E.join ?_
      refine E.str l_2 ?_
      refine ⟨.inl ⟨rfl, _, rfl⟩, ?_⟩
      refine E.lcN [("one", 13)] (I1.str ?_)
      refine E.slS ?_
      refine E.var (.there (.there (.there (.there .here)))) ?_
      refine OI.none_ ?_
      refine OI.some_ ?_
      refine E.var (.there (.there (.there (.there (.there (.there (.there (.there (.there (.there .here)))))))))) ?_
      refine ⟨_, rfl, ?_⟩
      refine ⟨_, rfl, g65, ?_⟩
      refine ⟨_, rfl, ?_⟩
      refine ⟨_, _, _, (cut x53 none (some x56)), (fun x => .str [x]), (fun x => .str [x]), _, _, rfl, g66, hs, (fun _ _ => trivial), h, ?_, ?_⟩
      · skip
        rintro one'2 hx71 M72 N73 dr74 h
        have hs := dr74.src
        refine TgB.nm (Γ := ([("script", some (.lst (script'.map D.int))), ("k", some (.int k')), ("source", some (.adr p_src)), ("bag", some (.str x43)), ("line", some (.str x53)), ("every", some (.lst (x22.map D.str))), ("sign", some (.str [x58])), ("turn", some (.int turn')), ("places", none), ("seen", none), ("at", some (.int x56)), ("low", none), ("high", none), ("one", none)] : Gm)) (by rfl) (.there (.there (.there (.there (.there (.there (.there (.there (.there (.there (.there (.there (.there .here))))))))))))) ?_
        refine E.ife ?_
        refine T.cmp ?_
        refine E.call (c_law_draw o) (by decide) ?_
        refine A.cons ?_
        refine E.var (.there (.there .here)) ?_
        refine A.cons ?_
        refine E.int ?_
        refine A.nil ?_
        obtain ⟨gx67, kx67, h⟩ := h
        refine ⟨_, _, rfl, p_src, _, rfl, rfl, hs, gx67, kx67, fun x67 M75 h0x67 h1x67 dr76 => ?_⟩
        replace h := h x67 h0x67 h1x67
        have hs := dr76.src
        refine E.int ?_
        refine O2.gt ?_
        refine ⟨_, rfl, ?_⟩
        refine on_c (fun c77 => ?_) fun c77 => ?_
        · skip
          refine E.var (.there (.there (.there (.there (.there (.there (.there (.there (.there (.there (.there (.there (.there .here))))))))))))) ?_
          exact ⟨_, by rw [c77]; rfl, (dr74.trans dr76), h⟩
        · skip
          refine E.str l_1 ?_
          exact ⟨_, by rw [c77]; rfl, (dr74.trans dr76), h⟩
      rintro y68 M78 dr79 h
      have hs := dr79.src
      obtain ⟨g70, h⟩ := h
      refine ⟨y68.map fun c => [c], rfl, .inl (.inl (by rw [← sgL_eq]; rfl)), by rw [one_sum]; exact g70, ?_⟩
      rw [one_flat]
      refine ⟨_, (.there (.there (.there (.there (.there (.there (.there (.there (.there .here))))))))), ?_⟩
      obtain ⟨x80, ex80, h⟩ := h
      obtain ⟨x81, ex81, h⟩ := h
      subst ex81
      refine W.asg ?_
      refine E.call (c_wait_range o) (by decide) ?_
      refine A.cons ?_
      refine E.var (.there (.there (.there .here))) ?_
      refine A.cons ?_
      refine E.var (.there (.there (.there (.there (.there (.there (.there (.there (.there .here))))))))) ?_
      refine A.cons ?_
      refine E.var (.there (.there (.there (.there (.there (.there .here)))))) ?_
      refine A.nil ?_
      refine ⟨x43, y68, x58, rfl, _, ex80, ?_⟩
      refine Tg.tup ?_
      refine Tgs.cons rfl (.there (.there (.there (.there (.there (.there (.there (.there (.there (.there (.there .here))))))))))) ?_
      refine Tgs.cons rfl (.there (.there (.there (.there (.there (.there (.there (.there (.there (.there (.there (.there .here)))))))))))) ?_
      refine Tgs.nil ?_
      obtain ⟨g82, h⟩ := h
      obtain ⟨g83, h⟩ := h
      obtain ⟨g84, h⟩ := h
      obtain ⟨g85, h⟩ := h
      refine W.ite ?_
      refine T.not ?_
      refine T.det (b := ((decide ((1 : Int) ≤ x81.1)) && ((decide (x81.1 ≤ ((((cut x53 (some x56) none).idxOf x58 : Nat) : Int) + (1 : Int)))) && ((decide (((((cut x53 (some x56) none).idxOf x58 : Nat) : Int) + (1 : Int)) ≤ x81.2)) && (decide (x81.2 ≤ (((2 : Int) * (x43.length : Int)) - (1 : Int)))))))) ?_ ?_
      · skip
        refine T.chain4 ?_
        refine E.int ?_
        refine E.var (.there (.there (.there (.there (.there (.there (.there (.there (.there (.there (.there .here))))))))))) ?_
        refine O2.le ?_
        refine ⟨_, rfl, ?_⟩
        refine on_c (fun c86 => ?_) fun c86 => ?_
        · skip
          refine E.bin ?_
          refine E.index ?_
          refine E.slS ?_
          refine E.var (.there (.there (.there (.there .here)))) ?_
          refine OI.some_ ?_
          refine E.var (.there (.there (.there (.there (.there (.there (.there (.there (.there (.there .here)))))))))) ?_
          refine ⟨_, rfl, ?_⟩
          refine OI.none_ ?_
          refine ⟨_, rfl, (g82 c86), ?_⟩
          refine ⟨.inl ⟨rfl, _, rfl⟩, ?_⟩
          refine E.var (.there (.there (.there (.there (.there (.there .here)))))) ?_
          refine ⟨_, _, rfl, rfl, (g83 c86), ?_⟩
          refine E.int ?_
          refine O2.add ?_
          refine O2.le ?_
          refine ⟨_, rfl, ?_⟩
          refine on_c (fun c87 => ?_) fun c87 => ?_
          · skip
            refine E.var (.there (.there (.there (.there (.there (.there (.there (.there (.there (.there (.there (.there .here)))))))))))) ?_
            refine O2.le ?_
            refine ⟨_, rfl, ?_⟩
            refine on_c (fun c88 => ?_) fun c88 => ?_
            · skip
              refine E.bin ?_
              refine E.bin ?_
              refine E.int ?_
              refine E.callB o.b_len bb_len ?_
              refine A.cons ?_
              refine E.var (.there (.there (.there .here))) ?_
              refine A.nil ?_
              refine F1.lenS (((g84 c86) c87) c88) ?_
              refine O2.mul (mulOk.ok (((g85 c86) c87) c88)) ?_
              refine E.int ?_
              refine O2.sub ?_
              refine O2.le ?_
              refine ⟨_, rfl, ?_⟩
              exact ⟨by rw [c86, c87, c88]; first | rfl | exact dec_irr _ _ | exact congrArg Bool.not (dec_irr _ _), rfl⟩
            · skip
              exact ⟨by rw [c86, c87, c88]; first | rfl | exact dec_irr _ _ | exact congrArg Bool.not (dec_irr _ _), rfl⟩
          · skip
            exact ⟨by rw [c86, c87]; first | rfl | exact dec_irr _ _ | exact congrArg Bool.not (dec_irr _ _), rfl⟩
        · skip
          exact ⟨by rw [c86]; first | rfl | exact dec_irr _ _ | exact congrArg Bool.not (dec_irr _ _), rfl⟩
      refine on_c (fun c89 => ?_) fun c89 => ?_
      · skip
        have h := pT c89 h
        refine W.ret ?_
        refine E.bl ?_
        have hz : false = true := hN2 _ (hr7 _ (hN47 _ (hr52 _ (h))))
        rw [hz]
        exact .same (q _)
      have h := pF c89 h
      refine W.nil ?_
      obtain ⟨x90, ex90, h⟩ := h
      refine W.ite ?_
      refine T.cmp ?_
      refine E.cmp ?_
      refine E.var (.there (.there (.there (.there (.there (.there (.there (.there (.there (.there (.there .here))))))))))) ?_
      refine E.int ?_
      refine O2.eqI ?_
      refine E.call (c_can_follow o) (by decide) ?_
      refine A.cons ?_
      refine E.var (.there (.there (.there .here))) ?_
      refine A.cons ?_
      refine E.var (.there (.there (.there (.there (.there (.there (.there (.there (.there .here))))))))) ?_
      refine A.cons ?_
      refine E.var (.there (.there (.there (.there (.there (.there .here)))))) ?_
      refine A.nil ?_
      refine ⟨x43, y68, x58, rfl, _, ex90, ?_⟩
      refine O2.neB ?_
      refine ⟨_, rfl, ?_⟩
      refine on_c (fun c91 => ?_) fun c91 => ?_
      · skip
        have h := pT c91 h
        refine W.ret ?_
        refine E.bl ?_
        have hz : false = true := hN2 _ (hr7 _ (hN47 _ (hr52 _ (h))))
        rw [hz]
        exact .same (q _)
      have h := pF c91 h
      refine W.nil ?_
      refine W.nil ?_
      exact ⟨_, (.keep (.keep (.keep (.keep (.drop (.keep (.drop (.drop (.drop (.drop (.drop (.drop (.drop (.drop .nil)))))))))))))), (), ⟨rfl, hs, trivial⟩, h⟩
    rintro _ Γ' M92 ⟨rfl, hs, _⟩ h
    have h := hN47 _ h
    refine W.nil ?_
    exact ⟨_, (.keep (.drop (.drop (.drop (.drop (.drop (.drop (.drop (.drop (.drop (.drop (.drop (.drop (.drop .nil)))))))))))))), (), ⟨rfl, trivial⟩, h⟩
  rintro _ Γ' M93 ⟨rfl, _⟩ h
  have h := hN2 _ h
  obtain ⟨x94, ex94, h⟩ := h
  obtain ⟨x95, ex95, h⟩ := h
  refine W.ite ?_
  refine T.det (b := ((!(decide (x94 = (some ((1 : Int), (1 : Int)))))) || (!(decide (x95 = (some ((2 : Int), (4 : Int)))))))) ?_ ?_
  · skip
    refine T.bool ?_
    refine TB.or ?_
    refine T.cmp ?_
    refine E.call (c_wait_range o) (by decide) ?_
    refine A.cons ?_
    refine E.str l_6 ?_
    refine A.cons ?_
    refine E.str l_8 ?_
    refine A.cons ?_
    refine E.str l_9 ?_
    refine A.nil ?_
    refine ⟨([97, 98, 99] : List Nat), ([97, 97, 98] : List Nat), (99 : Nat), rfl, _, ex94, ?_⟩
    refine E.tup ?_
    refine A.cons ?_
    refine E.int ?_
    refine A.cons ?_
    refine E.int ?_
    refine A.nil ⟨len_ok rfl, ?_⟩
    refine O2.neK (a := x94) (b := (some ((1 : Int), (1 : Int)))) (Knd.opt (Knd.pair Knd.int Knd.int) (fun _ => ⟨_, rfl⟩)) (by decide) (fun _ _ => ⟨trivial, trivial⟩) (fun _ _ => ⟨trivial, trivial⟩) ?_
    refine ⟨_, rfl, ?_⟩
    refine on_c (fun c96 => ?_) fun c96 => ?_
    · skip
      exact ⟨by rw [c96]; first | rfl | exact dec_irr _ _ | exact congrArg Bool.not (dec_irr _ _), rfl⟩
    · skip
      refine TB.or1 ?_
      refine T.cmp ?_
      refine E.call (c_wait_range o) (by decide) ?_
      refine A.cons ?_
      refine E.str l_6 ?_
      refine A.cons ?_
      refine E.str l_8 ?_
      refine A.cons ?_
      refine E.str l_7 ?_
      refine A.nil ?_
      refine ⟨([97, 98, 99] : List Nat), ([97, 97, 98] : List Nat), (97 : Nat), rfl, _, (exF c96 ex95), ?_⟩
      refine E.tup ?_
      refine A.cons ?_
      refine E.int ?_
      refine A.cons ?_
      refine E.int ?_
      refine A.nil ⟨len_ok rfl, ?_⟩
      refine O2.neK (a := x95) (b := (some ((2 : Int), (4 : Int)))) (Knd.opt (Knd.pair Knd.int Knd.int) (fun _ => ⟨_, rfl⟩)) (by decide) (fun _ _ => ⟨trivial, trivial⟩) (fun _ _ => ⟨trivial, trivial⟩) ?_
      refine ⟨_, rfl, ?_⟩
      exact ⟨by rw [c96]; first | rfl | exact dec_irr _ _ | exact congrArg Bool.not (dec_irr _ _), rfl⟩
  refine on_c (fun c97 => ?_) fun c97 => ?_
  · skip
    have h := pT c97 h
    refine W.ret ?_
    refine E.bl ?_
    have hz : false = true := h
    rw [hz]
    exact .same (q _)
  have h := pF c97 h
  refine W.nil ?_
  obtain ⟨x98, ex98, h⟩ := h
  refine W.ret ?_
  refine E.cmp ?_
  refine E.call (c_wait_range o) (by decide) ?_
  refine A.cons ?_
  refine E.str l_6 ?_
  refine A.cons ?_
  refine E.str l_2 ?_
  refine A.cons ?_
  refine E.str l_7 ?_
  refine A.nil ?_
  refine ⟨([97, 98, 99] : List Nat), ([] : List Nat), (97 : Nat), rfl, _, ex98, ?_⟩
  refine E.tup ?_
  refine A.cons ?_
  refine E.int ?_
  refine A.cons ?_
  refine E.int ?_
  refine A.nil ⟨len_ok rfl, ?_⟩
  refine O2.eqK (a := x98) (b := (some ((1 : Int), (5 : Int)))) (Knd.opt (Knd.pair Knd.int Knd.int) (fun _ => ⟨_, rfl⟩)) (by decide) (fun _ _ => ⟨trivial, trivial⟩) (fun _ _ => ⟨trivial, trivial⟩) ?_
  have hz : (decide (x98 = (some ((1 : Int), (5 : Int))))) = true := h
  rw [hz]
  exact .same (q _)

end Row
namespace Row
open PySem L2 Dl
/-! the plain law of starts that fit -/
/-- no letter twice in the same bag, among the first n signs -/
def fitI (size start : Int) (row : List Nat) (n : Nat) : Prop := ∀ q, q < n → ∀ p, p < q → ((p : Int) + start) / size = ((q : Int) + start) / size → row.getD p 0 = row.getD q 0 → row.getD q 0 = 46
def fitP (size start : Int) (row : List Nat) : Prop := fitI size start row row.length
instance (size start : Int) (row : List Nat) (n : Nat) : Decidable (fitI size start row n) := inferInstanceAs (Decidable (∀ q, q < n → ∀ p, p < q → ((p : Int) + start) / size = ((q : Int) + start) / size → row.getD p 0 = row.getD q 0 → row.getD q 0 = 46))
instance (size start : Int) (row : List Nat) : Decidable (fitP size start row) := inferInstanceAs (Decidable (fitI size start row row.length))
theorem fitI_succ {size start : Int} {row : List Nat} {n : Nat} : fitI size start row (n + 1) ↔ fitI size start row n ∧ ∀ p, p < n → ((p : Int) + start) / size = ((n : Int) + start) / size → row.getD p 0 = row.getD n 0 → row.getD n 0 = 46 := by
  constructor
  · intro h
    exact ⟨fun q hq p hp => h q (by omega) p hp, fun p hp => h n (by omega) p hp⟩
  · rintro ⟨h1, h2⟩ q hq p hp
    by_cases e : q = n
    · subst e; exact h2 p hp
    · exact h1 q (by omega) p hp
/-- signs of one bag: no letter twice -/
def difB (s : List Nat) : Prop := (s.filter (· != 46)).Nodup
instance (s : List Nat) : Decidable (difB s) := inferInstanceAs (Decidable (s.filter (· != 46)).Nodup)
theorem difB_one (c : Nat) : difB [c] := by
  unfold difB
  by_cases h : c = 46 <;> simp [h]
theorem difB_snoc {s : List Nat} {c : Nat} : difB (s ++ [c]) ↔ difB s ∧ (c ∈ s → c = 46) := by
  unfold difB
  rw [List.filter_append]
  by_cases h : c = 46
  · subst h; simp
  · rw [show ([c].filter (· != 46)) = [c] from by simp [h], List.nodup_append]
    constructor
    · rintro ⟨h1, _, h3⟩
      exact ⟨h1, fun hc => absurd rfl (h3 c (List.mem_filter.mpr ⟨hc, by simpa using h⟩) c (by simp))⟩
    · rintro ⟨h1, h2⟩
      refine ⟨h1, by simp, fun a ha b hb e => ?_⟩
      simp at hb
      subst hb e
      exact h (h2 (List.mem_filter.mp ha).1)
theorem m_are_different_eq {s : List Nat} (h : s.length < 4000) : m_are_different s = some (decide (difB s)) := by
  have hl := List.length_filter_le (· != 46) s
  refine Run.eq ?_
  unfold m_are_different
  refine Run.gd_ (by omega) (Run.gd_ (by omega) (Run.gd_ (by omega) (Run.ok ?_)))
  rw [decide_eq_decide]
  unfold difB
  rw [← dd_full]
  omega
/-- what the parts of the first n signs are like -/
structure PartsI (size start : Int) (row : List Nat) (n : Nat) (found : List (List Nat)) : Prop where
  len : found.length ≤ n
  small : ∀ s ∈ found, s.length ≤ n
  fit : (∀ s ∈ found, difB s) ↔ fitI size start row n
  last : n ≠ 0 → ∃ init last, found = init ++ [last] ∧ ∀ c, c ∈ last ↔ ∃ p, p < n ∧ ((p : Int) + start) / size = ((n : Int) - 1 + start) / size ∧ row.getD p 0 = c
theorem div_same {size x : Int} (h : 0 < size) (hm : ¬ (x + 1) % size = 0) : (x + 1) / size = x / size := by
  have h1 := Int.mul_ediv_add_emod (x + 1) size
  have h2 := Int.emod_nonneg (x + 1) (Int.ne_of_gt h)
  have h3 := Int.emod_lt_of_pos (x + 1) h
  exact ((Int.ediv_emod_unique h (a := x) (q := (x + 1) / size) (r := (x + 1) % size - 1)).mpr ⟨by omega, by omega, by omega⟩).1.symm
theorem div_new {size x y : Int} (h : 0 < size) (hm : y % size = 0) (hx : x < y) : ¬ x / size = y / size := by
  intro e
  have h1 := Int.mul_ediv_add_emod y size
  have h2 := Int.mul_ediv_add_emod x size
  have h3 := Int.emod_nonneg x (Int.ne_of_gt h)
  rw [e] at h2
  omega
theorem PartsI.new {size start : Int} {row : List Nat} {n : Nat} {found : List (List Nat)} (h : PartsI size start row n found) (hs : 0 < size) (hn : n < row.length) (hm : n = 0 ∨ ((n : Int) + start) % size = 0) : PartsI size start row (n + 1) (found ++ [[row.getD n 0]]) := by
  have far : ∀ p : Nat, p < n → ¬ ((p : Int) + start) / size = ((n : Int) + start) / size := fun p hp => by
    rcases hm with rfl | hm
    · omega
    · exact div_new hs hm (by omega)
  refine ⟨by simpa using h.len, fun s hx => ?_, ?_, fun _ => ⟨found, [row.getD n 0], rfl, fun c => ?_⟩⟩
  · rcases List.mem_append.mp hx with hx | hx
    · exact Nat.le_succ_of_le (h.small s hx)
    · rw [List.mem_singleton.mp hx]; simp
  · rw [fitI_succ, ← h.fit]
    constructor
    · intro hd
      exact ⟨fun s hx => hd s (List.mem_append_left _ hx), fun p hp e => absurd e (far p hp)⟩
    · rintro ⟨hd, _⟩ s hx
      rcases List.mem_append.mp hx with hx | hx
      · exact hd s hx
      · rw [List.mem_singleton.mp hx]; exact difB_one _
  · constructor
    · intro hc
      rw [List.mem_singleton.mp hc]
      exact ⟨n, by omega, by congr 1; omega, rfl⟩
    · rintro ⟨p, hp, e, rfl⟩
      by_cases hpn : p = n
      · subst hpn; simp
      · refine absurd ?_ (far p (by omega))
        rw [e]; congr 1; omega
theorem PartsI.more {size start : Int} {row : List Nat} {n : Nat} {init : List (List Nat)} {last : List Nat} (h : PartsI size start row n (init ++ [last])) (hs : 0 < size) (hn : n < row.length) (h0 : n ≠ 0) (hm : ¬ ((n : Int) + start) % size = 0) : PartsI size start row (n + 1) (init ++ [last ++ [row.getD n 0]]) := by
  obtain ⟨i2, l2, e, hl⟩ := h.last h0
  obtain ⟨e1, e2⟩ := List.append_inj' e rfl
  injection e2 with e2
  subst e1 e2
  have same : ((n : Int) + start) / size = ((n : Int) - 1 + start) / size := by
    have := div_same (x := (n : Int) - 1 + start) hs (by rwa [show (n : Int) - 1 + start + 1 = (n : Int) + start from by omega])
    rwa [show (n : Int) - 1 + start + 1 = (n : Int) + start from by omega] at this
  refine ⟨by have := h.len; simp at this ⊢; omega, fun s hx => ?_, ?_, fun _ => ⟨init, last ++ [row.getD n 0], rfl, fun c => ?_⟩⟩
  · rcases List.mem_append.mp hx with hx | hx
    · exact Nat.le_succ_of_le (h.small s (List.mem_append_left _ hx))
    · rw [List.mem_singleton.mp hx]
      have := h.small last (by simp)
      simp; omega
  · rw [fitI_succ, ← h.fit]
    constructor
    · intro hd
      have hl2 := difB_snoc.mp (hd (last ++ [row.getD n 0]) (by simp))
      refine ⟨fun s hx => ?_, fun p hp e1 e2 => hl2.2 ((hl _).mpr ⟨p, hp, by rw [e1, same], e2⟩)⟩
      rcases List.mem_append.mp hx with hx | hx
      · exact hd s (List.mem_append_left _ hx)
      · rw [List.mem_singleton.mp hx]; exact hl2.1
    · rintro ⟨hd, hq⟩ s hx
      rcases List.mem_append.mp hx with hx | hx
      · exact hd s (List.mem_append_left _ hx)
      · rw [List.mem_singleton.mp hx]
        refine difB_snoc.mpr ⟨hd last (by simp), fun hc => ?_⟩
        obtain ⟨p, hp, e1, e2⟩ := (hl _).mp hc
        exact hq p hp (by rw [e1, same]) e2
  · rw [List.mem_append, hl]
    constructor
    · rintro (⟨p, hp, e1, e2⟩ | hc)
      · exact ⟨p, by omega, by rw [e1, ← same]; congr 1; omega, e2⟩
      · rw [List.mem_singleton.mp hc]
        exact ⟨n, by omega, by congr 1; omega, rfl⟩
    · rintro ⟨p, hp, e1, rfl⟩
      by_cases hpn : p = n
      · subst hpn; simp
      · refine .inl ⟨p, by omega, ?_, rfl⟩
        rw [e1, ← same]; congr 1; omega
theorem ixN_last (n : Nat) : ixN (n + 1) (-1) = some n := by
  unfold ixN
  rw [if_neg (by omega), if_pos (by omega)]
  congr 1
  omega
theorem atI_last {α : Type} (init : List α) (x : α) : atI (init ++ [x]) (-1) = some x := by
  unfold atI
  rw [List.length_append, List.length_singleton, ixN_last]
  show (init ++ [x])[init.length]? = some x
  simp
theorem setO_last {α : Type} (init : List α) (x y : α) : setO (init ++ [x]) (-1) y = some (init ++ [y]) := by
  unfold setO
  rw [List.length_append, List.length_singleton, ixN_last]
  show some ((init ++ [x]).set init.length y) = _
  simp
theorem m_parts_of_run {size start : Int} {row : List Nat} (hs : 0 < size) (hl : row.length ≤ 1000) : Run (m_parts_of size row start) (PartsI size start row row.length) := by
  unfold m_parts_of
  refine Run.bind (foldO_inv (fun n found => PartsI size start row n found) ?_ ?_ ?_)
  · exact ⟨Nat.le_refl _, fun _ h => absurd h List.not_mem_nil, ⟨fun _ q hq => absurd hq (Nat.not_lt_zero _), fun _ _ h => absurd h List.not_mem_nil⟩, fun h => absurd rfl h⟩
  · rintro n ⟨place, sign⟩ found hx h
    obtain ⟨rfl, hx⟩ := getElem?_enumI hx
    obtain ⟨hn, _⟩ := List.getElem?_eq_some_iff.mp hx
    have hc : row.getD n 0 = sign := getD_of hx
    have hfl := h.len
    refine Run.gd_ (fun _ => hs) (Run.ite (fun hb => ?_) fun hb => ?_)
    · refine Run.gd_ (by omega) (Run.ok ?_)
      rw [← hc]
      refine h.new hs hn ?_
      simp at hb
      rcases hb with hb | hb
      · exact .inl (by omega)
      · exact .inr hb
    · simp at hb
      have h0 : n ≠ 0 := by omega
      obtain ⟨init, last, rfl, hlast⟩ := h.last h0
      have hsm := h.small last (by simp)
      refine Run.bind_eq (atI_last _ _) (Run.gd_ (by simp; omega) (Run.bind_eq (setO_last _ _ _) (Run.ok ?_)))
      rw [← hc]
      exact h.more hs hn h0 hb.2
  · intro found h
    rw [length_enumI] at h
    exact Run.ok h
def allStarts (size : Int) (row : List Nat) : List Int := (rangeI 0 size).filter fun s => decide (fitP size s row)
theorem mem_allStarts {size s : Int} {row : List Nat} : s ∈ allStarts size row ↔ (0 ≤ s ∧ s < size) ∧ fitP size s row := by
  unfold allStarts
  rw [List.mem_filter, mem_rangeI, decide_eq_true_iff]
theorem m_fits_row_eq {size start : Int} {row : List Nat} (hs : 0 < size) (hl : row.length ≤ 1000) : m_fits_row size row start = some (decide (fitP size start row)) := by
  refine Run.eq ?_
  unfold m_fits_row
  refine Run.bind ((m_parts_of_run hs hl).mono fun found h => ?_)
  have := h.len
  refine Run.gd_ (by omega) (Run.bind (mapO_run (v := fun s => decide (difB s)) (fun s hx => ?_) (Run.ok ?_)))
  · rw [m_are_different_eq (by have := h.small s hx; omega)]; rfl
  · rw [Bool.eq_iff_iff, decide_eq_true_iff]
    refine Iff.trans ?_ h.fit
    simp
theorem m_all_starts_eq {size : Int} {row : List Nat} (hs : 0 < size) (h2 : size ≤ 100) (hl : row.length ≤ 1000) : m_all_starts size row = some (allStarts size row) := by
  refine Run.eq ?_
  unfold m_all_starts
  refine Run.gd_ (by unfold rngOk; omega) (Run.bind (filterO_run (p := fun s => decide (fitP size s row)) (fun s hx => ?_) (Run.ok rfl)))
  rw [m_fits_row_eq hs hl]; rfl
theorem length_allStarts (size : Int) (row : List Nat) : (allStarts size row).length ≤ size.toNat := by
  unfold allStarts
  refine Nat.le_trans (List.length_filter_le _ _) ?_
  rw [length_rangeI]
  omega
def presentL (size : Int) (row : List Nat) : List Int := sortI ((allStarts size row).map fun s => (s + row.length) % size)
theorem same_bag {n a b : Int} (h : 0 < n) (hab : a ≤ b) : a / n = b / n ↔ b - a ≤ b % n := by
  have h1 := Int.mul_ediv_add_emod b n
  have h2 := Int.emod_lt_of_pos b h
  constructor
  · intro e
    have h3 := Int.mul_ediv_add_emod a n
    have h4 := Int.emod_nonneg a (Int.ne_of_gt h)
    rw [e] at h3
    omega
  · intro e
    refine Int.le_antisymm (Int.ediv_le_ediv h hab) ?_
    rw [Int.le_ediv_iff_mul_le h, Int.mul_comm]
    omega
theorem getD_append_left {α : Type} {l l' : List α} {d : α} {p : Nat} (h : p < l.length) : (l ++ l').getD p d = l.getD p d := by
  rw [List.getD_eq_getElem?_getD, List.getD_eq_getElem?_getD, List.getElem?_append_left h]
theorem getD_append_right {α : Type} {l l' : List α} {d : α} {p : Nat} (h : l.length ≤ p) : (l ++ l').getD p d = l'.getD (p - l.length) d := by
  rw [List.getD_eq_getElem?_getD, List.getD_eq_getElem?_getD, List.getElem?_append_right h]
theorem fitI_congr {size start : Int} {row row' : List Nat} {n : Nat} (h : ∀ p, p < n → row.getD p 0 = row'.getD p 0) : fitI size start row n ↔ fitI size start row' n := by
  constructor
  · intro f q hq p hp e1 e2
    rw [← h q hq] at e2 ⊢
    rw [← h p (by omega)] at e2
    exact f q hq p hp e1 e2
  · intro f q hq p hp e1 e2
    rw [h q hq] at e2 ⊢
    rw [h p (by omega)] at e2
    exact f q hq p hp e1 e2
theorem fit_snoc {n s : Int} {row : List Nat} {c : Nat} : fitP n s (row ++ [c]) ↔ fitP n s row ∧ ∀ p, p < row.length → ((p : Int) + s) / n = ((row.length : Int) + s) / n → row.getD p 0 = c → c = 46 := by
  unfold fitP
  rw [List.length_append, List.length_singleton, fitI_succ, fitI_congr (row' := row) fun p hp => getD_append_left hp]
  have e : (row ++ [c]).getD row.length 0 = c := by rw [getD_append_right (Nat.le_refl _)]; simp
  rw [e]
  constructor
  · rintro ⟨h1, h2⟩
    exact ⟨h1, fun p hp a b => h2 p hp a (by rw [getD_append_left hp]; exact b)⟩
  · rintro ⟨h1, h2⟩
    exact ⟨h1, fun p hp a b => h2 p hp a (by rw [getD_append_left hp] at b; exact b)⟩
theorem mem_drop_iff {row : List Nat} {k c : Nat} : c ∈ row.drop k ↔ ∃ p, k ≤ p ∧ p < row.length ∧ row.getD p 0 = c := by
  rw [List.mem_iff_getElem?]
  constructor
  · rintro ⟨i, hi⟩
    rw [List.getElem?_drop] at hi
    exact ⟨k + i, by omega, (List.getElem?_eq_some_iff.mp hi).1, getD_of hi⟩
  · rintro ⟨p, h1, h2, h3⟩
    refine ⟨p - k, ?_⟩
    rw [List.getElem?_drop, show k + (p - k) = p by omega, List.getElem?_eq_getElem h2, ← h3, List.getD_eq_getElem?_getD, List.getElem?_eq_getElem h2]
    rfl
/-- the last d draws -/
def lastL (row : List Nat) (d : Int) : List Nat := row.drop (row.length - d.toNat)
theorem fit_snoc_last {n s : Int} {row : List Nat} {c : Nat} (hn : 0 < n) (hc : c ≠ 46) : fitP n s (row ++ [c]) ↔ fitP n s row ∧ c ∉ lastL row (((row.length : Int) + s) % n) := by
  rw [fit_snoc]
  have hm := Int.emod_nonneg ((row.length : Int) + s) (Int.ne_of_gt hn)
  refine and_congr_right fun _ => ?_
  unfold lastL
  rw [mem_drop_iff]
  constructor
  · rintro h ⟨p, h1, h2, h3⟩
    exact hc (h p h2 ((same_bag hn (by omega)).mpr (by omega)) h3)
  · intro h p hp e1 e2
    exfalso
    refine h ⟨p, ?_, hp, e2⟩
    have := (same_bag hn (by omega)).mp e1
    omega
theorem lastL_mono {row : List Nat} {d e : Int} (h : d ≤ e) {c : Nat} (hc : c ∈ lastL row d) : c ∈ lastL row e := by
  unfold lastL at *
  rw [mem_drop_iff] at *
  obtain ⟨p, h1, h2, h3⟩ := hc
  exact ⟨p, by omega, h2, h3⟩
/-- the numbers of draws in the present bags -/
def presL (n : Int) (row : List Nat) : List Int := (allStarts n row).map fun s => (s + (row.length : Int)) % n
def comeB (n : Int) (row : List Nat) (c : Nat) : Bool := decide (allStarts n row ≠ []) && !decide (c ∈ lastL row (minL (presL n row)))
theorem presL_ne {n : Int} {row : List Nat} : presL n row ≠ [] ↔ allStarts n row ≠ [] := by unfold presL; simp
theorem mem_ne {α : Type} {l : List α} : l ≠ [] ↔ ∃ x, x ∈ l := by
  constructor
  · intro h
    cases l with
    | nil => exact absurd rfl h
    | cons x l => exact ⟨x, List.mem_cons_self⟩
  · rintro ⟨x, hx⟩ rfl
    cases hx
theorem come_iff {n : Int} {row : List Nat} {c : Nat} (hn : 0 < n) (hc : c ≠ 46) : allStarts n (row ++ [c]) ≠ [] ↔ allStarts n row ≠ [] ∧ c ∉ lastL row (minL (presL n row)) := by
  rw [mem_ne]
  constructor
  · rintro ⟨s, hs⟩
    rw [mem_allStarts, fit_snoc_last hn hc] at hs
    obtain ⟨h1, h2, h3⟩ := hs
    have hm : s ∈ allStarts n row := mem_allStarts.mpr ⟨h1, h2⟩
    refine ⟨List.ne_nil_of_mem hm, fun h => h3 (lastL_mono ?_ h)⟩
    have : (s + (row.length : Int)) % n ∈ presL n row := List.mem_map.mpr ⟨s, hm, rfl⟩
    rw [Int.add_comm]
    exact minL_le this
  · rintro ⟨h1, h2⟩
    have := minL_mem (presL_ne.mpr h1)
    unfold presL at this
    obtain ⟨s, hs, e⟩ := List.mem_map.mp this
    obtain ⟨h3, h4⟩ := mem_allStarts.mp hs
    refine ⟨s, mem_allStarts.mpr ⟨h3, (fit_snoc_last hn hc).mpr ⟨h4, ?_⟩⟩⟩
    rw [Int.add_comm, e]
    exact h2
theorem come_iff' {n : Int} {row : List Nat} {c : Nat} (hn : 0 < n) (hc : c ≠ 46) : decide (allStarts n (row ++ [c]) ≠ []) = comeB n row c := by
  unfold comeB
  rw [Bool.eq_iff_iff, decide_eq_true_iff, come_iff hn hc]
  simp
theorem minL_perm {xs ys : List Int} (h : xs.Perm ys) : minL xs = minL ys := by
  by_cases hx : xs = []
  · subst hx
    rw [List.nil_perm.mp h]
  · have hy : ys ≠ [] := fun z => hx (by rw [z] at h; exact List.perm_nil.mp h)
    exact Int.le_antisymm (minL_le (h.mem_iff.mpr (minL_mem hy))) (minL_le (h.mem_iff.mp (minL_mem hx)))
theorem pres_bound {n : Int} {row : List Nat} {d : Int} (hn : 0 < n) (h : d ∈ presL n row) : 0 ≤ d ∧ d < n := by
  unfold presL at h
  obtain ⟨s, _, rfl⟩ := List.mem_map.mp h
  exact ⟨Int.emod_nonneg _ (Int.ne_of_gt hn), Int.emod_lt_of_pos _ hn⟩
def comeL (bag row : List Nat) : List Nat := bag.filter fun c => comeB bag.length row c
/-! the parts of a row, exactly -/
def consH (c : Nat) : List (List Nat) → List (List Nat)
  | [] => [[c]]
  | q :: qs => (c :: q) :: qs
/-- r: the room in the present bag -/
def partsL (n : Nat) : List Nat → Nat → List (List Nat)
  | [], _ => []
  | c :: row, r => if r = 1 then [c] :: partsL n row n else consH c (partsL n row (r - 1))
def snocL (c : Nat) : List (List Nat) → List (List Nat)
  | [] => [[c]]
  | [q] => [q ++ [c]]
  | q :: q2 :: qs => q :: snocL c (q2 :: qs)
theorem snocL_last (c : Nat) (last : List Nat) : ∀ init : List (List Nat), snocL c (init ++ [last]) = init ++ [last ++ [c]]
  | [] => rfl
  | [q] => rfl
  | q :: q2 :: init => by
    show q :: snocL c ((q2 :: init) ++ [last]) = _
    rw [snocL_last c last (q2 :: init)]
    rfl
theorem consH_snoc (d c : Nat) {X : List (List Nat)} (h : X ≠ []) : consH d (X ++ [[c]]) = consH d X ++ [[c]] := by
  cases X with
  | nil => exact absurd rfl h
  | cons q qs => rfl
theorem consH_snocL (d c : Nat) {X : List (List Nat)} (h : X ≠ []) : consH d (snocL c X) = snocL c (consH d X) := by
  match X, h with
  | [], h => exact absurd rfl h
  | [q], _ => rfl
  | q :: q2 :: qs, _ => rfl
theorem consH_ne (d : Nat) (X : List (List Nat)) : consH d X ≠ [] := by cases X <;> simp [consH]
theorem snocL_cons (q : List Nat) (c : Nat) {X : List (List Nat)} (h : X ≠ []) : snocL c (q :: X) = q :: snocL c X := by
  cases X with
  | nil => exact absurd rfl h
  | cons => rfl
theorem partsL_ne {n : Nat} {row : List Nat} {r : Nat} (h : row ≠ []) : partsL n row r ≠ [] := by
  cases row with
  | nil => exact absurd rfl h
  | cons c row =>
    unfold partsL
    by_cases hr : r = 1
    · rw [if_pos hr]; simp
    · rw [if_neg hr]; exact consH_ne _ _
theorem partsL_one {n r c : Nat} : partsL n [c] r = [[c]] := by
  unfold partsL
  by_cases hr : r = 1
  · rw [if_pos hr]; rfl
  · rw [if_neg hr]; rfl
theorem mod_sub {a n : Nat} (hn : 0 < n) (h : n ≤ a) : (a - n) % n = a % n := (Nat.mod_eq_sub_mod h).symm
theorem partsL_snoc {n c : Nat} (hn : 1 ≤ n) : ∀ {row : List Nat} {r : Nat}, row ≠ [] → 1 ≤ r → partsL n (row ++ [c]) r = if r ≤ row.length ∧ (row.length - r) % n = 0 then partsL n row r ++ [[c]] else snocL c (partsL n row r) := by
  intro row
  induction row with
  | nil => intro r h; exact absurd rfl h
  | cons d row ih =>
    intro r _ hr
    rw [List.cons_append]
    by_cases hrow : row = []
    · subst hrow
      rw [List.nil_append, partsL_one]
      unfold partsL
      rw [partsL_one, partsL_one]
      by_cases h1 : r = 1
      · subst h1
        simp
      · rw [if_neg h1, if_neg (by simp; omega)]
        rfl
    · have hne : 1 ≤ row.length := List.length_pos_iff.mpr hrow
      unfold partsL
      by_cases h1 : r = 1
      · rw [if_pos h1, if_pos h1, ih hrow hn]
        subst h1
        have hiff : (n ≤ row.length ∧ (row.length - n) % n = 0) ↔ (1 ≤ (d :: row).length ∧ ((d :: row).length - 1) % n = 0) := by
          rw [List.length_cons, Nat.add_sub_cancel]
          constructor
          · rintro ⟨a, b⟩
            rw [mod_sub hn a] at b
            exact ⟨by omega, b⟩
          · rintro ⟨_, b⟩
            have : n ≤ row.length := by
              refine Decidable.byContradiction fun hh => ?_
              rw [Nat.mod_eq_of_lt (by omega)] at b
              omega
            exact ⟨this, by rw [mod_sub hn this]; exact b⟩
        by_cases hb : 1 ≤ (d :: row).length ∧ ((d :: row).length - 1) % n = 0
        · rw [if_pos hb, if_pos (hiff.mpr hb)]; rfl
        · rw [if_neg hb, if_neg (fun z => hb (hiff.mp z)), snocL_cons _ _ (partsL_ne hrow)]
      · rw [if_neg h1, if_neg h1, ih hrow (by omega)]
        have hiff : (r - 1 ≤ row.length ∧ (row.length - (r - 1)) % n = 0) ↔ (r ≤ (d :: row).length ∧ ((d :: row).length - r) % n = 0) := by
          rw [List.length_cons, show row.length + 1 - r = row.length - (r - 1) by omega]
          constructor <;> rintro ⟨a, b⟩ <;> exact ⟨by omega, b⟩
        by_cases hb : r ≤ (d :: row).length ∧ ((d :: row).length - r) % n = 0
        · rw [if_pos hb, if_pos (hiff.mpr hb), consH_snoc _ _ (partsL_ne hrow)]
        · rw [if_neg hb, if_neg (fun z => hb (hiff.mp z)), consH_snocL _ _ (partsL_ne hrow)]
theorem getD_take {row : List Nat} {i : Nat} (h : i < row.length) : row.take (i + 1) = row.take i ++ [row.getD i 0] := by
  rw [List.take_add_one, List.getD_eq_getElem?_getD, List.getElem?_eq_getElem h]
  rfl
theorem bnd_iff {n s i : Nat} (hs : s < n) (h0 : i ≠ 0) : ((i : Int) + (s : Int)) % (n : Int) = 0 ↔ (n - s ≤ i ∧ (i - (n - s)) % n = 0) := by
  have e : ((i : Int) + (s : Int)) % (n : Int) = (((i + s) % n : Nat) : Int) := by simp
  rw [e]
  constructor
  · intro h
    have h : (i + s) % n = 0 := by omega
    have hle : n ≤ i + s := by
      refine Decidable.byContradiction fun hh => ?_
      rw [Nat.mod_eq_of_lt (by omega)] at h
      omega
    refine ⟨by omega, ?_⟩
    rw [show i - (n - s) = i + s - n by omega, mod_sub (by omega) hle]
    exact h
  · rintro ⟨h1, h2⟩
    rw [show i - (n - s) = i + s - n by omega, mod_sub (by omega) (by omega)] at h2
    omega
theorem m_parts_of_eq {n s : Nat} {row : List Nat} (hs : s < n) (hl : row.length ≤ 1000) : m_parts_of n row s = some (partsL n row (n - s)) := by
  obtain ⟨parts, hp, hI⟩ := m_parts_of_run (size := n) (start := s) (row := row) (by omega) hl
  refine Run.eq ?_
  have key : Run (m_parts_of n row s) fun x => x = partsL n row (n - s) := by
    unfold m_parts_of
    refine Run.bind (foldO_inv (fun i found => PartsI n s row i found ∧ found = partsL n (row.take i) (n - s)) ?_ ?_ ?_)
    · exact ⟨⟨Nat.le_refl _, fun _ h => absurd h List.not_mem_nil, ⟨fun _ q hq => absurd hq (Nat.not_lt_zero _), fun _ _ h => absurd h List.not_mem_nil⟩, fun h => absurd rfl h⟩, by simp [partsL]⟩
    · rintro i ⟨place, sign⟩ found hx ⟨h, hf⟩
      obtain ⟨rfl, hx⟩ := getElem?_enumI hx
      obtain ⟨hn, _⟩ := List.getElem?_eq_some_iff.mp hx
      have hc : row.getD i 0 = sign := getD_of hx
      have hfl := h.len
      have htl : (row.take i).length = i := by rw [List.length_take]; omega
      refine Run.gd_ (fun _ => by omega) (Run.ite (fun hb => ?_) fun hb => ?_)
      · refine Run.gd_ (by omega) (Run.ok ⟨?_, ?_⟩)
        · rw [← hc]
          refine h.new (by omega) hn ?_
          simp at hb
          rcases hb with hb | hb
          · exact .inl (by omega)
          · exact .inr hb
        · rw [getD_take hn, hc, hf]
          by_cases h0 : i = 0
          · subst h0
            rw [List.take_zero, List.nil_append, partsL_one]
            rfl
          · have hb2 : ((i : Int) + (s : Int)) % (n : Int) = 0 := by
              simp at hb
              rcases hb with hb | hb
              · omega
              · exact hb
            rw [partsL_snoc (by omega) (fun z => by rw [z] at htl; simp at htl; omega) (by omega), htl, if_pos ((bnd_iff hs h0).mp hb2)]
      · simp at hb
        have h0 : i ≠ 0 := by omega
        obtain ⟨init, last, rfl, hlast⟩ := h.last h0
        have hsm := h.small last (by simp)
        refine Run.bind_eq (atI_last _ _) (Run.gd_ (by simp; omega) (Run.bind_eq (setO_last _ _ _) (Run.ok ⟨?_, ?_⟩)))
        · rw [← hc]
          exact h.more (by omega) hn h0 hb.2
        · rw [getD_take hn, hc, partsL_snoc (by omega) (fun z => by rw [z] at htl; simp at htl; omega) (by omega), htl, if_neg (fun z => hb.2 ((bnd_iff hs h0).mpr z)), ← hf, snocL_last]
    · rintro found ⟨h, hf⟩
      rw [length_enumI, List.take_length] at hf
      exact Run.ok hf
  exact key
/-! the number of full rows that agree -/
def seenL (part : List Nat) : List Nat := part.filter (· != 46)
def fall (m : Int) : Nat → Int
  | 0 => 1
  | k + 1 => fall m k * (m - k)
theorem fall_succ (m : Int) : ∀ k : Nat, fall m (k + 1) = m * fall (m - 1) k
  | 0 => by simp [fall]
  | k + 1 => by
    rw [fall, fall_succ m k, fall, Int.mul_assoc]
    congr 2
    omega
theorem fall_bound {m : Int} (h0 : 0 ≤ m) (h8 : m ≤ 8) : ∀ k : Nat, (k : Int) ≤ m → 0 < fall m k ∧ fall m k ≤ 8 ^ k
  | 0, _ => ⟨by simp [fall], by simp [fall]⟩
  | k + 1, h => by
    obtain ⟨i1, i2⟩ := fall_bound h0 h8 k (by omega)
    rw [fall]
    refine ⟨Int.mul_pos i1 (by omega), ?_⟩
    rw [Int.pow_succ]
    exact Int.mul_le_mul i2 (by omega) (by omega) (by exact_mod_cast Nat.zero_le _)
/-- cur: what lies in the present bag already, r: the room in it -/
def fillN (bag : List Nat) : List Nat → List Nat → Nat → Int
  | [], _, _ => 1
  | c :: row, cur, r =>
    if c = 46 then ((bag.filter fun x => !decide (x ∈ cur)).map fun x => if r = 1 then fillN bag row [] bag.length else fillN bag row (x :: cur) (r - 1)).sum
    else if c ∈ cur then 0 else if r = 1 then fillN bag row [] bag.length else fillN bag row (c :: cur) (r - 1)
def blkC (n : Nat) (cur part : List Nat) : Int := if (cur ++ seenL part).Nodup then fall ((n : Int) - cur.length - (seenL part).length) (part.count 46) else 0
def prodI (xs : List Int) : Int := xs.foldr (· * ·) 1
def blkP (n : Nat) (cur : List Nat) : List (List Nat) → Int
  | [] => 1
  | q :: qs => blkC n cur q * prodI (qs.map (blkC n []))
theorem sum_map_mul {α : Type} (k : Int) (f : α → Int) : ∀ xs : List α, (xs.map fun x => f x * k).sum = (xs.map f).sum * k
  | [] => by simp
  | x :: xs => by
    rw [List.map_cons, List.sum_cons, sum_map_mul k f xs, List.map_cons, List.sum_cons, Int.add_mul]
theorem sum_const {α : Type} (k : Int) : ∀ xs : List α, (xs.map fun _ => k).sum = xs.length * k
  | [] => by simp
  | x :: xs => by
    rw [List.map_cons, List.sum_cons, sum_const k xs, List.length_cons]
    have : ((xs.length + 1 : Nat) : Int) = (xs.length : Int) + 1 := by omega
    rw [this, Int.add_mul]
    omega
theorem sum_filter_ite {α : Type} (p : α → Bool) (f : α → Int) : ∀ xs : List α, (xs.map fun x => if p x = true then f x else 0).sum = ((xs.filter p).map f).sum
  | [] => rfl
  | x :: xs => by
    rw [List.map_cons, List.sum_cons, sum_filter_ite p f xs, List.filter_cons]
    cases p x <;> simp
theorem length_minus {bag cur : List Nat} (hb : bag.Nodup) (hc : cur.Nodup) (hs : ∀ x ∈ cur, x ∈ bag) : ((bag.filter fun x => !decide (x ∈ cur)).length : Int) = (bag.length : Int) - cur.length := by
  have h1 : (bag.filter fun x => decide (x ∈ cur)).Perm cur := by
    rw [List.perm_ext_iff_of_nodup (hb.filter _) hc]
    intro a
    simp only [List.mem_filter, decide_eq_true_eq]
    exact ⟨fun h => h.2, fun h => ⟨hs a h, h⟩⟩
  have h2 : (bag.filter fun x => decide (x ∈ cur)).length + (bag.filter fun x => !decide (x ∈ cur)).length = bag.length := by
    have key : ∀ (p : Nat → Bool) (l : List Nat), (l.filter p).length + (l.filter fun x => !p x).length = l.length := by
      intro p l
      induction l with
      | nil => rfl
      | cons x l ih => rw [List.filter_cons, List.filter_cons]; cases p x <;> simp <;> omega
    exact key (fun x => decide (x ∈ cur)) bag
  rw [h1.length_eq] at h2
  omega
theorem seen_cons_un (h : List Nat) : seenL (46 :: h) = seenL h := by simp [seenL]
theorem seen_cons {c : Nat} (hc : c ≠ 46) (h : List Nat) : seenL (c :: h) = c :: seenL h := by simp [seenL, hc]
theorem blkC_seen {n c : Nat} {cur h : List Nat} (hc : c ≠ 46) (hn : c ∉ cur) : blkC n cur (c :: h) = blkC n (c :: cur) h := by
  unfold blkC
  rw [seen_cons hc, List.count_cons_of_ne hc, List.length_cons, List.length_cons]
  have e : (cur ++ c :: seenL h).Nodup ↔ ((c :: cur) ++ seenL h).Nodup := List.perm_middle.nodup_iff
  have e2 : ((n : Int) - (cur.length : Int) - ((seenL h).length + 1 : Nat)) = ((n : Int) - ((cur.length + 1 : Nat) : Int) - (seenL h).length) := by omega
  rw [e2]
  by_cases hh : (cur ++ c :: seenL h).Nodup
  · rw [if_pos hh, if_pos (e.mp hh)]
  · rw [if_neg hh, if_neg (fun z => hh (e.mpr z))]
theorem blkC_dup {n c : Nat} {cur h : List Nat} (hc : c ≠ 46) (hn : c ∈ cur) : blkC n cur (c :: h) = 0 := by
  unfold blkC
  rw [seen_cons hc, if_neg]
  intro z
  have := (List.perm_middle.nodup_iff.mp z)
  rw [List.nodup_cons] at this
  exact this.1 (List.mem_append_left _ hn)
/-- one unseen draw more -/
theorem blkC_unseen {bag cur h : List Nat} (hb : bag.Nodup) (hc : cur.Nodup) (hs : ∀ x ∈ cur, x ∈ bag) (hh : ∀ x ∈ h, x = 46 ∨ x ∈ bag) : ((bag.filter fun x => !decide (x ∈ cur)).map fun x => blkC bag.length (x :: cur) h).sum = blkC bag.length cur (46 :: h) := by
  by_cases hn : (cur ++ seenL h).Nodup
  · have hsb : ∀ x ∈ cur ++ seenL h, x ∈ bag := by
      intro x hx
      rcases List.mem_append.mp hx with hx | hx
      · exact hs x hx
      · have := List.mem_filter.mp hx
        rcases hh x this.1 with z | z
        · simp [z] at this
        · exact z
    have e1 : ∀ x, x ∈ bag.filter (fun x => !decide (x ∈ cur)) → blkC bag.length (x :: cur) h = if (!decide (x ∈ cur ++ seenL h)) = true then fall ((bag.length : Int) - cur.length - (seenL h).length - 1) (h.count 46) else 0 := by
      intro x hx
      obtain ⟨_, hx⟩ := List.mem_filter.mp hx
      simp only [Bool.not_eq_true', decide_eq_false_iff_not] at hx
      unfold blkC
      have e : ((x :: cur) ++ seenL h).Nodup ↔ x ∉ cur ++ seenL h := by
        rw [List.cons_append, List.nodup_cons]
        exact ⟨fun z => z.1, fun z => ⟨z, hn⟩⟩
      have e2 : ((bag.length : Int) - ((x :: cur).length : Nat) - (seenL h).length) = (bag.length : Int) - cur.length - (seenL h).length - 1 := by
        rw [List.length_cons]; omega
      rw [e2]
      by_cases hz : x ∈ cur ++ seenL h
      · rw [if_neg (fun z => e.mp z hz), if_neg (by simp only [Bool.not_eq_true', decide_eq_false_iff_not]; exact fun z => z hz)]
      · rw [if_pos (e.mpr hz), if_pos (by simp only [Bool.not_eq_true', decide_eq_false_iff_not]; exact hz)]
    rw [List.map_congr_left e1, sum_filter_ite, List.filter_filter, sum_const]
    have e3 : (bag.filter fun x => (!decide (x ∈ cur ++ seenL h)) && !decide (x ∈ cur)) = bag.filter fun x => !decide (x ∈ cur ++ seenL h) := by
      refine List.filter_congr fun x _ => ?_
      by_cases z : x ∈ cur
      · simp [z]
      · simp [z]
    rw [e3, length_minus hb hn hsb, List.length_append]
    unfold blkC
    rw [seen_cons_un, if_pos hn, List.count_cons_self, fall_succ]
    congr 1
    omega
  · have e1 : ∀ x, x ∈ bag.filter (fun x => !decide (x ∈ cur)) → blkC bag.length (x :: cur) h = 0 := by
      intro x _
      unfold blkC
      rw [if_neg]
      intro z
      rw [List.cons_append, List.nodup_cons] at z
      exact hn z.2
    rw [List.map_congr_left e1, sum_const, Int.mul_zero]
    unfold blkC
    rw [seen_cons_un, if_neg hn]
theorem blkP_nil (n : Nat) (ps : List (List Nat)) : blkP n [] ps = prodI (ps.map (blkC n [])) := by cases ps <;> rfl
theorem partsL_mem {n : Nat} : ∀ {row : List Nat} {r : Nat} {q : List Nat} {x : Nat}, q ∈ partsL n row r → x ∈ q → x ∈ row := by
  intro row
  induction row with
  | nil => intro r q x h; cases h
  | cons c row ih =>
    intro r q x h hx
    unfold partsL at h
    by_cases h1 : r = 1
    · rw [if_pos h1] at h
      rcases List.mem_cons.mp h with rfl | h
      · rw [List.mem_singleton.mp hx]; exact List.mem_cons_self
      · exact List.mem_cons_of_mem _ (ih h hx)
    · rw [if_neg h1] at h
      cases hp : partsL n row (r - 1) with
      | nil =>
        rw [hp] at h
        rw [List.mem_singleton.mp h] at hx
        rw [List.mem_singleton.mp hx]; exact List.mem_cons_self
      | cons q2 qs =>
        rw [hp] at h
        rcases List.mem_cons.mp h with rfl | h
        · rcases List.mem_cons.mp hx with rfl | hx
          · exact List.mem_cons_self
          · exact List.mem_cons_of_mem _ (ih (r := r - 1) (by rw [hp]; exact List.mem_cons_self) hx)
        · exact List.mem_cons_of_mem _ (ih (r := r - 1) (by rw [hp]; exact List.mem_cons_of_mem _ h) hx)
theorem fillN_eq {bag : List Nat} (hb : bag.Nodup) : ∀ {row cur : List Nat} {r : Nat}, cur.Nodup → (∀ x ∈ cur, x ∈ bag) → (∀ x ∈ row, x = 46 ∨ x ∈ bag) → 1 ≤ r → 1 ≤ bag.length → fillN bag row cur r = blkP bag.length cur (partsL bag.length row r) := by
  intro row
  induction row with
  | nil => intro cur r _ _ _ _ _; rfl
  | cons c row ih =>
    intro cur r hc hs hrow hr hlen
    have hrow2 : ∀ x ∈ row, x = 46 ∨ x ∈ bag := fun x hx => hrow x (List.mem_cons_of_mem _ hx)
    unfold fillN partsL
    by_cases h1 : r = 1
    · simp only [if_pos h1]
      have e := ih (cur := []) (r := bag.length) List.nodup_nil (by simp) hrow2 hlen hlen
      rw [blkP_nil] at e
      show _ = blkC bag.length cur [c] * prodI _
      by_cases h46 : c = 46
      · rw [if_pos h46, sum_const, length_minus hb hc hs, e]
        congr 1
        subst h46
        unfold blkC
        simp [seenL, hc, fall]
      · rw [if_neg h46]
        by_cases hcc : c ∈ cur
        · rw [if_pos hcc, blkC_dup h46 hcc, Int.zero_mul]
        · rw [if_neg hcc, e]
          have : blkC bag.length cur [c] = 1 := by
            rw [blkC_seen h46 hcc]
            unfold blkC
            simp [seenL, hc, fall, hcc]
          rw [this, Int.one_mul]
    · simp only [if_neg h1]
      by_cases h46 : c = 46
      · subst h46
        rw [if_pos rfl]
        have e1 : ∀ x, x ∈ bag.filter (fun x => !decide (x ∈ cur)) → fillN bag row (x :: cur) (r - 1) = blkP bag.length (x :: cur) (partsL bag.length row (r - 1)) := by
          intro x hx
          obtain ⟨hx1, hx2⟩ := List.mem_filter.mp hx
          simp only [Bool.not_eq_true', decide_eq_false_iff_not] at hx2
          exact ih (List.nodup_cons.mpr ⟨hx2, hc⟩) (fun y hy => by
            rcases List.mem_cons.mp hy with rfl | hy
            · exact hx1
            · exact hs y hy) hrow2 (by omega) hlen
        rw [List.map_congr_left e1]
        cases hp : partsL bag.length row (r - 1) with
        | nil =>
          show (List.map (fun x => (1 : Int)) _).sum = blkC bag.length cur [46] * prodI []
          rw [sum_const, length_minus hb hc hs]
          unfold blkC
          simp [seenL, hc, fall, prodI]
        | cons q qs =>
          show (List.map (fun x => blkC bag.length (x :: cur) q * prodI (qs.map (blkC bag.length []))) _).sum = blkC bag.length cur (46 :: q) * prodI (qs.map (blkC bag.length []))
          rw [sum_map_mul, blkC_unseen hb hc hs ?_]
          intro x hx
          exact hrow2 x (partsL_mem (by rw [hp]; exact List.mem_cons_self) hx)
      · rw [if_neg h46]
        by_cases hcc : c ∈ cur
        · rw [if_pos hcc]
          cases hp : partsL bag.length row (r - 1) with
          | nil => show 0 = blkC bag.length cur [c] * prodI []; rw [blkC_dup h46 hcc, Int.zero_mul]
          | cons q qs => show 0 = blkC bag.length cur (c :: q) * prodI (qs.map (blkC bag.length [])); rw [blkC_dup h46 hcc, Int.zero_mul]
        · rw [if_neg hcc, ih (List.nodup_cons.mpr ⟨hcc, hc⟩) (fun y hy => by
            rcases List.mem_cons.mp hy with rfl | hy
            · rcases hrow y List.mem_cons_self with z | z
              · exact absurd z h46
              · exact z
            · exact hs y hy) hrow2 (by omega) hlen]
          cases hp : partsL bag.length row (r - 1) with
          | nil =>
            show 1 = blkC bag.length cur [c] * prodI []
            rw [blkC_seen h46 hcc]
            unfold blkC
            simp [seenL, hc, fall, hcc, prodI]
          | cons q qs => show blkC bag.length (c :: cur) q * prodI (qs.map (blkC bag.length [])) = blkC bag.length cur (c :: q) * prodI (qs.map (blkC bag.length [])); rw [blkC_seen h46 hcc]
theorem sum_swap {α β : Type} (f : α → β → Int) : ∀ (xs : List α) (ys : List β), (xs.map fun x => (ys.map fun y => f x y).sum).sum = (ys.map fun y => (xs.map fun x => f x y).sum).sum
  | [], ys => by simp [sum_const]
  | x :: xs, ys => by
    rw [List.map_cons, List.sum_cons, sum_swap f xs ys]
    have : ∀ (g h : β → Int) (zs : List β), (zs.map g).sum + (zs.map h).sum = (zs.map fun z => g z + h z).sum := by
      intro g h zs
      induction zs with
      | nil => rfl
      | cons z zs ih => simp only [List.map_cons, List.sum_cons, ← ih]; omega
    rw [this]
    simp only [List.map_cons, List.sum_cons]
/-- one place, letter by letter -/
theorem fillN_letters {bag B : List Nat} (h46 : 46 ∉ bag) : ∀ {A cur : List Nat} {r : Nat}, (bag.map fun c => fillN bag (A ++ c :: B) cur r).sum = fillN bag (A ++ 46 :: B) cur r := by
  intro A
  induction A with
  | nil =>
    intro cur r
    show _ = fillN bag (46 :: B) cur r
    rw [fillN, if_pos rfl, ← sum_filter_ite]
    refine congrArg List.sum (List.map_congr_left fun c hc => ?_)
    show fillN bag (c :: B) cur r = _
    rw [fillN, if_neg (by intro z; subst z; exact h46 hc)]
    by_cases hcc : c ∈ cur
    · rw [if_pos hcc, if_neg (show ¬ (!decide (c ∈ cur)) = true by simp [hcc])]
    · rw [if_neg hcc, if_pos (show (!decide (c ∈ cur)) = true by simp [hcc])]
  | cons a A ih =>
    intro cur r
    show (bag.map fun c => fillN bag (a :: (A ++ c :: B)) cur r).sum = fillN bag (a :: (A ++ 46 :: B)) cur r
    simp only [fillN]
    by_cases ha : a = 46
    · simp only [if_pos ha]
      rw [sum_swap]
      refine congrArg List.sum (List.map_congr_left fun x _ => ?_)
      by_cases h1 : r = 1
      · simp only [if_pos h1]; exact ih
      · simp only [if_neg h1]; exact ih
    · simp only [if_neg ha]
      by_cases hcc : a ∈ cur
      · simp only [if_pos hcc]; rw [sum_const, Int.mul_zero]
      · simp only [if_neg hcc]
        by_cases h1 : r = 1
        · simp only [if_pos h1]; exact ih
        · simp only [if_neg h1]; exact ih
/-! valid arguments -/
abbrev Bg (bag : List Nat) : Prop := BagOf 8 bag
structure Rw (bag row : List Nat) : Prop where
  len : row.length ≤ 40
  mem : ∀ x ∈ row, x = 46 ∨ x ∈ bag
theorem all_zip_lt {l : List Nat} (h : l.Pairwise (· < ·)) : ((l.zip (l.drop 1)).map fun p : Nat × Nat => decide (p.1 < p.2)).all id = true := by
  rw [repS_all]
  exact sorted_zip h
theorem m_is_bag_eq {bag : List Nat} (hb : Bg bag) : m_is_bag bag = some true := by
  have h1 := hb.2.1
  have h2 := hb.2.2
  have h3 : ∀ x ∈ bag, x ∈ abcL := fun x hx => hb.1.subset hx
  refine Run.eq ?_
  unfold m_is_bag
  refine Run.gd_ (by intros; omega) (Run.ite (fun hb => ?_) fun _ => ?_)
  · exfalso; simp at hb; omega
  refine Run.gd_ (by omega) (Run.ite (fun hb => ?_) fun _ => ?_)
  · exfalso
    simp at hb
    obtain ⟨x, hx, hn⟩ := hb
    exact hn (h3 x hx)
  refine Run.gd_ (by omega) (Run.gd_ (by omega) (Run.ok ?_))
  rw [cut_lo0 _ (by decide)]
  exact all_zip_lt hb.sorted
theorem m_need_bag_eq {bag : List Nat} (hb : Bg bag) : m_need_bag bag = some () := by
  unfold m_need_bag; rw [m_is_bag_eq hb]; rfl
theorem bag_ne46 {k : Nat} {bag : List Nat} (hb : BagOf k bag) {c : Nat} (hc : c ∈ bag) : c ≠ 46 := by
  have := hb.mem hc
  omega
theorem m_is_row_of_eq {bag row : List Nat} {most : Int} (hl : row.length ≤ most) (h0 : row.length ≤ 1000) (hm : ∀ x ∈ row, x = 46 ∨ x ∈ bag) : m_is_row_of bag row most = some true := by
  refine Run.eq ?_
  unfold m_is_row_of
  refine Run.gd_ (by intros; omega) (Run.ite (fun hb => ?_) fun _ => ?_)
  · exfalso; simp at hb; omega
  refine Run.gd_ (by omega) (Run.ok ?_)
  simp
  exact fun x hx => hm x hx
theorem m_need_row_eq {bag row : List Nat} (h : Rw bag row) : m_need_row bag row = some () := by
  unfold m_need_row; rw [m_is_row_of_eq (by have := h.len; omega) (by have := h.len; omega) h.mem]; rfl
/-! letters at a place; the number of fillings -/
def setL (row : List Nat) (p c : Nat) : List Nat := (row.take p ++ [c]) ++ row.drop (p + 1)
theorem length_setL {row : List Nat} {p c : Nat} (h : p < row.length) : (setL row p c).length = row.length := by
  unfold setL; simp; omega
theorem setL_eq {row : List Nat} {p c : Nat} : setL row p c = row.take p ++ c :: row.drop (p + 1) := by unfold setL; simp
theorem mem_setL {row : List Nat} {p c x : Nat} (h : x ∈ setL row p c) : x = c ∨ x ∈ row := by
  unfold setL at h
  simp only [List.mem_append, List.mem_singleton] at h
  rcases h with (h | h) | h
  · exact .inr (List.mem_of_mem_take h)
  · exact .inl h
  · exact .inr (List.mem_of_mem_drop h)
def canB (n : Int) (row : List Nat) : Bool := !(decide (allStarts n row = []))
theorem take_succ_filter {α : Type} {xs : List α} {i : Nat} {x : α} {p : α → Bool} (h : xs[i]? = some x) : (xs.take (i + 1)).filter p = if p x = true then (xs.take i).filter p ++ [x] else (xs.take i).filter p := by
  rw [List.take_add_one, h, List.filter_append]
  cases hp : p x <;> simp [hp]
def lettersL (bag row : List Nat) (p : Nat) : List Nat := bag.filter fun c => canB bag.length (setL row p c)
/-- numbers of full rows -/
theorem log_le {i : Int} {k : Nat} (h0 : 0 ≤ i) (h : i ≤ 2 ^ k) : i.natAbs.log2 < k + 1 := by
  have e : i.natAbs ≤ 2 ^ k := by
    have : ((i.natAbs : Nat) : Int) ≤ ((2 ^ k : Nat) : Int) := by
      rw [Int.natAbs_of_nonneg h0]
      simpa using h
    exact Int.ofNat_le.mp this
  by_cases hz : i.natAbs = 0
  · rw [hz]; exact Nat.succ_pos _
  · rw [Nat.log2_lt hz]
    exact Nat.lt_of_le_of_lt e (Nat.pow_lt_pow_right (by decide) (by omega))
theorem seen_count (part : List Nat) : (seenL part).length + part.count 46 = part.length := by
  induction part with
  | nil => rfl
  | cons c part ih =>
    by_cases h : c = 46
    · subst h; rw [seen_cons_un, List.count_cons_self, List.length_cons]; omega
    · rw [seen_cons h, List.count_cons_of_ne h, List.length_cons, List.length_cons]; omega
theorem partsL_le {n : Nat} (hn : 1 ≤ n) : ∀ {row : List Nat} {r : Nat}, 1 ≤ r → r ≤ n → (∀ q ∈ partsL n row r, q.length ≤ n) ∧ ∀ q qs, partsL n row r = q :: qs → q.length ≤ r := by
  intro row
  induction row with
  | nil => intro r _ _; exact ⟨by simp [partsL], by simp [partsL]⟩
  | cons c row ih =>
    intro r hr hrn
    unfold partsL
    by_cases h1 : r = 1
    · rw [if_pos h1]
      obtain ⟨i1, _⟩ := ih (r := n) hn (Nat.le_refl _)
      refine ⟨fun q hq => ?_, fun q qs e => ?_⟩
      · rcases List.mem_cons.mp hq with rfl | hq
        · simpa using hn
        · exact i1 q hq
      · injection e with e1 e2
        subst e1; simp; omega
    · rw [if_neg h1]
      obtain ⟨i1, i2⟩ := ih (r := r - 1) (by omega) (by omega)
      cases hp : partsL n row (r - 1) with
      | nil =>
        refine ⟨fun q hq => ?_, fun q qs e => ?_⟩
        · rw [List.mem_singleton.mp hq]; simpa using hn
        · injection e with e1 e2
          subst e1; simp; omega
      | cons q2 qs2 =>
        have h2 := i2 q2 qs2 hp
        refine ⟨fun q hq => ?_, fun q qs e => ?_⟩
        · rcases List.mem_cons.mp hq with rfl | hq
          · simp; omega
          · exact i1 q (by rw [hp]; exact List.mem_cons_of_mem _ hq)
        · injection e with e1 e2
          subst e1; simp; omega
theorem difB_seen (part : List Nat) : difB part ↔ (seenL part).Nodup := Iff.rfl
theorem blkC_val {n : Nat} {part : List Nat} : blkC n [] part = if (seenL part).Nodup then fall ((n : Int) - part.length + part.count 46) (part.count 46) else 0 := by
  have h := seen_count part
  unfold blkC
  rw [List.nil_append]
  congr 2
  simp only [List.length_nil]
  omega
theorem blkC_bound {n : Nat} {part : List Nat} (h8 : n ≤ 8) (hl : part.length ≤ n) : 0 ≤ blkC n [] part ∧ blkC n [] part ≤ 2 ^ 24 ∧ (0 < blkC n [] part ↔ difB part) := by
  have h := seen_count part
  rw [blkC_val, difB_seen]
  obtain ⟨f1, f2⟩ := fall_bound (m := (n : Int) - part.length + part.count 46) (by omega) (by omega) (part.count 46) (by omega)
  have : (8 : Int) ^ (part.count 46) ≤ 8 ^ 8 := by
    have : (8 : Nat) ^ (part.count 46) ≤ 8 ^ 8 := Nat.pow_le_pow_right (by decide) (by omega)
    exact_mod_cast this
  have e8 : (8 : Int) ^ 8 = 2 ^ 24 := by decide
  by_cases hd : (seenL part).Nodup
  · simp only [if_pos hd]
    exact ⟨by omega, by omega, fun _ => hd, fun _ => f1⟩
  · simp only [if_neg hd]
    exact ⟨by omega, by decide, fun z => absurd z (by decide), fun z => absurd z hd⟩
/-- the number of full rows that agree with a row and that a start fits -/
def cntL (bag row : List Nat) (s : Int) : Int := fillN bag row [] (bag.length - s.toNat)
theorem prodI_append (xs : List Int) (y : Int) : prodI (xs ++ [y]) = prodI xs * y := by
  induction xs with
  | nil => simp [prodI]
  | cons x xs ih =>
    show x * prodI (xs ++ [y]) = x * prodI xs * y
    rw [ih, Int.mul_assoc]
theorem prodI_zero {xs : List Int} (h : (0 : Int) ∈ xs) : prodI xs = 0 := by
  induction xs with
  | nil => cases h
  | cons x xs ih =>
    show x * prodI xs = 0
    rcases List.mem_cons.mp h with h | h
    · rw [← h, Int.zero_mul]
    · rw [ih h, Int.mul_zero]
theorem prodI_bound : ∀ {xs : List Int}, (∀ x ∈ xs, 0 ≤ x ∧ x ≤ 2 ^ 24) → 0 ≤ prodI xs ∧ prodI xs ≤ 2 ^ (24 * xs.length)
  | [], _ => ⟨by decide, by decide⟩
  | x :: xs, h => by
    obtain ⟨i1, i2⟩ := prodI_bound (xs := xs) fun y hy => h y (List.mem_cons_of_mem _ hy)
    obtain ⟨x1, x2⟩ := h x List.mem_cons_self
    refine ⟨Int.mul_nonneg x1 i1, ?_⟩
    show x * prodI xs ≤ _
    rw [List.length_cons, Nat.mul_add, Nat.mul_one, Int.pow_add, Int.mul_comm]
    exact Int.mul_le_mul i2 x2 x1 (by exact_mod_cast Nat.zero_le _)
theorem prodI_pos : ∀ {xs : List Int}, (∀ x ∈ xs, 0 ≤ x) → (0 < prodI xs ↔ ∀ x ∈ xs, 0 < x)
  | [], _ => ⟨fun _ _ h => absurd h List.not_mem_nil, fun _ => by decide⟩
  | x :: xs, h => by
    have x1 := h x List.mem_cons_self
    have hx : ∀ y ∈ xs, 0 ≤ y := fun y hy => h y (List.mem_cons_of_mem _ hy)
    have ih := prodI_pos hx
    have p0 : 0 ≤ prodI xs := by
      clear ih
      induction xs with
      | nil => decide
      | cons y ys ih => exact Int.mul_nonneg (hx y List.mem_cons_self) (ih (fun z hz => h z (by
          rcases List.mem_cons.mp hz with rfl | hz
          · exact List.mem_cons_self
          · exact List.mem_cons_of_mem _ (List.mem_cons_of_mem _ hz))) (fun z hz => hx z (List.mem_cons_of_mem _ hz)))
    show 0 < x * prodI xs ↔ _
    constructor
    · intro hp y hy
      have hx0 : x ≠ 0 := fun z => by rw [z, Int.zero_mul] at hp; omega
      have hp0 : prodI xs ≠ 0 := fun z => by rw [z, Int.mul_zero] at hp; omega
      rcases List.mem_cons.mp hy with rfl | hy
      · omega
      · exact ih.mp (by omega) y hy
    · intro hall
      exact Int.mul_pos (hall x List.mem_cons_self) (ih.mpr fun y hy => hall y (List.mem_cons_of_mem _ hy))
theorem cntL_prod {bag row : List Nat} {s : Int} (hb : Bg bag) (hr : Rw bag row) (h0 : 0 ≤ s) (h1 : s < bag.length) : cntL bag row s = prodI ((partsL bag.length row (bag.length - s.toNat)).map (blkC bag.length [])) := by
  have b1 := hb.2.1
  unfold cntL
  rw [fillN_eq hb.nodup List.nodup_nil (by simp) hr.mem (by omega) (by omega), blkP_nil]
theorem cntL_pos {bag row : List Nat} {s : Int} (hb : Bg bag) (hr : Rw bag row) (h0 : 0 ≤ s) (h1 : s < bag.length) : 0 ≤ cntL bag row s ∧ (0 < cntL bag row s ↔ fitP bag.length s row) := by
  have b1 := hb.2.1
  have b2 := hb.2.2
  have hl := hr.len
  rw [cntL_prod hb hr h0 h1]
  obtain ⟨s, rfl⟩ := Int.eq_ofNat_of_zero_le h0
  have hpl := partsL_le (n := bag.length) (by omega) (row := row) (r := bag.length - s) (by omega) (by omega)
  have hpe := m_parts_of_eq (n := bag.length) (s := s) (row := row) (by omega) (by omega)
  obtain ⟨parts, hp, hI⟩ := m_parts_of_run (size := bag.length) (start := s) (row := row) (by omega) (by omega)
  rw [hpe] at hp
  injection hp with hp
  rw [hp] at hpl
  rw [Int.toNat_natCast, hp]
  have h0' : ∀ x ∈ parts.map (blkC bag.length []), 0 ≤ x := by
    intro x hx
    obtain ⟨q, hq, rfl⟩ := List.mem_map.mp hx
    exact (blkC_bound (part := q) b2 (hpl.1 q hq)).1
  refine ⟨(prodI_bound fun x hx => ?_).1, ?_⟩
  · obtain ⟨q, hq, rfl⟩ := List.mem_map.mp hx
    have := blkC_bound (part := q) b2 (hpl.1 q hq)
    exact ⟨this.1, this.2.1⟩
  · rw [prodI_pos h0']
    show _ ↔ fitI bag.length s row row.length
    rw [← hI.fit]
    constructor
    · intro h q hq
      exact (blkC_bound (part := q) b2 (hpl.1 q hq)).2.2.mp (h _ (List.mem_map.mpr ⟨q, hq, rfl⟩))
    · intro h x hx
      obtain ⟨q, hq, rfl⟩ := List.mem_map.mp hx
      exact (blkC_bound (part := q) b2 (hpl.1 q hq)).2.2.mpr (h q hq)
/-! the chance of what was seen, for a start; over all starts -/
def botL (n : Nat) (ps : List (List Nat)) : Int := prodI (ps.map fun p => fall n (seenL p).length)
def botN (n : Nat) (row : List Nat) (s : Nat) : Nat := (botL n (partsL n row (n - s))).toNat
def chQ (n : Nat) (row : List Nat) (s : Nat) : Rat := if fitP n s row then mkRat 1 (botN n row s) else 0
theorem fall_seen {n : Nat} {part : List Nat} (h8 : n ≤ 8) (hl : part.length ≤ n) : 0 < fall n (seenL part).length ∧ fall n (seenL part).length ≤ 2 ^ 24 := by
  have h := seen_count part
  obtain ⟨f1, f2⟩ := fall_bound (m := (n : Int)) (by omega) (by omega) (seenL part).length (by omega)
  have : (8 : Int) ^ (seenL part).length ≤ 8 ^ 8 := by
    have : (8 : Nat) ^ (seenL part).length ≤ 8 ^ 8 := Nat.pow_le_pow_right (by decide) (by omega)
    exact_mod_cast this
  have e8 : (8 : Int) ^ 8 = 2 ^ 24 := by decide
  exact ⟨f1, by omega⟩
theorem parts_facts {n s : Nat} {row : List Nat} (h1 : 1 ≤ n) (hs : s < n) (hl : row.length ≤ 1000) : m_parts_of n row s = some (partsL n row (n - s)) ∧ (∀ q ∈ partsL n row (n - s), q.length ≤ n) ∧ (partsL n row (n - s)).length ≤ row.length ∧ ((∀ q ∈ partsL n row (n - s), difB q) ↔ fitP n s row) := by
  have hpe := m_parts_of_eq (n := n) (s := s) (row := row) hs hl
  obtain ⟨parts, hp, hI⟩ := m_parts_of_run (size := n) (start := s) (row := row) (by omega) hl
  rw [hpe] at hp
  injection hp with hp
  refine ⟨hpe, (partsL_le h1 (by omega) (by omega)).1, by rw [hp]; exact hI.len, by rw [hp]; exact hI.fit⟩
theorem partsL_flatten {n : Nat} : ∀ {row : List Nat} {r : Nat}, (partsL n row r).flatten = row := by
  intro row
  induction row with
  | nil => intro r; rfl
  | cons c row ih =>
    intro r
    unfold partsL
    by_cases h : r = 1
    · rw [if_pos h, List.flatten_cons, ih]; rfl
    · rw [if_neg h]
      have := ih (r := r - 1)
      cases hp : partsL n row (r - 1) with
      | nil => rw [hp] at this; rw [← this]; rfl
      | cons q qs => rw [hp] at this; rw [← this]; rfl
theorem fall_seen3 {n : Nat} {part : List Nat} (h8 : n ≤ 8) (hl : part.length ≤ n) : fall n (seenL part).length ≤ 2 ^ (3 * part.length) := by
  have h := seen_count part
  obtain ⟨f1, f2⟩ := fall_bound (m := (n : Int)) (by omega) (by omega) (seenL part).length (by omega)
  refine Int.le_trans f2 ?_
  have : (8 : Nat) ^ (seenL part).length ≤ 2 ^ (3 * part.length) := by
    rw [show (8 : Nat) = 2 ^ 3 by decide, ← Nat.pow_mul]
    exact Nat.pow_le_pow_right (by decide) (by omega)
  exact_mod_cast this
theorem botL_bound {n : Nat} {ps : List (List Nat)} (h8 : n ≤ 8) (hl : ∀ q ∈ ps, q.length ≤ n) : 0 < botL n ps ∧ botL n ps ≤ 2 ^ (3 * ps.flatten.length) := by
  have hb : ∀ x ∈ ps.map (fun p => fall n (seenL p).length), 0 < x ∧ x ≤ 2 ^ 24 := by
    intro x hx
    obtain ⟨q, hq, rfl⟩ := List.mem_map.mp hx
    exact fall_seen h8 (hl q hq)
  have h1 := (prodI_pos (xs := ps.map fun p => fall n (seenL p).length) fun x hx => Int.le_of_lt (hb x hx).1).mpr fun x hx => (hb x hx).1
  refine ⟨h1, ?_⟩
  clear h1 hb
  induction ps with
  | nil => simp [botL, prodI]
  | cons q ps ih =>
    have ih := ih fun r hr => hl r (List.mem_cons_of_mem _ hr)
    have hq := fall_seen3 h8 (hl q List.mem_cons_self)
    have hq0 := (fall_seen h8 (hl q List.mem_cons_self)).1
    show fall n (seenL q).length * botL n ps ≤ _
    rw [List.flatten_cons, List.length_append, Nat.mul_add, Int.pow_add]
    exact Int.mul_le_mul hq ih (Int.le_of_lt (by
      refine (prodI_pos (xs := ps.map fun p => fall n (seenL p).length) fun x hx => ?_).mpr fun x hx => ?_
      · obtain ⟨r, hr, rfl⟩ := List.mem_map.mp hx
        exact Int.le_of_lt (fall_seen h8 (hl r (List.mem_cons_of_mem _ hr))).1
      · obtain ⟨r, hr, rfl⟩ := List.mem_map.mp hx
        exact (fall_seen h8 (hl r (List.mem_cons_of_mem _ hr))).1)) (by exact_mod_cast Nat.zero_le _)
theorem flatten_take_le (ps : List (List Nat)) (i : Nat) : (ps.take i).flatten.length ≤ ps.flatten.length := by
  have : ps.flatten = (ps.take i).flatten ++ (ps.drop i).flatten := by rw [← List.flatten_append, List.take_append_drop]
  rw [this, List.length_append]; omega
/-! chances as shares of full rows, over one denominator for all rows of a length -/
theorem fall_add (m : Int) (a : Nat) : ∀ b : Nat, fall m (a + b) = fall m a * fall (m - a) b
  | 0 => by simp [fall]
  | b + 1 => by
    rw [← Nat.add_assoc, fall, fall_add m a b, fall, Int.mul_assoc]
    congr 2
    omega
theorem blk_bot {n : Nat} {part : List Nat} (h : difB part) (hl : part.length ≤ n) : blkC n [] part * fall n (seenL part).length = fall n part.length := by
  have hs := seen_count part
  have e : (n : Int) - part.length + part.count 46 = n - ((seenL part).length : Nat) := by omega
  rw [blkC_val, if_pos ((difB_seen part).mp h), e, Int.mul_comm, ← fall_add, hs]
theorem prodI_mul {α : Type} (f g : α → Int) : ∀ xs : List α, prodI (xs.map f) * prodI (xs.map g) = prodI (xs.map fun x => f x * g x)
  | [] => rfl
  | x :: xs => by
    show f x * prodI (xs.map f) * (g x * prodI (xs.map g)) = f x * g x * prodI (xs.map fun x => f x * g x)
    rw [← prodI_mul f g xs, Int.mul_assoc, Int.mul_assoc, Int.mul_left_comm (prodI (xs.map f))]
theorem parts_len {n : Nat} : ∀ {row row' : List Nat} {r : Nat}, row.length = row'.length → (partsL n row r).map List.length = (partsL n row' r).map List.length := by
  intro row
  induction row with
  | nil =>
    intro row' r h
    cases row' with
    | nil => rfl
    | cons => cases h
  | cons c row ih =>
    intro row' r h
    cases row' with
    | nil => cases h
    | cons c' row' =>
      have h : row.length = row'.length := by simpa using h
      unfold partsL
      by_cases hr : r = 1
      · rw [if_pos hr, if_pos hr, List.map_cons, List.map_cons, ih h]
        rfl
      · rw [if_neg hr, if_neg hr]
        have := ih (r := r - 1) h
        revert this
        generalize partsL n row (r - 1) = X
        generalize partsL n row' (r - 1) = Y
        intro this
        cases X with
        | nil =>
          cases Y with
          | nil => rfl
          | cons => cases this
        | cons x xs =>
          cases Y with
          | nil => cases this
          | cons y ys =>
            rw [List.map_cons, List.map_cons] at this
            injection this with h1 h2
            show (x.length + 1) :: xs.map List.length = (y.length + 1) :: ys.map List.length
            rw [h1, h2]
/-- the number of full rows of a length that a start fits -/
def unI (n len s : Nat) : Int := prodI ((partsL n (List.replicate len 46) (n - s)).map fun q => fall n q.length)
def unN (n len s : Nat) : Nat := (unI n len s).toNat
theorem unI_parts {n s : Nat} {row : List Nat} : unI n row.length s = prodI ((partsL n row (n - s)).map fun q => fall n q.length) := by
  have e : ∀ X : List (List Nat), (X.map fun q => fall n q.length) = (X.map List.length).map (fall n) := fun X => by rw [List.map_map]; rfl
  unfold unI
  rw [e, e, parts_len (row := List.replicate row.length 46) (row' := row) (by simp)]
theorem prodI_fall_bound {n : Nat} {ps : List (List Nat)} (h8 : n ≤ 8) (hl : ∀ q ∈ ps, q.length ≤ n) : 0 < prodI (ps.map fun q => fall n q.length) ∧ prodI (ps.map fun q => fall n q.length) ≤ 2 ^ (3 * ps.flatten.length) := by
  induction ps with
  | nil => exact ⟨by simp [prodI], by simp [prodI]⟩
  | cons q ps ih =>
    obtain ⟨i1, i2⟩ := ih fun r hr => hl r (List.mem_cons_of_mem _ hr)
    obtain ⟨f1, f2⟩ := fall_bound (m := (n : Int)) (by omega) (by omega) q.length (by have := hl q List.mem_cons_self; omega)
    rw [List.map_cons, List.flatten_cons, List.length_append, Nat.mul_add, Int.pow_add]
    show 0 < fall n q.length * _ ∧ fall n q.length * _ ≤ _
    refine ⟨Int.mul_pos f1 i1, Int.mul_le_mul ?_ i2 (Int.le_of_lt i1) (by exact_mod_cast Nat.zero_le _)⟩
    have : (8 : Nat) ^ q.length = 2 ^ (3 * q.length) := by rw [show (8 : Nat) = 2 ^ 3 by decide, ← Nat.pow_mul]
    have : (8 : Int) ^ q.length = 2 ^ (3 * q.length) := by exact_mod_cast this
    omega
theorem unI_bound {n len s : Nat} (h1 : 1 ≤ n) (h8 : n ≤ 8) (hs : s < n) (hl : len ≤ 1000) : 0 < unI n len s ∧ unI n len s ≤ 2 ^ (3 * len) := by
  obtain ⟨_, hpl, _, _⟩ := parts_facts (n := n) (s := s) (row := List.replicate len 46) h1 hs (by simpa using hl)
  have h := prodI_fall_bound h8 hpl
  rw [partsL_flatten, List.length_replicate] at h
  exact h
theorem unN_pos {n len s : Nat} (h1 : 1 ≤ n) (h8 : n ≤ 8) (hs : s < n) (hl : len ≤ 1000) : 0 < unN n len s ∧ ((unN n len s : Nat) : Int) = unI n len s := by
  have := (unI_bound h1 h8 hs hl).1
  unfold unN
  omega
theorem unN_le {n len s : Nat} (h1 : 1 ≤ n) (h8 : n ≤ 8) (hs : s < n) (hl : len ≤ 40) : unN n len s ≤ 2 ^ 120 := by
  obtain ⟨u0, u1⟩ := unI_bound (n := n) (len := len) (s := s) h1 h8 hs (by omega)
  have : (2 : Int) ^ (3 * len) ≤ 2 ^ 120 := by
    have : (2 : Nat) ^ (3 * len) ≤ 2 ^ 120 := Nat.pow_le_pow_right (by decide) (by omega)
    exact_mod_cast this
  unfold unN
  omega
theorem cntL_bot {bag row : List Nat} {s : Nat} (hb : Bg bag) (hr : Rw bag row) (hs : s < bag.length) (hf : fitP bag.length s row) : cntL bag row s * botL bag.length (partsL bag.length row (bag.length - s)) = unI bag.length row.length s := by
  obtain ⟨_, hpl, _, hfit⟩ := parts_facts (n := bag.length) (s := s) (row := row) (by omega) hs (by have := hr.len; omega)
  rw [cntL_prod hb hr (by omega) (by omega), Int.toNat_natCast, botL, prodI_mul, unI_parts]
  refine congrArg prodI (List.map_congr_left fun q hq => ?_)
  exact blk_bot (hfit.mpr hf q hq) (hpl q hq)
/-! sums over the full rows that agree with a row -/
def fillS (bag : List Nat) : List Nat → (List Nat → Int) → Int
  | [], f => f []
  | c :: row, f => if c = 46 then (bag.map fun x => fillS bag row fun w => f (x :: w)).sum else fillS bag row fun w => f (c :: w)
theorem fillS_zero {bag : List Nat} : ∀ row : List Nat, fillS bag row (fun _ => 0) = 0
  | [] => rfl
  | c :: row => by
    unfold fillS
    have := fillS_zero (bag := bag) row
    by_cases h : c = 46
    · rw [if_pos h]
      show (bag.map fun _ => fillS bag row fun _ => 0).sum = 0
      rw [this, sum_const, Int.mul_zero]
    · rw [if_neg h, this]
theorem fillS_congr {bag : List Nat} : ∀ {row : List Nat} {f g : List Nat → Int}, (∀ x ∈ row, x = 46 ∨ x ∈ bag) → (∀ w, w.length = row.length → (∀ x ∈ w, x ∈ bag) → f w = g w) → fillS bag row f = fillS bag row g
  | [], f, g, _, h => h [] rfl (fun x hx => absurd hx List.not_mem_nil)
  | c :: row, f, g, hr, h => by
    have hr2 : ∀ x ∈ row, x = 46 ∨ x ∈ bag := fun x hx => hr x (List.mem_cons_of_mem _ hx)
    have key : ∀ y ∈ bag, fillS bag row (fun w => f (y :: w)) = fillS bag row fun w => g (y :: w) := fun y hy => fillS_congr hr2 fun w hw hm => h (y :: w) (by simp [hw]) fun x hx => by
      rcases List.mem_cons.mp hx with rfl | hx
      · exact hy
      · exact hm x hx
    unfold fillS
    by_cases hc : c = 46
    · rw [if_pos hc, if_pos hc]
      exact congrArg List.sum (List.map_congr_left fun y hy => key y hy)
    · rw [if_neg hc, if_neg hc]
      rcases hr c List.mem_cons_self with z | z
      · exact absurd z hc
      · exact key c z
theorem fillS_snoc {bag : List Nat} {c : Nat} : ∀ {row : List Nat} {f : List Nat → Int}, fillS bag (row ++ [c]) f = if c = 46 then (bag.map fun x => fillS bag row fun w => f (w ++ [x])).sum else fillS bag row fun w => f (w ++ [c])
  | [], f => by
    show fillS bag [c] f = _
    unfold fillS
    by_cases hc : c = 46
    · rw [if_pos hc, if_pos hc]; rfl
    · rw [if_neg hc, if_neg hc]; rfl
  | d :: row, f => by
    show fillS bag (d :: (row ++ [c])) f = _
    unfold fillS
    by_cases hd : d = 46
    · simp only [if_pos hd, fillS_snoc (row := row)]
      by_cases hc : c = 46
      · simp only [if_pos hc]
        rw [sum_swap]
        rfl
      · simp only [if_neg hc]
        rfl
    · simp only [if_neg hd, fillS_snoc (row := row)]
      by_cases hc : c = 46
      · simp only [if_pos hc]
        rfl
      · simp only [if_neg hc]
        rfl
theorem fillS_rev {bag : List Nat} : ∀ {row : List Nat} {f : List Nat → Int}, fillS bag row.reverse f = fillS bag row fun w => f w.reverse
  | [], _ => rfl
  | c :: row, f => by
    rw [List.reverse_cons, fillS_snoc]
    simp only [fillS_rev (row := row)]
    conv => rhs; unfold fillS
    by_cases hc : c = 46
    · rw [if_pos hc, if_pos hc]
      simp only [List.reverse_cons]
    · rw [if_neg hc, if_neg hc]
      simp only [List.reverse_cons]
theorem fillN_S {bag : List Nat} (h46 : 46 ∉ bag) : ∀ {row cur : List Nat} {r : Nat}, fillN bag row cur r = fillS bag row fun w => fillN bag w cur r := by
  intro row
  induction row with
  | nil => intro cur r; rfl
  | cons c row ih =>
    have key : ∀ (y : Nat) (cur : List Nat) (r : Nat), y ≠ 46 → fillN bag (y :: row) cur r = fillS bag row fun w => fillN bag (y :: w) cur r := by
      intro y cur r hy
      simp only [fillN, if_neg hy]
      by_cases hc : y ∈ cur
      · simp only [if_pos hc]
        exact (fillS_zero row).symm
      · simp only [if_neg hc]
        by_cases h1 : r = 1
        · simp only [if_pos h1]; exact ih
        · simp only [if_neg h1]; exact ih
    intro cur r
    by_cases hc : c = 46
    · subst hc
      have h := fillN_letters (bag := bag) (B := row) h46 (A := []) (cur := cur) (r := r)
      simp only [List.nil_append] at h
      rw [← h]
      unfold fillS
      rw [if_pos rfl]
      exact congrArg List.sum (List.map_congr_left fun y hy => key y cur r fun z => h46 (z ▸ hy))
    · rw [key c cur r hc]
      conv => rhs; unfold fillS
      rw [if_neg hc]
theorem seenL_full {q : List Nat} (h : ∀ x ∈ q, x ≠ 46) : seenL q = q := by
  unfold seenL
  rw [List.filter_eq_self]
  intro x hx
  simpa using h x hx
theorem seenL_unseen {q : List Nat} (h : ∀ x ∈ q, x = 46) : seenL q = [] := by
  unfold seenL
  rw [List.filter_eq_nil_iff]
  intro x hx
  simpa using h x hx
/-- a full row: one way, or none -/
theorem cntL_full {bag w : List Nat} {s : Nat} (hb : Bg bag) (hl : w.length ≤ 40) (hw : ∀ x ∈ w, x ∈ bag) (hs : s < bag.length) : cntL bag w s = if fitP bag.length s w then 1 else 0 := by
  have hr : Rw bag w := ⟨hl, fun x hx => .inr (hw x hx)⟩
  obtain ⟨c0, c1⟩ := cntL_pos hb hr (s := (s : Int)) (by omega) (by omega)
  by_cases hf : fitP bag.length s w
  · rw [if_pos hf]
    have hcb := cntL_bot hb hr hs hf
    have hu := (unI_bound (n := bag.length) (len := w.length) (s := s) (by omega) hb.2.2 hs (by omega)).1
    have e : botL bag.length (partsL bag.length w (bag.length - s)) = unI bag.length w.length s := by
      rw [unI_parts]
      unfold botL
      refine congrArg prodI (List.map_congr_left fun q hq => ?_)
      rw [seenL_full fun x hx => bag_ne46 hb (hw x (partsL_mem hq hx))]
    rw [e] at hcb
    have : cntL bag w s * unI bag.length w.length s = 1 * unI bag.length w.length s := by rw [hcb, Int.one_mul]
    exact Int.eq_of_mul_eq_mul_right (by omega) this
  · rw [if_neg hf]
    have : ¬ 0 < cntL bag w s := fun z => hf (c1.mp z)
    omega
theorem cntL_fit {bag row : List Nat} {s : Nat} (hb : Bg bag) (hr : Rw bag row) (hs : s < bag.length) : cntL bag row s = fillS bag row fun w => if fitP bag.length s w then 1 else 0 := by
  have h46 : 46 ∉ bag := fun h => bag_ne46 hb h rfl
  have hl := hr.len
  have h : cntL bag row s = fillS bag row fun w => cntL bag w s := fillN_S h46
  rw [h]
  exact fillS_congr hr.mem fun w hw hm => cntL_full hb (by omega) hm hs
theorem m_need_letter_eq {bag : List Nat} {c : Nat} (hc : c ∈ bag) : m_need_letter bag c = some () := by
  unfold m_need_letter
  simp [hc]
/-! counting letters -/
theorem sub_len : ∀ {L bag : List Nat}, L.Nodup → (∀ x ∈ L, x ∈ bag) → L.length ≤ bag.length
  | [], _, _, _ => Nat.zero_le _
  | x :: L, bag, hn, hs => by
    obtain ⟨h1, h2⟩ := List.nodup_cons.mp hn
    have hx := hs x List.mem_cons_self
    have : L.length ≤ (bag.erase x).length := sub_len h2 fun y hy => (List.mem_erase_of_ne (by intro e; subst e; exact h1 hy)).mpr (hs y (List.mem_cons_of_mem _ hy))
    rw [List.length_erase_of_mem hx] at this
    have := List.length_pos_of_mem hx
    rw [List.length_cons]
    omega
theorem pigeon {bag L : List Nat} (hb : bag.Nodup) (h : L.length < bag.length) : ∃ x ∈ bag, x ∉ L := by
  refine Decidable.byContradiction fun hh => ?_
  have := sub_len hb (bag := L) fun x hx => Decidable.byContradiction fun z => hh ⟨x, hx, z⟩
  omega
/-! waits -/
def wv (n : Int) (row : List Nat) (d : Int) (c : Nat) : Int × Int :=
  if c ∈ lastL row d then (n - d + 1, n - d + n) else if 46 ∈ lastL row d ∨ ((lastL row d).length : Int) < d then (1, n - d + n) else (1, n - d)
def drawnI (n : Int) (row : List Nat) (s : Int) : Int := (s + row.length) % n
theorem length_lastL {row : List Nat} {d : Int} (h0 : 0 ≤ d) : ((lastL row d).length : Int) = min d row.length := by
  unfold lastL; rw [List.length_drop]; omega
theorem m_waits_eq {bag row : List Nat} {s : Int} {c : Nat} (b1 : 2 ≤ bag.length) (b2 : bag.length ≤ 8) (hl : row.length ≤ 1000) : m_waits bag row s c = some (wv bag.length row (drawnI bag.length row s) c) := by
  have h0 := Int.emod_nonneg (s + row.length) (show (bag.length : Int) ≠ 0 by omega)
  have e : cut row (some ((row.length : Int) - (min ((s + (row.length : Int)) % (bag.length : Int)) (row.length : Int)))) none = lastL row (drawnI bag.length row s) := by
    rw [cut_lo0 _ (by omega)]
    unfold lastL drawnI
    rw [show ((row.length : Int) - min ((s + (row.length : Int)) % (bag.length : Int)) (row.length : Int)).toNat = row.length - ((s + (row.length : Int)) % (bag.length : Int)).toNat by omega]
  have hll := length_lastL (row := row) (d := drawnI bag.length row s) h0
  unfold m_waits
  rw [e]
  refine Run.eq (Run.gd_ (by omega) (Run.gd_ (by omega) (Run.gd_ (by omega) (Run.gd_ (by omega) (Run.gd_ (by omega) (Run.gd_ (by omega) (Run.ite (fun h => Run.ok ?_) fun h => Run.gd_ (by intros; omega) (Run.ite (fun h2 => Run.ok ?_) fun h2 => Run.ok ?_))))))))
  · unfold wv; rw [if_pos (by simpa using h)]; rfl
  · unfold wv
    rw [if_neg (by simpa using h), if_pos (by simp only [Bool.or_eq_true, decide_eq_true_eq] at h2; exact h2)]; rfl
  · unfold wv
    rw [if_neg (by simpa using h), if_neg (by simp only [Bool.or_eq_false_iff, decide_eq_false_iff_not] at h2; exact fun z => z.elim h2.1 h2.2)]; rfl
def lows (n : Int) (row : List Nat) (c : Nat) : List Int := (allStarts n row).map fun s => (wv n row (drawnI n row s) c).1
def highs (n : Int) (row : List Nat) (c : Nat) : List Int := (allStarts n row).map fun s => (wv n row (drawnI n row s) c).2
def waitV (n : Int) (row : List Nat) (c : Nat) : Option (Int × Int) := if allStarts n row = [] then none else some (minL (lows n row c), maxL (highs n row c))
theorem m_wait_range_eq {bag row : List Nat} {c : Nat} (hb : Bg bag) (hr : Rw bag row) (hc : c ∈ bag) : m_wait_range bag row c = some (waitV bag.length row c) := by
  have b1 := hb.2.1
  have b2 := hb.2.2
  have hl := hr.len
  have hlen := length_allStarts bag.length row
  unfold m_wait_range
  rw [m_need_bag_eq hb, m_need_row_eq hr, m_need_letter_eq hc, m_all_starts_eq (by omega) (by omega) (by omega)]
  refine Run.eq (Run.bind_eq rfl (Run.bind_eq rfl (Run.bind_eq rfl (Run.gd_ (by omega) (Run.bind_eq rfl (Run.gd_ (by omega) (Run.bind (mapO_run (v := fun s => wv bag.length row (drawnI bag.length row s) c) (fun s hs => ?_) ?_))))))))
  · rw [m_waits_eq b1 b2 (by omega)]; rfl
  · unfold waitV
    refine Run.ite (fun h => ?_) fun h => ?_
    · rw [if_pos (by simpa using h)]; exact Run.ok rfl
    · have hne : allStarts bag.length row ≠ [] := by simpa using h
      rw [if_neg hne]
      refine Run.gd_ (by rw [List.length_map]; omega) (Run.gd_ ?_ (Run.gd_ (by rw [List.length_map]; omega) (Run.gd_ ?_ (Run.ok ?_))))
      · simpa using hne
      · simpa using hne
      · rw [List.map_map, List.map_map]
        rfl
theorem last_nodup {n s : Int} {row : List Nat} (hn : 0 < n) (h : fitP n s row) : ((lastL row (drawnI n row s)).filter (· != 46)).Nodup := by
  have h0 := Int.emod_nonneg (s + row.length) (Int.ne_of_gt hn)
  have hp : (lastL row (drawnI n row s)).Pairwise fun x y => y ≠ 46 → x ≠ y := by
    unfold lastL
    rw [List.pairwise_iff_getElem]
    intro i j hi hj hij h46 e
    rw [List.length_drop] at hi hj
    rw [List.getElem_drop, List.getElem_drop] at e
    rw [List.getElem_drop] at h46
    generalize hk : row.length - (drawnI n row s).toNat = k at *
    have hd : drawnI n row s = (s + row.length) % n := rfl
    have h3 : (((k + i : Nat) : Int) + s) / n = (((k + j : Nat) : Int) + s) / n := by
      have c := Int.add_comm s (row.length : Int)
      rw [c] at hd h0
      have e1 := (same_bag (n := n) (a := ((k + i : Nat) : Int) + s) (b := (row.length : Int) + s) hn (by omega)).mpr (by rw [← hd]; omega)
      have e2 := (same_bag (n := n) (a := ((k + j : Nat) : Int) + s) (b := (row.length : Int) + s) hn (by omega)).mpr (by rw [← hd]; omega)
      exact e1.trans e2.symm
    have := h (k + j) (by omega) (k + i) (by omega) h3
    rw [List.getD_eq_getElem?_getD, List.getD_eq_getElem?_getD, List.getElem?_eq_getElem (by omega), List.getElem?_eq_getElem (by omega)] at this
    exact h46 (this e)
  refine List.Pairwise.imp_of_mem ?_ (hp.filter _)
  intro a b ha hb hab
  have := (List.mem_filter.mp hb).2
  exact hab (by simpa using this)

/-- one draw more -/
theorem lastL_snoc {row : List Nat} {one : Nat} {d : Int} (h0 : 0 ≤ d) : lastL (row ++ [one]) (d + 1) = lastL row d ++ [one] := by
  unfold lastL
  rw [List.length_append, List.length_singleton, show row.length + 1 - (d + 1).toNat = row.length - d.toNat by omega, List.drop_append_of_le_length (by omega)]
theorem lastL_zero (row : List Nat) : lastL row 0 = [] := by
  unfold lastL; simp
theorem drawn_snoc {n s : Int} {row : List Nat} {one : Nat} (hn : 0 < n) : drawnI n (row ++ [one]) s = if drawnI n row s + 1 = n then 0 else drawnI n row s + 1 := by
  unfold drawnI
  rw [List.length_append, List.length_singleton]
  generalize hx : s + (row.length : Int) = x
  rw [show s + ((row.length + 1 : Nat) : Int) = x + 1 by omega]
  have h1 := Int.emod_nonneg x (Int.ne_of_gt hn)
  have h2 := Int.emod_lt_of_pos x hn
  have h3 := Int.mul_ediv_add_emod x n
  by_cases e : x % n + 1 = n
  · rw [if_pos e]
    exact ((Int.ediv_emod_unique hn (a := x + 1) (q := x / n + 1) (r := 0)).mpr ⟨by rw [Int.mul_add]; omega, by omega, by omega⟩).2
  · rw [if_neg e]
    exact ((Int.ediv_emod_unique hn (a := x + 1) (q := x / n) (r := x % n + 1)).mpr ⟨by omega, by omega, by omega⟩).2
theorem mem_snoc_iff {row : List Nat} {one : Nat} {n s : Int} (hn : 0 < n) (ho : one ≠ 46) : s ∈ allStarts n (row ++ [one]) ↔ s ∈ allStarts n row ∧ one ∉ lastL row (drawnI n row s) := by
  rw [mem_allStarts, mem_allStarts, fit_snoc_last hn ho]
  unfold drawnI
  rw [Int.add_comm s]
  exact and_assoc.symm
theorem wv_snoc {bag row : List Nat} {s : Int} {one c : Nat} (hb : Bg bag) (hr : Rw bag row) (hs : s ∈ allStarts bag.length row) (ho : one ∈ bag) (hc : c ∈ bag) (hne : one ≠ c) (hl : one ∉ lastL row (drawnI bag.length row s)) :
    (wv bag.length (row ++ [one]) (drawnI bag.length (row ++ [one]) s) c).2 = (wv bag.length row (drawnI bag.length row s) c).2 - 1 ∧ (c ∈ lastL row (drawnI bag.length row s) → (wv bag.length (row ++ [one]) (drawnI bag.length (row ++ [one]) s) c).1 = (wv bag.length row (drawnI bag.length row s) c).1 - 1) := by
  have b1 := hb.2.1
  have ho46 := bag_ne46 hb ho
  have hc46 := bag_ne46 hb hc
  have hn : (0 : Int) < bag.length := by omega
  have hnd := last_nodup hn (mem_allStarts.mp hs).2
  have d0 : 0 ≤ drawnI bag.length row s := Int.emod_nonneg _ (by omega)
  have d1 : drawnI bag.length row s < bag.length := Int.emod_lt_of_pos _ hn
  have hll := length_lastL (row := row) d0
  have hsub : ∀ x ∈ lastL row (drawnI bag.length row s), x = 46 ∨ x ∈ bag := fun x hx => hr.mem x (List.mem_of_mem_drop hx)
  rw [drawn_snoc hn]
  generalize drawnI bag.length row s = d at *
  by_cases e : d + 1 = bag.length
  · rw [if_pos e]
    have e0 : wv bag.length (row ++ [one]) 0 c = (1, (bag.length : Int)) := by
      unfold wv
      rw [lastL_zero]
      simp
    rw [e0]
    unfold wv
    by_cases h1 : c ∈ lastL row d
    · rw [if_pos h1]
      exact ⟨by dsimp only; omega, fun _ => by dsimp only; omega⟩
    · rw [if_neg h1]
      by_cases h2 : 46 ∈ lastL row d ∨ ((lastL row d).length : Int) < d
      · rw [if_pos h2]
        exact ⟨by dsimp only; omega, fun z => absurd z h1⟩
      · exfalso
        rw [not_or] at h2
        have e46 : (lastL row d).filter (· != 46) = lastL row d := by
          rw [List.filter_eq_self]
          intro x hx
          simp only [bne_iff_ne, ne_eq]
          intro z; subst z; exact h2.1 hx
        rw [e46] at hnd
        have := sub_len (L := c :: one :: lastL row d) (bag := bag) (by
          rw [List.nodup_cons, List.nodup_cons]
          refine ⟨fun z => ?_, hl, hnd⟩
          rcases List.mem_cons.mp z with z | z
          · exact hne z.symm
          · exact h1 z) (fun x hx => by
          rcases List.mem_cons.mp hx with rfl | hx
          · exact hc
          · rcases List.mem_cons.mp hx with rfl | hx
            · exact ho
            · rcases hsub x hx with rfl | z
              · exact absurd hx h2.1
              · exact z)
        rw [List.length_cons, List.length_cons] at this
        omega
  · rw [if_neg e]
    unfold wv
    rw [lastL_snoc d0]
    have i1 : c ∈ lastL row d ++ [one] ↔ c ∈ lastL row d := by
      rw [List.mem_append, List.mem_singleton]
      exact ⟨fun z => z.elim id fun z => absurd z.symm hne, .inl⟩
    have i2 : 46 ∈ lastL row d ++ [one] ↔ 46 ∈ lastL row d := by
      rw [List.mem_append, List.mem_singleton]
      exact ⟨fun z => z.elim id fun z => absurd z.symm ho46, .inl⟩
    have i3 : (((lastL row d ++ [one]).length : Nat) : Int) < d + 1 ↔ ((lastL row d).length : Int) < d := by
      rw [List.length_append, List.length_singleton]; omega
    simp only [i1, i2, i3]
    by_cases h1 : c ∈ lastL row d
    · rw [if_pos h1, if_pos h1]
      exact ⟨by dsimp only; omega, fun _ => by dsimp only; omega⟩
    · rw [if_neg h1, if_neg h1]
      by_cases h2 : 46 ∈ lastL row d ∨ ((lastL row d).length : Int) < d
      · rw [if_pos h2, if_pos h2]
        exact ⟨by dsimp only; omega, fun z => absurd z h1⟩
      · rw [if_neg h2, if_neg h2]
        exact ⟨by dsimp only; omega, fun z => absurd z h1⟩
theorem seen46 : ∀ {l : List Nat}, 46 ∈ l → (l.filter (· != 46)).length < l.length
  | x :: l, h => by
    rw [List.filter_cons, List.length_cons]
    have := List.length_filter_le (· != 46) l
    rcases List.mem_cons.mp h with rfl | h
    · simp; omega
    · have := seen46 h
      by_cases hx : x = 46
      · subst hx; simp; omega
      · rw [if_pos (by simpa using hx), List.length_cons]; omega
/-- some other letter can come, where more than one draw may be waited for -/
theorem other_letter {bag row : List Nat} {s : Int} {c : Nat} (hb : Bg bag) (hr : Rw bag row) (hs : s ∈ allStarts bag.length row) (hc : c ∈ bag) (h : 1 < (wv bag.length row (drawnI bag.length row s) c).2) : ∃ one ∈ bag, one ≠ c ∧ one ∉ lastL row (drawnI bag.length row s) := by
  have b1 := hb.2.1
  have d0 : 0 ≤ drawnI bag.length row s := Int.emod_nonneg _ (by omega)
  have d1 : drawnI bag.length row s < bag.length := Int.emod_lt_of_pos _ (by omega)
  have hll := length_lastL (row := row) d0
  generalize drawnI bag.length row s = d at *
  unfold wv at h
  by_cases h1 : c ∈ lastL row d
  · obtain ⟨x, hx, hn⟩ := pigeon hb.nodup (L := lastL row d) (by omega)
    exact ⟨x, hx, by intro e; subst e; exact hn h1, hn⟩
  · rw [if_neg h1] at h
    have hlen : ((lastL row d).filter (· != 46)).length + 1 < bag.length := by
      by_cases h2 : 46 ∈ lastL row d ∨ ((lastL row d).length : Int) < d
      · rcases h2 with h2 | h2
        · have := seen46 h2
          omega
        · have := List.length_filter_le (· != 46) (lastL row d)
          omega
      · rw [if_neg h2] at h
        dsimp only at h
        have := List.length_filter_le (· != 46) (lastL row d)
        omega
    obtain ⟨x, hx, hn⟩ := pigeon hb.nodup (L := c :: (lastL row d).filter (· != 46)) (by rw [List.length_cons]; omega)
    have h46 := bag_ne46 hb hx
    exact ⟨x, hx, fun e => hn (by rw [e]; exact List.mem_cons_self), fun z => hn (List.mem_cons_of_mem _ (List.mem_filter.mpr ⟨z, by simpa using h46⟩))⟩
theorem wv_pos {n : Int} {row : List Nat} {d : Int} {c : Nat} (h : d < n) (hn : 0 < n) : 1 ≤ (wv n row d c).1 ∧ 1 ≤ (wv n row d c).2 := by
  unfold wv
  by_cases h1 : c ∈ lastL row d
  · rw [if_pos h1]; exact ⟨by dsimp only; omega, by dsimp only; omega⟩
  · rw [if_neg h1]
    by_cases h2 : 46 ∈ lastL row d ∨ ((lastL row d).length : Int) < d
    · rw [if_pos h2]; exact ⟨by dsimp only; omega, by dsimp only; omega⟩
    · rw [if_neg h2]; exact ⟨by dsimp only; omega, by dsimp only; omega⟩
/-! over all starts -/
def dS (n : Nat) (row : List Nat) (s : Nat) : Nat := (row.length + s) % n
theorem dS_lt {n s : Nat} {row : List Nat} (hn : 0 < n) : dS n row s < n := Nat.mod_lt _ hn
/-! when a letter can come, when it must have come -/
theorem drawn_dS {n s : Nat} {row : List Nat} : drawnI n row s = ((dS n row s : Nat) : Int) := by
  unfold drawnI dS
  rw [Int.add_comm]
  simp
theorem getD_mem {row : List Nat} {q : Nat} (h : q < row.length) : row.getD q 0 ∈ row := by
  rw [List.getD_eq_getElem?_getD, List.getElem?_eq_getElem h]
  exact List.getElem_mem h
theorem flatten_len {bag : List Nat} : ∀ {ps : List (List Nat)}, (∀ q ∈ ps, q.Perm bag) → ps.flatten.length = ps.length * bag.length := by
  intro ps
  induction ps with
  | nil => intro _; simp
  | cons q ps ih =>
    intro h
    rw [List.flatten_cons, List.length_append, ih (fun r hr => h r (List.mem_cons_of_mem _ hr)), (h q (by simp)).length_eq, List.length_cons, Nat.add_mul]
    omega
/-! a stream's row has the start at which it was drawn -/
theorem blk_get {bag : List Nat} (h0 : 0 < bag.length) : ∀ {ps : List (List Nat)}, (∀ q ∈ ps, q.Perm bag) → ∀ i, i < ps.flatten.length → ps.flatten.getD i 0 = (ps.getD (i / bag.length) []).getD (i % bag.length) 0 := by
  intro ps
  induction ps with
  | nil => intro _ i hi; simp at hi
  | cons q ps ih =>
    intro h i hi
    have hq := (h q (by simp)).length_eq
    rw [List.flatten_cons] at hi ⊢
    by_cases hl : i < bag.length
    · rw [getD_append_left (by omega), Nat.div_eq_of_lt hl, Nat.mod_eq_of_lt hl]
      rfl
    · rw [getD_append_right (by omega), hq, ih (fun r hr => h r (List.mem_cons_of_mem _ hr)) _ (by rw [List.length_append] at hi; omega)]
      rw [Nat.div_eq_sub_div h0 (by omega : bag.length ≤ i), Nat.mod_eq_sub_mod (by omega : bag.length ≤ i)]
      rfl
theorem nodup_getD {q : List Nat} (h : q.Nodup) {i j : Nat} (hi : i < q.length) (hj : j < q.length) (e : q.getD i 0 = q.getD j 0) : i = j := by
  rw [List.getD_eq_getElem?_getD, List.getD_eq_getElem?_getD, List.getElem?_eq_getElem hi, List.getElem?_eq_getElem hj] at e
  have e : q[i] = q[j] := e
  have hp := List.pairwise_iff_getElem.mp h
  rcases Nat.lt_trichotomy i j with hlt | heq | hgt
  · exact absurd e (hp i j hi hj hlt)
  · exact heq
  · exact absurd e.symm (hp j i hj hi hgt)
theorem stream_fit {bag line : List Nat} {c : Nat} (hb : Bg bag) (h : Stream bag line c) : ∃ b : Nat, b < bag.length ∧ fitP bag.length b line := by
  have hlen := h.length
  have b1 := hb.2.1
  obtain ⟨ps, b, h1, h2, h3, rfl⟩ := h
  refine ⟨b, h2, fun q hq p hp e1 e2 => ?_⟩
  exfalso
  have hq2 : q < c := by omega
  have g : ∀ r, r < c → ((ps.flatten.drop b).take c).getD r 0 = ps.flatten.getD (b + r) 0 := by
    intro r hr
    rw [List.getD_eq_getElem?_getD, List.getD_eq_getElem?_getD, List.getElem?_take_of_lt hr, List.getElem?_drop]
  rw [g q hq2, g p (by omega), blk_get (by omega) h1 _ (by omega), blk_get (by omega) h1 _ (by omega)] at e2
  have e3 : (b + p) / bag.length = (b + q) / bag.length := by
    have : (((b + p) / bag.length : Nat) : Int) = (((b + q) / bag.length : Nat) : Int) := by
      rw [Int.natCast_ediv, Int.natCast_ediv]
      rw [show ((b + p : Nat) : Int) = (p : Int) + b by omega, show ((b + q : Nat) : Int) = (q : Int) + b by omega]
      exact e1
    exact Int.ofNat.inj this
  rw [e3] at e2
  have hk : (b + q) / bag.length < ps.length := by
    have := flatten_len h1
    rw [Nat.div_lt_iff_lt_mul (by omega)]
    omega
  have hmem : ps.getD ((b + q) / bag.length) [] ∈ ps := by
    rw [List.getD_eq_getElem?_getD, List.getElem?_eq_getElem hk]
    exact List.getElem_mem hk
  have hperm := h1 _ hmem
  have hnd : (ps.getD ((b + q) / bag.length) []).Nodup := hperm.nodup_iff.mpr hb.nodup
  have m1 := Nat.mod_lt (b + p) (show 0 < bag.length by omega)
  have m2 := Nat.mod_lt (b + q) (show 0 < bag.length by omega)
  have e4 := nodup_getD hnd (by rw [hperm.length_eq]; exact m1) (by rw [hperm.length_eq]; exact m2) e2
  have d1 := Nat.div_add_mod (b + p) bag.length
  have d2 := Nat.div_add_mod (b + q) bag.length
  rw [e3] at d1
  omega
theorem stream_starts {bag line : List Nat} {c : Nat} (hb : Bg bag) (h : Stream bag line c) : allStarts bag.length line ≠ [] := by
  obtain ⟨b, h1, h2⟩ := stream_fit hb h
  exact List.ne_nil_of_mem (mem_allStarts.mpr ⟨⟨by omega, by omega⟩, h2⟩)
theorem getA_nil {κ τ : Type} [DecidableEq κ] (k : κ) : getA ([] : List (κ × τ)) k = none := rfl
theorem getA_cons {κ τ : Type} [DecidableEq κ] (e : κ × τ) (xs : List (κ × τ)) (j : κ) : getA (e :: xs) j = if e.1 = j then some e.2 else getA xs j := by
  unfold getA
  rw [List.find?_cons]
  by_cases h : e.1 = j <;> simp [h]
theorem getA_repl {κ τ : Type} [DecidableEq κ] (k j : κ) (v : τ) : ∀ xs : List (κ × τ), getA (xs.map fun e => if e.1 = k then (e.1, v) else e) j = if j = k then (getA xs j).map fun _ => v else getA xs j
  | [] => by simp [getA_nil]
  | e :: xs => by
    have ih := getA_repl k j v xs
    rw [List.map_cons, getA_cons, getA_cons, ih]
    by_cases he : e.1 = k
    · rw [if_pos he]
      by_cases hj : j = k
      · subst hj; simp [he]
      · have : ¬ k = j := fun z => hj z.symm
        simp [he, hj, this]
    · rw [if_neg he]
      by_cases hj : j = k
      · subst hj; simp [he]
      · simp [hj]
theorem getA_append {κ τ : Type} [DecidableEq κ] (k j : κ) (v : τ) : ∀ xs : List (κ × τ), getA (xs ++ [(k, v)]) j = if (getA xs j).isSome = true then getA xs j else if k = j then some v else none
  | [] => by simp [getA_nil, getA_cons]
  | e :: xs => by
    rw [List.cons_append, getA_cons, getA_cons, getA_append k j v xs]
    by_cases he : e.1 = j <;> simp [he]
theorem any_getA {κ τ : Type} [DecidableEq κ] (k : κ) : ∀ xs : List (κ × τ), (xs.any fun e => decide (e.1 = k)) = (getA xs k).isSome
  | [] => rfl
  | e :: xs => by
    rw [List.any_cons, getA_cons, any_getA k xs]
    by_cases he : e.1 = k <;> simp [he]
theorem getA_putA {κ τ : Type} [DecidableEq κ] (xs : List (κ × τ)) (k j : κ) (v : τ) : getA (putA xs k v) j = if j = k then some v else getA xs j := by
  unfold putA
  rw [any_getA]
  by_cases h : (getA xs k).isSome = true
  · rw [if_pos h, getA_repl]
    by_cases hj : j = k
    · subst hj
      rw [if_pos rfl, if_pos rfl]
      cases hg : getA xs j with
      | none => rw [hg] at h; cases h
      | some _ => rfl
    · rw [if_neg hj, if_neg hj]
  · rw [if_neg h, getA_append]
    by_cases hj : j = k
    · subst hj
      rw [if_neg h, if_pos rfl, if_pos rfl]
    · have hk : ¬ k = j := fun z => hj z.symm
      rw [if_neg hj]
      cases getA xs j <;> simp [hk]
theorem length_putA {κ τ : Type} [DecidableEq κ] (xs : List (κ × τ)) (k : κ) (v : τ) : (putA xs k v).length ≤ xs.length + 1 := by
  unfold putA
  split <;> simp
theorem m_law_good_eq {size start : Int} {row : List Nat} (hs : 0 < size) (h2 : size ≤ 100) (hl : row.length ≤ 1000) : m_law_good size row start = some (decide (fitP size start row)) := by
  refine Run.eq ?_
  unfold m_law_good
  refine Run.bind (flowO_inv (fun n seen => seen.length ≤ n ∧ fitI size start row n ∧ ∀ a c, (getA seen (a, c)).isSome = true ↔ ∃ p, p < n ∧ ((p : Int) + start) / size = a ∧ row.getD p 0 = c) ?_ ?_ ?_)
  · refine ⟨Nat.le_refl _, fun q hq => absurd hq (Nat.not_lt_zero _), fun a c => ?_⟩
    simp [getA_nil]
  · rintro n ⟨place, sign⟩ seen hx ⟨h1, h2', h3⟩
    obtain ⟨rfl, hx⟩ := getElem?_enumI hx
    obtain ⟨hn, _⟩ := List.getElem?_eq_some_iff.mp hx
    have hc : row.getD n 0 = sign := getD_of hx
    refine Run.gd_ (divOk.small hs (by omega)) (Run.ite (fun hb => ?_) fun hb => ?_)
    · refine Run.ok (Run.ok ?_)
      symm
      rw [decide_eq_false_iff_not]
      intro hf
      simp only [Bool.and_eq_true, Bool.not_eq_true', decide_eq_false_iff_not] at hb
      obtain ⟨p, hp, e1, e2⟩ := (h3 _ _).mp hb.2
      refine hb.1 ?_
      rw [← hc]
      exact hf n hn p hp e1 (by rw [e2, hc])
    · refine Run.gd_ (by omega) (Run.ok ⟨?_, ?_, fun a c => ?_⟩)
      · exact Nat.le_trans (length_putA _ _ _) (by omega)
      · refine fitI_succ.mpr ⟨h2', fun p hp e1 e2 => ?_⟩
        rw [hc] at e2 ⊢
        by_cases h46 : sign = 46
        · exact h46
        · exfalso
          have := (h3 (((n : Int) + start) / size) sign).mpr ⟨p, hp, e1, e2⟩
          simp only [this, h46, decide_false, Bool.not_false, Bool.and_self] at hb
          cases hb
      · rw [getA_putA]
        by_cases e : (a, c) = (((n : Int) + start) / size, sign)
        · rw [if_pos e]
          injection e with e1 e2
          exact ⟨fun _ => ⟨n, by omega, e1.symm, by rw [hc, e2]⟩, fun _ => rfl⟩
        · rw [if_neg e, h3]
          constructor
          · rintro ⟨p, hp, q⟩
            exact ⟨p, by omega, q⟩
          · rintro ⟨p, hp, q1, q2⟩
            by_cases hpn : p = n
            · subst hpn
              exact absurd (Prod.ext q1.symm (by rw [← q2, hc])) e
            · exact ⟨p, by omega, q1, q2⟩
  · rintro seen ⟨h1, h2', h3⟩
    rw [length_enumI] at h2'
    refine Run.ok ?_
    symm
    exact decide_eq_true h2'
theorem m_law_starts_eq {size : Int} {row : List Nat} (hs : 0 < size) (h2 : size ≤ 100) (hl : row.length ≤ 1000) : m_law_starts size row = some (allStarts size row) := by
  refine Run.eq ?_
  unfold m_law_starts
  refine Run.gd_ (by unfold rngOk; omega) (Run.bind (filterO_run (p := fun s => decide (fitP size s row)) (fun s hx => ?_) (Run.ok rfl)))
  rw [m_law_good_eq hs h2 hl]; rfl
theorem m_coming_letters_eq {bag row : List Nat} (b1 : 2 ≤ bag.length) (b2 : bag.length ≤ 8) (hl : row.length ≤ 1000) : m_coming_letters bag row = some (comeL bag row) := by
  have h4 := length_allStarts bag.length row
  refine Run.eq ?_
  unfold m_coming_letters
  refine Run.gd_ (by omega) (Run.bind_eq (m_all_starts_eq (by omega) (by omega) (by omega)) (Run.ite (fun h => Run.ok ?_) fun h => ?_))
  · symm
    unfold comeL
    rw [List.filter_eq_nil_iff]
    intro c _
    unfold comeB
    simp only [decide_eq_true_eq] at h
    simp [h]
  · simp only [decide_eq_false_iff_not] at h
    refine Run.gd_ (by omega) (Run.bind (mapO_run (v := fun s => (s + row.length) % (bag.length : Int)) (fun s hs => ?_) ?_))
    · rw [gd_pos (by omega), gd_pos (by omega)]
    have hp := presL_ne.mpr h
    have hb := pres_bound (by omega) (minL_mem hp)
    have hf := List.length_filter_le (fun c => comeB bag.length row c) bag
    have e : (bag.filter fun c => !decide (c ∈ cut row (some ((row.length : Int) - min (minL (presL bag.length row)) (row.length : Int))) none)) = comeL bag row := by
      unfold comeL
      refine List.filter_congr fun c _ => ?_
      rw [cut_lo0 _ (by omega)]
      unfold comeB lastL
      rw [show ((row.length : Int) - min (minL (presL bag.length row)) (row.length : Int)).toNat = row.length - (minL (presL bag.length row)).toNat by omega]
      simp [h]
    refine Run.gd_ hp (Run.gd_ (by omega) (Run.gd_ (by omega) (Run.gd_ (by omega) (Run.gd_ (by omega) (Run.gd_ ?_ (Run.ok e))))))
    show (bag.filter fun c => !decide (c ∈ cut row (some ((row.length : Int) - min (minL (presL bag.length row)) (row.length : Int))) none)).length ≤ 1000000
    rw [e]
    unfold comeL
    omega
theorem m_can_follow_eq {bag row : List Nat} {c : Nat} (hb : Bg bag) (hr : Rw bag row) (hc : c ∈ bag) : m_can_follow bag row c = some (decide (c ∈ comeL bag row)) := by
  unfold m_can_follow
  rw [m_need_bag_eq hb, m_need_row_eq hr, m_need_letter_eq hc, m_coming_letters_eq hb.2.1 hb.2.2 (by have := hr.len; omega)]
  rfl
theorem bg_ab : Bg [97, 98] := ⟨by decide, by decide, by decide⟩
theorem bg_abc : Bg [97, 98, 99] := ⟨by decide, by decide, by decide⟩
theorem bg_abcd : Bg [97, 98, 99, 100] := ⟨by decide, by decide, by decide⟩
theorem Run.by_get {α : Type} {o : Option α} {Q : α → Prop} (h : o.isSome = true) (q : Q (o.get h)) : Run o Q := ⟨o.get h, (Option.some_get h).symm, q⟩
theorem if_ff {c : Bool} {A B : Prop} (h : c = false) (b : B) : if c = true then A else B := by rw [if_neg (by rw [h]; decide)]; exact b
theorem if_tt {c : Bool} {A B : Prop} (h : c = true) (a : A) : if c = true then A else B := by rw [if_pos h]; exact a
/-! full rows: where a letter must be -/
theorem lot_iff {n s a b : Nat} (hn : 0 < n) (hab : a ≤ b) : ((a : Int) + s) / n = ((b : Int) + s) / n ↔ b ≤ a + (b + s) % n := by
  rw [same_bag (by omega) (by omega)]
  have e : ((b : Int) + (s : Int)) % (n : Int) = (((b + s) % n : Nat) : Int) := by simp
  rw [e]
  omega
/-- two places of the bag that begins at a -/
theorem in_block {n s a p q : Nat} (hn : 0 < n) (ha : (a + s) % n = 0) (h1 : a ≤ p) (h2 : p ≤ q) (h3 : q < a + n) : ((p : Int) + s) / n = ((q : Int) + s) / n := by
  rw [lot_iff hn h2]
  have hq : (q + s) % n = q - a := by
    have e := Nat.div_add_mod (a + s) n
    rw [ha] at e
    have e2 : q + s = n * ((a + s) / n) + (q - a) := by omega
    rw [e2, Nat.mul_add_mod, Nat.mod_eq_of_lt (by omega)]
  omega
theorem block_has {bag w : List Nat} {s a c : Nat} (hb : Bg bag) (hw : ∀ x ∈ w, x ∈ bag) (hf : fitP bag.length s w) (ha : (a + s) % bag.length = 0) (hl : a + bag.length ≤ w.length) (hc : c ∈ bag) : ∃ q, a ≤ q ∧ q < a + bag.length ∧ w.getD q 0 = c := by
  have b1 := hb.2.1
  refine Classical.byContradiction fun hno => ?_
  have hno : ∀ q, a ≤ q → q < a + bag.length → w.getD q 0 ≠ c := fun q h1 h2 h3 => hno ⟨q, h1, h2, h3⟩
  have hnd : ((w.drop a).take bag.length).Nodup := by
    rw [List.nodup_iff_pairwise_ne, List.pairwise_iff_getElem]
    intro i j hi hj hij e
    rw [List.length_take, List.length_drop] at hi hj
    rw [List.getElem_take, List.getElem_take, List.getElem_drop, List.getElem_drop] at e
    have e1 : w.getD (a + i) 0 = w.getD (a + j) 0 := by
      rw [List.getD_eq_getElem?_getD, List.getD_eq_getElem?_getD, List.getElem?_eq_getElem (by omega), List.getElem?_eq_getElem (by omega), e]
    have h46 := hf (a + j) (by omega) (a + i) (by omega) (in_block (by omega) ha (by omega) (by omega) (by omega)) e1
    have hm : w.getD (a + j) 0 ∈ w := getD_mem (by omega)
    exact bag_ne46 hb (hw _ hm) h46
  have hsub : ∀ x ∈ (w.drop a).take bag.length, x ∈ bag.filter fun o => !(decide (o = c)) := by
    intro x hx
    obtain ⟨i, hi, e⟩ := List.mem_iff_getElem.mp hx
    rw [List.length_take, List.length_drop] at hi
    rw [List.getElem_take, List.getElem_drop] at e
    have e1 : w.getD (a + i) 0 = x := by
      rw [List.getD_eq_getElem?_getD, List.getElem?_eq_getElem (by omega), e]; rfl
    rw [List.mem_filter]
    refine ⟨hw x (List.mem_of_mem_drop (List.mem_of_mem_take hx)), ?_⟩
    have := hno (a + i) (by omega) (by omega)
    rw [e1] at this
    simpa using this
  have h1 := sub_len hnd hsub
  have h2 := length_minus (cur := [c]) hb.nodup (by simp) (fun x hx => by rw [List.mem_singleton] at hx; subst hx; exact hc)
  have h3 : (bag.filter fun o => !(decide (o = c))) = bag.filter fun o => !decide (o ∈ [c]) := List.filter_congr fun o _ => by simp
  rw [List.length_take, List.length_drop, h3] at h1
  simp only [List.length_singleton] at h2
  omega
/-- a full row that agrees -/
structure Agr (bag line w : List Nat) : Prop where
  len : line.length ≤ w.length
  mem : ∀ x ∈ w, x ∈ bag
  eq : ∀ p, p < line.length → line.getD p 0 = 46 ∨ line.getD p 0 = w.getD p 0
theorem Agr.fit {bag line w : List Nat} {n s : Int} (h : Agr bag line w) (hb : Bg bag) (hf : fitP n s w) : fitP n s line := by
  intro q hq p hp e1 e2
  rcases h.eq q hq with z | z
  · exact z
  · rcases h.eq p (by omega) with y | y
    · rw [← e2, y]
    · have h1 := hf q (by have := h.len; omega) p hp e1 (by rw [← y, ← z, e2])
      have hm : w.getD q 0 ∈ w := getD_mem (by have := h.len; omega)
      exact absurd h1 (bag_ne46 hb (h.mem _ hm))
theorem idx_facts {v : List Nat} {c : Nat} : (v ++ [c]).idxOf c ≤ v.length ∧ (∀ j, j < (v ++ [c]).idxOf c → v.getD j 0 ≠ c) ∧ ((v ++ [c]).idxOf c < v.length → v.getD ((v ++ [c]).idxOf c) 0 = c) := by
  induction v with
  | nil => simp
  | cons x v ih =>
    obtain ⟨i1, i2, i3⟩ := ih
    rw [List.cons_append, List.idxOf_cons]
    by_cases hx : x = c
    · subst hx
      simp
    · have hb : (x == c) = false := by simpa using hx
      rw [hb]
      simp only [cond_false]
      refine ⟨by rw [List.length_cons]; omega, fun j hj => ?_, fun h => ?_⟩
      · cases j with
        | zero => exact hx
        | succ j => exact i2 j (by omega)
      · exact i3 (by rw [List.length_cons] at h; omega)
theorem idx_le {v : List Nat} {c j : Nat} (h : v.getD j 0 = c) (hj : j < v.length) : (v ++ [c]).idxOf c ≤ j := by
  refine Decidable.byContradiction fun hh => ?_
  exact (idx_facts (v := v) (c := c)).2.1 j (by omega) h
theorem drop_getD' {w : List Nat} {m j : Nat} : (w.drop m).getD j 0 = w.getD (m + j) 0 := by
  rw [List.getD_eq_getElem?_getD, List.getD_eq_getElem?_getD, List.getElem?_drop]
theorem mem_last_iff {row : List Nat} {d : Nat} {c : Nat} : c ∈ lastL row (d : Int) ↔ ∃ p, row.length - d ≤ p ∧ p < row.length ∧ row.getD p 0 = c := by
  unfold lastL
  rw [Int.toNat_natCast, mem_drop_iff]
/-- where the letter comes first behind a row -/
theorem first_in {bag line w : List Nat} {s c : Nat} (hb : Bg bag) (h : Agr bag line w) (hs : s < bag.length) (hf : fitP bag.length s w) (hl : line.length + (2 * bag.length - 1) ≤ w.length) (hc : c ∈ bag) :
    (wv bag.length line (drawnI bag.length line s) c).1 ≤ (((w.drop line.length) ++ [c]).idxOf c : Int) + 1 ∧ (((w.drop line.length) ++ [c]).idxOf c : Int) + 1 ≤ (wv bag.length line (drawnI bag.length line s) c).2 := by
  have b1 := hb.2.1
  have h46 := bag_ne46 hb hc
  have hd := dS_lt (n := bag.length) (s := s) (row := line) (by omega)
  obtain ⟨i1, i2, i3⟩ := idx_facts (v := w.drop line.length) (c := c)
  rw [List.length_drop] at i1 i3
  have hmod : ∀ a, a + dS bag.length line s = line.length ∨ a = line.length + (bag.length - dS bag.length line s) → (a + s) % bag.length = 0 := by
    intro a ha
    have e := Nat.div_add_mod (line.length + s) bag.length
    have ed : (line.length + s) % bag.length = dS bag.length line s := rfl
    rw [ed] at e
    rcases ha with ha | ha
    · have : a + s = bag.length * ((line.length + s) / bag.length) := by omega
      rw [this]; exact Nat.mul_mod_right _ _
    · have : a + s = bag.length * ((line.length + s) / bag.length + 1) := by rw [Nat.mul_add]; omega
      rw [this]; exact Nat.mul_mod_right _ _
  have far : (((w.drop line.length) ++ [c]).idxOf c) + 1 ≤ bag.length - dS bag.length line s + bag.length := by
    by_cases hlen : line.length + (bag.length - dS bag.length line s) + bag.length ≤ w.length
    · obtain ⟨q, q1, q2, q3⟩ := block_has hb h.mem hf (hmod _ (.inr rfl)) hlen hc
      have := idx_le (v := w.drop line.length) (c := c) (j := q - line.length) (by rw [drop_getD', ← q3]; congr 1; omega) (by rw [List.length_drop]; omega)
      omega
    · omega
  rw [drawn_dS]
  unfold wv
  by_cases hm : c ∈ lastL line (dS bag.length line s : Nat)
  · rw [if_pos hm]
    dsimp only
    refine ⟨?_, by omega⟩
    obtain ⟨p, p1, p2, p3⟩ := mem_last_iff.mp hm
    refine Decidable.byContradiction fun hlt => ?_
    have hidx : ((w.drop line.length) ++ [c]).idxOf c < bag.length - dS bag.length line s := by omega
    have hq := i3 (by omega)
    rw [drop_getD'] at hq
    generalize ((w.drop line.length) ++ [c]).idxOf c = j at *
    have hwp : w.getD p 0 = c := by
      rcases h.eq p p2 with z | z
      · rw [p3] at z; exact absurd z h46
      · rw [← z, p3]
    have hlot : ((p : Int) + s) / bag.length = ((line.length + j : Nat) + (s : Int)) / bag.length := by
      rw [lot_iff (by omega) (by omega)]
      have e := Nat.div_add_mod (line.length + s) bag.length
      have ed : (line.length + s) % bag.length = dS bag.length line s := rfl
      rw [ed] at e
      have e2 : line.length + j + s = bag.length * ((line.length + s) / bag.length) + (dS bag.length line s + j) := by omega
      rw [e2, Nat.mul_add_mod, Nat.mod_eq_of_lt (by omega)]
      omega
    have := hf (line.length + j) (by omega) p (by omega) hlot (by rw [hwp, hq])
    rw [hq] at this
    exact h46 this
  · rw [if_neg hm]
    by_cases hr : 46 ∈ lastL line (dS bag.length line s : Nat) ∨ ((lastL line (dS bag.length line s : Nat)).length : Int) < (dS bag.length line s : Nat)
    · rw [if_pos hr]
      dsimp only
      exact ⟨by omega, by omega⟩
    · rw [if_neg hr]
      dsimp only
      refine ⟨by omega, ?_⟩
      have hn46 : 46 ∉ lastL line (dS bag.length line s : Nat) := fun z => hr (.inl z)
      have hdl : dS bag.length line s ≤ line.length := by
        have h2 : ¬ ((lastL line (dS bag.length line s : Nat)).length : Int) < (dS bag.length line s : Nat) := fun z => hr (.inr z)
        unfold lastL at h2
        rw [List.length_drop] at h2
        omega
      obtain ⟨q, q1, q2, q3⟩ := block_has hb h.mem hf (hmod (line.length - dS bag.length line s) (.inl (by omega))) (by omega) hc
      have hql : line.length ≤ q := by
        refine Decidable.byContradiction fun hlt => ?_
        rcases h.eq q (by omega) with z | z
        · exact hn46 (mem_last_iff.mpr ⟨q, by omega, by omega, z⟩)
        · exact hm (mem_last_iff.mpr ⟨q, by omega, by omega, by rw [z, q3]⟩)
      have := idx_le (v := w.drop line.length) (c := c) (j := q - line.length) (by rw [drop_getD', ← q3]; congr 1; omega) (by rw [List.length_drop]; omega)
      omega
/-! a row that a start fits can be filled -/
theorem fillS_pos {bag : List Nat} : ∀ {row : List Nat} {f : List Nat → Int}, (∀ w, 0 ≤ f w) → (∀ x ∈ row, x = 46 ∨ x ∈ bag) → 0 < fillS bag row f → ∃ w, w.length = row.length ∧ (∀ x ∈ w, x ∈ bag) ∧ (∀ p, p < row.length → row.getD p 0 = 46 ∨ row.getD p 0 = w.getD p 0) ∧ 0 < f w
  | [], f, _, _, h => ⟨[], rfl, fun x hx => absurd hx List.not_mem_nil, fun p hp => absurd hp (Nat.not_lt_zero _), h⟩
  | c :: row, f, h0, hm, h => by
    have hm2 : ∀ x ∈ row, x = 46 ∨ x ∈ bag := fun x hx => hm x (List.mem_cons_of_mem _ hx)
    have step : ∀ y ∈ bag, (c = 46 ∨ c = y) → 0 < fillS bag row (fun w => f (y :: w)) → ∃ w, w.length = (c :: row).length ∧ (∀ x ∈ w, x ∈ bag) ∧ (∀ p, p < (c :: row).length → (c :: row).getD p 0 = 46 ∨ (c :: row).getD p 0 = w.getD p 0) ∧ 0 < f w := by
      intro y hy hcy hp
      obtain ⟨w, w1, w2, w3, w4⟩ := fillS_pos (f := fun w => f (y :: w)) (fun w => h0 _) hm2 hp
      refine ⟨y :: w, by simp [w1], fun x hx => ?_, fun p hp => ?_, w4⟩
      · rcases List.mem_cons.mp hx with rfl | hx
        · exact hy
        · exact w2 x hx
      · cases p with
        | zero => exact hcy
        | succ p => exact w3 p (by simpa using hp)
    unfold fillS at h
    by_cases hc : c = 46
    · rw [if_pos hc] at h
      have : ∃ y, y ∈ bag ∧ 0 < fillS bag row fun w => f (y :: w) := by
        have key : ∀ xs : List Nat, 0 < (xs.map fun x => fillS bag row fun w => f (x :: w)).sum → ∃ y, y ∈ xs ∧ 0 < fillS bag row fun w => f (y :: w) := by
          intro xs
          induction xs with
          | nil => intro z; cases z
          | cons x xs ih =>
            intro z
            rw [List.map_cons, List.sum_cons] at z
            by_cases hx : 0 < fillS bag row fun w => f (x :: w)
            · exact ⟨x, List.mem_cons_self, hx⟩
            · obtain ⟨y, y1, y2⟩ := ih (by omega)
              exact ⟨y, List.mem_cons_of_mem _ y1, y2⟩
        exact key bag h
      obtain ⟨y, hy, hp⟩ := this
      exact step y hy (.inl hc) hp
    · rw [if_neg hc] at h
      rcases hm c List.mem_cons_self with z | z
      · exact absurd z hc
      · exact step c z (.inr rfl) h
theorem fill_ex {bag row : List Nat} {s : Nat} (hb : Bg bag) (hr : Rw bag row) (hs : s < bag.length) (hf : fitP bag.length s row) : ∃ w, w.length = row.length ∧ Agr bag row w ∧ fitP bag.length s w := by
  have hpos := (cntL_pos hb hr (s := (s : Int)) (by omega) (by omega)).2.mpr hf
  rw [cntL_fit hb hr hs] at hpos
  obtain ⟨w, w1, w2, w3, w4⟩ := fillS_pos (fun w => by split <;> omega) hr.mem hpos
  refine ⟨w, w1, ⟨by omega, w2, w3⟩, ?_⟩
  by_cases h : fitP bag.length s w
  · exact h
  · rw [if_neg h] at w4; omega
theorem fit_tail {n s : Int} {row : List Nat} : ∀ {g : Nat}, fitP n s (row ++ List.replicate g 46) ↔ fitP n s row
  | 0 => by simp
  | g + 1 => by
    rw [List.replicate_succ', ← List.append_assoc, fit_snoc, fit_tail]
    exact ⟨fun h => h.1, fun h => ⟨h, fun _ _ _ _ => rfl⟩⟩
/-- a letter at a place behind the row -/
def rowC (line : List Nat) (p c e : Nat) : List Nat := ((line ++ List.replicate p 46) ++ [c]) ++ List.replicate e 46
theorem rowC_get {line : List Nat} {p c e i : Nat} : (i < line.length → (rowC line p c e).getD i 0 = line.getD i 0) ∧ (rowC line p c e).getD (line.length + p) 0 = c := by
  have e1 : rowC line p c e = line ++ (List.replicate p 46 ++ ([c] ++ List.replicate e 46)) := by unfold rowC; simp
  constructor
  · intro h
    rw [e1, getD_append_left h]
  · rw [e1, getD_append_right (by omega), Nat.add_sub_cancel_left, getD_append_right (by simp)]
    simp
theorem rowC_fill {bag line : List Nat} {s p c e : Nat} (hb : Bg bag) (hr : Rw bag line) (hs : s < bag.length) (hc : c ∈ bag) (hl : line.length + p + 1 + e ≤ 40) (hf : fitP bag.length s line) (hn : c ∉ lastL (line ++ List.replicate p 46) (((line.length + p + s) % bag.length : Nat) : Int)) : ∃ w, w.length = line.length + p + 1 + e ∧ Agr bag line w ∧ fitP bag.length s w ∧ w.getD (line.length + p) 0 = c := by
  have b1 := hb.2.1
  have h46 := bag_ne46 hb hc
  have hlen : (rowC line p c e).length = line.length + p + 1 + e := by unfold rowC; simp; omega
  have hR : Rw bag (rowC line p c e) := ⟨by omega, fun x hx => by
    unfold rowC at hx
    simp only [List.mem_append, List.mem_replicate, List.mem_singleton] at hx
    rcases hx with ((h | ⟨_, rfl⟩) | rfl) | ⟨_, rfl⟩
    · exact hr.mem x h
    · exact .inl rfl
    · exact .inr hc
    · exact .inl rfl⟩
  have hfit : fitP bag.length s (rowC line p c e) := by
    unfold rowC
    rw [fit_tail, fit_snoc_last (by omega) h46, fit_tail]
    refine ⟨hf, ?_⟩
    rw [List.length_append, List.length_replicate, show (((line.length + p : Nat) : Int) + (s : Int)) % (bag.length : Int) = (((line.length + p + s) % bag.length : Nat) : Int) by simp]
    exact hn
  obtain ⟨w, w1, w2, w3⟩ := fill_ex hb hR hs hfit
  refine ⟨w, by omega, ⟨by omega, w2.mem, fun q hq => ?_⟩, w3, ?_⟩
  · have := w2.eq q (by omega)
    rw [rowC_get.1 hq] at this
    exact this
  · have := w2.eq (line.length + p) (by omega)
    rw [(rowC_get (i := 0)).2] at this
    rcases this with z | z
    · exact absurd z h46
    · exact z.symm
/-! the least and the greatest wait come about -/
theorem idx_eq {v : List Nat} {c j : Nat} (h : v.getD j 0 = c) (hj : j < v.length) (hno : ∀ i, i < j → v.getD i 0 ≠ c) : (v ++ [c]).idxOf c = j := by
  have h1 := idx_le h hj
  obtain ⟨_, i2, i3⟩ := idx_facts (v := v) (c := c)
  refine Decidable.byContradiction fun hne => ?_
  exact hno _ (by omega) (i3 (by omega))
theorem dS_div {n s : Nat} {line : List Nat} : line.length + s = n * ((line.length + s) / n) + dS n line s := by
  unfold dS
  exact (Nat.div_add_mod _ _).symm
/-- no letter of the seen present bag in the rest of this bag -/
theorem not_again {bag line w : List Nat} {s c i : Nat} (hb : Bg bag) (h : Agr bag line w) (hs : s < bag.length) (hf : fitP bag.length s w) (hc : c ∈ bag) (hm : c ∈ lastL line (dS bag.length line s : Nat)) (hi : i < bag.length - dS bag.length line s) (hil : line.length + i < w.length) : w.getD (line.length + i) 0 ≠ c := by
  intro hq
  have h46 := bag_ne46 hb hc
  have b1 := hb.2.1
  obtain ⟨p, p1, p2, p3⟩ := mem_last_iff.mp hm
  have hwp : w.getD p 0 = c := by
    rcases h.eq p p2 with z | z
    · rw [p3] at z; exact absurd z h46
    · rw [← z, p3]
  have hlot : ((p : Int) + s) / bag.length = ((line.length + i : Nat) + (s : Int)) / bag.length := by
    rw [lot_iff (by omega) (by omega)]
    have e := dS_div (n := bag.length) (s := s) (line := line)
    have e2 : line.length + i + s = bag.length * ((line.length + s) / bag.length) + (dS bag.length line s + i) := by omega
    rw [e2, Nat.mul_add_mod, Nat.mod_eq_of_lt (by omega)]
    omega
  have := hf (line.length + i) hil p (by omega) hlot (by rw [hwp, hq])
  rw [hq] at this
  exact h46 this
theorem not_twice {bag w : List Nat} {s c a p q : Nat} (hb : Bg bag) (hf : fitP bag.length s w) (hc : c ∈ bag) (ha : (a + s) % bag.length = 0) (h1 : a ≤ p) (h2 : p < q) (h3 : q < a + bag.length) (hq : q < w.length) (hwq : w.getD q 0 = c) : w.getD p 0 ≠ c := by
  intro hp
  have b1 := hb.2.1
  have := hf q hq p h2 (in_block (by omega) ha h1 (by omega) h3) (by rw [hp, hwq])
  rw [hwq] at this
  exact bag_ne46 hb hc this
theorem block_at {n s a : Nat} {line : List Nat} (h : a + dS n line s = line.length ∨ (a = line.length + (n - dS n line s) ∧ dS n line s ≤ n)) : (a + s) % n = 0 := by
  have e := dS_div (n := n) (s := s) (line := line)
  rcases h with ha | ⟨ha, hd⟩
  · have : a + s = n * ((line.length + s) / n) := by omega
    rw [this]; exact Nat.mul_mod_right _ _
  · have : a + s = n * ((line.length + s) / n + 1) := by rw [Nat.mul_add]; omega
    rw [this]; exact Nat.mul_mod_right _ _
theorem mod_at {n s p k : Nat} {line : List Nat} (h : dS n line s + p = k ∨ dS n line s + p = n + k) (hk : k < n) : (line.length + p + s) % n = k := by
  have e := dS_div (n := n) (s := s) (line := line)
  rcases h with h | h
  · have : line.length + p + s = n * ((line.length + s) / n) + k := by omega
    rw [this, Nat.mul_add_mod, Nat.mod_eq_of_lt hk]
  · have : line.length + p + s = n * ((line.length + s) / n + 1) + k := by rw [Nat.mul_add]; omega
    rw [this, Nat.mul_add_mod, Nat.mod_eq_of_lt hk]
theorem tail_get {line : List Nat} {p i : Nat} : (i < line.length → (line ++ List.replicate p 46).getD i 0 = line.getD i 0) ∧ (line.length ≤ i → i < line.length + p → (line ++ List.replicate p 46).getD i 0 = 46) := by
  constructor
  · intro h; exact getD_append_left h
  · intro h1 h2
    rw [getD_append_right h1, List.getD_eq_getElem?_getD, List.getElem?_replicate, if_pos (by omega)]
    rfl
structure Hit (bag line : List Nat) (s c j : Nat) (w : List Nat) : Prop where
  len : w.length = line.length + (2 * bag.length - 1)
  agr : Agr bag line w
  fit : fitP bag.length s w
  idx : ((w.drop line.length) ++ [c]).idxOf c = j
theorem hit_of {bag line : List Nat} {s c j e : Nat} (hb : Bg bag) (hr : Rw bag line) (hs : s < bag.length) (hc : c ∈ bag) (hl : line.length + (2 * bag.length - 1) ≤ 40) (he : j + 1 + e = 2 * bag.length - 1) (hf : fitP bag.length s line) (hn : c ∉ lastL (line ++ List.replicate j 46) (((line.length + j + s) % bag.length : Nat) : Int)) (hno : ∀ w, w.length = line.length + (2 * bag.length - 1) → Agr bag line w → fitP bag.length s w → w.getD (line.length + j) 0 = c → ∀ i, i < j → w.getD (line.length + i) 0 ≠ c) : ∃ w, Hit bag line s c j w := by
  obtain ⟨w, w1, w2, w3, w4⟩ := rowC_fill (p := j) (e := e) hb hr hs hc (by omega) hf hn
  have hlen : w.length = line.length + (2 * bag.length - 1) := by omega
  refine ⟨w, hlen, w2, w3, idx_eq ?_ ?_ fun i hi => ?_⟩
  · rw [drop_getD', w4]
  · rw [List.length_drop]; omega
  · rw [drop_getD']
    exact hno w hlen w2 w3 w4 i hi
theorem hit_low {bag line : List Nat} {s c : Nat} (hb : Bg bag) (hr : Rw bag line) (hs : s < bag.length) (hc : c ∈ bag) (hl : line.length + (2 * bag.length - 1) ≤ 40) (hf : fitP bag.length s line) : ∃ j w, Hit bag line s c j w ∧ ((j : Int) + 1) = (wv bag.length line (drawnI bag.length line s) c).1 := by
  have b1 := hb.2.1
  have hd := dS_lt (n := bag.length) (s := s) (row := line) (by omega)
  rw [drawn_dS]
  unfold wv
  by_cases hm : c ∈ lastL line (dS bag.length line s : Nat)
  · rw [if_pos hm]
    have hd1 : 1 ≤ dS bag.length line s := by
      obtain ⟨p, p1, p2, _⟩ := mem_last_iff.mp hm
      omega
    have hmod := mod_at (n := bag.length) (s := s) (line := line) (p := bag.length - dS bag.length line s) (k := 0) (.inr (by omega)) (by omega)
    obtain ⟨w, hw⟩ := hit_of (j := bag.length - dS bag.length line s) (e := bag.length + dS bag.length line s - 2) hb hr hs hc hl (by omega) hf (by
      rw [hmod]
      intro z
      obtain ⟨p, p1, p2, _⟩ := mem_last_iff.mp z
      omega) (fun w w1 w2 w3 w4 i hi => not_again hb w2 hs w3 hc hm hi (by omega))
    exact ⟨_, w, hw, by dsimp only; omega⟩
  · rw [if_neg hm]
    have hmod : (line.length + 0 + s) % bag.length = dS bag.length line s := by rw [Nat.add_zero]; rfl
    obtain ⟨w, hw⟩ := hit_of (j := 0) (e := 2 * bag.length - 2) hb hr hs hc hl (by omega) hf (by
      rw [hmod]
      simpa using hm) (fun w w1 w2 w3 w4 i hi => absurd hi (Nat.not_lt_zero _))
    refine ⟨0, w, hw, ?_⟩
    split <;> rfl
/-- the letter was drawn in the present bag: it can come last in the next one -/
theorem hit_seen {bag line : List Nat} {s c : Nat} (hb : Bg bag) (hr : Rw bag line) (hs : s < bag.length) (hc : c ∈ bag) (hl : line.length + (2 * bag.length - 1) ≤ 40) (hf : fitP bag.length s line) (hm : c ∈ lastL line (dS bag.length line s : Nat)) : ∃ w, Hit bag line s c (2 * bag.length - dS bag.length line s - 1) w := by
  have b1 := hb.2.1
  have h46 := bag_ne46 hb hc
  have hd := dS_lt (n := bag.length) (s := s) (row := line) (by omega)
  have hd1 : 1 ≤ dS bag.length line s := by
    obtain ⟨p, p1, p2, _⟩ := mem_last_iff.mp hm
    omega
  have hmod := mod_at (n := bag.length) (s := s) (line := line) (p := 2 * bag.length - dS bag.length line s - 1) (k := bag.length - 1) (.inr (by omega)) (by omega)
  refine hit_of (e := dS bag.length line s - 1) hb hr hs hc hl (by omega) hf ?_ fun w w1 w2 w3 w4 i hi => ?_
  · rw [hmod]
    intro z
    obtain ⟨p, p1, p2, p3⟩ := mem_last_iff.mp z
    rw [List.length_append, List.length_replicate] at p1 p2
    rw [tail_get.2 (by omega) (by omega)] at p3
    exact h46 p3.symm
  · by_cases hi2 : i < bag.length - dS bag.length line s
    · exact not_again hb w2 hs w3 hc hm hi2 (by omega)
    · exact not_twice (a := line.length + (bag.length - dS bag.length line s)) hb w3 hc (block_at (.inr ⟨rfl, by omega⟩)) (by omega) (by omega) (by omega) (by omega) w4
theorem setL_get {row : List Nat} {p c q : Nat} (h : p < row.length) : (setL row p c).getD q 0 = if q = p then c else row.getD q 0 := by
  rw [setL_eq]
  have hl : (row.take p).length = p := by rw [List.length_take]; omega
  by_cases hq : q < p
  · rw [getD_append_left (by omega), if_neg (by omega), List.getD_eq_getElem?_getD, List.getD_eq_getElem?_getD, List.getElem?_take, if_pos hq]
  · rw [getD_append_right (by omega), hl]
    by_cases e : q = p
    · subst e; simp
    · rw [if_neg e, show q - p = (q - p - 1) + 1 by omega]
      show (row.drop (p + 1)).getD (q - p - 1) 0 = _
      rw [drop_getD']
      congr 1
      omega
theorem hit_high {bag line : List Nat} {s c : Nat} (hb : Bg bag) (hr : Rw bag line) (hs : s < bag.length) (hc : c ∈ bag) (hl : line.length + (2 * bag.length - 1) ≤ 39) (hf : fitP bag.length s line) : ∃ j w, Hit bag line s c j w ∧ ((j : Int) + 1) = (wv bag.length line (drawnI bag.length line s) c).2 := by
  have b1 := hb.2.1
  have h46 := bag_ne46 hb hc
  have hd := dS_lt (n := bag.length) (s := s) (row := line) (by omega)
  have ed := dS_div (n := bag.length) (s := s) (line := line)
  rw [drawn_dS]
  unfold wv
  by_cases hm : c ∈ lastL line (dS bag.length line s : Nat)
  · rw [if_pos hm]
    have hd1 : 1 ≤ dS bag.length line s := by
      obtain ⟨p, p1, p2, _⟩ := mem_last_iff.mp hm
      omega
    obtain ⟨w, hw⟩ := hit_seen hb hr hs hc (by omega) hf hm
    exact ⟨_, w, hw, by dsimp only; omega⟩
  · rw [if_neg hm]
    by_cases hroom : 46 ∈ lastL line (dS bag.length line s : Nat) ∨ ((lastL line (dS bag.length line s : Nat)).length : Int) < (dS bag.length line s : Nat)
    · rw [if_pos hroom]
      have hd1 : 1 ≤ dS bag.length line s := by
        rcases hroom with z | z
        · obtain ⟨p, p1, p2, _⟩ := mem_last_iff.mp z
          omega
        · omega
      refine ⟨2 * bag.length - dS bag.length line s - 1, ?_⟩
      have fin : ∀ w, Hit bag line s c (2 * bag.length - dS bag.length line s - 1) w → ∃ w, Hit bag line s c (2 * bag.length - dS bag.length line s - 1) w ∧ (((2 * bag.length - dS bag.length line s - 1 : Nat) : Int) + 1) = ((1 : Int), (bag.length : Int) - (dS bag.length line s : Nat) + (bag.length : Int)).2 := fun w hw => ⟨w, hw, by dsimp only; omega⟩
      by_cases h46m : 46 ∈ lastL line (dS bag.length line s : Nat)
      · obtain ⟨i, i1, i2, i3⟩ := mem_last_iff.mp h46m
        have hlen := length_setL (c := c) i2
        have hR : Rw bag (setL line i c) := ⟨by rw [hlen]; exact hr.len, fun x hx => by
          rcases mem_setL hx with rfl | h
          · exact .inr hc
          · exact hr.mem x h⟩
        have hdS : dS bag.length (setL line i c) s = dS bag.length line s := by unfold dS; rw [hlen]
        have inbag : ∀ q, q < line.length → ((q : Int) + s) / bag.length = ((i : Int) + s) / bag.length → line.length - dS bag.length line s ≤ q := by
          intro q hq hlot
          refine Decidable.byContradiction fun hlt => ?_
          have h1 := (lot_iff (s := s) (a := q) (b := i) (by omega) (by omega)).mp hlot
          -- the present bag begins at line.length - d
          have hmod2 : (i + s) % bag.length = i + dS bag.length line s - line.length := by
            have : i + s = bag.length * ((line.length + s) / bag.length) + (i + dS bag.length line s - line.length) := by omega
            rw [this, Nat.mul_add_mod, Nat.mod_eq_of_lt (by omega)]
          omega
        have hfit : fitP bag.length s (setL line i c) := by
          intro q hq p hp e1 e2
          rw [hlen] at hq
          rw [setL_get i2, setL_get i2] at e2
          rw [setL_get i2]
          by_cases hqi : q = i
          · subst hqi
            rw [if_neg (by omega), if_pos rfl] at e2
            exact absurd (mem_last_iff.mpr ⟨p, inbag p (by omega) e1, by omega, e2⟩) hm
          · rw [if_neg hqi] at e2 ⊢
            by_cases hpi : p = i
            · subst hpi
              rw [if_pos rfl] at e2
              exact absurd (mem_last_iff.mpr ⟨q, inbag q hq e1.symm, hq, e2.symm⟩) hm
            · rw [if_neg hpi] at e2
              exact hf q hq p hp e1 e2
        have hm2 : c ∈ lastL (setL line i c) (dS bag.length (setL line i c) s : Nat) := by
          rw [hdS, mem_last_iff]
          exact ⟨i, by rw [hlen]; exact i1, by rw [hlen]; exact i2, by rw [setL_get i2, if_pos rfl]⟩
        obtain ⟨w, hw⟩ := hit_seen hb hR hs hc (by rw [hlen]; omega) hfit hm2
        rw [hdS] at hw
        obtain ⟨h1, h2, h3, h4⟩ := hw
        rw [hlen] at h1 h4
        refine fin w ⟨h1, ⟨by omega, h2.mem, fun p hp => ?_⟩, h3, h4⟩
        have := h2.eq p (by rw [hlen]; exact hp)
        rw [setL_get i2] at this
        by_cases hpi : p = i
        · subst hpi; exact .inl i3
        · rw [if_neg hpi] at this; exact this
      · have hshort : line.length < dS bag.length line s := by
          rcases hroom with z | z
          · exact absurd z h46m
          · unfold lastL at z
            rw [List.length_drop] at z
            omega
        -- the bag began before the row: put the letter there
        have hq0 : (line.length + s) / bag.length = 0 := by
          refine Nat.eq_zero_of_not_pos fun hp => ?_
          have := Nat.mul_le_mul_left bag.length hp
          omega
        rw [hq0] at ed
        have hs1 : 1 ≤ s := by omega
        have hdS : dS bag.length (c :: line) (s - 1) = dS bag.length line s := by
          unfold dS
          rw [List.length_cons]
          congr 1
          omega
        have hno : ∀ q, q < line.length → line.getD q 0 ≠ c := fun q hq e => hm (mem_last_iff.mpr ⟨q, by omega, hq, e⟩)
        have shift : ∀ x : Nat, (((x + 1 : Nat) : Int) + ((s - 1 : Nat) : Int)) = (x : Int) + (s : Int) := fun x => by omega
        have hfit : fitP bag.length (s - 1 : Nat) (c :: line) := by
          intro q hq p hp e1 e2
          cases q with
          | zero => omega
          | succ q =>
            rw [List.length_cons] at hq
            cases p with
            | zero => exact absurd (show line.getD q 0 = c from e2.symm) (hno q (by omega))
            | succ p =>
              rw [shift, shift] at e1
              exact hf q (by omega) p (by omega) e1 e2
        have hm2 : c ∈ lastL (c :: line) (dS bag.length (c :: line) (s - 1) : Nat) := by
          rw [hdS, mem_last_iff]
          exact ⟨0, by rw [List.length_cons]; omega, by rw [List.length_cons]; omega, rfl⟩
        have hR : Rw bag (c :: line) := ⟨by rw [List.length_cons]; omega, fun x hx => by
          rcases List.mem_cons.mp hx with rfl | h
          · exact .inr hc
          · exact hr.mem x h⟩
        obtain ⟨w, hw⟩ := hit_seen (s := s - 1) hb hR (by omega) hc (by rw [List.length_cons]; omega) hfit hm2
        rw [hdS] at hw
        obtain ⟨h1, h2, h3, h4⟩ := hw
        rw [List.length_cons] at h1 h4
        match w, h1 with
        | x :: w, h1 =>
          rw [List.length_cons] at h1
          refine fin w ⟨by omega, ⟨by omega, fun y hy => h2.mem y (List.mem_cons_of_mem _ hy), fun p hp => h2.eq (p + 1) (by rw [List.length_cons]; omega)⟩, fun q hq p hp e1 e2 => ?_, h4⟩
          exact h3 (q + 1) (by rw [List.length_cons]; omega) (p + 1) (by omega) (by rw [shift, shift]; exact e1) e2
    · rw [if_neg hroom]
      have hn46 : 46 ∉ lastL line (dS bag.length line s : Nat) := fun z => hroom (.inl z)
      have hdl : dS bag.length line s ≤ line.length := by
        have h2 : ¬ ((lastL line (dS bag.length line s : Nat)).length : Int) < (dS bag.length line s : Nat) := fun z => hroom (.inr z)
        unfold lastL at h2
        rw [List.length_drop] at h2
        omega
      have hmod := mod_at (n := bag.length) (s := s) (line := line) (p := bag.length - dS bag.length line s - 1) (k := bag.length - 1) (.inl (by omega)) (by omega)
      obtain ⟨w, hw⟩ := hit_of (j := bag.length - dS bag.length line s - 1) (e := bag.length + dS bag.length line s - 1) hb hr hs hc (by omega) (by omega) hf (by
        rw [hmod]
        intro z
        obtain ⟨p, p1, p2, p3⟩ := mem_last_iff.mp z
        rw [List.length_append, List.length_replicate] at p1 p2
        by_cases hp : p < line.length
        · rw [tail_get.1 hp] at p3
          exact hm (mem_last_iff.mpr ⟨p, by omega, hp, p3⟩)
        · rw [tail_get.2 (by omega) (by omega)] at p3
          exact h46 p3.symm) (fun w w1 w2 w3 w4 i hi => not_twice (a := line.length - dS bag.length line s) hb w3 hc (block_at (line := line) (.inl (by omega))) (by omega) (by omega) (by omega) (by omega) w4)
      exact ⟨_, w, hw, by dsimp only; omega⟩
/-! all possible full rows that agree -/
structure Agp (bag line : List Nat) (w : List Nat) : Prop where
  mem : ∀ x ∈ w, x ∈ bag
  eq : ∀ p, p < w.length → p < line.length → line.getD p 0 = 46 ∨ line.getD p 0 = w.getD p 0
theorem Agp.snoc {bag line w : List Nat} {c : Nat} : Agp bag line (w ++ [c]) ↔ Agp bag line w ∧ c ∈ bag ∧ (w.length < line.length → line.getD w.length 0 = 46 ∨ line.getD w.length 0 = c) := by
  constructor
  · rintro ⟨h1, h2⟩
    refine ⟨⟨fun x hx => h1 x (List.mem_append_left _ hx), fun p hp hl => ?_⟩, h1 c (by simp), fun hl => ?_⟩
    · have := h2 p (by rw [List.length_append]; omega) hl
      rw [getD_append_left hp] at this
      exact this
    · have := h2 w.length (by simp) hl
      rw [getD_append_right (Nat.le_refl _)] at this
      simpa using this
  · rintro ⟨⟨h1, h2⟩, hc, h3⟩
    refine ⟨fun x hx => ?_, fun p hp hl => ?_⟩
    · rcases List.mem_append.mp hx with h | h
      · exact h1 x h
      · rw [List.mem_singleton] at h; subst h; exact hc
    · rw [List.length_append, List.length_singleton] at hp
      by_cases e : p < w.length
      · rw [getD_append_left e]; exact h2 p e hl
      · have : p = w.length := by omega
        subst this
        rw [getD_append_right (Nat.le_refl _)]
        simpa using h3 hl
theorem snoc_ex {w : List Nat} {i : Nat} (h : w.length = i + 1) : ∃ v c, w = v ++ [c] ∧ v.length = i := by
  have hne : w ≠ [] := by intro z; rw [z] at h; cases h
  exact ⟨w.dropLast, w.getLast hne, by rw [List.dropLast_concat_getLast], by rw [List.length_dropLast]; omega⟩
theorem possible_init {n : Int} {w : List Nat} {c : Nat} (h : allStarts n (w ++ [c]) ≠ []) : allStarts n w ≠ [] := by
  obtain ⟨s, hs⟩ := mem_ne.mp h
  obtain ⟨h1, h2⟩ := mem_allStarts.mp hs
  exact mem_ne.mpr ⟨s, mem_allStarts.mpr ⟨h1, (fit_snoc.mp h2).1⟩⟩
theorem possible_nil {n : Int} (h : 0 < n) : allStarts n [] ≠ [] :=
  mem_ne.mpr ⟨0, mem_allStarts.mpr ⟨⟨by omega, by omega⟩, fun q hq => absurd hq (by simp)⟩⟩
theorem m_law_agree_run {bag line : List Nat} {k : Nat} (hb : BagOf 3 bag) (hr : Rw bag line) (hk : line.length + k ≤ 9) : Run (m_law_agree bag line k) fun every => every.length ≤ 19683 ∧ ∀ w, w ∈ every ↔ w.length = line.length + k ∧ Agp bag line w ∧ allStarts bag.length w ≠ [] := by
  have b1 := hb.2.1
  have b2 := hb.2.2
  unfold m_law_agree
  refine Run.gd_ (by omega) (Run.gd_ (by unfold rngOk; omega) (Run.bind (foldO_inv (fun i found => found.length ≤ 3 ^ i ∧ ∀ w, w ∈ found ↔ w.length = i ∧ Agp bag line w ∧ allStarts bag.length w ≠ []) ?_ ?_ ?_)))
  · refine ⟨by simp, fun w => ?_⟩
    constructor
    · intro h
      have : w = [] := by simpa using h
      subst this
      exact ⟨rfl, ⟨fun x hx => absurd hx List.not_mem_nil, fun p hp => absurd hp (Nat.not_lt_zero _)⟩, possible_nil (by omega)⟩
    · rintro ⟨h1, _⟩
      have : w = [] := List.eq_nil_of_length_eq_zero h1
      subst this
      simp
  · rintro i place found hi ⟨hlen, hfound⟩
    obtain ⟨p1, p2⟩ := getElem?_rangeI hi
    obtain rfl : place = (i : Int) := by omega
    have h9 : 3 ^ (i + 1) ≤ 3 ^ 9 := Nat.pow_le_pow_right (by decide) (by omega)
    have h39 : (3 : Nat) ^ 9 = 19683 := by decide
    have h3i : 3 ^ (i + 1) = 3 ^ i * 3 := Nat.pow_succ 3 i
    -- the signs for this place
    have hsig : ∃ signs : List Nat, ((∃ x11 x13 : Nat, (if (decide ((line.length : Int) ≤ (i : Int))) = true then some default else line[((i : Nat) : Int).toNat]?) = some x11 ∧ (if ((decide ((line.length : Int) ≤ (i : Int))) || (decide (x11 = (46 : Nat)))) = true then some default else line[((i : Nat) : Int).toNat]?) = some x13 ∧ (if ((decide ((line.length : Int) ≤ (i : Int))) || (decide (x11 = (46 : Nat)))) = true then bag else [x13]) = signs)) ∧ signs.length ≤ 3 ∧ ∀ c, c ∈ signs ↔ c ∈ bag ∧ (i < line.length → line.getD i 0 = 46 ∨ line.getD i 0 = c) := by
      by_cases hil : line.length ≤ i
      · have hd : decide ((line.length : Int) ≤ (i : Int)) = true := by rw [decide_eq_true_iff]; omega
        refine ⟨bag, ⟨default, default, by rw [hd, if_pos rfl], by rw [hd, Bool.true_or, if_pos rfl], by rw [hd, Bool.true_or, if_pos rfl]⟩, by omega, fun c => ⟨fun h => ⟨h, fun z => by omega⟩, fun h => h.1⟩⟩
      · have hd : decide ((line.length : Int) ≤ (i : Int)) = false := by rw [decide_eq_false_iff_not]; omega
        have hget : line[((i : Nat) : Int).toNat]? = some (line.getD i 0) := by
          rw [Int.toNat_natCast, List.getD_eq_getElem?_getD, List.getElem?_eq_getElem (by omega)]; rfl
        by_cases h46 : line.getD i 0 = 46
        · refine ⟨bag, ⟨line.getD i 0, default, by rw [hd, if_neg (by decide), hget], by rw [hd, decide_eq_true h46]; rfl, by rw [hd, decide_eq_true h46]; rfl⟩, by omega, fun c => ⟨fun h => ⟨h, fun _ => .inl h46⟩, fun h => h.1⟩⟩
        · have hin : line.getD i 0 ∈ bag := by
            rcases hr.mem _ (getD_mem (row := line) (q := i) (by omega)) with z | z
            · exact absurd z h46
            · exact z
          refine ⟨[line.getD i 0], ⟨line.getD i 0, line.getD i 0, by rw [hd, if_neg (by decide), hget], by rw [hd, decide_eq_false h46, Bool.false_or, if_neg (by decide), hget], by rw [hd, decide_eq_false h46]; rfl⟩, by simp, fun c => ?_⟩
          rw [List.mem_singleton]
          constructor
          · rintro rfl; exact ⟨hin, fun _ => .inr rfl⟩
          · rintro ⟨_, h⟩
            rcases h (by omega) with z | z
            · exact absurd z h46
            · exact z.symm
    obtain ⟨signs, ⟨x11, x13, e11, e13, esig⟩, hs3, hsm⟩ := hsig
    refine Run.gd_ (by omega) (Run.gd_ (fun _ => ⟨by omega, by omega⟩) (Run.bind_eq e11 (Run.gd_ (fun _ => ⟨by omega, by omega⟩) (Run.bind_eq e13 (Run.bind ?_)))))
    rw [esig]
    refine foldO_inv (fun j longer => longer = ((found.take j).flatMap fun past => (signs.filter fun c => !(decide (allStarts bag.length (past ++ [c]) = ([] : List Int)))).map fun c => past ++ [c])) (by simp) ?_ ?_
    · rintro j past longer hj rfl
      have hmem := List.mem_of_getElem? hj
      obtain ⟨q1, _, _⟩ := (hfound past).mp hmem
      have hle : ∀ (l : List (List Nat)), (l.flatMap fun past => (signs.filter fun c => !(decide (allStarts bag.length (past ++ [c]) = ([] : List Int)))).map fun c => past ++ [c]).length ≤ l.length * 3 := by
        intro l
        induction l with
        | nil => exact Nat.le_refl _
        | cons x l ih =>
          rw [List.flatMap_cons, List.length_append, List.length_map, List.length_cons, Nat.add_mul]
          have := List.length_filter_le (fun c => !(decide (allStarts bag.length (x ++ [c]) = ([] : List Int)))) signs
          omega
      have hle2 := hle (found.take j)
      rw [List.length_take] at hle2
      have hfl := List.length_filter_le (fun c => !(decide (allStarts bag.length (past ++ [c]) = ([] : List Int)))) signs
      refine Run.gd_ (by omega) (Run.bind_eq (filterO_eq (p := fun c => !(decide (allStarts bag.length (past ++ [c]) = ([] : List Int)))) fun c hc => ?_) (Run.bind_eq (mapO_eq (v := fun c => past ++ [c]) fun c _ => by rw [gd_pos (by rw [List.length_singleton]; omega)]) (Run.gd_ (by rw [List.length_map]; omega) (Run.ok ?_))))
      · rw [gd_pos (by omega), gd_pos (by rw [List.length_singleton]; omega), m_law_starts_eq (by omega) (by omega) (by rw [List.length_append, List.length_singleton]; omega)]
        rfl
      · rw [List.take_add_one, hj]
        simp
    · rintro longer rfl
      rw [List.take_length]
      refine Run.ok ⟨?_, fun w => ?_⟩
      · have : ∀ (l : List (List Nat)), (l.flatMap fun past => (signs.filter fun c => !(decide (allStarts bag.length (past ++ [c]) = ([] : List Int)))).map fun c => past ++ [c]).length ≤ l.length * 3 := by
          intro l
          induction l with
          | nil => exact Nat.le_refl _
          | cons x l ih =>
            rw [List.flatMap_cons, List.length_append, List.length_map, List.length_cons, Nat.add_mul]
            have := List.length_filter_le (fun c => !(decide (allStarts bag.length (x ++ [c]) = ([] : List Int)))) signs
            omega
        have h := this found
        omega
      · rw [List.mem_flatMap]
        constructor
        · rintro ⟨past, hp, hw⟩
          obtain ⟨c, hc, rfl⟩ := List.mem_map.mp hw
          obtain ⟨c1, c2⟩ := List.mem_filter.mp hc
          obtain ⟨q1, q2, q3⟩ := (hfound past).mp hp
          obtain ⟨s1, s2⟩ := (hsm c).mp c1
          refine ⟨by simp [q1], Agp.snoc.mpr ⟨q2, s1, by rw [q1]; exact s2⟩, by simpa using c2⟩
        · rintro ⟨h1, h2, h3⟩
          obtain ⟨v, c, rfl, hv⟩ := snoc_ex h1
          obtain ⟨g1, g2, g3⟩ := Agp.snoc.mp h2
          refine ⟨v, (hfound v).mpr ⟨hv, g1, possible_init h3⟩, List.mem_map.mpr ⟨c, List.mem_filter.mpr ⟨(hsm c).mpr ⟨g2, by rw [hv] at g3; exact g3⟩, by simpa using h3⟩, rfl⟩⟩
  · rintro found ⟨h1, h2⟩
    rw [length_rangeI, show ((line.length : Int) + (k : Int) - 0).toNat = line.length + k by omega] at h1 h2
    have h9 : 3 ^ (line.length + k) ≤ 3 ^ 9 := Nat.pow_le_pow_right (by decide) hk
    have h39 : (3 : Nat) ^ 9 = 19683 := by decide
    exact Run.ok ⟨by omega, h2⟩
theorem minL_eq {xs : List Int} {m : Int} (h1 : ∀ x ∈ xs, m ≤ x) (h2 : m ∈ xs) : minL xs = m := by
  have h3 := minL_le h2
  have h4 := h1 _ (minL_mem (fun z => by rw [z] at h2; cases h2))
  omega
theorem maxL_eq {xs : List Int} {m : Int} (h1 : ∀ x ∈ xs, x ≤ m) (h2 : m ∈ xs) : maxL xs = m := by
  have h3 := le_maxL h2
  have h4 := h1 _ (maxL_mem (fun z => by rw [z] at h2; cases h2))
  omega
def placeI (line : List Nat) (c : Nat) (w : List Nat) : Int := (((w.drop line.length) ++ [c]).idxOf c : Int) + 1
theorem Agp.agr {bag line w : List Nat} (h : Agp bag line w) (hl : line.length ≤ w.length) : Agr bag line w := ⟨hl, h.mem, fun p hp => h.eq p (by omega) hp⟩
theorem Agr.agp {bag line w : List Nat} (h : Agr bag line w) : Agp bag line w := ⟨h.mem, fun p _ hp => h.eq p hp⟩
theorem places {bag line : List Nat} {c : Nat} {every : List (List Nat)} (hb : Bg bag) (hr : Rw bag line) (hl : line.length + (2 * bag.length - 1) ≤ 39) (hc : c ∈ bag) (h : ∀ w, w ∈ every ↔ w.length = line.length + (2 * bag.length - 1) ∧ Agp bag line w ∧ allStarts bag.length w ≠ []) : waitV bag.length line c = if every.map (placeI line c) = [] then none else some (minL (every.map (placeI line c)), maxL (every.map (placeI line c))) := by
  have b1 := hb.2.1
  have bound : ∀ w ∈ every, ∃ s ∈ allStarts bag.length line, (wv bag.length line (drawnI bag.length line s) c).1 ≤ placeI line c w ∧ placeI line c w ≤ (wv bag.length line (drawnI bag.length line s) c).2 := by
    intro w hw
    obtain ⟨w1, w2, w3⟩ := (h w).mp hw
    have ag := w2.agr (by omega)
    obtain ⟨s, hs⟩ := mem_ne.mp w3
    obtain ⟨⟨s0, s1⟩, hf⟩ := mem_allStarts.mp hs
    obtain ⟨s, rfl⟩ := Int.eq_ofNat_of_zero_le s0
    exact ⟨(s : Int), mem_allStarts.mpr ⟨⟨s0, s1⟩, ag.fit hb hf⟩, first_in hb ag (by omega) hf (by omega) hc⟩
  unfold waitV
  by_cases hst : allStarts bag.length line = []
  · rw [if_pos hst, if_pos]
    rw [List.map_eq_nil_iff, List.eq_nil_iff_forall_not_mem]
    intro w hw
    obtain ⟨s, hs, _⟩ := bound w hw
    rw [hst] at hs
    cases hs
  · have hitw : ∀ s ∈ allStarts bag.length line, (∃ w ∈ every, placeI line c w = (wv bag.length line (drawnI bag.length line s) c).1) ∧ ∃ w ∈ every, placeI line c w = (wv bag.length line (drawnI bag.length line s) c).2 := by
      intro s hs
      obtain ⟨⟨s0, s1⟩, hf⟩ := mem_allStarts.mp hs
      obtain ⟨s, rfl⟩ := Int.eq_ofNat_of_zero_le s0
      have key : ∀ j w, Hit bag line s c j w → w ∈ every ∧ placeI line c w = (j : Int) + 1 := by
        intro j w hw
        refine ⟨(h w).mpr ⟨hw.len, hw.agr.agp, mem_ne.mpr ⟨(s : Int), mem_allStarts.mpr ⟨⟨s0, s1⟩, hw.fit⟩⟩⟩, ?_⟩
        unfold placeI
        rw [hw.idx]
      obtain ⟨j1, w1, h1, e1⟩ := hit_low hb hr (by omega) hc (by omega) hf
      obtain ⟨j2, w2, h2, e2⟩ := hit_high hb hr (by omega) hc hl hf
      exact ⟨⟨w1, (key _ _ h1).1, by rw [(key _ _ h1).2, e1]⟩, ⟨w2, (key _ _ h2).1, by rw [(key _ _ h2).2, e2]⟩⟩
    have hlow : minL (lows bag.length line c) ∈ every.map (placeI line c) := by
      have hne : lows bag.length line c ≠ [] := by unfold lows; simpa using hst
      obtain ⟨s, hs, e⟩ := List.mem_map.mp (minL_mem hne)
      obtain ⟨w, hw, e2⟩ := (hitw s hs).1
      exact List.mem_map.mpr ⟨w, hw, by rw [e2]; exact e⟩
    have hhigh : maxL (highs bag.length line c) ∈ every.map (placeI line c) := by
      have hne : highs bag.length line c ≠ [] := by unfold highs; simpa using hst
      obtain ⟨s, hs, e⟩ := List.mem_map.mp (maxL_mem hne)
      obtain ⟨w, hw, e2⟩ := (hitw s hs).2
      exact List.mem_map.mpr ⟨w, hw, by rw [e2]; exact e⟩
    rw [if_neg hst, if_neg (fun z => by rw [z] at hlow; cases hlow)]
    rw [minL_eq (m := minL (lows bag.length line c)) (fun x hx => ?_) hlow, maxL_eq (m := maxL (highs bag.length line c)) (fun x hx => ?_) hhigh]
    · obtain ⟨w, hw, rfl⟩ := List.mem_map.mp hx
      obtain ⟨s, hs, _, h2⟩ := bound w hw
      exact Int.le_trans h2 (le_maxL (List.mem_map.mpr ⟨s, hs, rfl⟩))
    · obtain ⟨w, hw, rfl⟩ := List.mem_map.mp hx
      obtain ⟨s, hs, h1, _⟩ := bound w hw
      exact Int.le_trans (minL_le (List.mem_map.mpr ⟨s, hs, rfl⟩)) h1
theorem good_iff {bag row : List Nat} (hb : Bg bag) {one : Nat} : one ∈ comeL bag row ↔ one ∈ bag ∧ ∃ s ∈ allStarts bag.length row, one ∉ lastL row (drawnI bag.length row s) := by
  have b1 := hb.2.1
  unfold comeL
  rw [List.mem_filter]
  refine and_congr_right fun hx => ?_
  rw [← come_iff' (by omega) (bag_ne46 hb hx), decide_eq_true_iff, mem_ne]
  have key : ∀ s, s ∈ allStarts bag.length (row ++ [one]) ↔ s ∈ allStarts bag.length row ∧ one ∉ lastL row (drawnI bag.length row s) := by
    intro s
    rw [mem_allStarts, mem_allStarts, fit_snoc_last (by omega) (bag_ne46 hb hx)]
    unfold drawnI
    rw [Int.add_comm]
    exact ⟨fun h => ⟨⟨h.1, h.2.1⟩, h.2.2⟩, fun h => ⟨h.1.1, h.1.2, h.2⟩⟩
  constructor
  · rintro ⟨s, hs⟩
    exact ⟨s, (key s).mp hs⟩
  · rintro ⟨s, h1, h2⟩
    exact ⟨s, (key s).mpr ⟨h1, h2⟩⟩
theorem wv_range {n s : Nat} {row : List Nat} {c : Nat} (hn : 2 ≤ n) (hs : s < n) : 1 ≤ (wv n row (drawnI n row s) c).1 ∧ (wv n row (drawnI n row s) c).2 ≤ 2 * n - 1 ∧ ((wv n row (drawnI n row s) c).1 = 1 ↔ c ∉ lastL row (drawnI n row s)) := by
  have hd := dS_lt (n := n) (s := s) (row := row) (by omega)
  rw [drawn_dS]
  unfold wv
  by_cases hm : c ∈ lastL row (dS n row s : Nat)
  · have hd1 : 1 ≤ dS n row s := by
      obtain ⟨p, p1, p2, _⟩ := mem_last_iff.mp hm
      omega
    rw [if_pos hm]
    dsimp only
    exact ⟨by omega, by omega, ⟨fun z => by omega, fun z => absurd hm z⟩⟩
  · rw [if_neg hm]
    by_cases hr : 46 ∈ lastL row (dS n row s : Nat) ∨ ((lastL row (dS n row s : Nat)).length : Int) < (dS n row s : Nat)
    · have hd1 : 1 ≤ dS n row s := by
        rcases hr with z | z
        · obtain ⟨p, p1, p2, _⟩ := mem_last_iff.mp z
          omega
        · omega
      rw [if_pos hr]
      dsimp only
      exact ⟨by omega, by omega, ⟨fun _ => hm, fun _ => rfl⟩⟩
    · rw [if_neg hr]
      dsimp only
      exact ⟨by omega, by omega, ⟨fun _ => hm, fun _ => rfl⟩⟩
theorem pure_law : ∀ ns : List Int, ns.length ≤ 63 → m_law ns fun r => r = true := by
  intro ns hn
  unfold m_law
  refine ⟨by unfold rngOk; omega, flowN_unit (fun k N hk hN => ?_) ?_⟩
  · obtain ⟨k0, k1⟩ := mem_rangeI.mp hk
    refine ⟨by omega, by decide, by decide, fun small hs => ?_⟩
    have hs : BagOf 3 small := hs
    have s1 := hs.2.1
    have s2 := hs.2.2
    have hsb : Bg small := ⟨hs.1, s1, by omega⟩
    refine ⟨by decide, by decide, fun c c0 c1 => ⟨⟨by omega, by omega, hs.asc, by omega, by omega⟩, fun line hl hm => ?_⟩⟩
    have hr : Rw small line := ⟨by omega, hm⟩
    refine ⟨by omega, mulOk.small (by decide) (by omega), ?_⟩
    have ek : (2 : Int) * (small.length : Int) - 1 = ((2 * small.length - 1 : Nat) : Int) := by omega
    rw [ek]
    refine (m_law_agree_run (k := 2 * small.length - 1) hs hr (by omega)).mono fun every ⟨hev, hmem⟩ => ?_
    refine flowN_unit (fun sign N3 hsg hN3 => ?_) ?_
    · have hpl := places hsb hr (by omega) hsg hmem
      refine ⟨by omega, mapO_run (v := placeI line sign) (fun w hw => ?_) (Run.by_eq (m_wait_range_eq hsb hr hsg) ?_)⟩
      · obtain ⟨w1, _, _⟩ := (hmem w).mp hw
        have hcut : cut w (some (line.length : Int)) none = w.drop line.length := cut_lo w line.length
        rw [hcut, gd_pos (by omega), gd_pos (by omega), gd_pos (by rw [List.length_drop, List.length_singleton]; omega), gd_pos (by simp)]
        rfl
      · rw [hpl]
        refine ⟨fun z => by simpa using z, fun z => by simpa using z, if_ff ?_ hN3⟩
        by_cases he : every.map (placeI line sign) = []
        · rw [he]; simp
        · rw [if_neg he, if_pos (by simpa using he)]
          simp
    · refine ⟨by decide, by decide, fun bag hb => ?_⟩
      have hb : Bg bag := hb
      have b1 := hb.2.1
      have b2 := hb.2.2
      refine ⟨by decide, flowN_unit (fun tt N3 ht hN3 => ?_) hN⟩
      refine ⟨⟨by omega, by omega, hb.asc, by decide, by decide⟩, fun line hst => ?_⟩
      have hlen : line.length = 40 := hst.length
      refine ⟨by decide, by decide, fun at_ a0 a1 => ?_⟩
      obtain ⟨a, rfl⟩ := Int.eq_ofNat_of_zero_le a0
      have ecut : cut line none (some ((a : Nat) : Int)) = line.take a := cut_hi line a
      have ecut2 : cut line (some ((a : Nat) : Int)) none = line.drop a := cut_lo line a
      refine ⟨by omega, ⟨fun z => by rw [z] at b1; exact absurd b1 (by decide), by omega, fun sign hsg => ⟨by omega, ?_⟩⟩⟩
      rw [ecut, ecut2]
      have lt : (line.take a).length = a := by rw [List.length_take]; omega
      refine ⟨by omega, nMap_all (P := fun x y => y = 46 ∨ y = x) (fun x _ N4 h4 => ⟨by decide, by decide, fun d d0 d1 => h4 _ (by split; exact .inr rfl; exact .inl rfl)⟩) fun seen hsl hseen => ?_⟩
      rw [lt] at hsl
      have hget : ∀ p, p < seen.length → seen.getD p 0 = 46 ∨ seen.getD p 0 = line.getD p 0 := by
        intro p hp
        have e1 : seen[p]? = some (seen.getD p 0) := by rw [List.getD_eq_getElem?_getD, List.getElem?_eq_getElem hp]; rfl
        have e2 : (line.take a)[p]? = some (line.getD p 0) := by rw [List.getElem?_take, if_pos (by omega), List.getD_eq_getElem?_getD, List.getElem?_eq_getElem (by omega)]; rfl
        exact hseen p _ _ e2 e1
      have ag : Agr bag seen line := ⟨by omega, fun x hx => hst.mem hx, hget⟩
      have hr : Rw bag seen := ⟨by omega, fun x hx => by
        obtain ⟨p, hp, e⟩ := List.mem_iff_getElem.mp hx
        have e2 : seen.getD p 0 = x := by rw [List.getD_eq_getElem?_getD, List.getElem?_eq_getElem hp, e]; rfl
        rcases hget p hp with z | z
        · exact .inl (by rw [← e2, z])
        · exact .inr (by rw [← e2, z]; exact hst.mem (getD_mem (by omega)))⟩
      obtain ⟨s, hs1, hs2⟩ := stream_fit hb hst
      have hsm : (s : Int) ∈ allStarts bag.length seen := mem_allStarts.mpr ⟨⟨by omega, by omega⟩, ag.fit hb hs2⟩
      have hne : allStarts bag.length seen ≠ [] := mem_ne.mpr ⟨_, hsm⟩
      have hw : waitV bag.length seen sign = some (minL (lows bag.length seen sign), maxL (highs bag.length seen sign)) := by unfold waitV; rw [if_neg hne]
      -- the letter comes in the rest
      have hin : sign ∈ line.drop a := by
        have hblk : ∃ b0, a ≤ b0 ∧ b0 < a + bag.length ∧ (b0 + s) % bag.length = 0 := by
          refine ⟨a + (bag.length - (a + s) % bag.length) % bag.length, by omega, ?_, ?_⟩
          · have := Nat.mod_lt (bag.length - (a + s) % bag.length) (show 0 < bag.length by omega); omega
          · have h1 := Nat.div_add_mod (a + s) bag.length
            have h2 := Nat.mod_lt (a + s) (show 0 < bag.length by omega)
            by_cases hz : (a + s) % bag.length = 0
            · rw [hz, Nat.sub_zero, Nat.mod_self, Nat.add_zero, hz]
            · rw [Nat.mod_eq_of_lt (show bag.length - (a + s) % bag.length < bag.length by omega)]
              have : a + (bag.length - (a + s) % bag.length) + s = bag.length * ((a + s) / bag.length + 1) := by rw [Nat.mul_add]; omega
              rw [this]; exact Nat.mul_mod_right _ _
        obtain ⟨b0, p1, p2, p3⟩ := hblk
        obtain ⟨q, q1, q2, q3⟩ := block_has hb (fun x hx => hst.mem hx) hs2 p3 (by omega) hsg
        exact mem_drop_iff.mpr ⟨q, by omega, by omega, q3⟩
      have hidx : (line.drop a).idxOf sign = ((line.drop seen.length) ++ [sign]).idxOf sign := by
        rw [hsl]
        rw [List.idxOf_append, if_pos hin]
      obtain ⟨f1, f2⟩ := first_in hb ag hs1 hs2 (by omega) hsg
      rw [← hidx] at f1 f2
      have hlo : minL (lows bag.length seen sign) ≤ ((line.drop a).idxOf sign : Int) + 1 := Int.le_trans (minL_le (List.mem_map.mpr ⟨_, hsm, rfl⟩)) f1
      have hhi : ((line.drop a).idxOf sign : Int) + 1 ≤ maxL (highs bag.length seen sign) := Int.le_trans f2 (le_maxL (List.mem_map.mpr ⟨_, hsm, rfl⟩))
      have hlne : lows bag.length seen sign ≠ [] := by unfold lows; simpa using hne
      have hhne : highs bag.length seen sign ≠ [] := by unfold highs; simpa using hne
      have hlow1 : 1 ≤ minL (lows bag.length seen sign) ∧ (minL (lows bag.length seen sign) = 1 ↔ sign ∈ comeL bag seen) := by
        have all : ∀ x ∈ lows bag.length seen sign, 1 ≤ x := by
          intro x hx
          obtain ⟨t, ht, rfl⟩ := List.mem_map.mp hx
          obtain ⟨⟨t0, t1⟩, _⟩ := mem_allStarts.mp ht
          obtain ⟨t, rfl⟩ := Int.eq_ofNat_of_zero_le t0
          exact (wv_range (n := bag.length) (s := t) b1 (by omega)).1
        refine ⟨all _ (minL_mem hlne), ?_⟩
        rw [good_iff hb]
        constructor
        · intro e
          obtain ⟨t, ht, e2⟩ := List.mem_map.mp (minL_mem hlne)
          have ht' := ht
          obtain ⟨⟨t0, t1⟩, _⟩ := mem_allStarts.mp ht
          obtain ⟨t, rfl⟩ := Int.eq_ofNat_of_zero_le t0
          have e3 : minL (List.map (fun s => (wv (bag.length : Int) seen (drawnI (bag.length : Int) seen s) sign).1) (allStarts (bag.length : Int) seen)) = 1 := e
          exact ⟨hsg, (t : Int), ht', (wv_range (n := bag.length) (s := t) b1 (by omega)).2.2.mp (by rw [← e3]; exact e2)⟩
        · rintro ⟨_, t, ht, h3⟩
          have ht' := ht
          obtain ⟨⟨t0, t1⟩, _⟩ := mem_allStarts.mp ht
          obtain ⟨t, rfl⟩ := Int.eq_ofNat_of_zero_le t0
          have e3 := (wv_range (n := bag.length) (s := t) (c := sign) (row := seen) b1 (by omega)).2.2.mpr h3
          have h4 : minL (lows bag.length seen sign) ≤ (wv bag.length seen (drawnI bag.length seen t) sign).1 := minL_le (List.mem_map.mpr ⟨_, ht', rfl⟩)
          have h5 := all _ (minL_mem hlne)
          omega
      have hhigh1 : maxL (highs bag.length seen sign) ≤ 2 * bag.length - 1 := by
        obtain ⟨t, ht, e2⟩ := List.mem_map.mp (maxL_mem hhne)
        obtain ⟨⟨t0, t1⟩, _⟩ := mem_allStarts.mp ht
        obtain ⟨t, rfl⟩ := Int.eq_ofNat_of_zero_le t0
        have := (wv_range (n := bag.length) (s := t) (c := sign) (row := seen) b1 (by omega)).2.1
        show maxL (List.map (fun s => (wv (bag.length : Int) seen (drawnI (bag.length : Int) seen s) sign).2) (allStarts (bag.length : Int) seen)) ≤ _
        rw [← e2]
        exact this
      refine ⟨by omega, Run.by_eq (m_wait_range_eq hb hr hsg) (Run.by_eq hw ⟨fun _ => by omega, fun _ => hin, fun _ _ _ => by omega, fun _ _ _ => mulOk.small (by decide) (by omega), if_ff ?_ (Run.by_eq (m_can_follow_eq hb hr hsg) (if_ff ?_ hN3))⟩)⟩
      · dsimp only
        rw [decide_eq_true hlow1.1, decide_eq_true hlo, decide_eq_true hhi, decide_eq_true hhigh1]
        rfl
      · dsimp only
        have : decide (minL (lows bag.length seen sign) = 1) = decide (sign ∈ comeL bag seen) := decide_eq_decide.mpr hlow1.2
        rw [this]
        simp
  · repeat first | refine Run.by_get (by decide +kernel) ?_ | refine if_ff (by decide +kernel) ?_ | refine And.intro (by decide +kernel) ?_
    decide +kernel
theorem law_true {G : Glob} (o : Ok G) : Cal G "law" 60 (spLaw 63) := w_law o pure_law
end Row
namespace Row
open PySem PySem.Spec PyProof.Rows L2 Dl
def loose : List PySem.Str := (["BagError", "InvalidBag", "InvalidRow", "InvalidLetter", "LETTERS", "UNSEEN", "MOST_SIZE", "MOST_DRAWS", "is_bag", "need_bag", "is_row_of", "need_row", "need_letter", "parts_of", "are_different"] : List PySem.Str) ++ (["fits_row", "all_starts", "coming_letters", "can_follow", "waits", "wait_range", "_law_source", "_law_draw", "_law_choice", "_law_mixed", "_law_bag", "_law_stream", "_law_seen", "_law_good", "_law_starts"] : List PySem.Str) ++ (["_law_agree"] : List PySem.Str)
theorem run (w : World) : HandSHeadRun.RunEq (PySem.W.OpenLaw.row PySem.Challenge.rw_bagdraws_k06_whole_waits_for_a_letter) (PySem.W.view (PySem.W.OpenLaw.row PySem.Challenge.rw_bagdraws_k06_whole_waits_for_a_letter).prog [36]) (hookT 4 fa fn us) (obT 4 fa fn us) 3000 loose w := by
  intro os
  kernel_rfl
end Row
open PySem PySem.W PySem.Calls PyProof.Rows
theorem PySem.Challenge.cw_bagdraws_k06_whole_waits_for_a_letter_holds : PySem.Challenge.rw_bagdraws_k06_whole_waits_for_a_letter.Holds := by
  w_on; o_law
  refine Dl.end_T (l := PySem.Challenge.rw_bagdraws_k06_whole_waits_for_a_letter) (n := 63) (k := 60) (q := view (OpenLaw.row PySem.Challenge.rw_bagdraws_k06_whole_waits_for_a_letter).prog [36]) (fa := Row.fa) (fn := Row.fn) (us := Row.us) (M := 3000) (loose := Row.loose) (d := HandSHeadRun.topDef (OpenLaw.row PySem.Challenge.rw_bagdraws_k06_whole_waits_for_a_letter).prog 36)
    rfl (by decide) (by kernel_rfl) (by kernel_rfl) ⟨rfl, by decide, by decide⟩ (by kernel_rfl) (fun s => by kernel_rfl) Row.run (by kernel_rfl) (by kernel_rfl) (by kernel_rfl) (by rfl) (by first | assumption | decide +kernel) (by decide +kernel) ⟨rfl, rfl, rfl, rfl, rfl, by decide +kernel⟩ ?hw ?hc
  case hw => w_witness2
  case hc => exact fun G hP s => Row.law_true (Row.ok s)
