import PyProof.Rows.All
import Wide.All
import OpenK.AllK
import Wide.FinOn
import HandS.ForMost
import HandS.ForExc
import HandS.CallSlots
import HandS.Defaults
import HandS.TupAny
import HandS.Conv
import HandS.Wide
import HandS.SortInts
import HandS.Deep
import HandS.IsInst
import KE.KTupSum
import PyProof.WalksMore
import HandS.RevTup
import HandS.Rev
import KE.GoesEnum
import KE.GoesMore
import KE.GoesZip
import HandS.Iter
import KE.KDictZip
import HandS.Small
import HandS.Comp
import HandS.Style
import HandS.HeadEnd
import HandS.Head0
import HandS.Head1
import HandS.Head2
import HandS.HeadHook1
import HandS.HeadHook2
import KE.KStateDown
import Lean
import HandS.More
import HandS.Words
import HandS.WordsExc
import PySem.Challenge.RW_noisedown_k19_whole_bundles_and_layers
set_option Elab.async false
set_option linter.all false
set_option maxRecDepth 100000
/-! NdA: plain values, what stands for them in the abstract heap, assertions side by side. -/
namespace Nd
open PySem PySem.Spec PyProof.Rows L2

/-- how a list is held: sc the script's own; fz read by any, never written; ow written by its one holder, its items free; ne the same, its items may be held too -/
inductive Md where | fz | ow | ne | sc deriving DecidableEq, Repr
inductive Val where
  | und | non | bl (b : Bool) | int (i : Int) | str (x : Str) | ty (n : String)
  | tup (xs : List Val) | lst (m : Md) (xs : List Val) | dic (m : Md) (kvs : List (Key × Val))

abbrev ZS := Addr → Prop
/-- a list of the written part -/
def KL (K : PySem.W.Frag) (a : Addr) (xs : List V) : Prop := ∃ (o : Obj) (its : Array Value) (n : Nat), K.lookup a = some o ∧ o.cls = .type "list" ∧ o.dict = none ∧ o.data = .seq its n ∧ its.size ≤ sizeLine ∧ Vals xs its.toList
/-- a list that nobody writes -/
def FzL (H : Hp) (Z : ZS) (a : Addr) (vs : List V) : Prop := H a = some (.lst vs) ∧ Z a
/-- a list that nobody can write -/
def ScL (K : PySem.W.Frag) (H : Hp) (a : Addr) (vs : List V) : Prop := (∃ o, H a = some (.frz o (.lst vs))) ∨ KL K a vs
theorem ScL.sq {K : PySem.W.Frag} {H : Hp} {a : Addr} {vs : List V} (r : ScL K H a vs) : SqL K H a vs := by
  rcases r with r | r
  · exact .inl (.inr r)
  · exact .inr r
def FzD (H : Hp) (Z : ZS) (a : Addr) (ks : List (Key × V)) : Prop := H a = some (.dK ks) ∧ Z a

section
variable (K : PySem.W.Frag) (H : Hp) (Z : ZS)
mutual
def Rep : Val → V → List Addr → Prop
  | .und, _, f => f = []
  | .non, v, f => v = .non ∧ f = []
  | .bl b, v, f => v = .bl b ∧ f = []
  | .int i, v, f => v = .int i ∧ f = []
  | .str x, v, f => v = .str x ∧ f = []
  | .ty n, v, f => v = .ty n ∧ f = []
  | .tup xs, v, f => f = [] ∧ ∃ a vs, v = .ref a ∧ SqT K H a vs ∧ Reps xs vs []
  | .lst .fz xs, v, f => f = [] ∧ ∃ a vs, v = .ref a ∧ FzL H Z a vs ∧ Reps xs vs []
  | .lst .sc xs, v, f => f = [] ∧ ∃ a vs, v = .ref a ∧ ScL K H a vs ∧ Reps xs vs []
  | .lst .ow xs, v, f => ∃ a vs, f = [a] ∧ v = .ref a ∧ H a = some (.lst vs) ∧ Reps xs vs []
  | .lst .ne xs, v, f => ∃ a vs g, f = a :: g ∧ v = .ref a ∧ H a = some (.lst vs) ∧ Reps xs vs g
  | .dic .fz kvs, v, f => f = [] ∧ ∃ a ks, v = .ref a ∧ FzD H Z a ks ∧ RepKs kvs ks []
  | .dic .ow kvs, v, f => ∃ a ks, f = [a] ∧ v = .ref a ∧ H a = some (.dK ks) ∧ RepKs kvs ks []
  | .dic .ne kvs, v, f => ∃ a ks g, f = a :: g ∧ v = .ref a ∧ H a = some (.dK ks) ∧ RepKs kvs ks g
  | .dic .sc kvs, v, f => False
def Reps : List Val → List V → List Addr → Prop
  | [], vs, f => vs = [] ∧ f = []
  | x :: xs, vs, f => ∃ v vr g h, vs = v :: vr ∧ f = g ++ h ∧ Rep x v g ∧ Reps xs vr h
def RepKs : List (Key × Val) → List (Key × V) → List Addr → Prop
  | [], ks, f => ks = [] ∧ f = []
  | (k, x) :: xs, ks, f => ∃ v kr g h, ks = (k, v) :: kr ∧ f = g ++ h ∧ Rep x v g ∧ RepKs xs kr h
end
end

/-- what is never written -/
def Imm : HO → Prop
  | .tup _ => True
  | .frz _ _ => True
  | _ => False
/-- H' has what H has, at f, at Z, and all that is never written -/
def Keep (H H' : Hp) (Z : ZS) (f : List Addr) : Prop := ∀ a o, H a = some o → (a ∈ f ∨ Z a ∨ Imm o) → H' a = some o
theorem Keep.sub {H H' : Hp} {Z : ZS} {f g : List Addr} (k : Keep H H' Z f) (h : ∀ a ∈ g, a ∈ f) : Keep H H' Z g := fun a o e q => k a o e (q.imp (h a) id)

theorem rd_keepImm {H H' : Hp} {Z : ZS} {f : List Addr} {a : Addr} {u : HO} (k : Keep H H' Z f) (r : Rd H a u) (hu : Imm u) : Rd H' a u := by
  rcases r with r | ⟨o, r⟩
  · exact .inl (k a _ r (.inr (.inr hu)))
  · exact .inr ⟨o, k a _ r (.inr (.inr trivial))⟩
theorem sqT_keep {K : PySem.W.Frag} {H H' : Hp} {Z : ZS} {f : List Addr} {a : Addr} {vs : List V} (k : Keep H H' Z f) (r : SqT K H a vs) : SqT K H' a vs := by
  rcases r with r | r
  · exact .inl (rd_keepImm k r trivial)
  · exact .inr r
theorem ScL.keep {K : PySem.W.Frag} {H H' : Hp} {Z : ZS} {f : List Addr} {a : Addr} {vs : List V} (k : Keep H H' Z f) (r : ScL K H a vs) : ScL K H' a vs := by
  rcases r with ⟨o, r⟩ | r
  · exact .inl ⟨o, k a _ r (.inr (.inr trivial))⟩
  · exact .inr r
theorem FzL.keep {H H' : Hp} {Z Z' : ZS} {f : List Addr} {a : Addr} {vs : List V} (k : Keep H H' Z f) (hz : ∀ a, Z a → Z' a) (r : FzL H Z a vs) : FzL H' Z' a vs :=
  ⟨k a _ r.1 (.inr (.inl r.2)), hz a r.2⟩
theorem FzD.keep {H H' : Hp} {Z Z' : ZS} {f : List Addr} {a : Addr} {ks : List (Key × V)} (k : Keep H H' Z f) (hz : ∀ a, Z a → Z' a) (r : FzD H Z a ks) : FzD H' Z' a ks :=
  ⟨k a _ r.1 (.inr (.inl r.2)), hz a r.2⟩
section
variable {K : PySem.W.Frag} {H H' : Hp} {Z Z' : ZS}
mutual
theorem Rep.keep (hz : ∀ a, Z a → Z' a) : ∀ (x : Val) (v : V) (f : List Addr), Keep H H' Z f → Rep K H Z x v f → Rep K H' Z' x v f
  | .und, _, _, _, r => r
  | .non, _, _, _, r => r
  | .bl _, _, _, _, r => r
  | .int _, _, _, _, r => r
  | .str _, _, _, _, r => r
  | .ty _, _, _, _, r => r
  | .tup xs, v, f, k, r => by
    unfold Rep at r ⊢
    obtain ⟨e, a, vs, ev, q, rs⟩ := r
    exact ⟨e, a, vs, ev, sqT_keep k q, Reps.keep hz xs vs [] (k.sub (by simp)) rs⟩
  | .lst .fz xs, v, f, k, r => by
    unfold Rep at r ⊢
    obtain ⟨e, a, vs, ev, q, rs⟩ := r
    exact ⟨e, a, vs, ev, q.keep k hz, Reps.keep hz xs vs [] (k.sub (by simp)) rs⟩
  | .lst .sc xs, v, f, k, r => by
    unfold Rep at r ⊢
    obtain ⟨e, a, vs, ev, q, rs⟩ := r
    exact ⟨e, a, vs, ev, q.keep k, Reps.keep hz xs vs [] (k.sub (by simp)) rs⟩
  | .dic .sc xs, v, f, k, r => by
    unfold Rep at r
    exact r.elim
  | .lst .ow xs, v, f, k, r => by
    unfold Rep at r ⊢
    obtain ⟨a, vs, e, ev, q, rs⟩ := r
    exact ⟨a, vs, e, ev, k a _ q (.inl (by rw [e]; simp)), Reps.keep hz xs vs [] (k.sub (by simp)) rs⟩
  | .lst .ne xs, v, f, k, r => by
    unfold Rep at r ⊢
    obtain ⟨a, vs, g, e, ev, q, rs⟩ := r
    exact ⟨a, vs, g, e, ev, k a _ q (.inl (by rw [e]; simp)), Reps.keep hz xs vs g (k.sub (by rw [e]; simp; intro a h; exact .inr h)) rs⟩
  | .dic .fz xs, v, f, k, r => by
    unfold Rep at r ⊢
    obtain ⟨e, a, vs, ev, q, rs⟩ := r
    exact ⟨e, a, vs, ev, q.keep k hz, RepKs.keep hz xs vs [] (k.sub (by simp)) rs⟩
  | .dic .ow xs, v, f, k, r => by
    unfold Rep at r ⊢
    obtain ⟨a, vs, e, ev, q, rs⟩ := r
    exact ⟨a, vs, e, ev, k a _ q (.inl (by rw [e]; simp)), RepKs.keep hz xs vs [] (k.sub (by simp)) rs⟩
  | .dic .ne xs, v, f, k, r => by
    unfold Rep at r ⊢
    obtain ⟨a, vs, g, e, ev, q, rs⟩ := r
    exact ⟨a, vs, g, e, ev, k a _ q (.inl (by rw [e]; simp)), RepKs.keep hz xs vs g (k.sub (by rw [e]; simp; intro a h; exact .inr h)) rs⟩
theorem Reps.keep (hz : ∀ a, Z a → Z' a) : ∀ (xs : List Val) (vs : List V) (f : List Addr), Keep H H' Z f → Reps K H Z xs vs f → Reps K H' Z' xs vs f
  | [], _, _, _, r => r
  | x :: xs, vs, f, k, r => by
    unfold Reps at r ⊢
    obtain ⟨v, vr, g, h, e, ef, r1, r2⟩ := r
    exact ⟨v, vr, g, h, e, ef, Rep.keep hz x v g (k.sub (by rw [ef]; simp; intro a h; exact .inl h)) r1, Reps.keep hz xs vr h (k.sub (by rw [ef]; simp; intro a h; exact .inr h)) r2⟩
theorem RepKs.keep (hz : ∀ a, Z a → Z' a) : ∀ (xs : List (Key × Val)) (vs : List (Key × V)) (f : List Addr), Keep H H' Z f → RepKs K H Z xs vs f → RepKs K H' Z' xs vs f
  | [], _, _, _, r => r
  | (y, x) :: xs, vs, f, k, r => by
    unfold RepKs at r ⊢
    obtain ⟨v, vr, g, h, e, ef, r1, r2⟩ := r
    exact ⟨v, vr, g, h, e, ef, Rep.keep hz x v g (k.sub (by rw [ef]; simp; intro a h; exact .inl h)) r1, RepKs.keep hz xs vr h (k.sub (by rw [ef]; simp; intro a h; exact .inr h)) r2⟩
end
/-- what may be written -/
def Wr : HO → Prop
  | .lst _ => True
  | .dK _ => True
  | _ => False
mutual
theorem Rep.there : ∀ (x : Val) (v : V) (f : List Addr), Rep K H Z x v f → ∀ a ∈ f, ∃ o, H a = some o ∧ Wr o
  | .und, _, _, r => by unfold Rep at r; subst r; simp
  | .non, _, _, r => by unfold Rep at r; obtain ⟨_, rfl⟩ := r; simp
  | .bl _, _, _, r => by unfold Rep at r; obtain ⟨_, rfl⟩ := r; simp
  | .int _, _, _, r => by unfold Rep at r; obtain ⟨_, rfl⟩ := r; simp
  | .str _, _, _, r => by unfold Rep at r; obtain ⟨_, rfl⟩ := r; simp
  | .ty _, _, _, r => by unfold Rep at r; obtain ⟨_, rfl⟩ := r; simp
  | .tup xs, v, f, r => by unfold Rep at r; obtain ⟨rfl, _⟩ := r; simp
  | .lst .fz xs, v, f, r => by unfold Rep at r; obtain ⟨rfl, _⟩ := r; simp
  | .lst .sc xs, v, f, r => by unfold Rep at r; obtain ⟨rfl, _⟩ := r; simp
  | .dic .sc xs, v, f, r => by unfold Rep at r; exact r.elim
  | .lst .ow xs, v, f, r => by
    unfold Rep at r
    obtain ⟨a, vs, rfl, ev, q, rs⟩ := r
    intro b hb
    obtain rfl : b = a := by simpa using hb
    exact ⟨_, q, trivial⟩
  | .lst .ne xs, v, f, r => by
    unfold Rep at r
    obtain ⟨a, vs, g, rfl, ev, q, rs⟩ := r
    intro b hb
    rcases List.mem_cons.mp hb with rfl | hb
    · exact ⟨_, q, trivial⟩
    · exact Reps.there xs vs g rs b hb
  | .dic .fz xs, v, f, r => by unfold Rep at r; obtain ⟨rfl, _⟩ := r; simp
  | .dic .ow xs, v, f, r => by
    unfold Rep at r
    obtain ⟨a, vs, rfl, ev, q, rs⟩ := r
    intro b hb
    obtain rfl : b = a := by simpa using hb
    exact ⟨_, q, trivial⟩
  | .dic .ne xs, v, f, r => by
    unfold Rep at r
    obtain ⟨a, vs, g, rfl, ev, q, rs⟩ := r
    intro b hb
    rcases List.mem_cons.mp hb with rfl | hb
    · exact ⟨_, q, trivial⟩
    · exact RepKs.there xs vs g rs b hb
theorem Reps.there : ∀ (xs : List Val) (vs : List V) (f : List Addr), Reps K H Z xs vs f → ∀ a ∈ f, ∃ o, H a = some o ∧ Wr o
  | [], _, _, r => by unfold Reps at r; obtain ⟨_, rfl⟩ := r; simp
  | x :: xs, vs, f, r => by
    unfold Reps at r
    obtain ⟨v, vr, g, h, e, rfl, r1, r2⟩ := r
    intro b hb
    rcases List.mem_append.mp hb with hb | hb
    · exact Rep.there x v g r1 b hb
    · exact Reps.there xs vr h r2 b hb
theorem RepKs.there : ∀ (xs : List (Key × Val)) (vs : List (Key × V)) (f : List Addr), RepKs K H Z xs vs f → ∀ a ∈ f, ∃ o, H a = some o ∧ Wr o
  | [], _, _, r => by unfold RepKs at r; obtain ⟨_, rfl⟩ := r; simp
  | (y, x) :: xs, vs, f, r => by
    unfold RepKs at r
    obtain ⟨v, vr, g, h, e, rfl, r1, r2⟩ := r
    intro b hb
    rcases List.mem_append.mp hb with hb | hb
    · exact Rep.there x v g r1 b hb
    · exact RepKs.there xs vr h r2 b hb
end
end

/-! ### assertions -/
/-- p H Z f: what is told of the heap leans on f (which it owns), on Z and on what is never written -/
structure Asn where
  p : Hp → ZS → List Addr → Prop
  keep : ∀ {H H' : Hp} {Z Z' : ZS} {f : List Addr}, Keep H H' Z f → (∀ a, Z a → Z' a) → p H Z f → p H' Z' f
  there : ∀ {H : Hp} {Z : ZS} {f : List Addr}, p H Z f → ∀ a ∈ f, ∃ o, H a = some o ∧ Wr o
/-- v stands for x -/
def rep (K : PySem.W.Frag) (v : V) (x : Val) : Asn := ⟨fun H Z f => Rep K H Z x v f, fun k hz r => Rep.keep hz x v _ k r, fun r => Rep.there x v _ r⟩
def repO (K : PySem.W.Frag) (o : Option V) (x : Val) : Asn := ⟨fun H Z f => match o with
    | some v => Rep K H Z x v f
    | none => x = .und ∧ f = [],
  fun {H H' Z Z' f} k hz r => by
    cases o with
    | none => exact r
    | some v => exact Rep.keep hz x v _ k r,
  fun {H Z f} r => by
    cases o with
    | none => obtain ⟨_, rfl⟩ := r; simp
    | some v => exact Rep.there x v _ r⟩
/-- it cannot be -/
def never : Asn := ⟨fun _ _ _ => False, fun _ _ h => h, fun h => h.elim⟩
def reps (K : PySem.W.Frag) : List V → List Val → List Asn
  | [], [] => []
  | v :: vs, x :: xs => rep K v x :: reps K vs xs
  | _, _ => [never]
abbrev Sl := List (Option V)
def envA (K : PySem.W.Frag) : Sl → List Val → List Asn
  | _, [] => []
  | [], _ :: _ => [never]
  | o :: s, x :: e => repO K o x :: envA K s e
def Sat (H : Hp) (Z : ZS) : List Asn → List Addr → Prop
  | [], f => f = []
  | A :: As, f => ∃ g h, f = g ++ h ∧ A.p H Z g ∧ Sat H Z As h
/-- the assertions hold, each upon ground of its own -/
def Good (H : Hp) (Z : ZS) (As : List Asn) : Prop := ∃ F, Sat H Z As F ∧ F.Nodup ∧ (∀ a ∈ F, ¬ Z a) ∧ ∀ a, Z a → H a ≠ none
section
variable {H H' : Hp} {Z Z' : ZS} {As Bs Cs : List Asn} {A : Asn}
theorem Sat.keep (hz : ∀ a, Z a → Z' a) : ∀ {As : List Asn} {f : List Addr}, Keep H H' Z f → Sat H Z As f → Sat H' Z' As f
  | [], _, _, r => r
  | A :: As, f, k, ⟨g, h, e, r1, r2⟩ => ⟨g, h, e, A.keep (k.sub (by rw [e]; intro a q; simp [q])) hz r1, Sat.keep hz (k.sub (by rw [e]; intro a q; simp [q])) r2⟩
theorem Sat.there : ∀ {As : List Asn} {f : List Addr}, Sat H Z As f → ∀ a ∈ f, ∃ o, H a = some o ∧ Wr o
  | [], _, r => by have : _ = _ := r; subst this; simp
  | A :: As, f, ⟨g, h, e, r1, r2⟩ => by
    subst e
    intro a ha
    rcases List.mem_append.mp ha with ha | ha
    · exact A.there r1 a ha
    · exact Sat.there r2 a ha
theorem Sat.perm {As Bs : List Asn} (p : As.Perm Bs) : ∀ {f : List Addr}, Sat H Z As f → ∃ g, Sat H Z Bs g ∧ f.Perm g := by
  induction p with
  | nil => intro f r; exact ⟨f, r, .refl _⟩
  | cons A _ ih =>
    intro f ⟨g, h, e, r1, r2⟩
    obtain ⟨h', q1, q2⟩ := ih r2
    exact ⟨g ++ h', ⟨g, h', rfl, r1, q1⟩, by rw [e]; exact q2.append_left g⟩
  | swap A B l =>
    intro f ⟨g, h, e, r1, g', h', e', r2, r3⟩
    refine ⟨g' ++ (g ++ h'), ⟨g', g ++ h', rfl, r2, g, h', rfl, r1, r3⟩, ?_⟩
    rw [e, e', ← List.append_assoc, ← List.append_assoc]
    exact List.perm_append_comm.append_right h'
  | trans _ _ ih1 ih2 =>
    intro f r
    obtain ⟨g, q1, q2⟩ := ih1 r
    obtain ⟨h, q3, q4⟩ := ih2 q1
    exact ⟨h, q3, q2.trans q4⟩
theorem Good.perm (p : As.Perm Bs) (h : Good H Z As) : Good H Z Bs := by
  obtain ⟨F, s, n, z, zn⟩ := h
  obtain ⟨G, s', q⟩ := s.perm p
  exact ⟨G, s', q.nodup_iff.mp n, fun a ha => z a (q.mem_iff.mpr ha), zn⟩
theorem Sat.append : ∀ {As Bs : List Asn} {f : List Addr}, Sat H Z (As ++ Bs) f ↔ ∃ g h, f = g ++ h ∧ Sat H Z As g ∧ Sat H Z Bs h
  | [], Bs, f => ⟨fun h => ⟨[], f, rfl, rfl, h⟩, fun ⟨g, h, e, e2, q⟩ => by
      have : g = [] := e2
      subst this; subst e; exact q⟩
  | A :: As, Bs, f => by
    constructor
    · rintro ⟨g, h, e, r1, r2⟩
      obtain ⟨g', h', e', q1, q2⟩ := Sat.append.mp r2
      exact ⟨g ++ g', h', by rw [e, e', List.append_assoc], ⟨g, g', rfl, r1, q1⟩, q2⟩
    · rintro ⟨g, h, e, ⟨g1, g2, e2, r1, r2⟩, q⟩
      exact ⟨g1, g2 ++ h, by rw [e, e2, List.append_assoc], r1, Sat.append.mpr ⟨g2, h, rfl, r2, q⟩⟩
/-- one assertion out: the rest on other ground -/
theorem Good.out (h : Good H Z (A :: As)) : ∃ f F, A.p H Z f ∧ Sat H Z As F ∧ (f ++ F).Nodup ∧ (∀ a ∈ f ++ F, ¬ Z a) ∧ ∀ a, Z a → H a ≠ none := by
  obtain ⟨_, ⟨f, F, rfl, r1, r2⟩, n, z, zn⟩ := h
  exact ⟨f, F, r1, r2, n, z, zn⟩
theorem Good.drop (h : Good H Z (A :: As)) : Good H Z As := by
  obtain ⟨f, F, r1, r2, n, z, zn⟩ := h.out
  exact ⟨F, r2, (List.nodup_append.mp n).2.1, fun a ha => z a (by simp [ha]), zn⟩
theorem Good.dropL : ∀ {As : List Asn}, Good H Z (As ++ Bs) → Good H Z Bs
  | [], h => h
  | _ :: _, h => Good.dropL (Good.drop h)
/-- an assertion for another upon the same ground -/
theorem Good.swap {B : Asn} (h : Good H Z (A :: As)) (k : ∀ f, A.p H Z f → B.p H Z f) : Good H Z (B :: As) := by
  obtain ⟨f, F, r1, r2, n, z, zn⟩ := h.out
  exact ⟨f ++ F, ⟨f, F, rfl, k f r1, r2⟩, n, z, zn⟩
/-- a new assertion that owns nothing -/
theorem Good.new {B : Asn} (h : Good H Z As) (k : B.p H Z []) : Good H Z (B :: As) := by
  obtain ⟨F, s, n, z, zn⟩ := h
  exact ⟨F, ⟨[], F, rfl, k, s⟩, n, z, zn⟩
theorem Good.new2 {B : Asn} (h : Good H Z (A :: As)) (k : ∀ f, A.p H Z f → B.p H Z []) : Good H Z (B :: A :: As) := by
  obtain ⟨f, F, r1, r2, n, z, zn⟩ := h.out
  exact ⟨f ++ F, ⟨[], f ++ F, rfl, k f r1, f, F, rfl, r1, r2⟩, n, z, zn⟩
/-- a new object that is never written -/
theorem Good.alloc {o : HO} {p : Addr} (h : Good H Z As) (hp : H p = none) : Good (upd H p o) Z As := by
  obtain ⟨F, s, n, z, zn⟩ := h
  have k : Keep H (L2.upd H p o) Z F := fun a u e _ => by rw [upd_ne (ne_of_none e hp)]; exact e
  exact ⟨F, s.keep (fun _ q => q) k, n, z, fun a q => by
    have := zn a q
    cases e : H a with
    | none => exact absurd e this
    | some u => rw [upd_ne (ne_of_none e hp), e]; simp⟩
/-- a new object that is owned -/
theorem Good.allocOwn {o : HO} {p : Addr} {B : Asn} (h : Good H Z As) (hp : H p = none) (k : B.p (upd H p o) Z [p]) : Good (upd H p o) Z (B :: As) := by
  have hz : ¬ Z p := fun q => by
    obtain ⟨_, _, _, _, zn⟩ := h
    exact zn p q hp
  have hp' : ∀ F, Sat H Z As F → p ∉ F := fun F s q => by
    obtain ⟨u, e, _⟩ := s.there p q
    rw [hp] at e; cases e
  obtain ⟨F, s, n, z, zn⟩ := h
  have kk : Keep H (L2.upd H p o) Z F := fun a u e _ => by rw [upd_ne (ne_of_none e hp)]; exact e
  refine ⟨[p] ++ F, ⟨[p], F, rfl, k, s.keep (fun _ q => q) kk⟩, by simpa using ⟨hp' F s, n⟩, fun a ha => ?_, fun a q => ?_⟩
  · rcases List.mem_append.mp ha with ha | ha
    · obtain rfl : a = p := by simpa using ha
      exact hz
    · exact z a ha
  · have := zn a q
    cases e : H a with
    | none => exact absurd e this
    | some u => rw [upd_ne (ne_of_none e hp), e]; simp
/-- what A owns at a is written -/
theorem Good.write {o : HO} {a : Addr} {B : Asn} (h : Good H Z (A :: As)) (k : ∀ f, A.p H Z f → f.Nodup → (∀ b ∈ f, ¬ Z b) → a ∈ f ∧ ∃ g, B.p (upd H a o) Z g ∧ ∀ b ∈ g, b ∈ f) (hn : ∀ f g, A.p H Z f → B.p (upd H a o) Z g → f.Nodup → g.Nodup) : Good (upd H a o) Z (B :: As) := by
  obtain ⟨f, F, r1, r2, n, z, zn⟩ := h.out
  obtain ⟨nf, nF, d⟩ := List.nodup_append.mp n
  obtain ⟨ha, g, rB, sub⟩ := k f r1 nf fun b hb => z b (by simp [hb])
  obtain ⟨oa, ea, wa⟩ := A.there r1 a ha
  have kk : Keep H (L2.upd H a o) Z F := fun b u e q => by
    refine (upd_ne ?_).trans e
    rintro rfl
    rcases q with q | q | q
    · exact d _ ha _ q rfl
    · exact z b (by simp [ha]) q
    · have e2 : u = oa := Option.some.inj (e.symm.trans ea)
      subst e2
      cases u <;> first | exact q | exact wa
  refine ⟨g ++ F, ⟨g, F, rfl, rB, r2.keep (fun _ q => q) kk⟩, List.nodup_append.mpr ⟨hn f g r1 rB nf, nF, fun b hb c hc => d b (sub b hb) c hc⟩, fun b hb => ?_, fun b q => ?_⟩
  · rcases List.mem_append.mp hb with hb | hb
    · exact z b (by simp [sub b hb])
    · exact z b (by simp [hb])
  · by_cases hb : b = a
    · subst hb; rw [upd_same]; simp
    · rw [upd_ne hb]; exact zn b q
end
end Nd

/-! NdB: a small language over plain values and what it does. -/
namespace Nd
open PySem PySem.Spec PyProof.Rows L2

structure Exn where
  cls : Str
  args : List Val
/-- what a piece does: a result and the slots, an error and the slots, or nothing is told -/
inductive Out (α : Type) where
  | ok (a : α) (e : List Val) | exc (x : Exn) (e : List Val) | stuck
abbrev M (α : Type) := List Val → Out α
inductive CRes where
  | ret (v : Val) (outs : List Val) | exc (x : Exn) (outs : List Val) | stuck
def OutP {α : Type} (o : Out α) (Q : α → List Val → Prop) (E : Exn → List Val → Prop) : Prop := match o with
  | .ok a e => Q a e
  | .exc x e => E x e
  | .stuck => False
def bindM {α β : Type} (m : M α) (k : α → M β) : M β := fun e => match m e with
  | .ok a e' => k a e'
  | .exc x e' => .exc x e'
  | .stuck => .stuck
def pureM {α : Type} (a : α) : M α := fun e => .ok a e
def liftM {α : Type} (o : Option α) : M α := fun e => match o with
  | some a => .ok a e
  | none => .stuck
theorem outP_bind {α β : Type} {m : M α} {k : α → M β} {e : List Val} {Q : β → List Val → Prop} {E : Exn → List Val → Prop} :
    OutP (bindM m k e) Q E ↔ OutP (m e) (fun a e' => OutP (k a e') Q E) E := by
  unfold bindM
  cases m e <;> exact Iff.rfl
theorem outP_pure {α : Type} {a : α} {e : List Val} {Q : α → List Val → Prop} {E : Exn → List Val → Prop} : OutP (pureM a e) Q E ↔ Q a e := Iff.rfl
theorem outP_lift {α : Type} {o : Option α} {e : List Val} {Q : α → List Val → Prop} {E : Exn → List Val → Prop} : OutP (liftM o e) Q E ↔ ∃ a, o = some a ∧ Q a e := by
  cases o with
  | none => exact ⟨fun h => h.elim, fun ⟨_, h, _⟩ => by cases h⟩
  | some a => exact ⟨fun h => ⟨a, rfl, h⟩, fun ⟨_, h, q⟩ => by cases h; exact q⟩
theorem OutP.imp {α : Type} {o : Out α} {Q Q' : α → List Val → Prop} {E E' : Exn → List Val → Prop} (h : OutP o Q E) (hq : ∀ a e, Q a e → Q' a e) (he : ∀ x e, E x e → E' x e) : OutP o Q' E' := by
  cases o with
  | ok a e => exact hq a e h
  | exc x e => exact he x e h
  | stuck => exact h

/-! ### values -/
/-- it is held by one -/
def held : Val → Bool
  | .lst .ow _ => true
  | .lst .ne _ => true
  | .dic .ow _ => true
  | .dic .ne _ => true
  | _ => false
/-- let go: read by any from here on -/
def frz : Val → Option Val
  | .lst .ow xs => some (.lst .fz xs)
  | .lst .ne xs => none
  | .dic .ow xs => some (.dic .fz xs)
  | .dic .ne xs => none
  | .und => none
  | x => some x
def frzs : List Val → Option (List Val)
  | [] => some []
  | x :: xs => match frz x, frzs xs with
    | some y, some ys => some (y :: ys)
    | _, _ => none
/-- the items of a list or a tuple, to be read -/
def items : Val → Option (List Val)
  | .tup xs => some xs
  | .lst _ xs => some xs
  | _ => none
/-- .. whose items are free -/
def itemsF : Val → Option (List Val)
  | .tup xs => some xs
  | .lst .fz xs => some xs
  | .lst .ow xs => some xs
  | .lst .sc xs => some xs
  | _ => none
inductive Bop where | add | sub | mul | fdiv | mod | pow | shl | shr | band | bor | bxor deriving DecidableEq
inductive Cop where | eq | ne | lt | le | gt | ge | isN | isntN | inn | nin deriving DecidableEq
inductive Bi where | len | sum | abs | tuple | list | dict | min1 | max1 | min2 | max2 | sorted | any | all | repr | int deriving DecidableEq
inductive Mt where | append | pop0 | pop1 | extend | get2 deriving DecidableEq

mutual
/-- plain data -/
def data : Val → Option PyData
  | .non => some .none
  | .bl b => some (.bool b)
  | .int i => some (.int i)
  | .str x => some (.str x)
  | .tup xs => (datas xs).map .tuple
  | .lst _ xs => (datas xs).map .list
  | _ => none
def datas : List Val → Option (List PyData)
  | [] => some []
  | x :: xs => match data x, datas xs with
    | some d, some ds => some (d :: ds)
    | _, _ => none
end
/-- a == b -/
def eqV (x y : Val) : Option Bool := match x, y with
  | .int i, .int j => some (decide (i = j))
  | .bl i, .bl j => some (decide (i = j))
  | .str i, .str j => some (decide (i = j))
  | x, y => match data x, data y with
    | some d, some e => if SeqAt.shaped d && SeqAt.shaped e then some (PyData.eqv d e) else none
    | _, _ => none
def flat : Val → Bool
  | .int _ => true
  | .bl _ => true
  | .str _ => true
  | .non => true
  | _ => false
def fv : Val → V
  | .int i => .int i
  | .bl b => .bl b
  | .str x => .str x
  | _ => .non
/-- x in y -/
def inV (x y : Val) : Option Bool := match items y with
  | none => none
  | some ys => if flat x && ys.all flat then some (ys.any fun y => L2.eqV (fv y) (fv x)) else match y, data x, datas ys with
    | .lst _ _, some d, some ds => if SeqAt.shaped d && SeqAt.shaped (.list ds) then some (ds.any fun z => PyData.eqv z d) else none
    | _, _, _ => none
def cmpI (op : Cop) (i j : Int) : Option Bool := match op with
  | .lt => some (decide (i < j))
  | .le => some (decide (i ≤ j))
  | .gt => some (decide (j < i))
  | .ge => some (decide (j ≤ i))
  | _ => none
def cmpV (op : Cop) (x y : Val) : Option Val := match op with
  | .eq => (eqV x y).map .bl
  | .ne => (eqV x y).map fun b => .bl (!b)
  | .isN => match y with
    | .non => match x with
      | .und => none
      | .non => some (.bl true)
      | _ => some (.bl false)
    | _ => none
  | .isntN => match y with
    | .non => match x with
      | .und => none
      | .non => some (.bl false)
      | _ => some (.bl true)
    | _ => none
  | .inn => (inV x y).map .bl
  | .nin => (inV x y).map fun b => .bl (!b)
  | op => match x, y with
    | .int i, .int j => (cmpI op i j).map .bl
    | _, _ => none
def small (i : Int) : Bool := decide (-(2 ^ 64) < i ∧ i < 2 ^ 64)
def binI (op : Bop) (i j : Int) : Option Int := match op with
  | .add => some (i + j)
  | .sub => some (i - j)
  | .mul => if small i || small j then some (i * j) else none
  | .fdiv => if 0 < j ∧ j < 1073741824 then some (i / j) else none
  | .mod => if 0 < j then some (i % j) else none
  | .pow => if 0 ≤ j ∧ j ≤ 1000000 ∧ i.natAbs < 2 ^ 64 then some (i ^ j.toNat) else none
  | .shl => if 0 ≤ j ∧ j ≤ 1000000 ∧ i.natAbs < 2 ^ 64 then some (i * 2 ^ j.toNat) else none
  | .shr => if 0 ≤ j then some (i / 2 ^ j.toNat) else none
  | .band => some (Builtin.bitAnd i j)
  | .bor => some (Builtin.bitOr i j)
  | .bxor => some (Builtin.bitXor i j)
def binV (op : Bop) (x y : Val) : Option Val := match x, y with
  | .int i, .int j => (binI op i j).map .int
  | .tup xs, .tup ys => match op with
    | .add => if xs.length + ys.length ≤ sizeLine then some (.tup (xs ++ ys)) else none
    | _ => none
  | .lst m xs, .lst m' ys => match op, m, m' with
    | .add, .ow, .ow => if xs.length + ys.length ≤ sizeLine then some (.lst .ow (xs ++ ys)) else none
    | .add, .fz, .ow => if xs.length + ys.length ≤ sizeLine then some (.lst .ow (xs ++ ys)) else none
    | .add, .ow, .fz => if xs.length + ys.length ≤ sizeLine then some (.lst .ow (xs ++ ys)) else none
    | .add, .fz, .fz => if xs.length + ys.length ≤ sizeLine then some (.lst .ow (xs ++ ys)) else none
    | _, _, _ => none
  | .lst .ow xs, .int k => match op with
    | .mul => if k < 2 ^ 62 ∧ -(2 ^ 62) < k ∧ xs.length * k.toNat ≤ sizeLine then some (.lst .ow (List.replicate k.toNat xs).flatten) else none
    | _ => none
  | .str a, .str b => match op with
    | .add => if a.length + b.length ≤ sizeLine then some (.str (a ++ b)) else none
    | _ => none
  | _, _ => none
/-- x[i] -/
def subV (x y : Val) : Option Val := match x, y with
  | .tup xs, .int i => atI xs i
  | .lst .fz xs, .int i => atI xs i
  | .lst .ow xs, .int i => atI xs i
  | .lst .sc xs, .int i => atI xs i
  | .lst .ne xs, .int i => match atI xs i with
    | some z => if held z then none else some z
    | none => none
  | .dic _ kvs, .int i => (kvs.find? fun kv => decide (kv.1 = .inl i)).bind fun kv => if held kv.2 then none else some kv.2
  | .dic _ kvs, .str i => (kvs.find? fun kv => decide (kv.1 = .inr i)).bind fun kv => if held kv.2 then none else some kv.2
  | _, _ => none
/-- x[lo:hi] -/
def cutL (xs : List Val) (lo hi : Option Int) : List Val := (xs.drop (HT.sIx xs.length 0 lo)).take (HT.sIx xs.length xs.length hi - HT.sIx xs.length 0 lo)
def slcV (x : Val) (lo hi : Option Int) : Option Val := match x with
  | .tup xs => some (.tup (cutL xs lo hi))
  | .lst .fz xs => some (.lst .ow (cutL xs lo hi))
  | .lst .ow xs => some (.lst .ow (cutL xs lo hi))
  | .lst .sc xs => some (.lst .ow (cutL xs lo hi))
  | _ => none
/-- bool(x) -/
def truV : Val → Option Bool
  | .bl b => some b
  | .int i => some (decide (i ≠ 0))
  | .non => some false
  | .str x => if x.length ≤ sizeLine then some (!(x.length == 0)) else none
  | .tup xs => some (!xs.isEmpty)
  | .lst _ xs => some (!xs.isEmpty)
  | .dic _ xs => some (!xs.isEmpty)
  | _ => none
def intsL : List Val → Option (List Int)
  | [] => some []
  | .int i :: xs => (intsL xs).map (i :: ·)
  | _ :: _ => none
def boolsL : List Val → Option (List Bool)
  | [] => some []
  | .bl i :: xs => (boolsL xs).map (i :: ·)
  | _ :: _ => none
def insertI (i : Int) : List Int → List Int
  | [] => [i]
  | j :: r => if i ≤ j then i :: j :: r else j :: insertI i r
def sortI : List Int → List Int
  | [] => []
  | i :: r => insertI i (sortI r)
def least : List Int → Option Int
  | [] => none
  | [i] => some i
  | i :: r => (least r).map fun m => if i ≤ m then i else m
def most : List Int → Option Int
  | [] => none
  | [i] => some i
  | i :: r => (most r).map fun m => if m ≤ i then i else m
def key : Val → Option Key
  | .int i => some (.inl i)
  | .str x => some (.inr x)
  | _ => none
def pairsK : List Val → Option (List (Key × Val))
  | [] => some []
  | .tup [k, x] :: r => match key k, pairsK r with
    | some q, some qs => some ((q, x) :: qs)
    | _, _ => none
  | _ :: _ => none
def putL (kvs : List (Key × Val)) (k : Key) (x : Val) : List (Key × Val) := if (kvs.any fun kv => decide (kv.1 = k)) = true then kvs.map (fun kv => if kv.1 = k then (k, x) else kv) else kvs ++ [(k, x)]
def mergeL (kvs : List (Key × Val)) : List (Key × Val) → List (Key × Val)
  | [] => kvs
  | (k, x) :: r => mergeL (putL kvs k x) r
/-- the text of what repr tells is some function of the data alone -/
def biV (f : Bi) (xs : List Val) : Option Val := match f, xs with
  | .len, [x] => match x with
    | .tup ys => some (.int ys.length)
    | .lst _ ys => some (.int ys.length)
    | _ => none
  | .sum, [x] => (itemsF x).bind fun ys => (intsL ys).map fun ns => .int ns.sum
  | .abs, [.int i] => some (.int (if i < 0 then -i else i))
  | .tuple, [x] => (itemsF x).map .tup
  | .list, [x] => (itemsF x).map fun ys => .lst .ow ys
  | .min2, [.int i, .int j] => some (.int (if j < i then j else i))
  | .max2, [.int i, .int j] => some (.int (if j > i then j else i))
  | .min1, [.lst _ ys] => (intsL ys).bind fun ns => (least ns).map .int
  | .max1, [.lst _ ys] => (intsL ys).bind fun ns => (most ns).map .int
  | .sorted, [.lst _ ys] => (intsL ys).map fun ns => .lst .ow ((sortI ns).map .int)
  | .any, [.lst _ ys] => (boolsL ys).map fun bs => .bl (bs.any id)
  | .all, [.lst _ ys] => (boolsL ys).map fun bs => .bl (bs.all id)
  | .any, [.tup ys] => (boolsL ys).map fun bs => .bl (bs.any id)
  | .all, [.tup ys] => (boolsL ys).map fun bs => .bl (bs.all id)
  | .int, [.int i] => some (.int i)
  | .int, [.bl b] => some (.int (if b then 1 else 0))
  | _, _ => none
/-- the receiver, the arguments: the result and the receiver behind it -/
def meV (f : Mt) (x : Val) (ys : List Val) : Option (Val × Val) := match f, x, ys with
  | .append, .lst .ow xs, [y] => match frz y with
    | some z => if xs.length < sizeLine then some (.non, .lst .ow (xs ++ [z])) else none
    | none => none
  | .append, .lst .ne xs, [y] => if xs.length < sizeLine then some (.non, .lst .ne (xs ++ [y])) else none
  | .pop0, .lst .ow xs, [] => (xs[xs.length - 1]?).map fun y => (y, .lst .ow xs.dropLast)
  | .pop1, .lst .ow xs, [.int i] => if -(2 ^ 62) < i ∧ i < 2 ^ 62 then (ixN xs.length i).bind fun k => (xs[k]?).map fun y => (y, .lst .ow (xs.eraseIdx k)) else none
  | .get2, .dic m kvs, [k, d] => match key k with
    | some q => match kvs.find? fun kv => decide (kv.1 = q) with
      | some kv => if held kv.2 then none else some (kv.2, .dic m kvs)
      | none => some (d, .dic m kvs)
    | none => none
  | .extend, .lst .ow xs, [.lst .ow zs] => if xs.length + zs.length ≤ sizeLine then some (.non, .lst .ow (xs ++ zs)) else none
  | .extend, .lst .ow xs, [.lst .fz zs] => if xs.length + zs.length ≤ sizeLine then some (.non, .lst .ow (xs ++ zs)) else none
  | _, _, _ => none

def lrevV (x : Val) : Option Val := match x with
  | .lst .ne _ => none
  | .lst _ xs => some (.lst .ow xs.reverse)
  | _ => none
def mtOk : Mt → Val → Bool
  | .get2, .dic _ _ => true
  | .get2, _ => false
  | _, .lst _ _ => true
  | _, _ => false
/-- no error leaves -/
def noexc {α : Type} (m : M α) : M α := fun e => match m e with
  | .exc _ _ => .stuck
  | o => o
theorem outP_noexc {α : Type} {m : M α} {e : List Val} {Q : α → List Val → Prop} {E E' : Exn → List Val → Prop} (h : OutP (noexc m e) Q E) : OutP (m e) Q E' := by
  unfold noexc at h
  cases q : m e with
  | ok a e' => rw [q] at h; exact h
  | exc x e' => rw [q] at h; exact h.elim
  | stuck => rw [q] at h; exact h.elim
def zipL : List Val → List Val → List Val
  | x :: xs, y :: ys => .tup [x, y] :: zipL xs ys
  | _, _ => []
def dzipV (x y : Val) : Option Val := match itemsF x, itemsF y with
  | some xs, some ys => match pairsK (zipL xs ys) with
    | some kvs => if xs.length ≤ 1000000 ∧ ys.length ≤ 1000000 then some (.dic .ow (mergeL [] kvs)) else none
    | none => none
  | _, _ => none
/-- o[y] = x: o behind it -/
def setV (o y x : Val) : Option Val := match o, y with
  | .lst .ow xs, .int i => match frz x, ixN xs.length i with
    | some z, some n => some (.lst .ow (xs.set n z))
    | _, _ => none
  | .lst .ne xs, .int i => match ixN xs.length i with
    | some n => some (.lst .ne (xs.set n x))
    | none => none
  | .dic .ow kvs, y => match frz x, key y with
    | some z, some q => if kvs.length < sizeLine then some (.dic .ow (putL kvs q z)) else none
    | _, _ => none
  | _, _ => none
/-- k, v, k, v, .. -/
def twos : List Val → Option (List (Key × Val))
  | [] => some []
  | k :: x :: r => match key k, frz x, twos r with
    | some q, some y, some qs => some ((q, y) :: qs)
    | _, _, _ => none
  | _ => none
def dctV (xs : List Val) : Option Val := match twos xs with
  | some kvs => if kvs.length ≤ 15 ∧ kvs ≠ [] then some (.dic .ow (mergeL [] kvs)) else none
  | none => none
/-- repr of a list, a tuple of plain data -/
def rprD (d : PyData) : Option Str := if isDisplay d && d.showable && !d.hasDict && decide (d.depth ≤ 60) && decide (d.shown.length ≤ sizeLine) then some d.shown else none
def rprV (x : Val) : Option Val := match data x with
  | some d => (rprD d).map .str
  | none => none
/-! ### the language -/
mutual
inductive Ex where
  | var (i : Nat) | mov (i : Nat) | int (i : Int) | bl (b : Bool) | non | str (x : Str)
  | bin (op : Bop) (a b : Ag) | neg (a : Ag)
  | cmp (op : Cop) (a b : Ag) | chain (op op' : Cop) (a b c : Ag)
  | notE (a : Ex) | andE (a b : Ex) | orE (a b : Ex) | ite (c a b : Ex)
  | tup (es : Exs) | lst (m : Md) (es : Exs)
  | sub (a b : Ag) | slc (a : Ag) (lo hi : Ox)
  | bi (f : Bi) (as : Ags) | me (f : Mt) (a : Ag) (es : Exs) | isi (a : Ag) (t : String)
  | call (f : Nat) (as : Ags) | callK (f : Nat) (n : Nat) (es ks : Exs) (pm : List Nat)
  | dzip (a b : Ag) | lrev (a : Ag) | rpr (a : Ag) | gl (n : Nat) | dct (es : Exs) | rg (t : Bool) (a : Ex) | rg2 (t : Bool) (a b : Ex) | subS (i : Nat) (b : Ag) | meS (f : Mt) (i : Nat) (es : Exs)
  | comp (m : Md) (elt : Ex) (t : Tg) (it : Wk) (own : List Nat)
  | compI (m : Md) (elt : Ex) (t : Tg) (it : Wk) (c : Ex) (own : List Nat)
inductive Ox where | none | some (e : Ex)
inductive Exs where | nil | cons (e : Ex) (es : Exs)
/-- an argument: a value; what stands in a slot, lent and given back; an item of what stands in a slot -/
inductive Ag where | v (e : Ex) | mv (i : Nat) | mx (i : Nat) (e : Ex)
inductive Ags where | nil | cons (a : Ag) (as : Ags)
inductive Wk where | ex (a : Ag) | rng (a : Ex) | rng2 (a b : Ex) | enum (a : Ag) | zip (a b : Ag) | rev (a : Ag)
inductive Tg where | name (i : Nat) | tup (ts : Tgs) | sub (a : Ag) (e : Ex)
inductive Tgs where | nil | cons (t : Tg) (ts : Tgs)
end
mutual
inductive Sm where
  | asg (t : Tg) (e : Ex) | par (is : List Nat) (es : Exs) | expr (e : Ex) | ret (e : Ex) | retN
  | ifS (c : Ex) (a b : Sms) | forS (t : Tg) (it : Wk) (b : Sms) | whl (c : Ex) (b : Sms)
  | brk | cont | pass
inductive Sms where | nil | cons (s : Sm) (ss : Sms)
end
def tlen : Tgs → Nat
  | .nil => 0
  | .cons _ ts => tlen ts + 1
/-- what was taken out of the slots -/
inductive Tk where | no | sl (i : Nat) | it (i : Nat) (xs : List Val) (n : Nat)
inductive Fl where | nx | rt (v : Val) | bk | ct

def takeS (i : Nat) : M (Val × Tk) := fun e => match e[i]? with
  | none => .stuck
  | some .und => .stuck
  | some x => if held x then .ok (x, .sl i) (e.set i .und) else .ok (x, .no) e
def peekS (i : Nat) : M Unit := fun e => match e[i]? with
  | none => .stuck
  | some .und => .stuck
  | some _ => .ok () e
def peekM (f : Mt) (i : Nat) : M Unit := fun e => match e[i]? with
  | none => .stuck
  | some .und => .stuck
  | some x => if mtOk f x then .ok () e else .stuck
def takeI (i : Nat) (y : Val) : M (Val × Tk) := fun e => match y with
  | .int j => match e[i]? with
    | some (.lst .ne xs) => match ixN xs.length j with
      | some n => match xs[n]? with
        | none => .stuck
        | some .und => .stuck
        | some x => if held x then .ok (x, .it i xs n) (e.set i .und) else .ok (x, .no) e
      | none => .stuck
    | some (.lst .fz xs) => match atI xs j with
      | some .und => .stuck
      | some x => .ok (x, .no) e
      | none => .stuck
    | some (.lst .ow xs) => match atI xs j with
      | some .und => .stuck
      | some x => .ok (x, .no) e
      | none => .stuck
    | some (.tup xs) => match atI xs j with
      | some .und => .stuck
      | some x => .ok (x, .no) e
      | none => .stuck
    | _ => .stuck
  | _ => .stuck
def plug (k : Tk) (x : Val) : M Unit := fun e => match k with
  | .no => .ok () e
  | .sl i => .ok () (e.set i x)
  | .it i xs n => .ok () (e.set i (.lst .ne (xs.set n x)))
def plugs : List (Val × Tk) → List Val → M Unit
  | [], _ => pureM ()
  | (_, k) :: r, x :: xs => bindM (plug k x) fun _ => plugs r xs
  | _ :: _, [] => fun _ => .stuck
def readS (i : Nat) : M Val := fun e => match e[i]? with
  | none => .stuck
  | some x => match frz x with
    | none => .stuck
    | some y => .ok y (if held x then e.set i y else e)
def moveS (i : Nat) : M Val := fun e => match e[i]? with
  | none => .stuck
  | some .und => .stuck
  | some x => .ok x (if held x then e.set i .und else e)
def saves (own : List Nat) (e : List Val) : List Val := own.map fun i => e.getD i .und
def wipes : List Nat → List Val → List Val
  | [], e => e
  | i :: r, e => (wipes r e).set i .und
def restores : List Nat → List Val → List Val → List Val
  | i :: r, x :: xs, e => (restores r xs e).set i x
  | _, _, e => e
/-- a comprehension's turns -/
def compL (f : Val → M (Option Val)) (m : Md) : List Val → List Val → M (List Val)
  | [], acc => pureM acc
  | x :: xs, acc => bindM (f x) fun o => match o with
    | none => compL f m xs acc
    | some y => if acc.length < sizeLine then (match m with
      | .ow => match frz y with
        | some z => compL f m xs (acc ++ [z])
        | none => fun _ => .stuck
      | .ne => compL f m xs (acc ++ [y])
      | _ => fun _ => .stuck) else fun _ => .stuck
def forL (f : Val → M Fl) : List Val → M Fl
  | [] => pureM .nx
  | x :: xs => bindM (f x) fun
    | .nx => forL f xs
    | .ct => forL f xs
    | .bk => pureM .nx
    | .rt v => pureM (.rt v)
def whlL (c : M Bool) (f : M Fl) : Nat → M Fl
  | 0 => fun _ => .stuck
  | n + 1 => bindM c fun b => if b then bindM f fun
      | .nx => whlL c f n
      | .ct => whlL c f n
      | .bk => pureM .nx
      | .rt v => pureM (.rt v)
    else pureM .nx
def fuel : Nat := 10 ^ 30
def rangeL (lo hi : Int) : List Val := (List.range (hi - lo).toNat).map fun (n : Nat) => Val.int (lo + (n : Int))
def enumL (k : Nat) : List Val → List Val
  | [] => []
  | x :: xs => .tup [.int k, x] :: enumL (k + 1) xs
def okR (i : Int) : Bool := decide (-(2 ^ 62) ≤ i ∧ i < 2 ^ 62)
/-- list(range(..)), tuple(range(..)) -/
def rgV' (t : Bool) (x y : Val) : Option Val := match x, y with
  | .int i, .int j => if okR i && okR j && decide (j - i ≤ 16777216) then some (if t then .tup (rangeL i j) else .lst .ow (rangeL i j)) else none
  | _, _ => none

section
variable (C : Nat → List Val → CRes) (G : Nat → Option Val)
def callC (f : Nat) (ps : List (Val × Tk)) : M Val := fun e => match C f (ps.map (·.1)) with
  | .ret v outs => bindM (plugs ps outs) (fun _ => pureM v) e
  | .exc x outs => bindM (plugs ps outs) (fun _ => fun e' => .exc x e') e
  | .stuck => .stuck
def isiV (x : Val) (t : String) : Option Val := match x with
  | .int _ => some (.bl (t == "int"))
  | .bl _ => some (.bl (t == "int" || t == "bool"))
  | .str _ => some (.bl (t == "str"))
  | .tup _ => some (.bl (t == "tuple"))
  | .lst _ _ => some (.bl (t == "list"))
  | .non => some (.bl false)
  | _ => none
end
abbrev cmpM (op : Cop) (ma mb : M (Val × Tk)) : M Val := bindM ma fun p => bindM mb fun q => bindM (liftM (cmpV op p.1 q.1)) fun r => bindM (plugs [p, q] [p.1, q.1]) fun _ => pureM r
abbrev chainM (op op' : Cop) (ma mb mc : M (Val × Tk)) : M Val := bindM ma fun p => bindM mb fun q => bindM (liftM (cmpV op p.1 q.1)) fun r => match r with
    | .bl true => bindM mc fun w => bindM (liftM (cmpV op' q.1 w.1)) fun r' => bindM (plugs [p, q, w] [p.1, q.1, w.1]) fun _ => pureM r'
    | .bl false => bindM (plugs [p, q] [p.1, q.1]) fun _ => pureM (.bl false)
    | _ => fun _ => .stuck
abbrev subM (ma mb : M (Val × Tk)) : M Val := bindM ma fun p => bindM mb fun q => bindM (liftM (subV p.1 q.1)) fun r => bindM (plugs [p, q] [p.1, q.1]) fun _ => pureM r
abbrev subSM (i : Nat) (mb : M (Val × Tk)) : M Val := bindM (peekS i) fun _ => bindM mb fun q => bindM (takeS i) fun p => bindM (liftM (subV p.1 q.1)) fun r => bindM (plugs [p, q] [p.1, q.1]) fun _ => pureM r
abbrev biM (f : Bi) (m : M (List (Val × Tk))) : M Val := bindM m fun ps => bindM (liftM (biV f (ps.map (·.1)))) fun r => bindM (plugs ps (ps.map (·.1))) fun _ => pureM r
abbrev isiM (ma : M (Val × Tk)) (t : String) : M Val := bindM ma fun p => bindM (liftM (isiV p.1 t)) fun r => bindM (plugs [p] [p.1]) fun _ => pureM r
abbrev callM (C : Nat → List Val → CRes) (f : Nat) (m : M (List (Val × Tk))) : M Val := bindM m fun ps => callC C f ps
section
variable (C : Nat → List Val → CRes) (G : Nat → Option Val)
mutual
def evE : Ex → M Val
  | .var i => readS i
  | .mov i => moveS i
  | .int i => pureM (.int i)
  | .bl b => pureM (.bl b)
  | .non => pureM .non
  | .str x => pureM (.str x)
  | .bin op a b => bindM (evA a) fun p => bindM (evA b) fun q => bindM (liftM (binV op p.1 q.1)) fun r => bindM (plugs [p, q] [p.1, q.1]) fun _ => pureM r
  | .neg a => bindM (evA a) fun p => match p.1 with
    | .int i => bindM (plugs [p] [p.1]) fun _ => pureM (.int (-i))
    | _ => fun _ => .stuck
  | .cmp op a b => cmpM op (evA a) (evA b)
  | .chain op op' a b c => chainM op op' (evA a) (evA b) (evA c)
  | .notE a => bindM (evE a) fun x => match x with
    | .bl b => pureM (.bl (!b))
    | _ => fun _ => .stuck
  | .andE a b => bindM (evE a) fun x => match x with
    | .bl true => evE b
    | .bl false => pureM (.bl false)
    | _ => fun _ => .stuck
  | .orE a b => bindM (evE a) fun x => match x with
    | .bl true => pureM (.bl true)
    | .bl false => evE b
    | _ => fun _ => .stuck
  | .ite c a b => bindM (evT c) fun t => if t then evE a else evE b
  | .tup es => bindM (evXs es) fun xs => bindM (liftM (frzs xs)) fun ys => if ys.length ≤ sizeLine then pureM (.tup ys) else fun _ => .stuck
  | .lst m es => bindM (evXs es) fun xs => if xs.length ≤ sizeLine then (match m with
    | .ow => bindM (liftM (frzs xs)) fun ys => pureM (.lst .ow ys)
    | .ne => pureM (.lst .ne xs)
    | _ => fun _ => .stuck) else fun _ => .stuck
  | .sub a b => subM (evA a) (evA b)
  | .slc a lo hi => bindM (evA a) fun p => bindM (evO lo) fun l => bindM (evO hi) fun h => bindM (liftM (slcV p.1 l h)) fun r => bindM (plugs [p] [p.1]) fun _ => pureM r
  | .bi f as => biM f (evAs as)
  | .me f a es => bindM (evA a) fun p => if mtOk f p.1 then bindM (evXs es) fun xs => bindM (liftM (meV f p.1 xs)) fun r => bindM (plug p.2 r.2) fun _ => pureM r.1 else fun _ => .stuck
  | .subS i b => subSM i (evA b)
  | .meS f i es => bindM (peekM f i) fun _ => bindM (evXs es) fun xs => bindM (takeS i) fun p => bindM (liftM (meV f p.1 xs)) fun r => bindM (plug p.2 r.2) fun _ => pureM r.1
  | .isi a t => isiM (evA a) t
  | .call f as => callM C f (evAs as)
  | .callK f n es ks pm => bindM (evXs es) fun xs => bindM (evXs ks) fun zs => fun e => if xs.length = n ∧ n + zs.length = pm.length then (match C f (pm.map fun i => (xs ++ zs).getD i .und) with
    | .ret v outs => .ok v e
    | .exc x outs => .exc x e
    | .stuck => .stuck) else .stuck
  | .dzip a b => bindM (evA a) fun p => bindM (evA b) fun q => bindM (liftM (dzipV p.1 q.1)) fun r => bindM (plugs [p, q] [p.1, q.1]) fun _ => pureM r
  | .lrev a => bindM (evA a) fun p => bindM (liftM (lrevV p.1)) fun r => bindM (plugs [p] [p.1]) fun _ => pureM r
  | .rpr a => bindM (evA a) fun p => bindM (liftM (rprV p.1)) fun r => bindM (plugs [p] [p.1]) fun _ => pureM r
  | .gl n => liftM (G n)
  | .rg t a => bindM (evE a) fun x => liftM (rgV' t (.int 0) x)
  | .rg2 t a b => bindM (evE a) fun x => bindM (evE b) fun y => liftM (rgV' t x y)
  | .dct es => bindM (evXs es) fun xs => liftM (dctV xs)
  | .comp m elt t it own => bindM (evI it) fun q => fun e => bindM (fun e' => compL (fun x => fun e1 => noexc (bindM (evTg (fun i => own.contains i) t x) fun _ => bindM (evE elt) fun y => pureM (some y)) (wipes own e1)) m q.1 [] e') (fun r => fun e'' => bindM (plugs q.2 (q.2.map (·.1))) (fun _ => pureM (.lst m r)) (restores own (saves own e) e'')) e
  | .compI m elt t it c own => bindM (evI it) fun q => fun e => bindM (fun e' => compL (fun x => fun e1 => noexc (bindM (evTg (fun i => own.contains i) t x) fun _ => bindM (evT c) fun b => if b then bindM (evE elt) fun y => pureM (some y) else pureM none) (wipes own e1)) m q.1 [] e') (fun r => fun e'' => bindM (plugs q.2 (q.2.map (·.1))) (fun _ => pureM (.lst m r)) (restores own (saves own e) e'')) e
/-- a test -/
def evT : Ex → M Bool
  | .notE a => bindM (evT a) fun b => pureM (!b)
  | .andE a b => bindM (evT a) fun t => if t then evT b else pureM false
  | .orE a b => bindM (evT a) fun t => if t then pureM true else evT b
  | .var i => bindM (takeS i) fun p => bindM (liftM (truV p.1)) fun b => bindM (plug p.2 p.1) fun _ => pureM b
  | .cmp op a b => bindM (cmpM op (evA a) (evA b)) fun x => liftM (truV x)
  | .chain op op' a b c => bindM (chainM op op' (evA a) (evA b) (evA c)) fun x => liftM (truV x)
  | .sub a b => bindM (subM (evA a) (evA b)) fun x => liftM (truV x)
  | .subS i b => bindM (subSM i (evA b)) fun x => liftM (truV x)
  | .bi f as => bindM (biM f (evAs as)) fun x => liftM (truV x)
  | .isi a t => bindM (isiM (evA a) t) fun x => liftM (truV x)
  | .call f as => bindM (callM C f (evAs as)) fun x => liftM (truV x)
  | .bl b => bindM (pureM (.bl b)) fun x => liftM (truV x)
  | _ => fun _ => .stuck
def evO : Ox → M (Option Int)
  | .none => pureM none
  | .some e => bindM (evE e) fun x => match x with
    | .int i => pureM (some i)
    | _ => fun _ => .stuck
def evXs : Exs → M (List Val)
  | .nil => pureM []
  | .cons e es => bindM (evE e) fun x => bindM (evXs es) fun xs => pureM (x :: xs)
def evA : Ag → M (Val × Tk)
  | .v e => bindM (evE e) fun x => pureM (x, .no)
  | .mv i => takeS i
  | .mx i e => bindM (peekS i) fun _ => bindM (evE e) fun y => takeI i y
def evAs : Ags → M (List (Val × Tk))
  | .nil => pureM []
  | .cons a as => match a with
    | .mv i => bindM (peekS i) fun _ => bindM (evAs as) fun ps => bindM (takeS i) fun p => pureM (p :: ps)
    | a => bindM (evA a) fun p => bindM (evAs as) fun ps => pureM (p :: ps)
/-- what is walked, and what was taken for it -/
def evI : Wk → M (List Val × List (Val × Tk))
  | .ex a => bindM (evA a) fun p => bindM (liftM (itemsF p.1)) fun xs => pureM (xs, [p])
  | .rng a => bindM (evE a) fun x => match x with
    | .int i => if okR i then pureM (rangeL 0 i, []) else fun _ => .stuck
    | _ => fun _ => .stuck
  | .rng2 a b => bindM (evE a) fun x => bindM (evE b) fun y => match x, y with
    | .int i, .int j => if okR i && okR j then pureM (rangeL i j, []) else fun _ => .stuck
    | _, _ => fun _ => .stuck
  | .enum a => bindM (evA a) fun p => bindM (liftM (itemsF p.1)) fun xs => pureM (enumL 0 xs, [p])
  | .zip a b => bindM (evA a) fun p => bindM (evA b) fun q => bindM (liftM (itemsF p.1)) fun xs => bindM (liftM (itemsF q.1)) fun ys => pureM (zipL xs ys, [p, q])
  | .rev a => bindM (evA a) fun p => bindM (liftM (itemsF p.1)) fun xs => pureM (xs.reverse, [p])
/-- a target takes a value; ok: slots that may be given anew -/
def evTg (ok : Nat → Bool) : Tg → Val → M Unit
  | .name i, x => fun e => if ok i then .ok () (e.set i x) else .stuck
  | .tup ts, x => match x with
    | .tup xs => if xs.length = tlen ts then evTgs ok ts xs else fun _ => .stuck
    | _ => fun _ => .stuck
  | .sub a b, x => bindM (evA a) fun p => bindM (evE b) fun y => bindM (liftM (setV p.1 y x)) fun z => plug p.2 z
def evTgs (ok : Nat → Bool) : Tgs → List Val → M Unit
  | .nil, [] => pureM ()
  | .cons t ts, x :: xs => bindM (evTg ok t x) fun _ => evTgs ok ts xs
  | _, _ => fun _ => .stuck
end
def sets : List Nat → List Val → List Val → List Val
  | i :: is, x :: xs, e => sets is xs (e.set i x)
  | _, _, e => e
def slotsOf (ps : List (Val × Tk)) : List Nat := ps.filterMap fun p => match p.2 with
  | .no => none
  | .sl i => some i
  | .it i _ _ => some i
def forR (ps : List (Val × Tk)) (f : Fl) : M Fl := match f with
  | .rt v => pureM (.rt v)
  | f => bindM (plugs ps (ps.map (·.1))) fun _ => pureM f
mutual
def evS (io : List Nat) : Sm → M Fl
  | .asg t e => bindM (evE C G e) fun x => bindM (evTg C G (fun i => !io.contains i) t x) fun _ => pureM .nx
  | .par is es => bindM (evXs C G es) fun xs => if is.any (fun i => io.contains i) || !decide (xs.length = is.length) then fun _ => .stuck else fun e => .ok .nx (sets is xs e)
  | .expr e => bindM (evE C G e) fun _ => pureM .nx
  | .ret e => bindM (evE C G e) fun x => pureM (.rt x)
  | .retN => pureM (.rt .non)
  | .ifS c a b => bindM (evT C G c) fun t => if t then evSs io a else evSs io b
  | .forS t it b => bindM (evI C G it) fun q => bindM (forL (fun x => bindM (evTg C G (fun i => !(slotsOf q.2 ++ io).contains i) t x) fun _ => evSs (slotsOf q.2 ++ io) b) q.1) (forR q.2)
  | .whl c b => whlL (evT C G c) (evSs io b) fuel
  | .brk => pureM .bk
  | .cont => pureM .ct
  | .pass => pureM .nx
def evSs (io : List Nat) : Sms → M Fl
  | .nil => pureM .nx
  | .cons s ss => bindM (evS io s) fun
    | .nx => evSs io ss
    | f => pureM f
end
end

/-! ### a program -/
/-- a def: how many slots, which parameters are lent, its parameters' number, its body -/
structure Df where
  np : Nat
  ns : Nat
  io : List Nat
  body : Sms
def outsOf (np : Nat) (io : List Nat) (e : List Val) : List Val := (List.range np).map fun i => if i ∈ io then e.getD i .und else .und
def runD (C : Nat → List Val → CRes) (G : Nat → Option Val) (d : Df) (xs : List Val) : CRes :=
  if xs.length = d.np then match evSs C G d.io d.body (xs ++ List.replicate (d.ns - d.np) .und) with
    | .ok (.rt v) e => .ret v (outsOf d.np d.io e)
    | .ok .nx e => .ret .non (outsOf d.np d.io e)
    | .ok _ _ => .stuck
    | .exc x e => .exc x (outsOf d.np d.io e)
    | .stuck => .stuck
  else .stuck
/-- by so many calls, one in another -/
def runN (D : List Df) (G : Nat → Option Val) : Nat → Nat → List Val → CRes
  | 0, _, _ => .stuck
  | k + 1, f, xs => match D[f]? with
    | some d => runD (runN D G k) G d xs
    | none => .stuck
end Nd

/-! NdC: slots, what is taken and given back. -/
namespace Nd
open PySem PySem.Spec PyProof.Rows L2
section
variable {K : PySem.W.Frag} {H H' : Hp} {Z Z' : ZS}

theorem Rep.freeOf : ∀ {x : Val} {v : V} {f : List Addr}, held x = false → Rep K H Z x v f → f = []
  | .und, _, _, _, r => r
  | .non, _, _, _, r => r.2
  | .bl _, _, _, _, r => r.2
  | .int _, _, _, _, r => r.2
  | .str _, _, _, _, r => r.2
  | .ty _, _, _, _, r => r.2
  | .tup _, _, _, _, r => by unfold Rep at r; exact r.1
  | .lst .fz _, _, _, _, r => by unfold Rep at r; exact r.1
  | .lst .sc _, _, _, _, r => by unfold Rep at r; exact r.1
  | .dic .sc _, _, _, _, r => by unfold Rep at r; exact r.elim
  | .lst .ow _, _, _, h, _ => by cases h
  | .lst .ne _, _, _, h, _ => by cases h
  | .dic .fz _, _, _, _, r => by unfold Rep at r; exact r.1
  | .dic .ow _, _, _, h, _ => by cases h
  | .dic .ne _, _, _, h, _ => by cases h

/-- a fact that leans on nothing -/
def factA (p : Prop) : Asn := ⟨fun _ _ f => p ∧ f = [], fun _ _ h => h, fun {H Z f} h => by obtain ⟨_, rfl⟩ := h; simp⟩
theorem Good.fact {As : List Asn} {p : Prop} (h : Good H Z (factA p :: As)) : p := by
  obtain ⟨f, F, r, _⟩ := h.out
  exact r.1
theorem Good.mkFact {As : List Asn} {p : Prop} (h : Good H Z As) (q : p) : Good H Z (factA p :: As) := h.new ⟨q, rfl⟩
theorem Good.noNever {As : List Asn} (h : Good H Z As) (m : never ∈ As) : False := by
  obtain ⟨Bs, Cs, rfl⟩ := List.append_of_mem m
  obtain ⟨f, F, r, _⟩ := (Good.dropL h).out
  exact r

/-! ### one slot among the slots -/
theorem envA_at : ∀ {σ : Sl} {e : List Val} {i : Nat} {o : Option V} {x : Val}, σ[i]? = some o → e[i]? = some x →
    ∃ R, (envA K σ e).Perm (repO K o x :: R) ∧ (∀ o' y, (envA K (σ.set i o') (e.set i y)).Perm (repO K o' y :: R))
  | [], _, _, _, _, h, _ => by simp at h
  | _ :: _, [], _, _, _, _, h => by simp at h
  | o :: σ, x :: e, 0, _, _, h, h' => by
    simp at h h'
    subst h; subst h'
    exact ⟨envA K σ e, .refl _, fun _ _ => .refl _⟩
  | o :: σ, x :: e, i + 1, o', x', h, h' => by
    obtain ⟨R, p, q⟩ := envA_at (σ := σ) (e := e) (i := i) (by simpa using h) (by simpa using h')
    refine ⟨repO K o x :: R, ?_, fun o2 y => ?_⟩
    · exact (List.Perm.cons _ p).trans (List.Perm.swap _ _ _)
    · show (repO K o x :: envA K (σ.set i o2) (e.set i y)).Perm _
      exact (List.Perm.cons _ (q o2 y)).trans (List.Perm.swap _ _ _)
theorem envA_over : ∀ {σ : Sl} {e : List Val}, σ.length < e.length → never ∈ envA K σ e
  | [], [], h => by simp at h
  | [], _ :: _, _ => by simp [envA]
  | _ :: _, [], h => by simp at h
  | o :: σ, x :: e, h => by
    have := envA_over (σ := σ) (e := e) (by simpa using h)
    simp [envA, this]
theorem good_len {σ : Sl} {e : List Val} {T : List Asn} (h : Good H Z (envA K σ e ++ T)) : e.length ≤ σ.length := by
  by_cases q : σ.length < e.length
  · exact (h.noNever (by simp [envA_over (K := K) q])).elim
  · omega
theorem set_same {α : Type} : ∀ {l : List α} {i : Nat} {a : α}, l[i]? = some a → l.set i a = l
  | [], _, _, h => by simp at h
  | b :: l, 0, a, h => by simp at h; subst h; rfl
  | b :: l, i + 1, a, h => by
    have := set_same (l := l) (i := i) (a := a) (by simpa using h)
    show b :: l.set i a = _
    rw [this]
/-- what stands in a slot, taken out -/
theorem Good.getS {σ : Sl} {e : List Val} {T : List Asn} {i : Nat} {x : Val} (h : Good H Z (envA K σ e ++ T)) (hx : e[i]? = some x) (hu : x ≠ .und) :
    ∃ v, σ[i]? = some (some v) ∧ Good H Z (rep K v x :: (envA K σ (e.set i .und) ++ T)) := by
  have hl := good_len h
  have hi : i < e.length := (List.getElem?_eq_some_iff.mp hx).1
  have ho : σ[i]? = some (σ[i]'(by omega)) := List.getElem?_eq_getElem (by omega)
  obtain ⟨R, p, q⟩ := envA_at (K := K) ho hx
  generalize hov : σ[i]'(by omega) = o at *
  have h1 : Good H Z (repO K o x :: (R ++ T)) := h.perm (by simpa using p.append_right T)
  cases o with
  | none =>
    obtain ⟨f, F, r, _⟩ := h1.out
    exact absurd r.1 hu
  | some v =>
    refine ⟨v, ho, ?_⟩
    have h2 : Good H Z (rep K v x :: (R ++ T)) := h1.swap fun f r => r
    have h3 : Good H Z (repO K (some v) .und :: rep K v x :: (R ++ T)) := h2.new rfl
    have q' := q (some v) .und
    rw [set_same ho] at q'
    refine h3.perm ?_
    have : (repO K (some v) .und :: rep K v x :: (R ++ T)).Perm (rep K v x :: ((repO K (some v) .und :: R) ++ T)) := List.Perm.swap _ _ _
    exact this.trans (List.Perm.cons _ (q'.symm.append_right T))
/-- a value is put into a slot -/
theorem Good.setS {σ : Sl} {e : List Val} {T : List Asn} {i : Nat} {x : Val} {v : V} (h : Good H Z (rep K v x :: (envA K σ e ++ T))) :
    Good H Z (envA K (σ.set i (some v)) (e.set i x) ++ T) := by
  have hl := good_len h.drop
  by_cases hi : i < e.length
  · have ho : σ[i]? = some (σ[i]'(by omega)) := List.getElem?_eq_getElem (by omega)
    have hx : e[i]? = some e[i] := List.getElem?_eq_getElem hi
    obtain ⟨R, p, q⟩ := envA_at (K := K) ho hx
    have h1 : Good H Z (repO K (σ[i]'(by omega)) e[i] :: rep K v x :: (R ++ T)) := h.perm (by
      have : (rep K v x :: (envA K σ e ++ T)).Perm (rep K v x :: ((repO K (σ[i]'(by omega)) e[i] :: R) ++ T)) := List.Perm.cons _ (p.append_right T)
      exact this.trans (List.Perm.swap _ _ _))
    have h2 : Good H Z (repO K (some v) x :: (R ++ T)) := h1.drop.swap fun f r => r
    exact h2.perm ((q (some v) x).symm.append_right T)
  · rw [show e.set i x = e from List.set_eq_of_length_le (by omega)]
    have : ∀ (σ : Sl) (e : List Val) (i : Nat) (o : Option V), e.length ≤ i → envA K (σ.set i o) e = envA K σ e := by
      intro σ
      induction σ with
      | nil => intro e i o _; rfl
      | cons a σ ih =>
        intro e i o hh
        cases e with
        | nil => cases i <;> rfl
        | cons x e =>
          cases i with
          | zero => simp at hh
          | succ i => show repO K a x :: envA K (σ.set i o) e = _; rw [ih e i o (by simpa using hh)]; rfl
    rw [this σ e i _ (by omega)]
    exact h.drop
/-- .. the slot's own -/
theorem Good.putS {σ : Sl} {e : List Val} {T : List Asn} {i : Nat} {x : Val} {v : V} (h : Good H Z (rep K v x :: (envA K σ e ++ T))) (hs : σ[i]? = some (some v)) :
    Good H Z (envA K σ (e.set i x) ++ T) := by
  have q := h.setS (i := i)
  rw [set_same hs] at q
  exact q
/-- a slot is forgotten -/
theorem Good.undS {σ : Sl} {e : List Val} {T : List Asn} {i : Nat} (h : Good H Z (envA K σ e ++ T)) : Good H Z (envA K σ (e.set i .und) ++ T) := by
  by_cases hi : i < e.length
  · have hl := good_len h
    have ho : σ[i]? = some (σ[i]'(by omega)) := List.getElem?_eq_getElem (by omega)
    have hx : e[i]? = some e[i] := List.getElem?_eq_getElem hi
    obtain ⟨R, p, q⟩ := envA_at (K := K) ho hx
    have h1 : Good H Z (repO K (σ[i]'(by omega)) e[i] :: (R ++ T)) := h.perm (p.append_right T)
    have h2 : Good H Z (repO K (σ[i]'(by omega)) .und :: (R ++ T)) := h1.drop.new (by
      cases σ[i]'(by omega) with
      | none => exact ⟨rfl, rfl⟩
      | some v => exact rfl)
    have q' := q (σ[i]'(by omega)) .und
    rw [set_same ho] at q'
    exact h2.perm (q'.symm.append_right T)
  · rw [show e.set i .und = e from List.set_eq_of_length_le (by omega)]
    exact h

/-! ### let go -/
theorem Good.letgo {x y : Val} {v : V} {As : List Asn} (h : Good H Z (rep K v x :: As)) (e : frz x = some y) : ∃ Z', (∀ a, Z a → Z' a) ∧ Good H Z' (rep K v y :: As) := by
  have hn : ∀ {z : Val}, frz x = some z → z = x → ∃ Z', (∀ a, Z a → Z' a) ∧ Good H Z' (rep K v z :: As) := fun _ e => by subst e; exact ⟨Z, fun _ q => q, h⟩
  unfold Nd.frz at e
  split at e
  · -- ow
    rename_i xs
    cases e
    obtain ⟨f, F, r, s, n, z, zn⟩ := h.out
    have r' : Rep K H Z (.lst .ow xs) v f := r
    unfold Rep at r'
    obtain ⟨a, vs, rfl, ev, q, rs⟩ := r'
    have k : Keep H H Z (F : List Addr) := fun b u q _ => q
    refine ⟨fun b => Z b ∨ b = a, fun b q => .inl q, F, ⟨[], F, rfl, ?_, s.keep (fun b q => .inl q) k⟩, (List.nodup_append.mp n).2.1, fun b hb hz => ?_, fun b hz => ?_⟩
    · show Rep K H _ (.lst .fz xs) v []
      unfold Rep
      exact ⟨rfl, a, vs, ev, ⟨q, .inr rfl⟩, Reps.keep (fun b q => .inl q) xs vs [] (fun b u q _ => q) rs⟩
    · rcases hz with hz | rfl
      · exact z b (by simp [hb]) hz
      · exact (List.nodup_append.mp n).2.2 _ (by simp) _ hb rfl
    · rcases hz with hz | rfl
      · exact zn b hz
      · rw [q]; simp
  · cases e
  · rename_i xs
    cases e
    obtain ⟨f, F, r, s, n, z, zn⟩ := h.out
    have r' : Rep K H Z (.dic .ow xs) v f := r
    unfold Rep at r'
    obtain ⟨a, vs, rfl, ev, q, rs⟩ := r'
    have k : Keep H H Z (F : List Addr) := fun b u q _ => q
    refine ⟨fun b => Z b ∨ b = a, fun b q => .inl q, F, ⟨[], F, rfl, ?_, s.keep (fun b q => .inl q) k⟩, (List.nodup_append.mp n).2.1, fun b hb hz => ?_, fun b hz => ?_⟩
    · show Rep K H _ (.dic .fz xs) v []
      unfold Rep
      exact ⟨rfl, a, vs, ev, ⟨q, .inr rfl⟩, RepKs.keep (fun b q => .inl q) xs vs [] (fun b u q _ => q) rs⟩
    · rcases hz with hz | rfl
      · exact z b (by simp [hb]) hz
      · exact (List.nodup_append.mp n).2.2 _ (by simp) _ hb rfl
    · rcases hz with hz | rfl
      · exact zn b hz
      · rw [q]; simp
  · cases e
  · cases e
  · cases e
    exact ⟨Z, fun _ q => q, h⟩
theorem frz_free {x y : Val} (e : frz x = some y) : held y = false := by
  unfold Nd.frz at e
  split at e <;> cases e
  · rfl
  · rfl
  · rename_i a1 a2 a3 a4 a5
    cases x with
    | lst m xs =>
      cases m with
      | fz => rfl
      | sc => rfl
      | ow => exact absurd rfl (a1 xs)
      | ne => exact absurd rfl (a2 xs)
    | dic m xs =>
      cases m with
      | fz => rfl
      | sc => rfl
      | ow => exact absurd rfl (a3 xs)
      | ne => exact absurd rfl (a4 xs)
    | _ => rfl
/-- a free thing twice -/
theorem Good.dup {x : Val} {v : V} {As : List Asn} (h : Good H Z (rep K v x :: As)) (e : held x = false) : Good H Z (rep K v x :: rep K v x :: As) :=
  h.new2 fun f r => by
    have := Rep.freeOf e r
    rw [this] at r
    exact r
theorem Good.dupAt {x : Val} {v : V} {As Bs : List Asn} (h : Good H Z (As ++ rep K v x :: Bs)) (e : held x = false) : Good H Z (rep K v x :: (As ++ rep K v x :: Bs)) := by
  have h1 : Good H Z (rep K v x :: (As ++ Bs)) := h.perm List.perm_middle
  exact (h1.dup e).perm (List.Perm.cons _ List.perm_middle.symm)
theorem frz_und {x y : Val} (e : frz x = some y) : x ≠ .und ∧ y ≠ .und := by
  unfold Nd.frz at e
  split at e <;> cases e
  · exact ⟨by simp, by simp⟩
  · exact ⟨by simp, by simp⟩
  · rename_i a1 a2 a3 a4 a5
    exact ⟨a5, a5⟩
theorem frz_held {x y : Val} (e : frz x = some y) (h : held x = false) : y = x := by
  unfold Nd.frz at e
  split at e <;> cases e
  · cases h
  · cases h
  · rfl

/-! ### taken, given back -/
/-- σ's slot i holds v -/
def slotA (σ : Sl) (i : Nat) (v : V) : Asn := factA (σ[i]? = some (some v))
/-- the list in slot i, the item n of it gone -/
def holeA (K : PySem.W.Frag) (σ : Sl) (i : Nat) (xs : List Val) (n : Nat) (v : V) : Asn :=
  ⟨fun H Z f => ∃ a vs g, f = a :: g ∧ σ[i]? = some (some (.ref a)) ∧ H a = some (.lst vs) ∧ vs[n]? = some v ∧ Reps K H Z (xs.set n .und) vs g,
   fun {H H' Z Z' f} k hz ⟨a, vs, g, e, es, eh, en, r⟩ => ⟨a, vs, g, e, es, k a _ eh (.inl (by rw [e]; simp)), en, Reps.keep hz _ vs g (k.sub (by rw [e]; intro b hb; simp [hb])) r⟩,
   fun {H Z f} ⟨a, vs, g, e, es, eh, en, r⟩ => by
    subst e
    intro b hb
    rcases List.mem_cons.mp hb with rfl | hb
    · exact ⟨_, eh, trivial⟩
    · exact Reps.there _ vs g r b hb⟩
def tkA (K : PySem.W.Frag) (σ : Sl) (v : V) : Tk → List Asn
  | .no => []
  | .sl i => [slotA σ i v]
  | .it i xs n => [holeA K σ i xs n v]
def argA (K : PySem.W.Frag) (σ : Sl) (v : V) (p : Val × Tk) : List Asn := rep K v p.1 :: tkA K σ v p.2
def argsA (K : PySem.W.Frag) (σ : Sl) : List V → List (Val × Tk) → List Asn
  | [], [] => []
  | v :: vs, p :: ps => argA K σ v p ++ argsA K σ vs ps
  | _, _ => [never]

theorem Reps.len : ∀ {xs : List Val} {vs : List V} {f : List Addr}, Reps K H Z xs vs f → vs.length = xs.length
  | [], _, _, r => by unfold Reps at r; rw [r.1]; rfl
  | x :: xs, vs, f, r => by
    unfold Reps at r
    obtain ⟨v, vr, g, h, rfl, ef, r1, r2⟩ := r
    simp [Reps.len r2]
theorem Reps.get : ∀ {xs : List Val} {vs : List V} {i : Nat} {x : Val}, Reps K H Z xs vs [] → xs[i]? = some x → ∃ v, vs[i]? = some v ∧ Rep K H Z x v []
  | [], _, _, _, _, h => by simp at h
  | x :: xs, vs, 0, y, r, h => by
    unfold Reps at r
    obtain ⟨v, vr, g, f, rfl, ef, r1, r2⟩ := r
    obtain ⟨rfl, rfl⟩ : g = [] ∧ f = [] := by simpa using ef.symm
    simp at h; subst h
    exact ⟨v, by simp, r1⟩
  | x :: xs, vs, i + 1, y, r, h => by
    unfold Reps at r
    obtain ⟨v, vr, g, f, rfl, ef, r1, r2⟩ := r
    obtain ⟨rfl, rfl⟩ : g = [] ∧ f = [] := by simpa using ef.symm
    obtain ⟨w, q1, q2⟩ := Reps.get r2 (by simpa using h : xs[i]? = some y)
    exact ⟨w, by simpa using q1, q2⟩
/-- one item out of held ones -/
theorem Reps.pick : ∀ {xs : List Val} {vs : List V} {f : List Addr} {i : Nat} {x : Val}, Reps K H Z xs vs f → xs[i]? = some x → ∃ v g h, vs[i]? = some v ∧ Rep K H Z x v g ∧ Reps K H Z (xs.set i .und) vs h ∧ f.Perm (g ++ h)
  | [], _, _, _, _, _, h => by simp at h
  | x :: xs, vs, f, 0, y, r, h => by
    unfold Reps at r
    obtain ⟨v, vr, g, k, rfl, rfl, r1, r2⟩ := r
    simp at h; subst h
    refine ⟨v, g, k, by simp, r1, ?_, .refl _⟩
    show Reps K H Z (.und :: xs) (v :: vr) k
    unfold Reps
    exact ⟨v, vr, [], k, rfl, rfl, rfl, r2⟩
  | x :: xs, vs, f, i + 1, y, r, h => by
    unfold Reps at r
    obtain ⟨v, vr, g, k, rfl, rfl, r1, r2⟩ := r
    obtain ⟨w, g', h', q1, q2, q3, q4⟩ := Reps.pick r2 (by simpa using h : xs[i]? = some y)
    refine ⟨w, g', g ++ h', by simpa using q1, q2, ?_, ?_⟩
    · show Reps K H Z (x :: xs.set i .und) (v :: vr) (g ++ h')
      unfold Reps
      exact ⟨v, vr, g, h', rfl, rfl, r1, q3⟩
    · refine (q4.append_left g).trans ?_
      rw [← List.append_assoc, ← List.append_assoc]
      exact List.perm_append_comm.append_right h'
/-- .. and back -/
theorem Reps.back : ∀ {xs : List Val} {vs : List V} {h g : List Addr} {i : Nat} {y : Val} {v : V}, Reps K H Z (xs.set i .und) vs h → vs[i]? = some v → Rep K H Z y v g → ∃ f, Reps K H Z (xs.set i y) vs f ∧ f.Perm (g ++ h)
  | [], _, _, _, _, _, _, r, e, _ => by
    unfold Reps at r
    rw [r.1] at e; simp at e
  | x :: xs, vs, h, g, 0, y, v, r, e, q => by
    have r' : Reps K H Z (.und :: xs) vs h := r
    unfold Reps at r'
    obtain ⟨w, vr, g', k, rfl, rfl, r1, r2⟩ := r'
    simp at e; subst e
    have eg : g' = [] := r1
    subst eg
    refine ⟨g ++ k, ?_, .refl _⟩
    show Reps K H Z (y :: xs) (w :: vr) (g ++ k)
    unfold Reps
    exact ⟨w, vr, g, k, rfl, rfl, q, r2⟩
  | x :: xs, vs, h, g, i + 1, y, v, r, e, q => by
    have r' : Reps K H Z (x :: xs.set i .und) vs h := r
    unfold Reps at r'
    obtain ⟨w, vr, g', k, rfl, rfl, r1, r2⟩ := r'
    obtain ⟨f, q1, q2⟩ := Reps.back r2 (by simpa using e) q
    refine ⟨g' ++ f, ?_, ?_⟩
    · show Reps K H Z (x :: xs.set i y) (w :: vr) (g' ++ f)
      unfold Reps
      exact ⟨w, vr, g', f, rfl, rfl, r1, q1⟩
    · refine (q2.append_left g').trans ?_
      rw [← List.append_assoc, ← List.append_assoc]
      exact List.perm_append_comm.append_right k
/-- given back -/
theorem Good.plug {σ : Sl} {e : List Val} {T : List Asn} {v : V} {x : Val} {k : Tk} (h : Good H Z (rep K v x :: (tkA K σ v k ++ (envA K σ e ++ T)))) : ∃ e', plug k x e = .ok () e' ∧ Good H Z (envA K σ e' ++ T) := by
  cases k with
  | no => exact ⟨e, rfl, h.drop⟩
  | sl i =>
    have h1 : Good H Z (slotA σ i v :: rep K v x :: (envA K σ e ++ T)) := h.perm (List.Perm.swap _ _ _)
    exact ⟨_, rfl, Good.putS h1.drop h1.fact⟩
  | it i xs n =>
    obtain ⟨f, F, r1, s1, nd, z, zn⟩ := h.out
    obtain ⟨f2, F2, rfl, ⟨a, vs, g, rfl, es, eh, en, rs⟩, s2⟩ := s1
    obtain ⟨fn, q1, q2⟩ := Reps.back rs en r1
    have pp : (f ++ ((a :: g) ++ F2)).Perm ((a :: fn) ++ F2) := by
      have e1 : (f ++ ((a :: g) ++ F2)).Perm (a :: (f ++ g) ++ F2) := by
        have : f ++ ((a :: g) ++ F2) = f ++ a :: (g ++ F2) := by simp
        rw [this]
        refine List.perm_middle.trans ?_
        simp
      refine e1.trans ?_
      exact (List.Perm.cons a q2.symm).append_right F2
    have h2 : Good H Z (rep K (.ref a) (.lst .ne (xs.set n x)) :: (envA K σ e ++ T)) := by
      refine ⟨(a :: fn) ++ F2, ⟨a :: fn, F2, rfl, ?_, s2⟩, pp.nodup_iff.mp nd, fun b hb => z b (pp.mem_iff.mpr hb), zn⟩
      show Rep K H Z (.lst .ne (xs.set n x)) (.ref a) (a :: fn)
      unfold Rep
      exact ⟨a, vs, fn, rfl, rfl, eh, q1⟩
    exact ⟨_, rfl, Good.putS h2 es⟩
end
end Nd

/-! NdD: the operators by values keep what is told of them. -/
namespace Nd
open PySem PySem.Spec PyProof.Rows L2
section
variable {K : PySem.W.Frag} {H H' : Hp} {Z Z' : ZS}
mutual
theorem Rep.dp : ∀ {x : Val} {v : V} {f : List Addr} {d : PyData}, Rep K H Z x v f → data x = some d → Dp K H v d
  | .und, _, _, _, _, e => by simp [data] at e
  | .non, v, _, _, r, e => by unfold Rep at r; simp [data] at e; rw [r.1, ← e]; exact .non
  | .bl b, v, _, _, r, e => by unfold Rep at r; simp [data] at e; rw [r.1, ← e]; exact .bl b
  | .int b, v, _, _, r, e => by unfold Rep at r; simp [data] at e; rw [r.1, ← e]; exact .int b
  | .str b, v, _, _, r, e => by unfold Rep at r; simp [data] at e; rw [r.1, ← e]; exact .str b
  | .ty _, _, _, _, _, e => by simp [data] at e
  | .dic _ _, _, _, _, _, e => by simp [data] at e
  | .tup xs, v, f, d, r, e => by
    unfold Rep at r
    obtain ⟨_, a, vs, rfl, q, rs⟩ := r
    simp only [data, Option.map_eq_some_iff] at e
    obtain ⟨ds, e1, rfl⟩ := e
    exact .tup q (Reps.dp rs e1)
  | .lst .fz xs, v, f, d, r, e => by
    unfold Rep at r
    obtain ⟨_, a, vs, rfl, q, rs⟩ := r
    simp only [data, Option.map_eq_some_iff] at e
    obtain ⟨ds, e1, rfl⟩ := e
    exact .lst (.inl (.inl q.1)) (Reps.dp rs e1)
  | .lst .sc xs, v, f, d, r, e => by
    unfold Rep at r
    obtain ⟨_, a, vs, rfl, q, rs⟩ := r
    simp only [data, Option.map_eq_some_iff] at e
    obtain ⟨ds, e1, rfl⟩ := e
    exact .lst q.sq (Reps.dp rs e1)
  | .lst .ow xs, v, f, d, r, e => by
    unfold Rep at r
    obtain ⟨a, vs, _, rfl, q, rs⟩ := r
    simp only [data, Option.map_eq_some_iff] at e
    obtain ⟨ds, e1, rfl⟩ := e
    exact .lst (.inl (.inl q)) (Reps.dp rs e1)
  | .lst .ne xs, v, f, d, r, e => by
    unfold Rep at r
    obtain ⟨a, vs, g, _, rfl, q, rs⟩ := r
    simp only [data, Option.map_eq_some_iff] at e
    obtain ⟨ds, e1, rfl⟩ := e
    exact .lst (.inl (.inl q)) (Reps.dp rs e1)
theorem Reps.dp : ∀ {xs : List Val} {vs : List V} {f : List Addr} {ds : List PyData}, Reps K H Z xs vs f → datas xs = some ds → DpAll K H vs ds
  | [], _, _, _, r, e => by unfold Reps at r; simp [datas] at e; rw [r.1, e]; exact .nil
  | x :: xs, vs, f, ds, r, e => by
    unfold Reps at r
    obtain ⟨v, vr, g, h, rfl, ef, r1, r2⟩ := r
    simp only [datas] at e
    split at e
    · rename_i d ds' e1 e2
      cases e
      exact .cons (Rep.dp r1 e1) (Reps.dp r2 e2)
    · cases e
end
/-- an assertion read -/
theorem Good.at {A : Asn} {As : List Asn} (h : Good H Z (A :: As)) : ∃ f, A.p H Z f := by
  obtain ⟨f, F, r, _⟩ := h.out
  exact ⟨f, r⟩
theorem Good.at2 {A B : Asn} {As : List Asn} (h : Good H Z (A :: B :: As)) : ∃ f, B.p H Z f := h.drop.at
theorem Good.at3 {A B D : Asn} {As : List Asn} (h : Good H Z (A :: B :: D :: As)) : ∃ f, D.p H Z f := h.drop.drop.at
theorem Good.rp {x : Val} {v : V} {As : List Asn} (h : Good H Z (rep K v x :: As)) : ∃ f, Rep K H Z x v f := h.at
theorem Good.rp2 {A : Asn} {x : Val} {v : V} {As : List Asn} (h : Good H Z (A :: rep K v x :: As)) : ∃ f, Rep K H Z x v f := h.drop.at
/-- the items of a list, a tuple, seen: free ones -/
theorem Rep.itemsF {x : Val} {v : V} {f : List Addr} {xs : List Val} (r : Rep K H Z x v f) (e : itemsF x = some xs) : ∃ a vs, v = .ref a ∧ (SqL K H a vs ∨ SqT K H a vs) ∧ Reps K H Z xs vs [] := by
  unfold Nd.itemsF at e
  split at e <;> cases e <;> unfold Rep at r
  · obtain ⟨_, a, vs, rfl, q, rs⟩ := r; exact ⟨a, vs, rfl, .inr q, rs⟩
  · obtain ⟨_, a, vs, rfl, q, rs⟩ := r; exact ⟨a, vs, rfl, .inl (.inl (.inl q.1)), rs⟩
  · obtain ⟨a, vs, _, rfl, q, rs⟩ := r; exact ⟨a, vs, rfl, .inl (.inl (.inl q)), rs⟩
  · obtain ⟨_, a, vs, rfl, q, rs⟩ := r; exact ⟨a, vs, rfl, .inl q.sq, rs⟩
theorem Rep.listF {m : Md} {v : V} {f : List Addr} {xs : List Val} (r : Rep K H Z (.lst m xs) v f) : ∃ a vs g, v = .ref a ∧ SqL K H a vs ∧ Reps K H Z xs vs g := by
  cases m <;> unfold Rep at r
  · obtain ⟨_, a, vs, rfl, q, rs⟩ := r; exact ⟨a, vs, _, rfl, .inl (.inl q.1), rs⟩
  · obtain ⟨a, vs, _, rfl, q, rs⟩ := r; exact ⟨a, vs, _, rfl, .inl (.inl q), rs⟩
  · obtain ⟨a, vs, g, _, rfl, q, rs⟩ := r; exact ⟨a, vs, _, rfl, .inl (.inl q), rs⟩
  · obtain ⟨_, a, vs, rfl, q, rs⟩ := r; exact ⟨a, vs, _, rfl, q.sq, rs⟩
theorem Reps.append : ∀ {xs ys : List Val} {vs ws : List V}, Reps K H Z xs vs [] → Reps K H Z ys ws [] → Reps K H Z (xs ++ ys) (vs ++ ws) []
  | [], ys, vs, ws, r, q => by unfold Reps at r; rw [r.1]; exact q
  | x :: xs, ys, vs, ws, r, q => by
    unfold Reps at r
    obtain ⟨v, vr, g, h, rfl, ef, r1, r2⟩ := r
    obtain ⟨rfl, rfl⟩ : g = [] ∧ h = [] := by simpa using ef.symm
    show Reps K H Z (x :: (xs ++ ys)) (v :: (vr ++ ws)) []
    unfold Reps
    exact ⟨v, _, [], [], rfl, rfl, r1, Reps.append r2 q⟩
theorem Reps.drop : ∀ {xs : List Val} {vs : List V} (n : Nat), Reps K H Z xs vs [] → Reps K H Z (xs.drop n) (vs.drop n) []
  | _, _, 0, r => by simpa using r
  | [], vs, n + 1, r => by unfold Reps at r; rw [r.1]; simp [Reps]
  | x :: xs, vs, n + 1, r => by
    unfold Reps at r
    obtain ⟨v, vr, g, h, rfl, ef, r1, r2⟩ := r
    obtain ⟨rfl, rfl⟩ : g = [] ∧ h = [] := by simpa using ef.symm
    exact Reps.drop n r2
theorem Reps.take : ∀ {xs : List Val} {vs : List V} (n : Nat), Reps K H Z xs vs [] → Reps K H Z (xs.take n) (vs.take n) []
  | xs, vs, 0, r => by simp [Reps]
  | [], vs, n + 1, r => by unfold Reps at r; rw [r.1]; simp [Reps]
  | x :: xs, vs, n + 1, r => by
    unfold Reps at r
    obtain ⟨v, vr, g, h, rfl, ef, r1, r2⟩ := r
    obtain ⟨rfl, rfl⟩ : g = [] ∧ h = [] := by simpa using ef.symm
    show Reps K H Z (x :: xs.take n) (v :: vr.take n) []
    unfold Reps
    exact ⟨v, _, [], [], rfl, rfl, r1, Reps.take n r2⟩
theorem Reps.nil : Reps K H Z [] [] [] := by unfold Reps; exact ⟨rfl, rfl⟩
theorem Reps.mk {x : Val} {xs : List Val} {v : V} {vs : List V} {f g : List Addr} (h : Rep K H Z x v f) (t : Reps K H Z xs vs g) : Reps K H Z (x :: xs) (v :: vs) (f ++ g) := by
  unfold Reps
  exact ⟨v, vs, f, g, rfl, rfl, h, t⟩
theorem Reps.rep : ∀ {xs : List Val} {vs : List V} (n : Nat), Reps K H Z xs vs [] → Reps K H Z (List.replicate n xs).flatten (List.replicate n vs).flatten []
  | _, _, 0, _ => Reps.nil
  | xs, vs, n + 1, r => by
    rw [List.replicate_succ, List.replicate_succ, List.flatten_cons, List.flatten_cons]
    exact Reps.append r (Reps.rep n r)
theorem Reps.rev : ∀ {xs : List Val} {vs : List V}, Reps K H Z xs vs [] → Reps K H Z xs.reverse vs.reverse []
  | [], vs, r => by unfold Reps at r; rw [r.1]; exact Reps.nil
  | x :: xs, vs, r => by
    unfold Reps at r
    obtain ⟨v, vr, g, h, rfl, ef, r1, r2⟩ := r
    obtain ⟨rfl, rfl⟩ : g = [] ∧ h = [] := by simpa using ef.symm
    rw [List.reverse_cons, List.reverse_cons]
    exact Reps.append (Reps.rev r2) (Reps.mk r1 Reps.nil)
theorem Reps.intsL : ∀ {xs : List Val} {vs : List V} {f : List Addr} {ns : List Int}, Reps K H Z xs vs f → intsL xs = some ns → vs = ns.map V.int
  | [], _, _, _, r, e => by unfold Reps at r; simp [Nd.intsL] at e; rw [r.1, e]; rfl
  | x :: xs, vs, f, ns, r, e => by
    unfold Reps at r
    obtain ⟨v, vr, g, h, rfl, ef, r1, r2⟩ := r
    cases x <;> simp only [Nd.intsL, Option.map_eq_some_iff, reduceCtorEq] at e
    obtain ⟨ms, e1, rfl⟩ := e
    rw [r1.1, Reps.intsL r2 e1]
    rfl
theorem Reps.boolsL : ∀ {xs : List Val} {vs : List V} {f : List Addr} {ns : List Bool}, Reps K H Z xs vs f → boolsL xs = some ns → vs = ns.map V.bl
  | [], _, _, _, r, e => by unfold Reps at r; simp [Nd.boolsL] at e; rw [r.1, e]; rfl
  | x :: xs, vs, f, ns, r, e => by
    unfold Reps at r
    obtain ⟨v, vr, g, h, rfl, ef, r1, r2⟩ := r
    cases x <;> simp only [Nd.boolsL, Option.map_eq_some_iff, reduceCtorEq] at e
    obtain ⟨ms, e1, rfl⟩ := e
    rw [r1.1, Reps.boolsL r2 e1]
    rfl
theorem Reps.ofInts : ∀ (ns : List Int), Reps K H Z (ns.map Val.int) (ns.map V.int) []
  | [] => Reps.nil
  | n :: ns => Reps.mk (f := []) (g := []) ⟨rfl, rfl⟩ (Reps.ofInts ns)
/-! ### what is new -/
section
variable {As : List Asn} {Q : VK}
/-- a plain result -/
theorem Good.val {x : Val} {v : V} (h : Good H Z As) (r : Rep K H Z x v []) : Good H Z (rep K v x :: As) := h.new r
/-- a new tuple, a new list -/
theorem Good.newT {xs : List Val} {vs : List V} {p : Addr} (h : Good H Z As) (hp : H p = none) (r : Reps K H Z xs vs []) : Good (upd H p (.tup vs)) Z (rep K (.ref p) (.tup xs) :: As) := by
  refine (h.alloc hp).new ?_
  show Rep K _ Z (.tup xs) (.ref p) []
  unfold Rep
  exact ⟨rfl, p, vs, rfl, .inl (.inl upd_same), Reps.keep (fun _ q => q) _ _ _ (fun a o e _ => by rw [upd_ne (ne_of_none e hp)]; exact e) r⟩
theorem Good.newL {xs : List Val} {vs : List V} {p : Addr} (h : Good H Z As) (hp : H p = none) (r : Reps K H Z xs vs []) : Good (upd H p (.lst vs)) Z (rep K (.ref p) (.lst .ow xs) :: As) := by
  refine h.allocOwn hp ?_
  show Rep K _ Z (.lst .ow xs) (.ref p) [p]
  unfold Rep
  exact ⟨p, vs, rfl, rfl, upd_same, Reps.keep (fun _ q => q) _ _ _ (fun a o e _ => by rw [upd_ne (ne_of_none e hp)]; exact e) r⟩
end

/-! ### operators of two values -/
/-- the reading of an operator whose meaning is f -/
def rB2 (K : PySem.W.Frag) (f : Val → Val → Option Val) : R2 := fun v w H Q => ∃ Z x y r As, Good H Z (rep K v x :: rep K w y :: As) ∧ f x y = some r ∧
  ∀ H' Z' u, Good H' Z' (rep K u r :: rep K v x :: rep K w y :: As) → Q u H'
def opOf : Bop → Operator
  | .add => .Add | .sub => .Sub | .mul => .Mult | .fdiv => .FloorDiv | .mod => .Mod | .pow => .Pow | .shl => .LShift | .shr => .RShift | .band => .BitAnd | .bor => .BitOr | .bxor => .BitXor
end
section
variable {X : Cx}
theorem int_val {K : PySem.W.Frag} {H : Hp} {Z : ZS} {i : Int} {v : V} {f : List Addr} (r : Rep K H Z (.int i) v f) : v = .int i := r.1
theorem bin_int {op : Bop} {i j k : Int} (e : binI op i j = some k) : OpR X (binaryOp (opOf op)) (fun x y H Q => x = .int i ∧ y = .int j ∧ Q (.int k) H) := by
  intro pins s σ H x y v u Q I rx ry h
  obtain ⟨rfl, rfl, q⟩ := h
  cases op <;> simp only [binI, Option.some.injEq, Option.ite_none_right_eq_some] at e
  · exact op_add pins s σ H _ _ v u Q I rx ry ⟨i, j, rfl, rfl, by subst e; exact q⟩
  · exact op_sub pins s σ H _ _ v u Q I rx ry ⟨i, j, rfl, rfl, by subst e; exact q⟩
  · obtain ⟨c, e⟩ := e
    refine op_mul pins s σ H _ _ v u Q I rx ry ⟨i, j, rfl, rfl, ?_, by subst e; exact q⟩
    simp only [small, Bool.or_eq_true, decide_eq_true_eq] at c
    exact c
  · obtain ⟨c, e⟩ := e
    exact op_fdiv pins s σ H _ _ v u Q I rx ry ⟨i, j, rfl, rfl, c, by subst e; exact q⟩
  · obtain ⟨c, e⟩ := e
    exact op_mod pins s σ H _ _ v u Q I rx ry ⟨i, j, rfl, rfl, c, by subst e; exact q⟩
  · obtain ⟨c, e⟩ := e
    exact op_pow pins s σ H _ _ v u Q I rx ry ⟨i, j, rfl, rfl, c, by subst e; exact q⟩
  · obtain ⟨c, e⟩ := e
    exact op_shl pins s σ H _ _ v u Q I rx ry ⟨i, j, rfl, rfl, c, by subst e; exact q⟩
  · obtain ⟨c, e⟩ := e
    exact op_shr pins s σ H _ _ v u Q I rx ry ⟨i, j, rfl, rfl, c, by subst e; exact q⟩
  · exact op_and pins s σ H _ _ v u Q I rx ry ⟨i, j, rfl, rfl, by subst e; exact q⟩
  · exact op_or pins s σ H _ _ v u Q I rx ry ⟨i, j, rfl, rfl, by subst e; exact q⟩
  · exact op_xor pins s σ H _ _ v u Q I rx ry ⟨i, j, rfl, rfl, by subst e; exact q⟩
theorem list_cat {K : PySem.W.Frag} {H : Hp} {Z : ZS} {m : Md} {xs : List Val} {v : V} {f : List Addr} (hm : m = .ow ∨ m = .fz) (r : Rep K H Z (.lst m xs) v f) : ∃ a vs, v = .ref a ∧ H a = some (.lst vs) ∧ Reps K H Z xs vs [] := by
  rcases hm with rfl | rfl <;> unfold Rep at r
  · obtain ⟨a, vs, _, rfl, q, rs⟩ := r; exact ⟨a, vs, rfl, q, rs⟩
  · obtain ⟨_, a, vs, rfl, q, rs⟩ := r; exact ⟨a, vs, rfl, q.1, rs⟩
theorem bin_cat {pins : List (Addr × Obj)} {s : Shared} {σ : Sl} {H : Hp} {v w : V} {u u' : Value} {Q : VK} {Z : ZS} {m m' : Md} {xs ys : List Val} {As : List Asn} (I : Inv X pins σ H s) (rv : RelV v u) (rw' : RelV w u')
    (hm : m = .ow ∨ m = .fz) (hm' : m' = .ow ∨ m' = .fz) (g : Good H Z (rep X.K v (.lst m xs) :: rep X.K w (.lst m' ys) :: As)) (hl : xs.length + ys.length ≤ sizeLine)
    (q : ∀ H' Z' z, Good H' Z' (rep X.K z (.lst .ow (xs ++ ys)) :: rep X.K v (.lst m xs) :: rep X.K w (.lst m' ys) :: As) → Q z H') : wpAny (model X.prog X.w) X.A (binaryOp .Add u u') (EP X pins σ Q) X.xe s := by
  obtain ⟨f, r1⟩ := g.rp
  obtain ⟨f2, r2⟩ := g.rp2
  obtain ⟨a, vs, rfl, ha, rs⟩ := list_cat hm r1
  obtain ⟨b, ws, rfl, hb, rs2⟩ := list_cat hm' r2
  refine op_cat pins s σ H _ _ u u' Q I rv rw' ⟨a, b, vs, ws, rfl, rfl, ha, hb, by rw [rs.len, rs2.len]; exact hl, fun p hp => ?_⟩
  exact q _ _ _ (g.newL hp (Reps.append rs rs2))
theorem op_bin {op : Bop} : OpR X (binaryOp (opOf op)) (rB2 X.K (binV op)) := by
  intro pins s σ H v w u u' Q I rv rw' h
  obtain ⟨Z, x, y, r, As, g, e, q⟩ := h
  obtain ⟨f, r1⟩ := g.rp
  obtain ⟨f2, r2⟩ := g.rp2
  unfold binV at e
  split at e
  · -- ints
    rename_i i j
    simp only [Option.map_eq_some_iff] at e
    obtain ⟨k, e, rfl⟩ := e
    exact bin_int e pins s σ H v w u u' Q I rv rw' ⟨int_val r1, int_val r2, q _ _ _ (g.val ⟨rfl, rfl⟩)⟩
  · -- tuples
    rename_i xs ys
    cases op <;> simp only [Option.ite_none_right_eq_some, Option.some.injEq, reduceCtorEq] at e
    obtain ⟨hl, rfl⟩ := e
    have r1' : Rep X.K H Z (.tup xs) v f := r1
    have r2' : Rep X.K H Z (.tup ys) w f2 := r2
    unfold Rep at r1' r2'
    obtain ⟨_, a, vs, rfl, ha, rs⟩ := r1'
    obtain ⟨_, b, ws, rfl, hb, rs2⟩ := r2'
    refine op_catA pins s σ H _ _ u u' Q I rv rw' ⟨a, b, vs, ws, rfl, rfl, ha, hb, by rw [rs.len, rs2.len]; exact hl, fun hx => ?_, fun hx hy => ?_, fun hx hy p hp => ?_⟩
    · have : xs = [] := by have := rs.len; rw [hx] at this; simpa using this.symm
      subst this
      exact q _ _ _ (g.val (by show Rep X.K H Z (.tup ys) (.ref b) []; unfold Rep; exact ⟨rfl, b, ws, rfl, hb, rs2⟩))
    · have : ys = [] := by have := rs2.len; rw [hy] at this; simpa using this.symm
      subst this
      exact q _ _ _ (g.val (by show Rep X.K H Z (.tup (xs ++ [])) (.ref a) []; rw [List.append_nil]; unfold Rep; exact ⟨rfl, a, vs, rfl, ha, rs⟩))
    · exact q _ _ _ (g.newT hp (Reps.append rs rs2))
  · -- lists
    rename_i m xs m' ys
    split at e <;> simp only [Option.ite_none_right_eq_some, Option.some.injEq, reduceCtorEq] at e
    · obtain ⟨hl, rfl⟩ := e; exact bin_cat I rv rw' (.inl rfl) (.inl rfl) g hl q
    · obtain ⟨hl, rfl⟩ := e; exact bin_cat I rv rw' (.inr rfl) (.inl rfl) g hl q
    · obtain ⟨hl, rfl⟩ := e; exact bin_cat I rv rw' (.inl rfl) (.inr rfl) g hl q
    · obtain ⟨hl, rfl⟩ := e; exact bin_cat I rv rw' (.inr rfl) (.inr rfl) g hl q
  · -- list * int
    rename_i xs k
    cases op <;> simp only [Option.ite_none_right_eq_some, Option.some.injEq, reduceCtorEq] at e
    obtain ⟨⟨h1, h2, h3⟩, rfl⟩ := e
    obtain ⟨a, vs, rfl, ha, rs⟩ := list_cat (.inl rfl) r1
    refine op_rep pins s σ H _ _ u u' Q I rv rw' ⟨a, k, vs, rfl, int_val r2, ha, by omega, by omega, by rw [rs.len]; exact h3, fun p hp => ?_⟩
    exact q _ _ _ (g.newL hp (Reps.rep _ rs))
  · -- texts
    rename_i a b
    cases op <;> simp only [Option.ite_none_right_eq_some, Option.some.injEq, reduceCtorEq] at e
    obtain ⟨hl, rfl⟩ := e
    exact op_add_str pins s σ H _ _ u u' Q I rv rw' ⟨a, b, r1.1, r2.1, hl, q _ _ _ (g.val ⟨rfl, rfl⟩)⟩
  · cases e

/-! ### comparisons -/
def cmpOf : Cop → CmpOp
  | .eq => .Eq | .ne => .NotEq | .lt => .Lt | .le => .LtE | .gt => .Gt | .ge => .GtE | .isN => .Is | .isntN => .IsNot | .inn => .In | .nin => .NotIn
theorem cmp_eq {pins : List (Addr × Obj)} {s : Shared} {σ : Sl} {H : Hp} {v w : V} {u u' : Value} {Q : VK} {Z : ZS} {x y : Val} {f f2 : List Addr} {b : Bool} (hu : X.A.units + 64 < cLine) (I : Inv X pins σ H s) (rv : RelV v u) (rw' : RelV w u')
    (r1 : Rep X.K H Z x v f) (r2 : Rep X.K H Z y w f2) (e : eqV x y = some b) :
    (Q (.bl b) H → wpAny (model X.prog X.w) X.A (compareOp .Eq u u') (EP X pins σ Q) X.xe s) ∧ (Q (.bl (!b)) H → wpAny (model X.prog X.w) X.A (compareOp .NotEq u u') (EP X pins σ Q) X.xe s) := by
  unfold eqV at e
  split at e
  · cases e
    obtain ⟨rfl, _⟩ := r1; obtain ⟨rfl, _⟩ := r2
    exact ⟨fun q => op_eq pins s σ H _ _ u u' Q I rv rw' ⟨rfl, by rw [show decide (V.int _ = V.int _) = decide (_ = _) from decide_eq_decide.mpr ⟨V.int.inj, congrArg V.int⟩]; exact q⟩, fun q => op_ne pins s σ H _ _ u u' Q I rv rw' ⟨rfl, by rw [show decide (V.int _ = V.int _) = decide (_ = _) from decide_eq_decide.mpr ⟨V.int.inj, congrArg V.int⟩]; exact q⟩⟩
  · cases e
    obtain ⟨rfl, _⟩ := r1; obtain ⟨rfl, _⟩ := r2
    exact ⟨fun q => op_eq pins s σ H _ _ u u' Q I rv rw' ⟨rfl, by rw [show decide (V.bl _ = V.bl _) = decide (_ = _) from decide_eq_decide.mpr ⟨V.bl.inj, congrArg V.bl⟩]; exact q⟩, fun q => op_ne pins s σ H _ _ u u' Q I rv rw' ⟨rfl, by rw [show decide (V.bl _ = V.bl _) = decide (_ = _) from decide_eq_decide.mpr ⟨V.bl.inj, congrArg V.bl⟩]; exact q⟩⟩
  · cases e
    obtain ⟨rfl, _⟩ := r1; obtain ⟨rfl, _⟩ := r2
    exact ⟨fun q => op_eq pins s σ H _ _ u u' Q I rv rw' ⟨rfl, by rw [show decide (V.str _ = V.str _) = decide (_ = _) from decide_eq_decide.mpr ⟨V.str.inj, congrArg V.str⟩]; exact q⟩, fun q => op_ne pins s σ H _ _ u u' Q I rv rw' ⟨rfl, by rw [show decide (V.str _ = V.str _) = decide (_ = _) from decide_eq_decide.mpr ⟨V.str.inj, congrArg V.str⟩]; exact q⟩⟩
  · split at e
    · rename_i d d' e1 e2
      simp only [Option.ite_none_right_eq_some, Bool.and_eq_true, Option.some.injEq] at e
      obtain ⟨⟨h1, h2⟩, rfl⟩ := e
      exact ⟨fun q => op_eqD hu pins s σ H _ _ u u' Q I rv rw' ⟨d, d', Rep.dp r1 e1, Rep.dp r2 e2, h1, h2, q⟩, fun q => op_neD hu pins s σ H _ _ u u' Q I rv rw' ⟨d, d', Rep.dp r1 e1, Rep.dp r2 e2, h1, h2, q⟩⟩
    · cases e
end

section
variable {X : Cx}
theorem Rep.flatV {K : PySem.W.Frag} {H : Hp} {Z : ZS} {x : Val} {v : V} {f : List Addr} (r : Rep K H Z x v f) (h : flat x = true) : v = fv x ∧ L2.flatV v = true := by
  cases x <;> simp [flat] at h <;> (unfold Rep at r; obtain ⟨rfl, _⟩ := r; exact ⟨rfl, rfl⟩)
theorem Reps.flatV {K : PySem.W.Frag} {H : Hp} {Z : ZS} : ∀ {xs : List Val} {vs : List V} {f : List Addr}, Reps K H Z xs vs f → xs.all flat = true → vs = xs.map fv ∧ vs.all L2.flatV = true
  | [], vs, f, r, _ => by unfold Reps at r; rw [r.1]; exact ⟨rfl, rfl⟩
  | x :: xs, vs, f, r, h => by
    unfold Reps at r
    obtain ⟨v, vr, g, k, rfl, ef, r1, r2⟩ := r
    simp only [List.all_cons, Bool.and_eq_true] at h
    obtain ⟨e1, e2⟩ := Rep.flatV r1 h.1
    obtain ⟨e3, e4⟩ := Reps.flatV r2 h.2
    exact ⟨by rw [e1, e3]; rfl, by simp [e2, e4]⟩
theorem Rep.itemsR {K : PySem.W.Frag} {H : Hp} {Z : ZS} {x : Val} {v : V} {f : List Addr} {xs : List Val} (r : Rep K H Z x v f) (e : items x = some xs) : ∃ a vs g, v = .ref a ∧ (SqL K H a vs ∨ SqT K H a vs) ∧ Reps K H Z xs vs g := by
  unfold items at e
  split at e <;> cases e
  · unfold Rep at r
    obtain ⟨_, a, vs, rfl, q, rs⟩ := r; exact ⟨a, vs, _, rfl, .inr q, rs⟩
  · obtain ⟨a, vs, g, rfl, q, rs⟩ := r.listF; exact ⟨a, vs, g, rfl, .inl q, rs⟩
theorem cmp_in {pins : List (Addr × Obj)} {s : Shared} {σ : Sl} {H : Hp} {v w : V} {u u' : Value} {Q : VK} {Z : ZS} {x y : Val} {f f2 : List Addr} {b : Bool} (hu : X.A.units + 65 < cLine) (I : Inv X pins σ H s) (rv : RelV v u) (rw' : RelV w u')
    (r1 : Rep X.K H Z x v f) (r2 : Rep X.K H Z y w f2) (e : inV x y = some b) :
    (Q (.bl b) H → wpAny (model X.prog X.w) X.A (compareOp .In u u') (EP X pins σ Q) X.xe s) ∧ (Q (.bl (!b)) H → wpAny (model X.prog X.w) X.A (compareOp .NotIn u u') (EP X pins σ Q) X.xe s) := by
  unfold inV at e
  split at e
  · cases e
  · rename_i ys hys
    split at e
    · rename_i hf
      cases e
      simp only [Bool.and_eq_true] at hf
      obtain ⟨a, vs, g, rfl, q, rs⟩ := Rep.itemsR r2 hys
      obtain ⟨e1, f1⟩ := Rep.flatV r1 hf.1
      obtain ⟨e2, f2⟩ := Reps.flatV rs hf.2
      have ee : (ys.any fun y => L2.eqV (fv y) (fv x)) = L2.inV v vs := by
        unfold L2.inV
        rw [e1, e2, List.any_map]; rfl
      rw [ee]
      exact ⟨fun q' => op_in_seq pins s σ H _ _ u u' Q I rv rw' ⟨a, vs, rfl, q, f1, f2, q'⟩, fun q' => op_notIn_seq pins s σ H _ _ u u' Q I rv rw' ⟨a, vs, rfl, q, f1, f2, q'⟩⟩
    · split at e
      · rename_i m zs d ds e2 e3
        simp only [Option.ite_none_right_eq_some, Bool.and_eq_true, Option.some.injEq] at e
        obtain ⟨⟨h1, h2⟩, rfl⟩ := e
        have r2' : Dp X.K H w (.list ds) := Rep.dp r2 (by simp only [items, Option.some.injEq] at hys; subst hys; simp only [data]; rw [e3]; rfl)
        exact ⟨fun q => op_inD hu pins s σ H _ _ u u' Q I rv rw' ⟨d, ds, Rep.dp r1 e2, r2', h1, h2, q⟩, fun q => op_notInD hu pins s σ H _ _ u u' Q I rv rw' ⟨d, ds, Rep.dp r1 e2, r2', h1, h2, q⟩⟩
      · cases e
theorem Rep.nonIff {K : PySem.W.Frag} {H : Hp} {Z : ZS} {x : Val} {v : V} {f : List Addr} (r : Rep K H Z x v f) (h : x ≠ .und) : (v = .non ↔ x = .non) := by
  cases x with
  | und => exact absurd rfl h
  | lst m xs => obtain ⟨a, vs, g, rfl, _⟩ := r.listF; simp
  | dic m xs => cases m <;> unfold Rep at r <;> first | (obtain ⟨a, vs, g, _, rfl, _⟩ := r; simp; done) | (obtain ⟨_, a, vs, rfl, _⟩ := r; simp; done) | (obtain ⟨a, vs, _, rfl, _⟩ := r; simp; done) | exact r.elim
  | tup xs => unfold Rep at r; obtain ⟨_, a, vs, rfl, _⟩ := r; simp
  | _ => obtain ⟨rfl, _⟩ := r; simp
theorem cmp_is {op : Cop} {v : V} {x y r : Val} {K : PySem.W.Frag} {H : Hp} {Z : ZS} {f : List Addr} (r1 : Rep K H Z x v f) (ho : op = .isN ∨ op = .isntN) (e : cmpV op x y = some r) : y = .non ∧ r = .bl (if op = .isN then decide (v = .non) else !decide (v = .non)) := by
  have hx : x ≠ .und := by
    rintro rfl
    rcases ho with rfl | rfl <;> (cases y <;> simp [cmpV] at e)
  have q := r1.nonIff hx
  have hy : y = .non := by rcases ho with rfl | rfl <;> (cases y <;> simp [cmpV] at e <;> rfl)
  subst hy
  refine ⟨rfl, ?_⟩
  by_cases hn : x = .non
  · subst hn
    have hv := q.mpr rfl
    subst hv
    rcases ho with rfl | rfl <;> simp [cmpV] at e <;> rw [← e] <;> rfl
  · have hv : v ≠ .non := fun z => hn (q.mp z)
    rcases ho with rfl | rfl
    · have : cmpV .isN x .non = some (.bl false) := by cases x <;> first | rfl | exact absurd rfl hx | exact absurd rfl hn
      rw [this] at e; cases e
      simp [hv]
    · have : cmpV .isntN x .non = some (.bl true) := by cases x <;> first | rfl | exact absurd rfl hx | exact absurd rfl hn
      rw [this] at e; cases e
      simp [hv]
theorem cmp_lt {op : Cop} {x y r : Val} (ho : op = .lt ∨ op = .le ∨ op = .gt ∨ op = .ge) (e : cmpV op x y = some r) : ∃ i j b, x = .int i ∧ y = .int j ∧ cmpI op i j = some b ∧ r = .bl b := by
  rcases ho with rfl | rfl | rfl | rfl <;> (cases x <;> cases y <;> simp only [cmpV, reduceCtorEq, Option.map_eq_some_iff] at e) <;> (obtain ⟨b, e1, e2⟩ := e; exact ⟨_, _, b, rfl, rfl, e1, e2.symm⟩)
theorem op_cmp {op : Cop} (hu : X.A.units + 65 < cLine) : OpR X (compareOp (cmpOf op)) (rB2 X.K (cmpV op)) := by
  intro pins s σ H v w u u' Q I rv rw' h
  obtain ⟨Z, x, y, r, As, g, e, q⟩ := h
  obtain ⟨f, r1⟩ := g.rp
  obtain ⟨f2, r2⟩ := g.rp2
  have fin : ∀ b, r = .bl b → Q (.bl b) H := fun b hb => by subst hb; exact q _ _ _ (g.val ⟨rfl, rfl⟩)
  cases op with
  | eq =>
    simp only [cmpV, Option.map_eq_some_iff] at e
    obtain ⟨b, e, rfl⟩ := e
    exact (cmp_eq (by omega) I rv rw' r1 r2 e).1 (fin _ rfl)
  | ne =>
    simp only [cmpV, Option.map_eq_some_iff] at e
    obtain ⟨b, e, rfl⟩ := e
    exact (cmp_eq (by omega) I rv rw' r1 r2 e).2 (fin _ rfl)
  | inn =>
    simp only [cmpV, Option.map_eq_some_iff] at e
    obtain ⟨b, e, rfl⟩ := e
    exact (cmp_in hu I rv rw' r1 r2 e).1 (fin _ rfl)
  | nin =>
    simp only [cmpV, Option.map_eq_some_iff] at e
    obtain ⟨b, e, rfl⟩ := e
    exact (cmp_in hu I rv rw' r1 r2 e).2 (fin _ rfl)
  | isN =>
    obtain ⟨rfl, hr⟩ := cmp_is r1 (.inl rfl) e
    exact op_isN pins s σ H _ _ u u' Q I rv rw' ⟨r2.1, fin _ hr⟩
  | isntN =>
    obtain ⟨rfl, hr⟩ := cmp_is r1 (.inr rfl) e
    exact op_notN pins s σ H _ _ u u' Q I rv rw' ⟨r2.1, fin _ hr⟩
  | lt =>
    obtain ⟨i, j, b, rfl, rfl, hb, hr⟩ := cmp_lt (.inl rfl) e
    cases hb
    exact op_lt pins s σ H _ _ u u' Q I rv rw' ⟨i, j, r1.1, r2.1, fin _ hr⟩
  | le =>
    obtain ⟨i, j, b, rfl, rfl, hb, hr⟩ := cmp_lt (.inr (.inl rfl)) e
    cases hb
    exact op_le pins s σ H _ _ u u' Q I rv rw' ⟨i, j, r1.1, r2.1, fin _ hr⟩
  | gt =>
    obtain ⟨i, j, b, rfl, rfl, hb, hr⟩ := cmp_lt (.inr (.inr (.inl rfl))) e
    cases hb
    exact op_gt pins s σ H _ _ u u' Q I rv rw' ⟨i, j, r1.1, r2.1, fin _ hr⟩
  | ge =>
    obtain ⟨i, j, b, rfl, rfl, hb, hr⟩ := cmp_lt (.inr (.inr (.inr rfl))) e
    cases hb
    exact op_ge pins s σ H _ _ u u' Q I rv rw' ⟨i, j, r1.1, r2.1, fin _ hr⟩
end
end Nd

/-! NdE: readings made of what a piece does; arguments; the plain rules. -/
namespace Nd
open PySem PySem.Spec PyProof.Rows L2

abbrev XRT := Exn → Value → Option Addr → Hp → ZS → Prop
section
variable (K : PySem.W.Frag) (XR : XRT) (W : WX)
/-- what is wanted of an error -/
def Px (σ : Sl) (T : List Asn) : Exn → List Val → Prop := fun x e' => ∀ H' Z' c d, Good H' Z' (envA K σ e' ++ T) → XR x c d H' Z' → W c d σ H'
def tE (m : M Val) : TE := fun σ H Q => ∃ Z T e, Good H Z (envA K σ e ++ T) ∧ OutP (m e) (fun r e' => ∀ H' Z' v, Good H' Z' (rep K v r :: (envA K σ e' ++ T)) → Q v H') (Px K XR W σ T)
def tG (m : M (Val × Tk)) : TE := fun σ H Q => ∃ Z T e, Good H Z (envA K σ e ++ T) ∧ OutP (m e) (fun p e' => ∀ H' Z' v, Good H' Z' (argA K σ v p ++ (envA K σ e' ++ T)) → Q v H') (Px K XR W σ T)
def tGs (m : M (List (Val × Tk))) : TA := fun σ H Q => ∃ Z T e, Good H Z (envA K σ e ++ T) ∧ OutP (m e) (fun ps e' => ∀ H' Z' vs, Good H' Z' (argsA K σ vs ps ++ (envA K σ e' ++ T)) → Q vs H') (Px K XR W σ T)
def tX (m : M (List Val)) : TA := fun σ H Q => ∃ Z T e, Good H Z (envA K σ e ++ T) ∧ OutP (m e) (fun xs e' => ∀ H' Z' vs, Good H' Z' (reps K vs xs ++ (envA K σ e' ++ T)) → Q vs H') (Px K XR W σ T)
def tB1 (m : M Bool) : TT := fun σ H Q => ∃ Z T e, Good H Z (envA K σ e ++ T) ∧ OutP (m e) (fun b e' => ∀ H' Z', Good H' Z' (envA K σ e' ++ T) → Q b H') (Px K XR W σ T)
end
section
variable {X : Cx} {e : Expr}
theorem PE_imp {t t' : TE} (h : PE X e t) (k : ∀ σ H Q, t' σ H Q → t σ H Q) : PE X e t' := ⟨fun pins s σ H Q I q => h.run pins s σ H Q I (k _ _ _ q)⟩
theorem PE_or {t t' : TE} (h : PE X e t) (h' : PE X e t') : PE X e (fun σ H Q => t σ H Q ∨ t' σ H Q) := ⟨fun pins s σ H Q I q => q.elim (h.run pins s σ H Q I) (h'.run pins s σ H Q I)⟩
theorem PT_imp {t t' : TT} (h : PT X e t) (k : ∀ σ H Q, t' σ H Q → t σ H Q) : PT X e t' := ⟨fun pins s σ H Q I q => h.run pins s σ H Q I (k _ _ _ q)⟩
theorem PA_imp {es : List Expr} {t t' : TA} (h : PA X es t) (k : ∀ σ H Q, t' σ H Q → t σ H Q) : PA X es t' := ⟨fun pos pins s σ H Q I q => h.run pos pins s σ H Q I (k _ _ _ q)⟩
end
section
variable {K : PySem.W.Frag} {XR : XRT} {W : WX} {σ : Sl} {T T' : List Asn} {H H' : Hp} {Z : ZS}
theorem Px.mono {x : Exn} {e : List Val} (h : Px K XR W σ T x e) (k : ∀ H Z e, Good H Z (envA K σ e ++ T') → Good H Z (envA K σ e ++ T)) : Px K XR W σ T' x e := fun H' Z' c d g r => h H' Z' c d (k _ _ _ g) r
theorem Px.drop {x : Exn} {e : List Val} {Bs : List Asn} (h : Px K XR W σ T x e) : Px K XR W σ (Bs ++ T) x e := h.mono fun H Z e g => by
  have : Good H Z (Bs ++ (envA K σ e ++ T)) := g.perm (by
    rw [← List.append_assoc, ← List.append_assoc]
    exact List.perm_append_comm.append_right T)
  exact Good.dropL this
theorem perm_mid {A B C : List Asn} : (A ++ (B ++ C)).Perm (B ++ (A ++ C)) := by
  rw [← List.append_assoc, ← List.append_assoc]
  exact List.perm_append_comm.append_right C
theorem Good.mid {As Bs Cs : List Asn} (g : Good H Z (As ++ (Bs ++ Cs))) : Good H Z (Bs ++ (As ++ Cs)) := g.perm perm_mid
/-- a slot's own object, seen -/
theorem OutP.det {α : Type} {o : Out α} {Q : α → List Val → Prop} {E : Exn → List Val → Prop} (h : OutP o Q E) : (∃ a e, o = .ok a e ∧ Q a e) ∨ (∃ x e, o = .exc x e ∧ E x e) := by
  cases o with
  | ok a e => exact .inl ⟨a, e, rfl, h⟩
  | exc x e => exact .inr ⟨x, e, rfl, h⟩
  | stuck => exact h.elim

/-- taking: what it leaves -/
theorem Good.take {e : List Val} {i : Nat} (g : Good H Z (envA K σ e ++ T)) {p : Val × Tk} {e' : List Val} (h : takeS i e = .ok p e') : ∃ v, σ[i]? = some (some v) ∧ Good H Z (argA K σ v p ++ (envA K σ e' ++ T)) := by
  unfold takeS at h
  split at h
  · cases h
  · cases h
  · rename_i x hu hx
    obtain ⟨v, hs, g1⟩ := g.getS hx hu
    split at h
    · cases h
      refine ⟨v, hs, ?_⟩
      show Good H Z (rep K v x :: slotA σ i v :: (envA K σ (e.set i .und) ++ T))
      exact (g1.mkFact hs).perm (List.Perm.swap _ _ _)
    · rename_i hh
      cases h
      refine ⟨v, hs, ?_⟩
      have g2 : Good H Z (rep K v x :: (rep K v x :: (envA K σ (e.set i .und) ++ T))) := g1.dup (by simpa using hh)
      have g3 : Good H Z (rep K v x :: (envA K σ (e.set i .und) ++ (rep K v x :: T))) := g2.perm (List.Perm.cons _ List.perm_middle.symm)
      have g4 := g3.putS hs
      rw [List.set_set, set_same hx] at g4
      show Good H Z (rep K v x :: (envA K σ e ++ T))
      exact g4.perm List.perm_middle
theorem takeS_noexc {i : Nat} {e e' : List Val} {x : Exn} : takeS i e ≠ .exc x e' := by
  unfold takeS
  split <;> try simp
  split <;> simp
theorem tG_mv {i : Nat} {x : Str} {pos : Pos} {X : Cx} (hN : X.N[i]? = some x) (hv : Vis X.env.scope x) (hd : (x == ("__debug__" : Str)) = false) (hcd : (x == ("__classdict__" : Str)) = false) : PE X (.Name x pos) (tG X.K XR W (takeS i)) := by
  refine PE_imp (pe_var hN hv hd hcd) fun σ H Q ⟨Z, T, e, g, h⟩ => ?_
  rcases h.det with ⟨p, e', h1, h2⟩ | ⟨x, e', h1, _⟩
  · obtain ⟨v, hs, g1⟩ := g.take h1
    exact ⟨v, hs, h2 _ _ _ g1⟩
  · exact (takeS_noexc h1).elim
theorem tE_var {i : Nat} {x : Str} {pos : Pos} {X : Cx} (hN : X.N[i]? = some x) (hv : Vis X.env.scope x) (hd : (x == ("__debug__" : Str)) = false) (hcd : (x == ("__classdict__" : Str)) = false) : PE X (.Name x pos) (tE X.K XR W (readS i)) := by
  refine PE_imp (pe_var hN hv hd hcd) fun σ H Q ⟨Z, T, e, g, h⟩ => ?_
  unfold readS at h
  split at h
  · exact h.elim
  · rename_i y hy
    split at h
    · exact h.elim
    · rename_i z hz
      have h' : ∀ H' Z' v, Good H' Z' (rep X.K v z :: (envA X.K σ (if held y then e.set i z else e) ++ T)) → Q v H' := h
      have hu := frz_und hz
      obtain ⟨v, hs, g1⟩ := g.getS hy hu.1
      obtain ⟨Z1, hZ, g2⟩ := g1.letgo hz
      refine ⟨v, hs, h' _ Z1 _ ?_⟩
      have g3 : Good H Z1 (rep X.K v z :: (envA X.K σ (e.set i .und) ++ (rep X.K v z :: T))) := (g2.dup (frz_free hz)).perm (List.Perm.cons _ List.perm_middle.symm)
      have g4 := g3.putS hs
      rw [List.set_set] at g4
      have g5 : Good H Z1 (rep X.K v z :: (envA X.K σ (e.set i z) ++ T)) := g4.perm List.perm_middle
      split
      · exact g5
      · rename_i hh
        have : z = y := frz_held hz (by simpa using hh)
        subst this
        rw [set_same hy] at g5
        exact g5
theorem tE_mov {i : Nat} {x : Str} {pos : Pos} {X : Cx} (hN : X.N[i]? = some x) (hv : Vis X.env.scope x) (hd : (x == ("__debug__" : Str)) = false) (hcd : (x == ("__classdict__" : Str)) = false) : PE X (.Name x pos) (tE X.K XR W (moveS i)) := by
  refine PE_imp (pe_var hN hv hd hcd) fun σ H Q ⟨Z, T, e, g, h⟩ => ?_
  unfold moveS at h
  split at h
  · exact h.elim
  · exact h.elim
  · rename_i y hu hy
    have h' : ∀ H' Z' v, Good H' Z' (rep X.K v y :: (envA X.K σ (if held y then e.set i .und else e) ++ T)) → Q v H' := h
    obtain ⟨v, hs, g1⟩ := g.getS hy hu
    refine ⟨v, hs, h' _ Z _ ?_⟩
    split
    · exact g1
    · rename_i hh
      have g3 : Good H Z (rep X.K v y :: (envA X.K σ (e.set i .und) ++ (rep X.K v y :: T))) := (g1.dup (by simpa using hh)).perm (List.Perm.cons _ List.perm_middle.symm)
      have g4 := g3.putS hs
      rw [List.set_set, set_same hy] at g4
      exact g4.perm List.perm_middle
/-- from a value to an argument -/
theorem tG_v {m : M Val} {X : Cx} {ex : Expr} (h : PE X ex (tE X.K XR W m)) : PE X ex (tG X.K XR W (bindM m fun x => pureM (x, .no))) := by
  refine PE_imp h fun σ H Q ⟨Z, T, e, g, q⟩ => ⟨Z, T, e, g, ?_⟩
  rw [outP_bind] at q
  exact q.imp (fun a e' k => k) fun _ _ k => k
theorem atI_of {α β : Type} {xs : List α} {ys : List β} (h : ys.length = xs.length) {j : Int} {x : α} (e : atI xs j = some x) : ∃ n, ixN xs.length j = some n ∧ xs[n]? = some x ∧ ixN ys.length j = some n := by
  unfold atI at e
  cases q : ixN xs.length j with
  | none => rw [q] at e; cases e
  | some n => rw [q] at e; exact ⟨n, rfl, e, by rw [h]; exact q⟩
theorem atI_n {β : Type} {ys : List β} {n : Nat} {j : Int} {y : β} (h : ixN ys.length j = some n) (e : ys[n]? = some y) : atI ys j = some y := by
  unfold atI
  rw [h]
  exact e
/-- an item of what stands in a slot, as an argument -/
theorem tG_mx {i : Nat} {m : M Val} {x : Str} {p2 pos : Pos} {X : Cx} {ix : Expr} (hN : X.N[i]? = some x) (hv : Vis X.env.scope x) (hd : (x == ("__debug__" : Str)) = false) (hcd : (x == ("__classdict__" : Str)) = false) (hi : PE X ix (tE X.K XR W m)) (hs : PlainIx ix) :
    PE X (.Subscript (.Name x p2) ix pos) (tG X.K XR W (bindM (peekS i) fun _ => bindM m fun y => takeI i y)) := by
  refine PE_imp (pe_ix (IxR.or ix_list ix_tup) (pe_var hN hv hd hcd) hi hs) fun σ H Q ⟨Z, T, e, g, h⟩ => ?_
  rw [outP_bind] at h
  -- the slot is there
  have h0 : ∃ v0, σ[i]? = some (some v0) ∧ OutP (bindM m (fun y => takeI i y) e) (fun p e' => ∀ H' Z' v, Good H' Z' (argA X.K σ v p ++ (envA X.K σ e' ++ T)) → Q v H') (Px X.K XR W σ T) := by
    unfold peekS at h
    split at h
    · exact h.elim
    · exact h.elim
    · rename_i y hu hy
      obtain ⟨v, hs, _⟩ := g.getS hy hu
      exact ⟨v, hs, h⟩
  obtain ⟨v0, hs0, h1⟩ := h0
  rw [outP_bind] at h1
  refine ⟨v0, hs0, Z, T, e, g, h1.imp (fun y e1 k H1 Z1 w g1 => ?_) fun _ _ k => k⟩
  obtain ⟨_, r1⟩ := g1.rp
  have g1' := g1.drop
  unfold takeI at k
  split at k
  · rename_i j
    have hw : w = .int j := r1.1
    subst hw
    split at k
    · -- ne
      rename_i xs hx
      split at k
      · rename_i n hn
        split at k
        · exact k.elim
        · exact k.elim
        · rename_i x1 hu1 hx1
          obtain ⟨v, hs1, g2⟩ := g1'.getS hx (by simp)
          rw [hs0] at hs1; cases hs1
          obtain ⟨f, F, rr, s2, nd, z, zn⟩ := g2.out
          have rr' : Rep X.K H1 Z1 (.lst .ne xs) v0 f := rr
          unfold Rep at rr'
          obtain ⟨a, vs, gg, rfl, rfl, hH, rs⟩ := rr'
          obtain ⟨u, f1, f2, hu2, ru, rs2, pp⟩ := Reps.pick rs hx1
          have hl := rs.len
          have hat : atI vs j = some u := atI_n (by rw [hl]; exact hn) hu2
          refine .inl ⟨a, vs, j, u, rfl, rfl, .inl (.inl hH), hat, ?_⟩
          split at k
          · -- held
            refine k _ Z1 _ ?_
            show Good H1 Z1 (rep X.K u x1 :: holeA X.K σ i xs n u :: (envA X.K σ (e1.set i .und) ++ T))
            have p2 : ((a :: gg) ++ F).Perm (f1 ++ ((a :: f2) ++ F)) := by
              have e1 : ((a :: gg) ++ F).Perm (a :: (f1 ++ f2) ++ F) := (List.Perm.cons a pp).append_right F
              refine e1.trans ?_
              have : f1 ++ ((a :: f2) ++ F) = f1 ++ a :: (f2 ++ F) := by simp
              rw [this]
              refine List.Perm.trans ?_ List.perm_middle.symm
              simp
            exact ⟨f1 ++ ((a :: f2) ++ F), ⟨f1, (a :: f2) ++ F, rfl, ru, a :: f2, F, rfl, ⟨a, vs, f2, rfl, hs0, hH, hu2, rs2⟩, s2⟩, p2.nodup_iff.mp nd, fun b hb => z b (p2.mem_iff.mpr hb), zn⟩
          · rename_i hh
            refine k _ Z1 _ ?_
            have : f1 = [] := Rep.freeOf (by simpa using hh) ru
            subst this
            exact g1'.new ru
      · exact k.elim
    · rename_i xs hx
      split at k
      · exact k.elim
      · rename_i x1 hu1 hat1
        obtain ⟨v, hs1, g2⟩ := g1'.getS hx (by simp)
        rw [hs0] at hs1; cases hs1
        obtain ⟨f, rr⟩ := g2.rp
        unfold Rep at rr
        obtain ⟨_, a, vs, rfl, hq, rs⟩ := rr
        obtain ⟨n, q1, q2, q3⟩ := atI_of rs.len hat1
        obtain ⟨u, q4, ru⟩ := Reps.get rs q2
        exact .inl ⟨a, vs, j, u, rfl, rfl, .inl (.inl hq.1), atI_n q3 q4, k _ Z1 _ (g1'.new ru)⟩
      · exact k.elim
    · rename_i xs hx
      split at k
      · exact k.elim
      · rename_i x1 hu1 hat1
        obtain ⟨v, hs1, g2⟩ := g1'.getS hx (by simp)
        rw [hs0] at hs1; cases hs1
        obtain ⟨f, rr⟩ := g2.rp
        unfold Rep at rr
        obtain ⟨a, vs, _, rfl, hq, rs⟩ := rr
        obtain ⟨n, q1, q2, q3⟩ := atI_of rs.len hat1
        obtain ⟨u, q4, ru⟩ := Reps.get rs q2
        exact .inl ⟨a, vs, j, u, rfl, rfl, .inl (.inl hq), atI_n q3 q4, k _ Z1 _ (g1'.new ru)⟩
      · exact k.elim
    · rename_i xs hx
      split at k
      · exact k.elim
      · rename_i x1 hu1 hat1
        obtain ⟨v, hs1, g2⟩ := g1'.getS hx (by simp)
        rw [hs0] at hs1; cases hs1
        obtain ⟨f, rr⟩ := g2.rp
        unfold Rep at rr
        obtain ⟨_, a, vs, rfl, hq, rs⟩ := rr
        obtain ⟨n, q1, q2, q3⟩ := atI_of rs.len hat1
        obtain ⟨u, q4, ru⟩ := Reps.get rs q2
        exact .inr ⟨a, vs, j, u, rfl, rfl, hq, atI_n q3 q4, k _ Z1 _ (g1'.new ru)⟩
      · exact k.elim
    · exact k.elim
  · exact k.elim

/-- all given back -/
theorem Good.plugs : ∀ {ps : List (Val × Tk)} {vs : List V} {xs : List Val} {e : List Val}, xs.length = ps.length → Good H Z (argsA K σ vs ((ps.zip xs).map fun q => (q.2, q.1.2)) ++ (envA K σ e ++ T)) → ∃ e', plugs ps xs e = .ok () e' ∧ Good H Z (envA K σ e' ++ T)
  | [], vs, [], e, _, g => ⟨e, rfl, by
      cases vs with
      | nil => exact g
      | cons v vs => exact (g.noNever (by simp [argsA])).elim⟩
  | [], _, _ :: _, _, hl, _ => by simp at hl
  | _ :: _, _, [], _, hl, _ => by simp at hl
  | p :: ps, [], x :: xs, e, hl, g => (g.noNever (by simp [argsA])).elim
  | p :: ps, v :: vs, x :: xs, e, hl, g => by
    have g1 : Good H Z (rep K v x :: (tkA K σ v p.2 ++ (envA K σ e ++ (argsA K σ vs ((ps.zip xs).map fun q => (q.2, q.1.2)) ++ T)))) := by
      refine g.perm ?_
      show (rep K v x :: (tkA K σ v p.2 ++ argsA K σ vs ((ps.zip xs).map fun q => (q.2, q.1.2))) ++ (envA K σ e ++ T)).Perm _
      refine List.Perm.cons _ ?_
      show ((tkA K σ v p.2 ++ argsA K σ vs ((ps.zip xs).map fun q => (q.2, q.1.2))) ++ (envA K σ e ++ T)).Perm _
      rw [List.append_assoc]
      exact List.Perm.append_left _ perm_mid
    obtain ⟨e1, q1, g2⟩ := g1.plug
    obtain ⟨e2, q2, g3⟩ := Good.plugs (by simpa using hl) g2.mid
    refine ⟨e2, ?_, g3⟩
    unfold Nd.plugs bindM
    rw [q1]
    exact q2
theorem zip_id (ps : List (Val × Tk)) : ((ps.zip (ps.map (·.1))).map fun q => (q.2, q.1.2)) = ps := by
  induction ps with
  | nil => rfl
  | cons p ps ih => simp [ih]
theorem Good.plugsId {ps : List (Val × Tk)} {vs : List V} {e : List Val} (g : Good H Z (argsA K σ vs ps ++ (envA K σ e ++ T))) : ∃ e', Nd.plugs ps (ps.map (·.1)) e = .ok () e' ∧ Good H Z (envA K σ e' ++ T) :=
  Good.plugs (by simp) (vs := vs) (by rw [zip_id]; exact g)
end
end Nd

/-! NdF: the rules of expressions. -/
namespace Nd
open PySem PySem.Spec PyProof.Rows L2

/-! ### arrangements -/
open Classical in
noncomputable def one (a b : Asn) : Nat := if a = b then 1 else 0
noncomputable def cnt (a : Asn) : List Asn → Nat
  | [] => 0
  | b :: l => one a b + cnt a l
theorem cnt_nil {a : Asn} : cnt a [] = 0 := rfl
theorem cnt_cons {a b : Asn} {l : List Asn} : cnt a (b :: l) = one a b + cnt a l := rfl
theorem cnt_append {a : Asn} : ∀ {l m : List Asn}, cnt a (l ++ m) = cnt a l + cnt a m
  | [], m => by simp [cnt]
  | b :: l, m => by show one a b + cnt a (l ++ m) = _; rw [cnt_append, cnt_cons, Nat.add_assoc]
theorem permC {l m : List Asn} (h : ∀ a, cnt a l = cnt a m) : l.Perm m := by
  classical
  have : ∀ (l : List Asn) (a : Asn), List.count a l = cnt a l := by
    intro l a
    induction l with
    | nil => rfl
    | cons b l ih =>
      rw [List.count_cons, ih, cnt_cons, Nat.add_comm]
      congr 1
      unfold one
      by_cases e : b = a
      · subst e; simp
      · have : ¬ a = b := fun z => e z.symm
        simp [e, this]
  exact List.perm_iff_count.mpr fun a => by rw [this, this]; exact h a

section
variable {XR : XRT} {W : WX} {X : Cx}
section
variable {K : PySem.W.Frag} {σ : Sl} {H : Hp} {Q : VK}
theorem Px.dropA {T : List Asn} {v : V} {p : Val × Tk} {x : Exn} {e : List Val} (h : Px K XR W σ T x e) : Px K XR W σ (argA K σ v p ++ T) x e := h.drop
/-- two arguments, then f -/
theorem two_ok {f : Val → Val → Option Val} {ma mb : M (Val × Tk)} (h : tE K XR W (bindM ma fun p => bindM mb fun q => bindM (liftM (f p.1 q.1)) fun r => bindM (plugs [p, q] [p.1, q.1]) fun _ => pureM r) σ H Q) : tOp (rB2 K f) (tG K XR W ma) (tG K XR W mb) σ H Q := by
  obtain ⟨Z, T, e, g, h⟩ := h
  rw [outP_bind] at h
  refine ⟨Z, T, e, g, h.imp (fun p e1 k H1 Z1 v g1 => ?_) fun _ _ k => k⟩
  rw [outP_bind] at k
  refine ⟨Z1, argA K σ v p ++ T, e1, g1.mid, k.imp (fun q e2 k2 H2 Z2 w g2 => ?_) fun _ _ k => k.dropA⟩
  rw [outP_bind, outP_lift] at k2
  obtain ⟨r, er, k2⟩ := k2
  refine ⟨Z2, p.1, q.1, r, tkA K σ v p.2 ++ (tkA K σ w q.2 ++ (envA K σ e2 ++ T)), g2.perm (permC fun a => by simp only [cnt_cons, cnt_append, cnt_nil, argA]; omega), er, fun H' Z' u g' => ?_⟩
  have g3 : Good H' Z' (argsA K σ [v, w] [p, q] ++ (envA K σ e2 ++ (rep K u r :: T))) := g'.perm (permC fun a => by simp only [cnt_cons, cnt_append, cnt_nil, argA, argsA]; omega)
  obtain ⟨e3, q1, g4⟩ := g3.plugsId
  rw [outP_bind] at k2
  have q1' : plugs [p, q] [p.1, q.1] e2 = .ok () e3 := q1
  rw [q1'] at k2
  exact k2 H' Z' u (g4.perm (permC fun a => by simp only [cnt_cons, cnt_append, cnt_nil]; omega))
end
theorem tE_bin {op : Bop} {a b : Expr} {ma mb : M (Val × Tk)} {pos : Pos} (ha : PE X a (tG X.K XR W ma)) (hb : PE X b (tG X.K XR W mb)) :
    PE X (.BinOp a (opOf op) b pos) (tE X.K XR W (bindM ma fun p => bindM mb fun q => bindM (liftM (binV op p.1 q.1)) fun r => bindM (plugs [p, q] [p.1, q.1]) fun _ => pureM r)) :=
  PE_imp (pe_op op_bin ha hb) fun σ H Q h => two_ok h
theorem tE_cmp {op : Cop} {a b : Expr} {ma mb : M (Val × Tk)} {pos : Pos} (hu : X.A.units + 65 < cLine) (ha : PE X a (tG X.K XR W ma)) (hb : PE X b (tG X.K XR W mb)) (hm : behindInMarks (cmpOf op) b = false) :
    PE X (.Compare a [cmpOf op] [b] pos) (tE X.K XR W (bindM ma fun p => bindM mb fun q => bindM (liftM (cmpV op p.1 q.1)) fun r => bindM (plugs [p, q] [p.1, q.1]) fun _ => pureM r)) :=
  PE_imp (pe_cmpR (op_cmp hu) ha hb hm) fun σ H Q h => two_ok h
theorem cmpV_bl {op : Cop} {x y r : Val} (e : cmpV op x y = some r) : ∃ b, r = .bl b := by
  cases op with
  | eq => simp only [cmpV, Option.map_eq_some_iff] at e; obtain ⟨b, _, rfl⟩ := e; exact ⟨b, rfl⟩
  | ne => simp only [cmpV, Option.map_eq_some_iff] at e; obtain ⟨b, _, rfl⟩ := e; exact ⟨_, rfl⟩
  | inn => simp only [cmpV, Option.map_eq_some_iff] at e; obtain ⟨b, _, rfl⟩ := e; exact ⟨b, rfl⟩
  | nin => simp only [cmpV, Option.map_eq_some_iff] at e; obtain ⟨b, _, rfl⟩ := e; exact ⟨_, rfl⟩
  | isN => cases y <;> simp only [cmpV, reduceCtorEq] at e; cases x <;> simp at e <;> exact ⟨_, e.symm⟩
  | isntN => cases y <;> simp only [cmpV, reduceCtorEq] at e; cases x <;> simp at e <;> exact ⟨_, e.symm⟩
  | lt => obtain ⟨_, _, b, _, _, _, h⟩ := cmp_lt (.inl rfl) e; exact ⟨b, h⟩
  | le => obtain ⟨_, _, b, _, _, _, h⟩ := cmp_lt (.inr (.inl rfl)) e; exact ⟨b, h⟩
  | gt => obtain ⟨_, _, b, _, _, _, h⟩ := cmp_lt (.inr (.inr (.inl rfl))) e; exact ⟨b, h⟩
  | ge => obtain ⟨_, _, b, _, _, _, h⟩ := cmp_lt (.inr (.inr (.inr rfl))) e; exact ⟨b, h⟩
/-- a < b < c -/
theorem tE_chain {op op' : Cop} {a b c : Expr} {ma mb mc : M (Val × Tk)} {pos : Pos} (hu : X.A.units + 65 < cLine) (ha : PE X a (tG X.K XR W ma)) (hb : PE X b (tG X.K XR W mb)) (hc : PE X c (tG X.K XR W mc)) (hl : lastMarks [cmpOf op, cmpOf op'] [b, c] = false) :
    PE X (.Compare a [cmpOf op, cmpOf op'] [b, c] pos) (tE X.K XR W (bindM ma fun p => bindM mb fun q => bindM (liftM (cmpV op p.1 q.1)) fun r => match r with
    | .bl true => bindM mc fun w => bindM (liftM (cmpV op' q.1 w.1)) fun r' => bindM (plugs [p, q, w] [p.1, q.1, w.1]) fun _ => pureM r'
    | .bl false => bindM (plugs [p, q] [p.1, q.1]) fun _ => pureM (.bl false)
    | _ => fun _ => .stuck)) := by
  refine PE_imp (pe_chain (op_cmp hu) (op_cmp hu) ha hb hc hl) fun σ H Q ⟨Z, T, e, g, h⟩ => ?_
  rw [outP_bind] at h
  refine ⟨Z, T, e, g, h.imp (fun p e1 k H1 Z1 v g1 => ?_) fun _ _ k => k⟩
  rw [outP_bind] at k
  refine ⟨Z1, argA X.K σ v p ++ T, e1, g1.mid, k.imp (fun q e2 k2 H2 Z2 w g2 => ?_) fun _ _ k => k.dropA⟩
  rw [outP_bind, outP_lift] at k2
  obtain ⟨r, er, k2⟩ := k2
  obtain ⟨b1, rfl⟩ := cmpV_bl er
  refine ⟨Z2, p.1, q.1, .bl b1, tkA X.K σ v p.2 ++ (tkA X.K σ w q.2 ++ (envA X.K σ e2 ++ T)), g2.perm (permC fun a => by simp only [cnt_cons, cnt_append, cnt_nil, argA]; omega), er, fun H' Z' u g' => ?_⟩
  obtain ⟨_, ru⟩ := g'.rp
  have hu' : u = .bl b1 := ru.1
  subst hu'
  refine ⟨b1, rfl, ?_⟩
  cases b1 with
  | true =>
    rw [if_pos rfl]
    have k3 : OutP (bindM mc (fun w => bindM (liftM (cmpV op' q.1 w.1)) fun r' => bindM (plugs [p, q, w] [p.1, q.1, w.1]) fun _ => pureM r') e2) (fun r e' => ∀ H' Z' v, Good H' Z' (rep X.K v r :: (envA X.K σ e' ++ T)) → Q v H') (Px X.K XR W σ T) := k2
    rw [outP_bind] at k3
    refine ⟨Z', argA X.K σ v p ++ (argA X.K σ w q ++ T), e2, g'.drop.perm (permC fun a => by simp only [cnt_cons, cnt_append, cnt_nil, argA]; omega), k3.imp (fun s e3 k4 H3 Z3 t g3 => ?_) fun _ _ k => (k.dropA).dropA⟩
    rw [outP_bind, outP_lift] at k4
    obtain ⟨r', er', k4⟩ := k4
    refine ⟨Z3, q.1, s.1, r', rep X.K v p.1 :: (tkA X.K σ v p.2 ++ (tkA X.K σ w q.2 ++ (tkA X.K σ t s.2 ++ (envA X.K σ e3 ++ T)))), g3.perm (permC fun a => by simp only [cnt_cons, cnt_append, cnt_nil, argA]; omega), er', fun H4 Z4 u g4 => ?_⟩
    have g5 : Good H4 Z4 (argsA X.K σ [v, w, t] [p, q, s] ++ (envA X.K σ e3 ++ (rep X.K u r' :: T))) := g4.perm (permC fun a => by simp only [cnt_cons, cnt_append, cnt_nil, argA, argsA]; omega)
    obtain ⟨e4, q1, g6⟩ := g5.plugsId
    rw [outP_bind] at k4
    have q1' : plugs [p, q, s] [p.1, q.1, s.1] e3 = .ok () e4 := q1
    rw [q1'] at k4
    exact k4 H4 Z4 u (g6.perm (permC fun a => by simp only [cnt_cons, cnt_append, cnt_nil]; omega))
  | false =>
    rw [if_neg (by simp)]
    have k3 : OutP (bindM (plugs [p, q] [p.1, q.1]) (fun _ => pureM (Val.bl false)) e2) (fun r e' => ∀ H' Z' v, Good H' Z' (rep X.K v r :: (envA X.K σ e' ++ T)) → Q v H') (Px X.K XR W σ T) := k2
    have g3 : Good H' Z' (argsA X.K σ [v, w] [p, q] ++ (envA X.K σ e2 ++ (rep X.K (.bl false) (.bl false) :: T))) := g'.perm (permC fun a => by simp only [cnt_cons, cnt_append, cnt_nil, argA, argsA]; omega)
    obtain ⟨e3, q1, g4⟩ := g3.plugsId
    rw [outP_bind] at k3
    have q1' : plugs [p, q] [p.1, q.1] e2 = .ok () e3 := q1
    rw [q1'] at k3
    exact k3 H' Z' _ (g4.perm (permC fun a => by simp only [cnt_cons, cnt_append, cnt_nil]; omega))
/-- - a -/
theorem tE_neg {a : Expr} {ma : M (Val × Tk)} {pos : Pos} (ha : PE X a (tG X.K XR W ma)) :
    PE X (.UnaryOp .USub a pos) (tE X.K XR W (bindM ma fun p => match p.1 with
    | .int i => bindM (plugs [p] [p.1]) fun _ => pureM (.int (-i))
    | _ => fun _ => .stuck)) := by
  refine PE_imp (pe_un un_neg ha) fun σ H Q ⟨Z, T, e, g, h⟩ => ?_
  rw [outP_bind] at h
  refine ⟨Z, T, e, g, h.imp (fun p e1 k H1 Z1 v g1 => ?_) fun _ _ k => k⟩
  cases hp : p.1 with
  | int i =>
    rw [hp] at k
    obtain ⟨_, r⟩ := g1.rp
    rw [hp] at r
    have hv : v = .int i := r.1
    subst hv
    refine ⟨i, rfl, ?_⟩
    have g3 : Good H1 Z1 (argsA X.K σ [.int i] [p] ++ (envA X.K σ e1 ++ (rep X.K (.int (-i)) (.int (-i)) :: T))) := (g1.val (K := X.K) (x := .int (-i)) (v := .int (-i)) ⟨rfl, rfl⟩).perm (permC fun a => by simp only [cnt_cons, cnt_append, cnt_nil, argA, argsA]; omega)
    obtain ⟨e3, q1, g4⟩ := g3.plugsId
    have k3 : OutP (bindM (plugs [p] [.int i]) (fun _ => pureM (Val.int (-i))) e1) (fun r e' => ∀ H' Z' v, Good H' Z' (rep X.K v r :: (envA X.K σ e' ++ T)) → Q v H') (Px X.K XR W σ T) := k
    rw [outP_bind] at k3
    have q1' : plugs [p] [p.1] e1 = .ok () e3 := q1
    rw [hp] at q1'
    rw [q1'] at k3
    exact k3 H1 Z1 _ (g4.perm (permC fun a => by simp only [cnt_cons, cnt_append, cnt_nil]; omega))
  | _ => rw [hp] at k; exact k.elim
/-- plain constants -/
theorem tE_const {x : Val} {v : V} {ex : Expr} (h : PE X ex (tC v)) (r : ∀ H Z, Rep X.K H Z x v []) : PE X ex (tE X.K XR W (pureM x)) :=
  PE_imp h fun σ H Q ⟨Z, T, e, g, q⟩ => q H Z v (g.new (r H Z))
/-- not, and, or, if else: as values -/
theorem tE_not {a : Expr} {m : M Val} {pos : Pos} (ha : PE X a (tE X.K XR W m)) : PE X (.UnaryOp .Not a pos) (tE X.K XR W (bindM m fun x => match x with
    | .bl b => pureM (.bl (!b))
    | _ => fun _ => .stuck)) := by
  refine PE_imp (pe_not ha) fun σ H Q ⟨Z, T, e, g, h⟩ => ?_
  rw [outP_bind] at h
  refine ⟨Z, T, e, g, h.imp (fun x e1 k H1 Z1 v g1 => ?_) fun _ _ k => k⟩
  split at k
  · rename_i b
    obtain ⟨_, r⟩ := g1.rp
    exact ⟨b, r.1, k H1 Z1 _ (g1.drop.val ⟨rfl, rfl⟩)⟩
  · exact k.elim
theorem tE_and {a b : Expr} {rest : List Expr} {m n : M Val} {pos : Pos} (ha : PE X a (tE X.K XR W m)) (hb : PE X (.BoolOp .And (b :: rest) pos) (tE X.K XR W n)) : PE X (.BoolOp .And (a :: b :: rest) pos) (tE X.K XR W (bindM m fun x => match x with
    | .bl true => n
    | .bl false => pureM (.bl false)
    | _ => fun _ => .stuck)) := by
  refine PE_imp (pe_and ha hb) fun σ H Q ⟨Z, T, e, g, h⟩ => ?_
  rw [outP_bind] at h
  refine ⟨Z, T, e, g, h.imp (fun x e1 k H1 Z1 v g1 => ?_) fun _ _ k => k⟩
  split at k
  · obtain ⟨_, r⟩ := g1.rp
    exact ⟨true, r.1, by rw [if_pos rfl]; exact ⟨Z1, T, e1, g1.drop, k⟩⟩
  · obtain ⟨_, r⟩ := g1.rp
    exact ⟨false, r.1, by rw [if_neg (by simp)]; exact k H1 Z1 _ (g1.drop.val ⟨rfl, rfl⟩)⟩
  · exact k.elim
theorem tE_or {a b : Expr} {rest : List Expr} {m n : M Val} {pos : Pos} (ha : PE X a (tE X.K XR W m)) (hb : PE X (.BoolOp .Or (b :: rest) pos) (tE X.K XR W n)) : PE X (.BoolOp .Or (a :: b :: rest) pos) (tE X.K XR W (bindM m fun x => match x with
    | .bl true => pureM (.bl true)
    | .bl false => n
    | _ => fun _ => .stuck)) := by
  refine PE_imp (pe_or ha hb) fun σ H Q ⟨Z, T, e, g, h⟩ => ?_
  rw [outP_bind] at h
  refine ⟨Z, T, e, g, h.imp (fun x e1 k H1 Z1 v g1 => ?_) fun _ _ k => k⟩
  split at k
  · obtain ⟨_, r⟩ := g1.rp
    exact ⟨true, r.1, by rw [if_pos rfl]; exact k H1 Z1 _ (g1.drop.val ⟨rfl, rfl⟩)⟩
  · obtain ⟨_, r⟩ := g1.rp
    exact ⟨false, r.1, by rw [if_neg (by simp)]; exact ⟨Z1, T, e1, g1.drop, k⟩⟩
  · exact k.elim
theorem tE_ite {c a b : Expr} {mc : M Bool} {m n : M Val} {pos : Pos} (hc : PT X c (tB1 X.K XR W mc)) (ha : PE X a (tE X.K XR W m)) (hb : PE X b (tE X.K XR W n)) : PE X (.IfExp c a b pos) (tE X.K XR W (bindM mc fun t => if t then m else n)) := by
  refine PE_imp (pe_ifExp hc ha hb) fun σ H Q ⟨Z, T, e, g, h⟩ => ?_
  rw [outP_bind] at h
  refine ⟨Z, T, e, g, h.imp (fun t e1 k H1 Z1 g1 => ?_) fun _ _ k => k⟩
  cases t with
  | true => rw [if_pos rfl]; exact ⟨Z1, T, e1, g1, by simpa using k⟩
  | false => rw [if_neg (by simp)]; exact ⟨Z1, T, e1, g1, by simpa using k⟩
/-! ### lists of expressions, of arguments -/
theorem tX_nil : PA X [] (tX X.K XR W (pureM [])) := PA_imp pa_nil fun σ H Q ⟨Z, T, e, g, q⟩ => q H Z [] g
theorem tX_cons {e : Expr} {es : List Expr} {m : M Val} {n : M (List Val)} (ha : PE X e (tE X.K XR W m)) (hr : PA X es (tX X.K XR W n)) (hs : starEach (e :: es) X.env = (false, eval e X.env) :: starEach es X.env) : PA X (e :: es) (tX X.K XR W (bindM m fun x => bindM n fun xs => pureM (x :: xs))) := by
  refine PA_imp (pa_cons ha hr hs) fun σ H Q ⟨Z, T, e, g, h⟩ => ?_
  rw [outP_bind] at h
  refine ⟨Z, T, e, g, h.imp (fun x e1 k H1 Z1 v g1 => ?_) fun _ _ k => k⟩
  rw [outP_bind] at k
  refine ⟨Z1, [rep X.K v x] ++ T, e1, (g1.perm (permC fun a => by simp only [cnt_cons, cnt_append, cnt_nil]; omega)), k.imp (fun xs e2 k2 H2 Z2 vs g2 => ?_) fun _ _ k => k.drop⟩
  exact k2 H2 Z2 (v :: vs) (g2.perm (permC fun a => by simp only [cnt_cons, cnt_append, cnt_nil, reps]; omega))
theorem tGs_nil : PA X [] (tGs X.K XR W (pureM [])) := PA_imp pa_nil fun σ H Q ⟨Z, T, e, g, q⟩ => q H Z [] g
theorem tGs_cons {e : Expr} {es : List Expr} {m : M (Val × Tk)} {n : M (List (Val × Tk))} (ha : PE X e (tG X.K XR W m)) (hr : PA X es (tGs X.K XR W n)) (hs : starEach (e :: es) X.env = (false, eval e X.env) :: starEach es X.env) : PA X (e :: es) (tGs X.K XR W (bindM m fun x => bindM n fun xs => pureM (x :: xs))) := by
  refine PA_imp (pa_cons ha hr hs) fun σ H Q ⟨Z, T, e, g, h⟩ => ?_
  rw [outP_bind] at h
  refine ⟨Z, T, e, g, h.imp (fun x e1 k H1 Z1 v g1 => ?_) fun _ _ k => k⟩
  rw [outP_bind] at k
  refine ⟨Z1, argA X.K σ v x ++ T, e1, g1.mid, k.imp (fun xs e2 k2 H2 Z2 vs g2 => ?_) fun _ _ k => k.dropA⟩
  exact k2 H2 Z2 (v :: vs) (g2.perm (permC fun a => by simp only [cnt_cons, cnt_append, cnt_nil, argsA]; omega))
theorem Good.peek {K : PySem.W.Frag} {σ : Sl} {H : Hp} {Z : ZS} {T : List Asn} {e : List Val} {i : Nat} (g : Good H Z (envA K σ e ++ T)) {Q : Unit → List Val → Prop} {E : Exn → List Val → Prop} (h : OutP (peekS i e) Q E) : ∃ v, σ[i]? = some (some v) ∧ Q () e := by
  unfold peekS at h
  split at h
  · exact h.elim
  · exact h.elim
  · rename_i y hu hy
    obtain ⟨v, hs, _⟩ := g.getS hy hu
    exact ⟨v, hs, h⟩
/-- an argument by its slot: taken behind the others -/
theorem tGs_mv {i : Nat} {x : Str} {pos : Pos} {es : List Expr} {n : M (List (Val × Tk))} (hN : X.N[i]? = some x) (hv : Vis X.env.scope x) (hd : (x == ("__debug__" : Str)) = false) (hcd : (x == ("__classdict__" : Str)) = false) (hr : PA X es (tGs X.K XR W n)) : PA X (.Name x pos :: es) (tGs X.K XR W (bindM (peekS i) fun _ => bindM n fun ps => bindM (takeS i) fun p => pureM (p :: ps))) := by
  refine PA_imp (pa_cons (pe_var hN hv hd hcd) hr rfl) fun σ H Q ⟨Z, T, e, g, h⟩ => ?_
  rw [outP_bind] at h
  obtain ⟨v, hs, h⟩ := g.peek h
  rw [outP_bind] at h
  refine ⟨v, hs, Z, T, e, g, h.imp (fun ps e1 k H1 Z1 vs g1 => ?_) fun _ _ k => k⟩
  rw [outP_bind] at k
  rcases k.det with ⟨p, e2, h1, h2⟩ | ⟨y, e2, h1, _⟩
  · obtain ⟨v', hs', g2⟩ := g1.mid.take h1
    rw [hs] at hs'
    cases hs'
    exact h2 H1 Z1 (v :: vs) (g2.perm (permC fun a => by simp only [cnt_cons, cnt_append, cnt_nil, argsA]; omega))
  · exact (takeS_noexc h1).elim
/-! ### displays -/
section
variable {K : PySem.W.Frag} {H : Hp} {Z : ZS} {As : List Asn}
/-- several values let go -/
theorem Good.letgos : ∀ {xs ys : List Val} {vs : List V} {Z : ZS} {As : List Asn}, Good H Z (reps K vs xs ++ As) → frzs xs = some ys → ∃ Z', (∀ a, Z a → Z' a) ∧ Good H Z' As ∧ Reps K H Z' ys vs []
  | [], ys, vs, Z, As, g, e => by
    simp [frzs] at e
    subst e
    cases vs with
    | nil => exact ⟨Z, fun _ q => q, g, Reps.nil⟩
    | cons v vs => exact (g.noNever (by simp [reps])).elim
  | x :: xs, ys, [], Z, As, g, e => (g.noNever (by simp [reps])).elim
  | x :: xs, ys, v :: vs, Z, As, g, e => by
    simp only [frzs] at e
    split at e
    · rename_i y ys' e1 e2
      cases e
      have g1 : Good H Z (rep K v x :: (reps K vs xs ++ As)) := g
      obtain ⟨Z1, hz1, g2⟩ := g1.letgo e1
      have g3 : Good H Z1 (reps K vs xs ++ (rep K v y :: As)) := g2.perm (permC fun a => by simp only [cnt_cons, cnt_append, cnt_nil]; omega)
      obtain ⟨Z2, hz2, g4, rs⟩ := Good.letgos g3 e2
      obtain ⟨f, ry⟩ := g4.rp
      have : f = [] := Rep.freeOf (frz_free e1) ry
      subst this
      exact ⟨Z2, fun a q => hz2 a (hz1 a q), g4.drop, Reps.mk ry rs⟩
    · cases e
theorem reps_len : ∀ {vs : List V} {xs : List Val} {As : List Asn}, Good H Z (reps K vs xs ++ As) → vs.length = xs.length
  | [], [], _, _ => rfl
  | [], _ :: _, _, g => (g.noNever (by simp [reps])).elim
  | _ :: _, [], _, g => (g.noNever (by simp [reps])).elim
  | v :: vs, x :: xs, As, g => by
    have g1 : Good H Z (rep K v x :: (reps K vs xs ++ As)) := g
    simp [reps_len g1.drop]
end
theorem tE_tup {es : List Expr} {k : Nat} {pos : Pos} {m : M (List Val)} (h : PA X es (tX X.K XR W m)) : PE X (.Tuple es k pos) (tE X.K XR W (bindM m fun xs => bindM (liftM (frzs xs)) fun ys => if ys.length ≤ sizeLine then pureM (.tup ys) else fun _ => .stuck)) := by
  refine PE_imp (pe_tup h) fun σ H Q ⟨Z, T, e, g, h⟩ => ?_
  rw [outP_bind] at h
  refine ⟨Z, T, e, g, h.imp (fun xs e1 k H1 Z1 vs g1 => ?_) fun _ _ k => k⟩
  rw [outP_bind, outP_lift] at k
  obtain ⟨ys, ey, k⟩ := k
  obtain ⟨Z2, hz, g2, rs⟩ := Good.letgos g1 ey
  split at k
  · rename_i hl
    refine ⟨by rw [rs.len]; exact hl, fun p hp => k _ Z2 _ (g2.newT hp rs)⟩
  · exact k.elim
theorem tE_lst {es : List Expr} {pos : Pos} {m : M (List Val)} {md : Md} (h : PA X es (tX X.K XR W m)) : PE X (.List es pos) (tE X.K XR W (bindM m fun xs => if xs.length ≤ sizeLine then (match md with
    | .ow => bindM (liftM (frzs xs)) fun ys => pureM (.lst .ow ys)
    | .ne => pureM (.lst .ne xs)
    | _ => fun _ => .stuck) else fun _ => .stuck)) := by
  refine PE_imp (pe_lst h) fun σ H Q ⟨Z, T, e, g, h⟩ => ?_
  rw [outP_bind] at h
  refine ⟨Z, T, e, g, h.imp (fun xs e1 k H1 Z1 vs g1 => ?_) fun _ _ k => k⟩
  have hl := reps_len g1
  split at k
  · rename_i hs
    refine ⟨by rw [hl]; exact hs, fun p hp => ?_⟩
    cases md with
    | fz => exact k.elim
    | sc => exact k.elim
    | ow =>
      rw [outP_bind, outP_lift] at k
      obtain ⟨ys, ey, k⟩ := k
      obtain ⟨Z2, hz, g2, rs⟩ := Good.letgos g1 ey
      exact k _ Z2 _ (g2.newL hp rs)
    | ne =>
      refine k _ Z1 _ ?_
      -- the items become the list's
      have gather : ∀ {xs : List Val} {vs : List V} {F : List Addr} {As : List Asn}, Sat H1 Z1 (reps X.K vs xs ++ As) F → ∃ f G, Reps X.K H1 Z1 xs vs f ∧ Sat H1 Z1 As G ∧ F = f ++ G := by
        intro xs
        induction xs with
        | nil =>
          intro vs F As s
          cases vs with
          | nil => exact ⟨[], F, Reps.nil, s, rfl⟩
          | cons v vs => obtain ⟨_, _, _, q, _⟩ := s; exact q.elim
        | cons x xs ih =>
          intro vs F As s
          cases vs with
          | nil => obtain ⟨_, _, _, q, _⟩ := s; exact q.elim
          | cons v vs =>
            obtain ⟨f1, F1, rfl, r1, s1⟩ := s
            obtain ⟨f2, G, r2, s2, rfl⟩ := ih s1
            exact ⟨f1 ++ f2, G, Reps.mk r1 r2, s2, by rw [List.append_assoc]⟩
      obtain ⟨F, s, nd, z, zn⟩ := g1
      obtain ⟨f, G, rs, s2, rfl⟩ := gather s
      have hpF : p ∉ f ++ G := fun hm => by
        have := s.there p hm
        obtain ⟨o, eo, _⟩ := this
        rw [hp] at eo; cases eo
      have kk : ∀ F', Keep H1 (upd H1 p (.lst vs)) Z1 F' := fun F' a o eo _ => by rw [upd_ne (ne_of_none eo hp)]; exact eo
      refine ⟨(p :: f) ++ G, ⟨p :: f, G, rfl, ?_, s2.keep (fun _ q => q) (kk _)⟩, List.nodup_cons.mpr ⟨hpF, nd⟩, fun b hb => ?_, fun b hb => ?_⟩
      · show Rep X.K _ Z1 (.lst .ne xs) (.ref p) (p :: f)
        unfold Rep
        exact ⟨p, vs, f, rfl, rfl, upd_same, Reps.keep (fun _ q => q) _ _ _ (kk _) rs⟩
      · rcases List.mem_cons.mp hb with rfl | hb
        · exact fun q => zn _ q hp
        · exact z b hb
      · have := zn b hb
        cases eb : H1 b with
        | none => exact absurd eb this
        | some u => rw [upd_ne (ne_of_none eb hp), eb]; simp
  · exact k.elim
end
end Nd

/-! NdG: subscripts, slices, built-in functions and methods. -/
namespace Nd
open PySem PySem.Spec PyProof.Rows L2
section
variable {XR : XRT} {W : WX} {X : Cx}
/-! ### subscripts -/
def rDk : R2 := fun x y H Q => ∃ a v, x = .ref a ∧ DGet H a y (some v) ∧ Q v H
theorem ix_dict (hu : X.A.units + 1 < cLine) : IxR X rDk := by
  intro value slice pins s σ H x y v u Q I rx ry h hs
  obtain ⟨a, z, rfl, g, q⟩ := h
  cases rx
  have hT := dict_typeIs I g
  unfold subscriptTail
  refine wpAny_bind ?_
  rw [getitemInPython_of_ne hT.not_modules]
  refine wpAny_bind (wpAny_specialOf hT PySem.F.slot_dict_getitem.lookup ?_)
  have fin : wpAny (model X.prog X.w) X.A (subscripted slice false (.ref a) u) (fun r s₃ => wpAny (model X.prog X.w) X.A (letTemporaryGo value (.ref a) r >>= fun _ => pure r) (EP X pins σ Q) X.xe s₃) X.xe s := by
    rw [hs]
    exact wpAny_operating (wpAny_mono (d_getItem hu I g ry fun w' s3 I3 rw' => (⟨z, H, I3, rw', q⟩ : EP X pins σ Q w' s3)) (fun r s₃ h₃ => wpAny_bind (wpAny_letTemporaryGo (wpAny_pure h₃))) fun _ _ x => x)
  first
    | exact wpAny_pure (wpAny_bind fin)
    | exact wpAny_bind (wpAny_pure (wpAny_bind fin))
    | exact wpAny_bind fin
theorem RepKs.find {K : PySem.W.Frag} {H : Hp} {Z : ZS} : ∀ {kvs : List (Key × Val)} {ks : List (Key × V)} {f : List Addr} {k : Key} {kv : Key × Val}, RepKs K H Z kvs ks f → kvs.find? (fun kv => decide (kv.1 = k)) = some kv → ∃ v g, valV ks k = some v ∧ Rep K H Z kv.2 v g
  | [], _, _, _, _, _, e => by simp at e
  | (k', x) :: kvs, ks, f, k, kv, r, e => by
    unfold RepKs at r
    obtain ⟨v, kr, g, h, rfl, rfl, r1, r2⟩ := r
    rw [List.find?_cons] at e
    by_cases hk : k' = k
    · rw [decide_eq_true hk] at e
      cases e
      exact ⟨v, g, by unfold valV; rw [List.find?_cons, decide_eq_true hk]; rfl, r1⟩
    · rw [decide_eq_false hk] at e
      obtain ⟨w, g', q1, q2⟩ := RepKs.find r2 e
      exact ⟨w, g', by unfold valV at q1 ⊢; rw [List.find?_cons, decide_eq_false hk]; exact q1, q2⟩
theorem Rep.dicF {K : PySem.W.Frag} {H : Hp} {Z : ZS} {m : Md} {v : V} {f : List Addr} {xs : List (Key × Val)} (r : Rep K H Z (.dic m xs) v f) : ∃ a ks g, v = .ref a ∧ H a = some (.dK ks) ∧ RepKs K H Z xs ks g := by
  cases m <;> unfold Rep at r
  · obtain ⟨_, a, vs, rfl, q, rs⟩ := r; exact ⟨a, vs, _, rfl, q.1, rs⟩
  · obtain ⟨a, vs, _, rfl, q, rs⟩ := r; exact ⟨a, vs, _, rfl, q, rs⟩
  · obtain ⟨a, vs, g, _, rfl, q, rs⟩ := r; exact ⟨a, vs, _, rfl, q, rs⟩
  · exact r.elim
theorem ix_sub (hu : X.A.units + 1 < cLine) : IxR X (rB2 X.K subV) := by
  intro value slice pins s σ H v w u u' Q I rv rw' h hs
  obtain ⟨Z, x, y, r, As, g, e, q⟩ := h
  obtain ⟨f, r1⟩ := g.rp
  obtain ⟨f2, r2⟩ := g.rp2
  have lst : ∀ {xs : List Val} {i : Int} {z : Val} {a : Addr} {vs : List V}, y = .int i → (SqL X.K H a vs ∨ SqT X.K H a vs) → v = .ref a → Reps X.K H Z xs vs [] → atI xs i = some z → r = z → wpAny (model X.prog X.w) X.A (subscriptTail value slice u u') (EP X pins σ Q) X.xe s := by
    intro xs i z a vs ey hq ev rs hz er
    subst ey; subst er; subst ev
    obtain ⟨n, q1, q2, q3⟩ := atI_of rs.len hz
    obtain ⟨t, q4, rt⟩ := Reps.get rs q2
    have hw : w = .int i := r2.1
    subst hw
    rcases hq with hq | hq
    · exact ix_list value slice pins s σ H _ _ u u' Q I rv rw' ⟨a, vs, i, t, rfl, rfl, hq, atI_n q3 q4, q _ _ _ (g.val rt)⟩ hs
    · exact ix_tup value slice pins s σ H _ _ u u' Q I rv rw' ⟨a, vs, i, t, rfl, rfl, hq, atI_n q3 q4, q _ _ _ (g.val rt)⟩ hs
  have dic : ∀ {m : Md} {kvs : List (Key × Val)} {k : Key}, x = .dic m kvs → w = kV k → ((kvs.find? fun kv => decide (kv.1 = k)).bind fun kv => if held kv.2 then none else some kv.2) = some r → wpAny (model X.prog X.w) X.A (subscriptTail value slice u u') (EP X pins σ Q) X.xe s := by
    intro m kvs k ex ew e'
    subst ex
    obtain ⟨a, ks, gg, rfl, hH, rs⟩ := r1.dicF
    rw [Option.bind_eq_some_iff] at e'
    obtain ⟨kv, e1, e2⟩ := e'
    split at e2
    · cases e2
    · rename_i hh
      cases e2
      obtain ⟨t, g', q1, q2⟩ := RepKs.find rs e1
      have hg' : g' = [] := Rep.freeOf (by simpa using hh) q2
      subst hg'
      subst ew
      exact ix_dict hu value slice pins s σ H _ _ u u' Q I rv rw' ⟨a, t, rfl, by rw [← q1]; exact DGet.k hH, q _ _ _ (g.val q2)⟩ hs
  unfold subV at e
  split at e
  · unfold Rep at r1
    obtain ⟨_, a, vs, ev, hq, rs⟩ := r1
    exact lst rfl (.inr hq) ev rs e rfl
  · unfold Rep at r1
    obtain ⟨_, a, vs, ev, hq, rs⟩ := r1
    exact lst rfl (.inl (.inl (.inl hq.1))) ev rs e rfl
  · unfold Rep at r1
    obtain ⟨a, vs, _, ev, hq, rs⟩ := r1
    exact lst rfl (.inl (.inl (.inl hq))) ev rs e rfl
  · unfold Rep at r1
    obtain ⟨_, a, vs, ev, hq, rs⟩ := r1
    exact lst rfl (.inl hq.sq) ev rs e rfl
  · -- nested
    rename_i xs i
    split at e
    · rename_i z hz
      split at e
      · cases e
      · rename_i hh
        cases e
        unfold Rep at r1
        obtain ⟨a, vs, gg, _, rfl, hq, rs⟩ := r1
        obtain ⟨n, q1, q2, q3⟩ := atI_of rs.len hz
        obtain ⟨t, g', h', q4, rt, _, _⟩ := Reps.pick rs q2
        have : g' = [] := Rep.freeOf (by simpa using hh) rt
        subst this
        have hw : w = .int i := r2.1
        subst hw
        exact ix_list value slice pins s σ H _ _ u u' Q I rv rw' ⟨a, vs, i, t, rfl, rfl, .inl (.inl hq), atI_n q3 q4, q _ _ _ (g.val rt)⟩ hs
    · cases e
  · rename_i m kvs i
    exact dic rfl (show w = kV (.inl i) from r2.1) e
  · rename_i m kvs i
    exact dic rfl (show w = kV (.inr i) from r2.1) e
  · cases e
theorem tE_sub {a b : Expr} {ma mb : M (Val × Tk)} {pos : Pos} (hu : X.A.units + 1 < cLine) (ha : PE X a (tG X.K XR W ma)) (hb : PE X b (tG X.K XR W mb)) (hs : PlainIx b) :
    PE X (.Subscript a b pos) (tE X.K XR W (bindM ma fun p => bindM mb fun q => bindM (liftM (subV p.1 q.1)) fun r => bindM (plugs [p, q] [p.1, q.1]) fun _ => pureM r)) :=
  PE_imp (pe_ix (ix_sub hu) ha hb hs) fun σ H Q h => two_ok h
theorem tE_subS {b : Expr} {i : Nat} {x : PySem.Str} {p2 pos : Pos} {mb : M (Val × Tk)} (hu : X.A.units + 1 < cLine) (hN : X.N[i]? = some x) (hv : Vis X.env.scope x) (hd : (x == ("__debug__" : PySem.Str)) = false) (hcd : (x == ("__classdict__" : PySem.Str)) = false) (hb : PE X b (tG X.K XR W mb)) (hs : PlainIx b) :
    PE X (.Subscript (.Name x p2) b pos) (tE X.K XR W (bindM (peekS i) fun _ => bindM mb fun q => bindM (takeS i) fun p => bindM (liftM (subV p.1 q.1)) fun r => bindM (plugs [p, q] [p.1, q.1]) fun _ => pureM r)) := by
  refine PE_imp (pe_ix (ix_sub hu) (pe_var hN hv hd hcd) hb hs) fun σ H Q ⟨Z, T, e, g, h⟩ => ?_
  rw [outP_bind] at h
  obtain ⟨v, hs, h⟩ := g.peek h
  rw [outP_bind] at h
  refine ⟨v, hs, Z, T, e, g, h.imp (fun q e1 k H1 Z1 w g1 => ?_) fun _ _ k => k⟩
  rw [outP_bind] at k
  rcases k.det with ⟨p, e2, h1, k⟩ | ⟨y, e2, h1, _⟩
  · obtain ⟨v', hs', g2⟩ := g1.mid.take h1
    rw [hs] at hs'
    cases hs'
    rw [outP_bind, outP_lift] at k
    obtain ⟨r, er, k⟩ := k
    refine ⟨Z1, p.1, q.1, r, tkA X.K σ v p.2 ++ (tkA X.K σ w q.2 ++ (envA X.K σ e2 ++ T)), g2.perm (permC fun a => by simp only [cnt_cons, cnt_append, cnt_nil, argA]; omega), er, fun H' Z' u g' => ?_⟩
    have g3 : Good H' Z' (argsA X.K σ [v, w] [p, q] ++ (envA X.K σ e2 ++ (rep X.K u r :: T))) := g'.perm (permC fun a => by simp only [cnt_cons, cnt_append, cnt_nil, argA, argsA]; omega)
    obtain ⟨e3, q1, g4⟩ := g3.plugsId
    rw [outP_bind] at k
    have q1' : plugs [p, q] [p.1, q.1] e2 = .ok () e3 := q1
    rw [q1'] at k
    exact k H' Z' u (g4.perm (permC fun a => by simp only [cnt_cons, cnt_append, cnt_nil]; omega))
  · exact (takeS_noexc h1).elim
/-! ### slices -/
def tO1 (K : PySem.W.Frag) (XR : XRT) (W : WX) (m : M (Option Int)) : TO := fun σ H Q => ∃ Z T e, Good H Z (envA K σ e ++ T) ∧ OutP (m e) (fun b e' => ∀ H' Z', Good H' Z' (envA K σ e' ++ T) → Q b H') (Px K XR W σ T)
theorem PO_imp {e : Option Expr} {t t' : TO} (h : PO X e t) (k : ∀ σ H Q, t' σ H Q → t σ H Q) : PO X e t' := ⟨fun pins s σ H Q I q => h.run pins s σ H Q I (k _ _ _ q)⟩
theorem tO_none : PO X none (tO1 X.K XR W (pureM none)) := PO_imp po_none fun σ H Q ⟨Z, T, e, g, q⟩ => q H Z g
theorem tO_some {ex : Expr} {m : M Val} (h : PE X ex (tE X.K XR W m)) : PO X (some ex) (tO1 X.K XR W (bindM m fun x => match x with
    | .int i => pureM (some i)
    | _ => fun _ => .stuck)) := by
  refine PO_imp (po_some h) fun σ H Q ⟨Z, T, e, g, h⟩ => ?_
  rw [outP_bind] at h
  refine ⟨Z, T, e, g, h.imp (fun x e1 k H1 Z1 v g1 => ?_) fun _ _ k => k⟩
  cases x with
  | int i =>
    obtain ⟨_, r⟩ := g1.rp
    exact ⟨i, r.1, k H1 Z1 g1.drop⟩
  | _ => exact k.elim
theorem cutL_whole {xs : List Val} {lo hi : Option Int} (h : HT.sIx xs.length 0 lo = 0 ∧ HT.sIx xs.length xs.length hi = xs.length) : cutL xs lo hi = xs := by
  unfold cutL
  rw [h.1, h.2]
  simp
theorem sl_slc : SlR X (fun v lo hi H Q => ∃ Z x r As, Good H Z (rep X.K v x :: As) ∧ slcV x lo hi = some r ∧ ∀ H' Z' u, Good H' Z' (rep X.K u r :: rep X.K v x :: As) → Q u H') := by
  intro pins s σ H v u vl vu lo hi sl Q I rv hsl pl pu h
  obtain ⟨Z, x, r, As, g, e, q⟩ := h
  obtain ⟨f, r1⟩ := g.rp
  have lst : ∀ {xs : List Val} {a : Addr} {vs : List V}, SqL X.K H a vs → v = .ref a → Reps X.K H Z xs vs [] → r = .lst .ow (cutL xs lo hi) → _ := fun {xs a vs} hq ev rs er => by
    subst ev; subst er
    refine sl_list pins s σ H _ u vl vu lo hi sl Q I rv hsl pl pu ⟨a, vs, rfl, hq, fun p hp => q _ _ _ (g.newL hp ?_)⟩
    unfold cutL cutV
    rw [rs.len]
    exact Reps.take _ (Reps.drop _ rs)
  unfold slcV at e
  split at e <;> cases e
  · rename_i xs
    unfold Rep at r1
    obtain ⟨_, a, vs, rfl, hq, rs⟩ := r1
    refine sl_tupA pins s σ H _ u vl vu lo hi sl Q I rv hsl pl pu ⟨a, vs, rfl, hq, fun hw => ?_, fun hw p hp => ?_⟩
    · rw [rs.len] at hw
      refine q _ _ _ (g.val ?_)
      rw [cutL_whole hw]
      unfold Rep
      exact ⟨rfl, a, vs, rfl, hq, rs⟩
    · refine q _ _ _ (g.newT hp ?_)
      unfold cutL cutV
      rw [rs.len]
      exact Reps.take _ (Reps.drop _ rs)
  · unfold Rep at r1
    obtain ⟨_, a, vs, ev, hq, rs⟩ := r1
    exact lst (.inl (.inl hq.1)) ev rs rfl
  · unfold Rep at r1
    obtain ⟨a, vs, _, ev, hq, rs⟩ := r1
    exact lst (.inl (.inl hq)) ev rs rfl
  · unfold Rep at r1
    obtain ⟨_, a, vs, ev, hq, rs⟩ := r1
    exact lst hq.sq ev rs rfl
theorem tE_slc {a : Expr} {lo hi : Option Expr} {ma : M (Val × Tk)} {ml mh : M (Option Int)} {p2 pos : Pos} (ha : PE X a (tG X.K XR W ma)) (hl : PO X lo (tO1 X.K XR W ml)) (hh : PO X hi (tO1 X.K XR W mh)) :
    PE X (.Subscript a (.Slice lo hi none p2) pos) (tE X.K XR W (bindM ma fun p => bindM ml fun l => bindM mh fun h => bindM (liftM (slcV p.1 l h)) fun r => bindM (plugs [p] [p.1]) fun _ => pureM r)) := by
  refine PE_imp (pe_slice sl_slc ha hl hh) fun σ H Q ⟨Z, T, e, g, h⟩ => ?_
  rw [outP_bind] at h
  refine ⟨Z, T, e, g, h.imp (fun p e1 k H1 Z1 v g1 => ?_) fun _ _ k => k⟩
  rw [outP_bind] at k
  refine ⟨Z1, argA X.K σ v p ++ T, e1, g1.mid, k.imp (fun l e2 k2 H2 Z2 g2 => ?_) fun _ _ k => k.dropA⟩
  rw [outP_bind] at k2
  refine ⟨Z2, argA X.K σ v p ++ T, e2, g2, k2.imp (fun hh e3 k3 H3 Z3 g3 => ?_) fun _ _ k => k.dropA⟩
  rw [outP_bind, outP_lift] at k3
  obtain ⟨r, er, k3⟩ := k3
  refine ⟨Z3, p.1, r, tkA X.K σ v p.2 ++ (envA X.K σ e3 ++ T), g3.perm (permC fun a => by simp only [cnt_cons, cnt_append, cnt_nil, argA]; omega), er, fun H4 Z4 u g4 => ?_⟩
  have g5 : Good H4 Z4 (argsA X.K σ [v] [p] ++ (envA X.K σ e3 ++ (rep X.K u r :: T))) := g4.perm (permC fun a => by simp only [cnt_cons, cnt_append, cnt_nil, argA, argsA]; omega)
  obtain ⟨e4, q1, g6⟩ := g5.plugsId
  rw [outP_bind] at k3
  have q1' : plugs [p] [p.1] e3 = .ok () e4 := q1
  rw [q1'] at k3
  exact k3 H4 Z4 u (g6.perm (permC fun a => by simp only [cnt_cons, cnt_append, cnt_nil]; omega))
/-! ### built-in functions -/
section
variable {K : PySem.W.Frag} {σ : Sl}
def tksA (K : PySem.W.Frag) (σ : Sl) : List V → List (Val × Tk) → List Asn
  | v :: vs, p :: ps => tkA K σ v p.2 ++ tksA K σ vs ps
  | _, _ => []
theorem cnt_args {a : Asn} : ∀ {vs : List V} {ps : List (Val × Tk)}, cnt a (argsA K σ vs ps) = cnt a (reps K vs (ps.map (·.1))) + cnt a (tksA K σ vs ps)
  | [], [] => by simp [argsA, reps, tksA, cnt]
  | [], _ :: _ => by simp [argsA, reps, tksA, cnt]
  | _ :: _, [] => by simp [argsA, reps, tksA, cnt]
  | v :: vs, p :: ps => by
    have := cnt_args (a := a) (vs := vs) (ps := ps)
    show cnt a (argA K σ v p ++ argsA K σ vs ps) = cnt a (rep K v p.1 :: reps K vs (ps.map (·.1))) + cnt a (tkA K σ v p.2 ++ tksA K σ vs ps)
    simp only [cnt_append, cnt_cons, argA]
    omega
/-- the reading of a function whose meaning is f -/
def rBn (K : PySem.W.Frag) (f : List Val → Option Val) : List V → Hp → VK → Prop := fun vs H Q => ∃ Z xs r As, Good H Z (reps K vs xs ++ As) ∧ f xs = some r ∧ ∀ H' Z' u, Good H' Z' (rep K u r :: (reps K vs xs ++ As)) → Q u H'
theorem many_ok {H : Hp} {Q : VK} {f : List Val → Option Val} {m : M (List (Val × Tk))} (h : tE K XR W (bindM m fun ps => bindM (liftM (f (ps.map (·.1)))) fun r => bindM (plugs ps (ps.map (·.1))) fun _ => pureM r) σ H Q) : tCB (rBn K f) (tGs K XR W m) σ H Q := by
  obtain ⟨Z, T, e, g, h⟩ := h
  rw [outP_bind] at h
  refine ⟨Z, T, e, g, h.imp (fun ps e1 k H1 Z1 vs g1 => ?_) fun _ _ k => k⟩
  rw [outP_bind, outP_lift] at k
  obtain ⟨r, er, k⟩ := k
  refine ⟨Z1, ps.map (·.1), r, tksA K σ vs ps ++ (envA K σ e1 ++ T), g1.perm (permC fun a => by simp only [cnt_cons, cnt_append, cnt_nil, cnt_args]; omega), er, fun H' Z' u g' => ?_⟩
  have g3 : Good H' Z' (argsA K σ vs ps ++ (envA K σ e1 ++ (rep K u r :: T))) := g'.perm (permC fun a => by simp only [cnt_cons, cnt_append, cnt_nil, cnt_args]; omega)
  obtain ⟨e3, q1, g4⟩ := g3.plugsId
  rw [outP_bind, q1] at k
  exact k H' Z' u (g4.perm (permC fun a => by simp only [cnt_cons, cnt_append, cnt_nil]; omega))
end
theorem sortI_insert (i : Int) : ∀ l : List Int, l.Pairwise (· ≤ ·) → (insertI i l).Pairwise (· ≤ ·) ∧ (insertI i l).Perm (i :: l)
  | [], _ => ⟨by simp [insertI], .refl _⟩
  | j :: r, h => by
    unfold insertI
    split
    · rename_i hij
      refine ⟨List.Pairwise.cons (fun b hb => ?_) h, .refl _⟩
      rcases List.mem_cons.mp hb with rfl | hb
      · exact hij
      · exact Int.le_trans hij ((List.pairwise_cons.mp h).1 b hb)
    · rename_i hij
      obtain ⟨q1, q2⟩ := sortI_insert i r (List.pairwise_cons.mp h).2
      refine ⟨List.Pairwise.cons (fun b hb => ?_) q1, ?_⟩
      · rcases List.mem_cons.mp (q2.mem_iff.mp hb) with rfl | hb
        · omega
        · exact (List.pairwise_cons.mp h).1 b hb
      · exact (List.Perm.cons j q2).trans (List.Perm.swap _ _ _)
theorem sortI_ok : ∀ l : List Int, (sortI l).Pairwise (· ≤ ·) ∧ (sortI l).Perm l
  | [] => ⟨.nil, .refl _⟩
  | i :: r => by
    obtain ⟨h1, h2⟩ := sortI_ok r
    obtain ⟨q1, q2⟩ := sortI_insert i (sortI r) h1
    exact ⟨q1, q2.trans (List.Perm.cons i h2)⟩
theorem sorted_one {l m : List Int} (p : l.Perm m) (hl : l.Pairwise (· ≤ ·)) (hm : m.Pairwise (· ≤ ·)) : l = m :=
  List.Perm.eq_of_pairwise (fun a b _ _ h1 h2 => Int.le_antisymm h1 h2) hl hm p
theorem least_ok : ∀ {l : List Int} {m : Int}, least l = some m → m ∈ l ∧ ∀ y ∈ l, m ≤ y
  | [], _, h => by cases h
  | [i], m, h => by simp [least] at h; subst h; simp
  | i :: j :: r, m, h => by
    simp only [least, Option.map_eq_some_iff] at h
    obtain ⟨n, h1, h2⟩ := h
    obtain ⟨q1, q2⟩ := least_ok (l := j :: r) h1
    subst h2
    split
    · rename_i hin
      refine ⟨by simp, fun y hy => ?_⟩
      rcases List.mem_cons.mp hy with rfl | hy
      · exact Int.le_refl _
      · exact Int.le_trans hin (q2 y hy)
    · rename_i hin
      refine ⟨List.mem_cons_of_mem _ q1, fun y hy => ?_⟩
      rcases List.mem_cons.mp hy with rfl | hy
      · omega
      · exact q2 y hy
theorem most_ok : ∀ {l : List Int} {m : Int}, most l = some m → m ∈ l ∧ ∀ y ∈ l, y ≤ m
  | [], _, h => by cases h
  | [i], m, h => by simp [most] at h; subst h; simp
  | i :: j :: r, m, h => by
    simp only [most, Option.map_eq_some_iff] at h
    obtain ⟨n, h1, h2⟩ := h
    obtain ⟨q1, q2⟩ := most_ok (l := j :: r) h1
    subst h2
    split
    · rename_i hin
      refine ⟨by simp, fun y hy => ?_⟩
      rcases List.mem_cons.mp hy with rfl | hy
      · exact Int.le_refl _
      · exact Int.le_trans (q2 y hy) hin
    · rename_i hin
      refine ⟨List.mem_cons_of_mem _ q1, fun y hy => ?_⟩
      rcases List.mem_cons.mp hy with rfl | hy
      · omega
      · exact q2 y hy
section
variable {K : PySem.W.Frag} {H : Hp} {Z : ZS} {As : List Asn}
theorem reps1 {vs : List V} {x : Val} (g : Good H Z (reps K vs [x] ++ As)) : ∃ v, vs = [v] ∧ Good H Z (rep K v x :: As) := by
  cases vs with
  | nil => exact (g.noNever (by simp [reps])).elim
  | cons v vs =>
    cases vs with
    | nil => exact ⟨v, rfl, g⟩
    | cons w vs => exact (g.noNever (by simp [reps])).elim
theorem reps2 {vs : List V} {x y : Val} (g : Good H Z (reps K vs [x, y] ++ As)) : ∃ v w, vs = [v, w] ∧ Good H Z (rep K v x :: rep K w y :: As) := by
  cases vs with
  | nil => exact (g.noNever (by simp [reps])).elim
  | cons v vs =>
    cases vs with
    | nil => exact (g.noNever (by simp [reps])).elim
    | cons w vs =>
      cases vs with
      | nil => exact ⟨v, w, rfl, g⟩
      | cons z vs => exact (g.noNever (by simp [reps])).elim
theorem reps0 {vs : List V} (g : Good H Z (reps K vs [] ++ As)) : vs = [] := by
  cases vs with
  | nil => rfl
  | cons v vs => exact (g.noNever (by simp [reps])).elim
end
theorem cr_sumT (hc : X.calm = true) : CallR X (.builtin "sum") (fun vs H Q => ∃ (a : Addr) (ns : List Int), vs = [V.ref a] ∧ SqT X.K H a (ns.map V.int) ∧ Q (.int ns.sum) H) := by
  intro pins s σ H vs us Q I r h
  obtain ⟨a, ns, rfl, hs, q⟩ := h
  obtain ⟨its, rv, hl, _⟩ := I.tuple hs
  rw [Vals.ref1 r]
  have hi := rv.ints
  obtain ⟨xs, e⟩ := hi.allInts.items
  have hn : numsOf (intItems xs).toList = ns := by rw [← e]; exact hi.numsOf
  rw [nums_intItems] at hn
  have hl' : s.heap.IsTuple a its.toArray := hl
  rw [e] at hl'
  refine PySem.W.ktm_sumG (I.ok.hd hc) hl' fun h' tk t' hk => ?_
  rw [preSum_eq, List.take_of_length_le (by simp), hn]
  exact ⟨.int _, H, I.kept hk, ⟨_, rfl⟩, q⟩
theorem iter_tup {prog : Program} {w : World} {A : Around} {E : Value → Shared → Prop} {s : Shared} {l : Addr} {items : Array Value} {Q : Value → Shared → Prop} (hl : s.heap.IsTuple l items)
    (h : ∀ s₂ : Shared, s₂ = { s with heap := s.heap.push { cls := .type "tuple_iterator", data := .fields #[.ref l, .int 0 0] } } →
      (s₂.heap.IsTupleIter s.heap.objs.size l 0 ∧ s₂.heap.IsTuple l items) → l ≠ s.heap.objs.size → Q (.ref s.heap.objs.size) s₂) : wpAny (model prog w) A (pyIter (.ref l)) Q E s := by
  have hlt : l < s.heap.objs.size := by obtain ⟨_, e, _⟩ := hl; exact Heap.lt_size e
  exact wpAny_pyIter_tuple hl (h _ rfl ⟨⟨_, Heap.get?_push_size _ rfl, rfl, rfl⟩, hl.at fun o e => Heap.get?_push_of_some _ e⟩ (Nat.ne_of_lt hlt))
theorem cr_anyT (hc : X.calm = true) : CallR X (.builtin "any") (fun vs H Q => ∃ (a : Addr) (bs : List Bool), vs = [V.ref a] ∧ SqT X.K H a (bs.map V.bl) ∧ Q (.bl (bs.any id)) H) := by
  intro pins s σ H vs us Q I r h
  obtain ⟨a, bs, rfl, hs, q⟩ := h
  obtain ⟨its, rv, hl, _⟩ := I.tuple hs
  rw [Vals.ref1 r]
  have hb := rv.bls
  refine call_any_walk (iter_tup (items := its.toArray) hl fun s₂ e2 st hne => ?_)
  subst e2
  refine ⟨_, _, _, _, _, _, _, rfl, Walks.tuple (A := X.A.in1) (I.ok.hd hc) _ a hne its.toArray, st, truth_bools hb, fun h' tk hk => ?_⟩
  refine ⟨.bl _, H, I.kept fun b o eo => hk b o (fun hmem => ?_) (Heap.get?_push_of_some _ eo), ?_, q⟩
  · rcases List.mem_cons.mp hmem with e1 | hmem
    · exact absurd (e1 ▸ Heap.lt_size eo) (Nat.lt_irrefl _)
    · cases hmem
  · show Value.bool _ = Value.bool _
    rw [← L2.any_range, hb, List.size_toArray, List.length_map]
theorem cr_allT (hc : X.calm = true) : CallR X (.builtin "all") (fun vs H Q => ∃ (a : Addr) (bs : List Bool), vs = [V.ref a] ∧ SqT X.K H a (bs.map V.bl) ∧ Q (.bl (bs.all id)) H) := by
  intro pins s σ H vs us Q I r h
  obtain ⟨a, bs, rfl, hs, q⟩ := h
  obtain ⟨its, rv, hl, _⟩ := I.tuple hs
  rw [Vals.ref1 r]
  have hb := rv.bls
  refine call_all_walk (iter_tup (items := its.toArray) hl fun s₂ e2 st hne => ?_)
  subst e2
  refine ⟨_, _, _, _, _, _, _, rfl, Walks.tuple (A := X.A.in1) (I.ok.hd hc) _ a hne its.toArray, st, truth_bools hb, fun h' tk hk => ?_⟩
  refine ⟨.bl _, H, I.kept fun b o eo => hk b o (fun hmem => ?_) (Heap.get?_push_of_some _ eo), ?_, q⟩
  · rcases List.mem_cons.mp hmem with e1 | hmem
    · exact absurd (e1 ▸ Heap.lt_size eo) (Nat.lt_irrefl _)
    · cases hmem
  · show Value.bool _ = Value.bool _
    rw [← L2.all_range, hb, List.size_toArray, List.length_map]
/-- the built-in function or type -/
def biOf : Bi → Value
  | .len => .builtin "len" | .sum => .builtin "sum" | .abs => .builtin "abs" | .tuple => .type "tuple" | .list => .type "list" | .dict => .type "dict"
  | .min1 => .builtin "min" | .max1 => .builtin "max" | .min2 => .builtin "min" | .max2 => .builtin "max" | .sorted => .builtin "sorted" | .any => .builtin "any" | .all => .builtin "all" | .repr => .builtin "repr" | .int => .type "int"
def biName : Bi → Str
  | .len => "len" | .sum => "sum" | .abs => "abs" | .tuple => "tuple" | .list => "list" | .dict => "dict"
  | .min1 => "min" | .max1 => "max" | .min2 => "min" | .max2 => "max" | .sorted => "sorted" | .any => "any" | .all => "all" | .repr => "repr" | .int => "int"
theorem map_inj {α β : Type} {f : α → β} (h : ∀ a b, f a = f b → a = b) : ∀ {l m : List α}, l.map f = m.map f → l = m
  | [], [], _ => rfl
  | [], _ :: _, e => by simp at e
  | _ :: _, [], e => by simp at e
  | a :: l, b :: m, e => by
    simp at e
    rw [h _ _ e.1, map_inj h e.2]
theorem call_bi {f : Bi} (hc : X.calm = true) : CallR X (biOf f) (rBn X.K (biV f)) := by
  intro pins s σ H vs us Q I rv h
  obtain ⟨Z, xs, r, As, g, e, q⟩ := h
  unfold biV at e
  split at e
  · -- len
    rename_i x
    obtain ⟨v, rfl, g'⟩ := reps1 g
    obtain ⟨f1, r1⟩ := g'.rp
    split at e
    · cases e
      unfold Rep at r1
      obtain ⟨_, a, vs, rfl, hq, rs⟩ := r1
      refine call_len_seq pins s σ H _ us Q I rv ⟨a, vs, rfl, .inr hq, ?_⟩
      rw [rs.len]
      exact q _ _ _ (g.val ⟨rfl, rfl⟩)
    · cases e
      obtain ⟨a, vs, _, rfl, hq, rs⟩ := r1.listF
      refine call_len_seq pins s σ H _ us Q I rv ⟨a, vs, rfl, .inl hq, ?_⟩
      rw [rs.len]
      exact q _ _ _ (g.val ⟨rfl, rfl⟩)
    · cases e
  · -- sum
    rename_i x
    obtain ⟨v, rfl, g'⟩ := reps1 g
    obtain ⟨f1, r1⟩ := g'.rp
    rw [Option.bind_eq_some_iff] at e
    obtain ⟨ys, e1, e2⟩ := e
    simp only [Option.map_eq_some_iff] at e2
    obtain ⟨ns, e3, rfl⟩ := e2
    obtain ⟨a, vs, rfl, hq, rs⟩ := Rep.itemsF r1 e1
    have e4 := Reps.intsL rs e3
    subst e4
    rcases hq with hq | hq
    · exact cr_sum hc pins s σ H _ us Q I rv ⟨a, ns, rfl, hq, q _ _ _ (g.val ⟨rfl, rfl⟩)⟩
    · exact cr_sumT hc pins s σ H _ us Q I rv ⟨a, ns, rfl, hq, q _ _ _ (g.val ⟨rfl, rfl⟩)⟩
  · -- abs
    rename_i i
    cases e
    obtain ⟨v, rfl, g'⟩ := reps1 g
    obtain ⟨f1, r1⟩ := g'.rp
    have hv : v = .int i := r1.1
    subst hv
    exact call_abs pins s σ H _ us Q I rv ⟨i, rfl, q _ _ _ (g.val ⟨rfl, rfl⟩)⟩
  · -- tuple
    rename_i x
    simp only [Option.map_eq_some_iff] at e
    obtain ⟨ys, e1, rfl⟩ := e
    obtain ⟨v, rfl, g'⟩ := reps1 g
    obtain ⟨f1, r1⟩ := g'.rp
    obtain ⟨a, vs, rfl, hq, rs⟩ := Rep.itemsF r1 e1
    rcases hq with hq | hq
    · exact call_tuple_of pins s σ H _ us Q I rv ⟨a, vs, rfl, .inl ⟨hq, fun l hl => q _ _ _ (g.newT hl rs)⟩⟩
    · refine call_tuple_of pins s σ H _ us Q I rv ⟨a, vs, rfl, .inr ⟨hq, q _ _ _ (g.val ?_)⟩⟩
      unfold Rep
      exact ⟨rfl, a, vs, rfl, hq, rs⟩
  · -- list
    rename_i x
    simp only [Option.map_eq_some_iff] at e
    obtain ⟨ys, e1, rfl⟩ := e
    obtain ⟨v, rfl, g'⟩ := reps1 g
    obtain ⟨f1, r1⟩ := g'.rp
    obtain ⟨a, vs, rfl, hq, rs⟩ := Rep.itemsF r1 e1
    exact call_list_of pins s σ H _ us Q I rv ⟨a, vs, rfl, hq, fun l hl => q _ _ _ (g.newL hl rs)⟩
  · -- min2
    rename_i i j
    cases e
    obtain ⟨v, w, rfl, g'⟩ := reps2 g
    obtain ⟨f1, r1⟩ := g'.rp
    obtain ⟨f2, r2⟩ := g'.rp2
    have hv : v = .int i := r1.1
    have hw : w = .int j := r2.1
    subst hv; subst hw
    exact call_min2 hc pins s σ H _ us Q I rv ⟨i, j, rfl, q _ _ _ (g.val ⟨rfl, rfl⟩)⟩
  · -- max2
    rename_i i j
    cases e
    obtain ⟨v, w, rfl, g'⟩ := reps2 g
    obtain ⟨f1, r1⟩ := g'.rp
    obtain ⟨f2, r2⟩ := g'.rp2
    have hv : v = .int i := r1.1
    have hw : w = .int j := r2.1
    subst hv; subst hw
    exact call_max2 hc pins s σ H _ us Q I rv ⟨i, j, rfl, q _ _ _ (g.val ⟨rfl, rfl⟩)⟩
  · -- min1
    rename_i m ys
    rw [Option.bind_eq_some_iff] at e
    obtain ⟨ns, e1, e2⟩ := e
    simp only [Option.map_eq_some_iff] at e2
    obtain ⟨k, e3, rfl⟩ := e2
    obtain ⟨v, rfl, g'⟩ := reps1 g
    obtain ⟨f1, r1⟩ := g'.rp
    obtain ⟨a, vs, _, rfl, hq, rs⟩ := r1.listF
    have e4 := Reps.intsL rs e1
    subst e4
    obtain ⟨k1, k2⟩ := least_ok e3
    refine cr_min hc pins s σ H _ us Q I rv ⟨a, ns, rfl, hq, List.length_pos_of_mem k1, fun m' h1 h2 => ?_⟩
    have : m' = k := Int.le_antisymm (h2 k k1) (k2 m' h1)
    subst this
    exact q _ _ _ (g.val ⟨rfl, rfl⟩)
  · -- max1
    rename_i m ys
    rw [Option.bind_eq_some_iff] at e
    obtain ⟨ns, e1, e2⟩ := e
    simp only [Option.map_eq_some_iff] at e2
    obtain ⟨k, e3, rfl⟩ := e2
    obtain ⟨v, rfl, g'⟩ := reps1 g
    obtain ⟨f1, r1⟩ := g'.rp
    obtain ⟨a, vs, _, rfl, hq, rs⟩ := r1.listF
    have e4 := Reps.intsL rs e1
    subst e4
    obtain ⟨k1, k2⟩ := most_ok e3
    refine cr_max hc pins s σ H _ us Q I rv ⟨a, ns, rfl, hq, List.length_pos_of_mem k1, fun m' h1 h2 => ?_⟩
    have : m' = k := Int.le_antisymm (k2 m' h1) (h2 k k1)
    subst this
    exact q _ _ _ (g.val ⟨rfl, rfl⟩)
  · -- sorted
    rename_i m ys
    simp only [Option.map_eq_some_iff] at e
    obtain ⟨ns, e1, rfl⟩ := e
    obtain ⟨v, rfl, g'⟩ := reps1 g
    obtain ⟨f1, r1⟩ := g'.rp
    obtain ⟨a, vs, _, rfl, hq, rs⟩ := r1.listF
    have e4 := Reps.intsL rs e1
    subst e4
    refine cr_sortedI pins s σ H _ us Q I rv ⟨a, ns, rfl, hq, fun ns' p hp1 hp2 hp3 => ?_⟩
    obtain ⟨k1, k2⟩ := sortI_ok ns
    have : ns' = sortI ns := sorted_one (hp1.trans k2.symm) hp2 k1
    subst this
    exact q _ _ _ (g.newL hp3 (Reps.ofInts _))
  · -- any
    rename_i m ys
    simp only [Option.map_eq_some_iff] at e
    obtain ⟨bs, e1, rfl⟩ := e
    obtain ⟨v, rfl, g'⟩ := reps1 g
    obtain ⟨f1, r1⟩ := g'.rp
    obtain ⟨a, vs, _, rfl, hq, rs⟩ := r1.listF
    have e4 := Reps.boolsL rs e1
    subst e4
    exact cr_any hc pins s σ H _ us Q I rv ⟨a, bs, rfl, hq, q _ _ _ (g.val ⟨rfl, rfl⟩)⟩
  · -- all
    rename_i m ys
    simp only [Option.map_eq_some_iff] at e
    obtain ⟨bs, e1, rfl⟩ := e
    obtain ⟨v, rfl, g'⟩ := reps1 g
    obtain ⟨f1, r1⟩ := g'.rp
    obtain ⟨a, vs, _, rfl, hq, rs⟩ := r1.listF
    have e4 := Reps.boolsL rs e1
    subst e4
    exact cr_all hc pins s σ H _ us Q I rv ⟨a, bs, rfl, hq, q _ _ _ (g.val ⟨rfl, rfl⟩)⟩
  · -- any, of a tuple
    rename_i ys
    simp only [Option.map_eq_some_iff] at e
    obtain ⟨bs, e1, rfl⟩ := e
    obtain ⟨v, rfl, g'⟩ := reps1 g
    obtain ⟨f1, r1⟩ := g'.rp
    unfold Rep at r1
    obtain ⟨_, a, vs, rfl, hq, rs⟩ := r1
    have e4 := Reps.boolsL rs e1
    subst e4
    exact cr_anyT hc pins s σ H _ us Q I rv ⟨a, bs, rfl, hq, q _ _ _ (g.val ⟨rfl, rfl⟩)⟩
  · -- all, of a tuple
    rename_i ys
    simp only [Option.map_eq_some_iff] at e
    obtain ⟨bs, e1, rfl⟩ := e
    obtain ⟨v, rfl, g'⟩ := reps1 g
    obtain ⟨f1, r1⟩ := g'.rp
    unfold Rep at r1
    obtain ⟨_, a, vs, rfl, hq, rs⟩ := r1
    have e4 := Reps.boolsL rs e1
    subst e4
    exact cr_allT hc pins s σ H _ us Q I rv ⟨a, bs, rfl, hq, q _ _ _ (g.val ⟨rfl, rfl⟩)⟩
  · -- int
    rename_i i
    cases e
    obtain ⟨v, rfl, g'⟩ := reps1 g
    obtain ⟨f1, r1⟩ := g'.rp
    have hv : v = .int i := r1.1
    subst hv
    exact call_int1 pins s σ H _ us Q I rv (.inl ⟨i, rfl, q _ _ _ (g.val ⟨rfl, rfl⟩)⟩)
  · rename_i b
    cases e
    obtain ⟨v, rfl, g'⟩ := reps1 g
    obtain ⟨f1, r1⟩ := g'.rp
    have hv : v = .bl b := r1.1
    subst hv
    exact call_int1 pins s σ H _ us Q I rv (.inr ⟨b, rfl, q _ _ _ (g.val ⟨rfl, rfl⟩)⟩)
  · cases e
end
end Nd

/-! NdH: writes; methods of lists and dicts. -/
namespace Nd
open PySem PySem.Spec PyProof.Rows L2
section
variable {K : PySem.W.Frag} {H : Hp} {Z : ZS} {As : List Asn}
theorem keep_upd {a : Addr} {o oa : HO} {f : List Addr} (hH : H a = some oa) (hw : Wr oa) (hz : ¬ Z a) (hf : a ∉ f) : Keep H (upd H a o) Z f := fun b u e q => by
  refine (upd_ne ?_).trans e
  rintro rfl
  rcases q with q | q | q
  · exact hf q
  · exact hz q
  · rw [hH] at e
    cases e
    cases oa <;> first | exact q | exact hw
theorem good_put {B : Asn} {f f' F : List Addr} {a : Addr} {o oa : HO} (s : Sat H Z As F) (nd : (f ++ F).Nodup) (z : ∀ b ∈ f ++ F, ¬ Z b) (zn : ∀ b, Z b → H b ≠ none) (ha : a ∈ f) (hH : H a = some oa) (hw : Wr oa) (hf : ∀ b ∈ f', b ∈ f) (nd' : f'.Nodup) (hB : B.p (upd H a o) Z f') :
    Good (upd H a o) Z (B :: As) := by
  obtain ⟨nf, nF, d⟩ := List.nodup_append.mp nd
  have kk : Keep H (L2.upd H a o) Z F := keep_upd hH hw (z a (by simp [ha])) fun q => d _ ha _ q rfl
  refine ⟨f' ++ F, ⟨f', F, rfl, hB, s.keep (fun _ q => q) kk⟩, List.nodup_append.mpr ⟨nd', nF, fun b hb c hc => d b (hf b hb) c hc⟩, fun b hb => ?_, fun b q => ?_⟩
  · rcases List.mem_append.mp hb with hb | hb
    · exact z b (by simp [hf b hb])
    · exact z b (by simp [hb])
  · by_cases hb : b = a
    · subst hb; rw [upd_same]; simp
    · rw [upd_ne hb]; exact zn b q
/-- an owned list whose items are free is written -/
theorem Good.setL {a : Addr} {xs ys : List Val} {ws : List V} (g : Good H Z (rep K (.ref a) (.lst .ow xs) :: As)) (r : Reps K H Z ys ws []) : Good (upd H a (.lst ws)) Z (rep K (.ref a) (.lst .ow ys) :: As) ∧ Keep H (upd H a (.lst ws)) Z [] := by
  obtain ⟨f, F, rr, s, nd, z, zn⟩ := g.out
  have rr' : Rep K H Z (.lst .ow xs) (.ref a) f := rr
  unfold Rep at rr'
  obtain ⟨a', vs, rfl, e, hH, rs⟩ := rr'
  cases e
  have k : Keep H (upd H a (.lst ws)) Z [] := keep_upd hH trivial (z a (by simp)) (by simp)
  refine ⟨good_put s nd z zn (by simp) hH trivial (fun b hb => hb) (by simp) (f' := [a]) ?_, k⟩
  show Rep K _ Z (.lst .ow ys) (.ref a) [a]
  unfold Rep
  exact ⟨a, ws, rfl, rfl, upd_same, Reps.keep (fun _ q => q) _ _ _ k r⟩
theorem Good.setD {a : Addr} {xs ys : List (Key × Val)} {ws : List (Key × V)} (g : Good H Z (rep K (.ref a) (.dic .ow xs) :: As)) (r : RepKs K H Z ys ws []) : Good (upd H a (.dK ws)) Z (rep K (.ref a) (.dic .ow ys) :: As) ∧ Keep H (upd H a (.dK ws)) Z [] := by
  obtain ⟨f, F, rr, s, nd, z, zn⟩ := g.out
  have rr' : Rep K H Z (.dic .ow xs) (.ref a) f := rr
  unfold Rep at rr'
  obtain ⟨a', vs, rfl, e, hH, rs⟩ := rr'
  cases e
  have k : Keep H (upd H a (.dK ws)) Z [] := keep_upd hH trivial (z a (by simp)) (by simp)
  refine ⟨good_put s nd z zn (by simp) hH trivial (fun b hb => hb) (by simp) (f' := [a]) ?_, k⟩
  show Rep K _ Z (.dic .ow ys) (.ref a) [a]
  unfold Rep
  exact ⟨a, ws, rfl, rfl, upd_same, RepKs.keep (fun _ q => q) _ _ _ k r⟩
theorem Reps.one {x : Val} {v : V} {f : List Addr} (h : Rep K H Z x v f) : Reps K H Z [x] [v] f := by
  have := Reps.mk h Reps.nil
  simpa using this
theorem Reps.appendF : ∀ {xs ys : List Val} {vs ws : List V} {f g : List Addr}, Reps K H Z xs vs f → Reps K H Z ys ws g → Reps K H Z (xs ++ ys) (vs ++ ws) (f ++ g)
  | [], ys, vs, ws, f, g, r, q => by
    unfold Reps at r
    obtain ⟨rfl, rfl⟩ := r
    exact q
  | x :: xs, ys, vs, ws, f, g, r, q => by
    unfold Reps at r
    obtain ⟨v, vr, g', h, rfl, rfl, r1, r2⟩ := r
    have := Reps.mk r1 (Reps.appendF r2 q)
    rw [List.append_assoc]
    exact this
theorem Reps.split : ∀ {xs : List Val} {vs : List V} {f : List Addr}, Reps K H Z (xs : List Val) vs f → ∀ n, ∃ g h, f = g ++ h ∧ Reps K H Z (xs.take n) (vs.take n) g ∧ Reps K H Z (xs.drop n) (vs.drop n) h
  | xs, vs, f, r, 0 => ⟨[], f, rfl, by simp [Reps.nil], by simpa using r⟩
  | [], vs, f, r, n + 1 => by
    have r' := r
    unfold Reps at r'
    obtain ⟨rfl, rfl⟩ := r'
    exact ⟨[], [], rfl, by simp [Reps.nil], by simp [Reps.nil]⟩
  | x :: xs, vs, f, r, n + 1 => by
    unfold Reps at r
    obtain ⟨v, vr, g', h, rfl, rfl, r1, r2⟩ := r
    obtain ⟨g1, h1, rfl, q1, q2⟩ := Reps.split r2 n
    refine ⟨g' ++ g1, h1, by rw [List.append_assoc], ?_, ?_⟩
    · simpa using Reps.mk r1 q1
    · simpa using q2
theorem Reps.erase {xs : List Val} {vs : List V} {f : List Addr} (n : Nat) (r : Reps K H Z xs vs f) : ∃ g, Reps K H Z (xs.eraseIdx n) (vs.eraseIdx n) g ∧ ∀ b ∈ g, b ∈ f := by
  induction xs generalizing vs f n with
  | nil =>
    have r' := r
    unfold Reps at r'
    obtain ⟨rfl, rfl⟩ := r'
    exact ⟨[], by simpa using Reps.nil, by simp⟩
  | cons x xs ih =>
    unfold Reps at r
    obtain ⟨v, vr, g', h, rfl, rfl, r1, r2⟩ := r
    cases n with
    | zero => exact ⟨h, by simpa using r2, fun b hb => by simp [hb]⟩
    | succ n =>
      obtain ⟨g, q1, q2⟩ := ih n r2
      exact ⟨g' ++ g, by simpa using Reps.mk r1 q1, fun b hb => by
        rcases List.mem_append.mp hb with hb | hb
        · simp [hb]
        · simp [q2 b hb]⟩
theorem Reps.erase0 {xs : List Val} {vs : List V} (n : Nat) (r : Reps K H Z xs vs []) : Reps K H Z (xs.eraseIdx n) (vs.eraseIdx n) [] := by
  obtain ⟨g, q1, q2⟩ := r.erase n
  have : g = [] := List.eq_nil_iff_forall_not_mem.mpr fun b hb => by simpa using q2 b hb
  subst this
  exact q1
theorem Reps.set0 : ∀ {xs : List Val} {vs : List V} {n : Nat} {x : Val} {v : V}, Reps K H Z xs vs [] → Rep K H Z x v [] → Reps K H Z (xs.set n x) (vs.set n v) []
  | [], vs, n, x, v, r, q => by
    have r' := r
    unfold Reps at r'
    obtain ⟨rfl, _⟩ := r'
    simpa using r
  | y :: xs, vs, n, x, v, r, q => by
    unfold Reps at r
    obtain ⟨w, vr, g', h, rfl, e, r1, r2⟩ := r
    obtain ⟨rfl, rfl⟩ : g' = [] ∧ h = [] := by simpa using e.symm
    cases n with
    | zero => simpa using Reps.mk q r2
    | succ n => simpa using Reps.mk r1 (Reps.set0 (n := n) r2 q)
/-- an item of held ones put anew -/
theorem Reps.put : ∀ {xs : List Val} {vs : List V} {h g : List Addr} {i : Nat} {y : Val} {v : V}, Reps K H Z (xs.set i .und) vs h → i < xs.length → Rep K H Z y v g → ∃ f, Reps K H Z (xs.set i y) (vs.set i v) f ∧ f.Perm (g ++ h)
  | [], _, _, _, _, _, _, r, e, _ => by simp at e
  | x :: xs, vs, h, g, 0, y, v, r, e, q => by
    have r' : Reps K H Z (.und :: xs) vs h := r
    unfold Reps at r'
    obtain ⟨w, vr, g', k, rfl, rfl, r1, r2⟩ := r'
    have eg : g' = [] := r1
    subst eg
    exact ⟨g ++ k, by simpa using Reps.mk q r2, .refl _⟩
  | x :: xs, vs, h, g, i + 1, y, v, r, e, q => by
    have r' : Reps K H Z (x :: xs.set i .und) vs h := r
    unfold Reps at r'
    obtain ⟨w, vr, g', k, rfl, rfl, r1, r2⟩ := r'
    obtain ⟨f, q1, q2⟩ := Reps.put r2 (by simpa using e) q
    refine ⟨g' ++ f, by simpa using Reps.mk r1 q1, ?_⟩
    refine (q2.append_left g').trans ?_
    rw [← List.append_assoc, ← List.append_assoc]
    exact List.perm_append_comm.append_right k
/-- an item put behind held ones -/
theorem Good.appN {a : Addr} {xs : List Val} {vs : List V} {y : Val} {v : V} (g : Good H Z (rep K (.ref a) (.lst .ne xs) :: rep K v y :: As)) (hH : H a = some (.lst vs)) : Good (upd H a (.lst (vs ++ [v]))) Z (rep K (.ref a) (.lst .ne (xs ++ [y])) :: As) := by
  obtain ⟨_, ⟨f, _, rfl, rr, f2, F, rfl, r2, s⟩, nd, z, zn⟩ := g
  have rr' : Rep K H Z (.lst .ne xs) (.ref a) f := rr
  unfold Rep at rr'
  obtain ⟨a', vs', gg, rfl, e, hH', rs⟩ := rr'
  cases e
  rw [hH] at hH'; cases hH'
  have r2' : Rep K H Z y v f2 := r2
  rw [← List.append_assoc] at nd z
  have nd1 := (List.nodup_append.mp nd).1
  refine good_put (f := (a :: gg) ++ f2) (f' := (a :: gg) ++ f2) s nd z zn (by simp) hH trivial (fun b hb => hb) nd1 ?_
  show Rep K _ Z (.lst .ne (xs ++ [y])) (.ref a) (a :: (gg ++ f2))
  unfold Rep
  refine ⟨a, vs ++ [v], gg ++ f2, rfl, rfl, upd_same, ?_⟩
  exact Reps.keep (fun _ q => q) _ _ _ (keep_upd hH trivial (z a (by simp)) (by
    have : (a :: (gg ++ f2)).Nodup := nd1
    exact (List.nodup_cons.mp this).1)) (Reps.appendF rs (Reps.one r2'))
theorem Good.setN {a : Addr} {xs : List Val} {vs : List V} {y : Val} {v : V} {n : Nat} (g : Good H Z (rep K (.ref a) (.lst .ne xs) :: rep K v y :: As)) (hH : H a = some (.lst vs)) (hn : n < xs.length) : Good (upd H a (.lst (vs.set n v))) Z (rep K (.ref a) (.lst .ne (xs.set n y)) :: As) := by
  obtain ⟨_, ⟨f, _, rfl, rr, f2, F, rfl, r2, s⟩, nd, z, zn⟩ := g
  have rr' : Rep K H Z (.lst .ne xs) (.ref a) f := rr
  unfold Rep at rr'
  obtain ⟨a', vs', gg, rfl, e, hH', rs⟩ := rr'
  cases e
  rw [hH] at hH'; cases hH'
  have r2' : Rep K H Z y v f2 := r2
  rw [← List.append_assoc] at nd z
  have nd1 := (List.nodup_append.mp nd).1
  obtain ⟨v0, g1, h1, q1, q2, q3, q4⟩ := Reps.pick rs (List.getElem?_eq_getElem hn)
  obtain ⟨f3, q5, q6⟩ := Reps.put q3 hn r2'
  have sub : ∀ b ∈ f3, b ∈ gg ++ f2 := fun b hb => by
    rcases List.mem_append.mp (q6.mem_iff.mp hb) with hb | hb
    · simp [hb]
    · simp [q4.mem_iff.mpr (List.mem_append_right _ hb)]
  have nda : (a :: (gg ++ f2)).Nodup := nd1
  have na : a ∉ f3 := fun hb => (List.nodup_cons.mp nda).1 (sub a hb)
  have n3 : f3.Nodup := by
    refine q6.nodup_iff.mpr ?_
    have e1 : (gg ++ f2).Nodup := (List.nodup_cons.mp nda).2
    have e2 : ((g1 ++ h1) ++ f2).Nodup := (q4.append_right f2).nodup_iff.mp e1
    have e3 : (g1 ++ (h1 ++ f2)).Nodup := by rw [← List.append_assoc]; exact e2
    exact List.perm_append_comm.nodup_iff.mp (List.nodup_append.mp e3).2.1
  refine good_put (f := (a :: gg) ++ f2) (f' := a :: f3) s nd z zn (by simp) hH trivial (fun b hb => ?_) (List.nodup_cons.mpr ⟨na, n3⟩) ?_
  · rcases List.mem_cons.mp hb with rfl | hb
    · simp
    · simpa using .inr (by simpa using sub b hb)
  · show Rep K _ Z (.lst .ne (xs.set n y)) (.ref a) (a :: f3)
    unfold Rep
    exact ⟨a, vs.set n v, f3, rfl, rfl, upd_same, Reps.keep (fun _ q => q) _ _ _ (keep_upd hH trivial (z a (by simp)) na) q5⟩
theorem RepKs.app : ∀ {kvs lvs : List (Key × Val)} {ks ls : List (Key × V)}, RepKs K H Z kvs ks [] → RepKs K H Z lvs ls [] → RepKs K H Z (kvs ++ lvs) (ks ++ ls) []
  | [], lvs, ks, ls, r, q => by
    unfold RepKs at r
    obtain ⟨rfl, _⟩ := r
    exact q
  | (k, x) :: kvs, lvs, ks, ls, r, q => by
    unfold RepKs at r
    obtain ⟨v, vr, g', h, rfl, e, r1, r2⟩ := r
    obtain ⟨rfl, rfl⟩ : g' = [] ∧ h = [] := by simpa using e.symm
    show RepKs K H Z ((k, x) :: (kvs ++ lvs)) ((k, v) :: (vr ++ ls)) []
    unfold RepKs
    exact ⟨v, _, [], [], rfl, rfl, r1, RepKs.app r2 q⟩
theorem RepKs.one {k : Key} {x : Val} {v : V} (r : Rep K H Z x v []) : RepKs K H Z [(k, x)] [(k, v)] [] := by
  unfold RepKs
  exact ⟨v, [], [], [], rfl, rfl, r, by unfold RepKs; exact ⟨rfl, rfl⟩⟩
theorem RepKs.any : ∀ {kvs : List (Key × Val)} {ks : List (Key × V)} {f : List Addr} {q : Key}, RepKs K H Z kvs ks f → (kvs.any fun kv => decide (kv.1 = q)) = (ks.any fun kv => decide (kv.1 = q))
  | [], ks, f, q, r => by
    unfold RepKs at r
    obtain ⟨rfl, _⟩ := r
    rfl
  | (k, x) :: kvs, ks, f, q, r => by
    unfold RepKs at r
    obtain ⟨v, vr, g', h, rfl, e, r1, r2⟩ := r
    simp only [List.any_cons, RepKs.any r2]
theorem RepKs.over {q : Key} {x : Val} {v : V} (r2 : Rep K H Z x v []) : ∀ {kvs : List (Key × Val)} {ks : List (Key × V)}, RepKs K H Z kvs ks [] → RepKs K H Z (kvs.map fun kv => if kv.1 = q then (q, x) else kv) (ks.map fun kv => if kv.1 = q then (kv.1, v) else kv) []
  | [], ks, r => by
    unfold RepKs at r
    obtain ⟨rfl, _⟩ := r
    exact (by unfold RepKs; exact ⟨rfl, rfl⟩ : RepKs K H Z [] [] [])
  | (k, y) :: kvs, ks, r => by
    unfold RepKs at r
    obtain ⟨w, kr, g, h, rfl, e, r3, r4⟩ := r
    obtain ⟨rfl, rfl⟩ : g = [] ∧ h = [] := by simpa using e.symm
    have ih := RepKs.over (q := q) r2 r4
    by_cases hk : k = q
    · subst hk
      simp only [List.map_cons, if_true]
      unfold RepKs
      exact ⟨v, _, [], [], rfl, rfl, r2, ih⟩
    · simp only [List.map_cons, if_neg hk]
      unfold RepKs
      exact ⟨w, _, [], [], rfl, rfl, r3, ih⟩
theorem RepKs.putL {kvs : List (Key × Val)} {ks : List (Key × V)} {q : Key} {x : Val} {v : V} (r : RepKs K H Z kvs ks []) (r2 : Rep K H Z x v []) : RepKs K H Z (Nd.putL kvs q x) (putK ks q v) [] := by
  unfold Nd.putL putK
  rw [r.any]
  split
  · exact RepKs.over r2 r
  · exact RepKs.app r (RepKs.one r2)
theorem RepKs.len : ∀ {kvs : List (Key × Val)} {ks : List (Key × V)} {f : List Addr}, RepKs K H Z kvs ks f → ks.length = kvs.length
  | [], _, _, r => by unfold RepKs at r; rw [r.1]; rfl
  | (q, x) :: xs, ks, f, r => by
    unfold RepKs at r
    obtain ⟨v, vr, g, h, rfl, ef, r1, r2⟩ := r
    simp [RepKs.len r2]
end
/-! ### methods -/
def mtId : Mt → String
  | .append => "list.append" | .pop0 => "list.pop" | .pop1 => "list.pop" | .extend => "list.extend" | .get2 => "dict.get"
def mtName : Mt → Str
  | .append => "append" | .pop0 => "pop" | .pop1 => "pop" | .extend => "extend" | .get2 => "get"
def mtTy : Mt → String
  | .get2 => "dict" | _ => "list"
def rMe (K : PySem.W.Frag) (f : Mt) : V → List V → Hp → VK → Prop := fun x vs H Q => ∃ Z xv ys r x' As, Good H Z (rep K x xv :: (reps K vs ys ++ As)) ∧ meV f xv ys = some (r, x') ∧ ∀ H' Z' u, Good H' Z' (rep K u r :: rep K x x' :: As) → Q u H'
section
variable {X : Cx}
theorem RepKs.findN {K : PySem.W.Frag} {H : Hp} {Z : ZS} : ∀ {kvs : List (Key × Val)} {ks : List (Key × V)} {f : List Addr} {k : Key}, RepKs K H Z kvs ks f → kvs.find? (fun kv => decide (kv.1 = k)) = none → valV ks k = none
  | [], ks, f, k, r, e => by
    unfold RepKs at r
    obtain ⟨rfl, _⟩ := r
    rfl
  | (k', x) :: kvs, ks, f, k, r, e => by
    unfold RepKs at r
    obtain ⟨v, kr, g, h, rfl, rfl, r1, r2⟩ := r
    rw [List.find?_cons] at e
    by_cases hk : k' = k
    · rw [decide_eq_true hk] at e
      cases e
    · rw [decide_eq_false hk] at e
      have := RepKs.findN r2 e
      unfold valV at this ⊢
      rw [List.find?_cons, decide_eq_false hk]
      exact this
theorem key_rep {K : PySem.W.Frag} {H : Hp} {Z : ZS} {x : Val} {v : V} {f : List Addr} {q : Key} (r : Rep K H Z x v f) (e : key x = some q) : v = kV q := by
  unfold Nd.key at e
  split at e <;> cases e
  · exact r.1
  · exact r.1
theorem ixN_lt {n : Nat} {i : Int} {k : Nat} (h : ixN n i = some k) : k < n := (ixN_seq h).2.1
theorem mt_me (hu : X.A.units + 1 < cLine) {f : Mt} : MtR X (mtId f) (rMe X.K f) := by
  intro pins s σ H x vs v us Q I rx rv h
  obtain ⟨Z, xv, ys, r, x', As, g, e, q⟩ := h
  unfold meV at e
  split at e
  · -- append, ow
    rename_i xs y
    split at e
    · rename_i z hz
      split at e
      · rename_i hl
        cases e
        have g0 : Good H Z (reps X.K vs [y] ++ (rep X.K x (.lst .ow xs) :: As)) := g.perm (permC fun a => by simp only [cnt_cons, cnt_append, cnt_nil]; omega)
        obtain ⟨w, rfl, g1⟩ := reps1 g0
        obtain ⟨Z1, hZ, g2⟩ := g1.letgo hz
        obtain ⟨fz, rz⟩ := g2.rp
        have ef : fz = [] := Rep.freeOf (frz_free hz) rz
        subst ef
        have g3 := g2.drop
        obtain ⟨f1, r1⟩ := g3.rp
        have r1' := r1
        unfold Rep at r1'
        obtain ⟨a, ws, rfl, rfl, hH, rs⟩ := r1'
        refine mt_append pins s σ H _ _ v us Q I rx rv ⟨a, ws, w, rfl, rfl, hH, by rw [rs.len]; exact hl, ?_⟩
        obtain ⟨g4, k4⟩ := g3.setL (ys := xs ++ [z]) (ws := ws ++ [w]) (Reps.append rs (Reps.one rz))
        exact q _ _ _ (g4.val ⟨rfl, rfl⟩)
      · cases e
    · cases e
  · -- append, ne
    rename_i xs y
    split at e
    · rename_i hl
      cases e
      have g0 : Good H Z (reps X.K vs [y] ++ (rep X.K x (.lst .ne xs) :: As)) := g.perm (permC fun a => by simp only [cnt_cons, cnt_append, cnt_nil]; omega)
      obtain ⟨w, rfl, g1⟩ := reps1 g0
      have g2 : Good H Z (rep X.K x (.lst .ne xs) :: rep X.K w y :: As) := g1.perm (List.Perm.swap _ _ _)
      obtain ⟨f1, r1⟩ := g2.rp
      have r1' := r1
      unfold Rep at r1'
      obtain ⟨a, ws, gg, rfl, rfl, hH, rs⟩ := r1'
      refine mt_append pins s σ H _ _ v us Q I rx rv ⟨a, ws, w, rfl, rfl, hH, by rw [rs.len]; exact hl, ?_⟩
      exact q _ _ _ ((g2.appN hH).val ⟨rfl, rfl⟩)
    · cases e
  · -- pop()
    rename_i xs
    simp only [Option.map_eq_some_iff] at e
    obtain ⟨y, ey, e⟩ := e
    cases e
    have g0 : Good H Z (reps X.K vs [] ++ (rep X.K x (.lst .ow xs) :: As)) := g.perm (permC fun a => by simp only [cnt_cons, cnt_append, cnt_nil]; omega)
    have ev := reps0 g0
    subst ev
    have g3 : Good H Z (rep X.K x (.lst .ow xs) :: As) := g0
    obtain ⟨f1, r1⟩ := g3.rp
    have r1' := r1
    unfold Rep at r1'
    obtain ⟨a, ws, rfl, rfl, hH, rs⟩ := r1'
    obtain ⟨w, hw, rw'⟩ := Reps.get rs ey
    refine mt_pop pins s σ H _ _ v us Q I rx rv ⟨a, ws, w, rfl, rfl, hH, by rw [rs.len]; exact hw, ?_⟩
    have rd : Reps X.K H Z xs.dropLast ws.dropLast [] := by
      rw [List.dropLast_eq_take, List.dropLast_eq_take, rs.len]
      exact Reps.take _ rs
    obtain ⟨g4, k4⟩ := g3.setL rd
    exact q _ _ _ (g4.val (Rep.keep (fun _ z => z) _ _ _ k4 rw'))
  · -- pop(i)
    rename_i xs i
    split at e
    · rename_i hi
      rw [Option.bind_eq_some_iff] at e
      obtain ⟨n, hn, e⟩ := e
      simp only [Option.map_eq_some_iff] at e
      obtain ⟨y, ey, e⟩ := e
      cases e
      have g0 : Good H Z (reps X.K vs [.int i] ++ (rep X.K x (.lst .ow xs) :: As)) := g.perm (permC fun a => by simp only [cnt_cons, cnt_append, cnt_nil]; omega)
      obtain ⟨w0, rfl, g1⟩ := reps1 g0
      obtain ⟨f0, r0⟩ := g1.rp
      have hw0 : w0 = .int i := r0.1
      subst hw0
      have g3 := g1.drop
      obtain ⟨f1, r1⟩ := g3.rp
      have r1' := r1
      unfold Rep at r1'
      obtain ⟨a, ws, rfl, rfl, hH, rs⟩ := r1'
      obtain ⟨w, hw, rw'⟩ := Reps.get rs ey
      refine mt_popAt pins s σ H _ _ v us Q I rx rv ⟨a, ws, i, n, w, rfl, rfl, hH, by omega, by omega, by rw [rs.len]; exact (ixN_seq hn).1, hw, ?_⟩
      obtain ⟨g4, k4⟩ := g3.setL (Reps.erase0 n rs)
      exact q _ _ _ (g4.val (Rep.keep (fun _ z => z) _ _ _ k4 rw'))
    · cases e
  · -- get(k, d)
    rename_i m kvs k d
    split at e
    · rename_i qk hk
      have g0 : Good H Z (reps X.K vs [k, d] ++ (rep X.K x (.dic m kvs) :: As)) := g.perm (permC fun a => by simp only [cnt_cons, cnt_append, cnt_nil]; omega)
      obtain ⟨w1, w2, rfl, g1⟩ := reps2 g0
      obtain ⟨f1, r1⟩ := g1.rp
      have hw1 := key_rep r1 hk
      subst hw1
      have g2 : Good H Z (rep X.K x (.dic m kvs) :: rep X.K w2 d :: As) := g1.drop.perm (List.Perm.swap _ _ _)
      obtain ⟨f3, r3⟩ := g2.rp
      obtain ⟨a, ks, gg, rfl, hH, rs⟩ := r3.dicF
      obtain ⟨u1, u2, rfl, ru1, ru2⟩ := vals2 rv
      cases (show v = Value.ref a from rx)
      refine d_get2 hu I (DGet.k (k := qk) hH) ru1 ru2 fun w' s' I' rw' => ⟨_, H, I', rw', ?_⟩
      split at e
      · rename_i kv hkv
        split at e
        · cases e
        · rename_i hh
          cases e
          obtain ⟨t, g', q1, q2⟩ := RepKs.find rs hkv
          have hg' : g' = [] := Rep.freeOf (by simpa using hh) q2
          subst hg'
          rw [q1]
          have g5 : Good H Z (rep X.K (.ref a) (.dic m kvs) :: As) := (g2.perm (List.Perm.swap _ _ _)).drop
          exact q _ _ _ (g5.val q2)
      · rename_i hkv
        cases e
        rw [RepKs.findN rs hkv]
        exact q _ _ _ (g2.perm (List.Perm.swap _ _ _))
    · cases e
  · -- extend, ow
    rename_i xs zs
    split at e
    · rename_i hl
      cases e
      have g0 : Good H Z (reps X.K vs [.lst .ow zs] ++ (rep X.K x (.lst .ow xs) :: As)) := g.perm (permC fun a => by simp only [cnt_cons, cnt_append, cnt_nil]; omega)
      obtain ⟨w, rfl, g1⟩ := reps1 g0
      obtain ⟨f2, r2⟩ := g1.rp
      have r2' := r2
      unfold Rep at r2'
      obtain ⟨b, bs, rfl, rfl, hB, rb⟩ := r2'
      have g3 := g1.drop
      obtain ⟨f1, r1⟩ := g3.rp
      have r1' := r1
      unfold Rep at r1'
      obtain ⟨a, ws, rfl, rfl, hH, rs⟩ := r1'
      refine mt_extend pins s σ H _ _ v us Q I rx rv ⟨a, b, ws, bs, rfl, rfl, hH, hB, by rw [rs.len, rb.len]; exact hl, ?_⟩
      obtain ⟨g4, k4⟩ := g3.setL (Reps.append rs rb)
      exact q _ _ _ (g4.val ⟨rfl, rfl⟩)
    · cases e
  · -- extend, fz
    rename_i xs zs
    split at e
    · rename_i hl
      cases e
      have g0 : Good H Z (reps X.K vs [.lst .fz zs] ++ (rep X.K x (.lst .ow xs) :: As)) := g.perm (permC fun a => by simp only [cnt_cons, cnt_append, cnt_nil]; omega)
      obtain ⟨w, rfl, g1⟩ := reps1 g0
      obtain ⟨f2, r2⟩ := g1.rp
      have r2' := r2
      unfold Rep at r2'
      obtain ⟨_, b, bs, rfl, hB, rb⟩ := r2'
      have g3 := g1.drop
      obtain ⟨f1, r1⟩ := g3.rp
      have r1' := r1
      unfold Rep at r1'
      obtain ⟨a, ws, rfl, rfl, hH, rs⟩ := r1'
      refine mt_extend pins s σ H _ _ v us Q I rx rv ⟨a, b, ws, bs, rfl, rfl, hH, hB.1, by rw [rs.len, rb.len]; exact hl, ?_⟩
      obtain ⟨g4, k4⟩ := g3.setL (Reps.append rs rb)
      exact q _ _ _ (g4.val ⟨rfl, rfl⟩)
    · cases e
  · cases e
end
end Nd

/-! NdI: calls. -/
namespace Nd
open PySem PySem.Spec PyProof.Rows L2
/-! ### what is seen of the text -/
def plainE : Expr → Bool
  | .Starred _ _ => false
  | _ => true
theorem starEach_cons {e : Expr} {es : List Expr} {env : Env} (h : plainE e = true) : starEach (e :: es) env = (false, eval e env) :: starEach es env := by
  cases e <;> first | rfl | cases h
theorem starEach_plain : ∀ {es : List Expr} {env : Env}, es.all plainE = true → (starEach es env).any (·.1) = false
  | [], _, _ => rfl
  | e :: es, env, h => by
    rw [List.all_cons, Bool.and_eq_true] at h
    rw [starEach_cons h.1, List.any_cons, starEach_plain h.2]
    rfl
theorem backTo_plain {es : List Expr} {env : Env} {pos : Pos} (h : es.all plainE = true) : (backTo pos (starEach es env)).any (·.1) = false := by
  have := starEach_plain (env := env) h
  unfold backTo
  rw [List.any_map]
  exact this
theorem backTo_few {es : List Expr} {env : Env} {pos : Pos} (h : es.all plainE = true) : (backTo pos (starEach es env)).all (fun x => !x.1) = true := by
  have := starEach_plain (env := env) h
  unfold backTo
  rw [List.all_map]
  rw [List.any_eq_false] at this
  rw [List.all_eq_true]
  intro x hx
  have := this x hx
  simpa using this
section
variable {XR : XRT} {W : WX} {X : Cx}
/-! ### methods -/
theorem mt_ty {K : PySem.W.Frag} {H : Hp} {Z : ZS} {f : Mt} {x : Val} {v : V} {g : List Addr} (h : mtOk f x = true) (r : Rep K H Z x v g) : tyV K (mtTy f) v H := by
  have lst : ∀ {m : Md} {xs : List Val}, x = .lst m xs → tyV K "list" v H := fun e => by
    subst e
    obtain ⟨a, vs, gg, rfl, hq, rs⟩ := r.listF
    exact .inl ⟨rfl, vs, hq⟩
  have dic : ∀ {m : Md} {kvs : List (Key × Val)}, x = .dic m kvs → tyV K "dict" v H := fun e => by
    subst e
    obtain ⟨a, ks, gg, rfl, hq, rs⟩ := r.dicF
    exact .inr (.inr (.inl ⟨rfl, .inl ⟨ks, hq⟩⟩))
  cases f <;> cases x <;> first | exact lst rfl | exact dic rfl | (exact absurd h (by simp [mtOk]))
theorem me_ok {f : Mt} {ma : M (Val × Tk)} {mx : M (List Val)} {σ : Sl} {H : Hp} {Q : VK} (h : tE X.K XR W (bindM ma fun p => if mtOk f p.1 then bindM mx fun xs => bindM (liftM (meV f p.1 xs)) fun r => bindM (plug p.2 r.2) fun _ => pureM r.1 else fun _ => .stuck) σ H Q) :
    tG X.K XR W ma σ H fun x H1 => tyV X.K (mtTy f) x H1 ∧ tX X.K XR W mx σ H1 fun vs H2 => rMe X.K f x vs H2 Q := by
  obtain ⟨Z, T, e, g, h⟩ := h
  rw [outP_bind] at h
  refine ⟨Z, T, e, g, h.imp (fun p e1 k H1 Z1 v g1 => ?_) fun _ _ k => k⟩
  split at k
  · rename_i hm
    obtain ⟨_, r1⟩ := g1.rp
    refine ⟨mt_ty hm r1, Z1, argA X.K σ v p ++ T, e1, g1.mid, ?_⟩
    rw [outP_bind] at k
    refine k.imp (fun xs e2 k2 H2 Z2 vs g2 => ?_) fun _ _ k => k.dropA
    rw [outP_bind, outP_lift] at k2
    obtain ⟨⟨r, x'⟩, er, k2⟩ := k2
    refine ⟨Z2, p.1, xs, r, x', tkA X.K σ v p.2 ++ (envA X.K σ e2 ++ T), g2.perm (permC fun a => by simp only [cnt_cons, cnt_append, cnt_nil, argA]; omega), er, fun H' Z' u g' => ?_⟩
    have g3 : Good H' Z' (rep X.K v x' :: (tkA X.K σ v p.2 ++ (envA X.K σ e2 ++ (rep X.K u r :: T)))) := g'.perm (permC fun a => by simp only [cnt_cons, cnt_append, cnt_nil]; omega)
    obtain ⟨e3, q1, g4⟩ := g3.plug
    rw [outP_bind] at k2
    have q1' : plug p.2 (r, x').2 e2 = .ok () e3 := q1
    rw [q1'] at k2
    exact k2 H' Z' u (g4.perm (permC fun a => by simp only [cnt_cons, cnt_append, cnt_nil]; omega))
  · exact k.elim
theorem tE_me0 {f : Mt} {o : Expr} {ma : M (Val × Tk)} {apos cpos : Pos} (hu : X.A.units + 1 < cLine) (ha : PE X o (tG X.K XR W ma)) (hbase : ∀ n, attributeBase o n X.env (eval o X.env) = eval o X.env) (hline : (apos.endLine == cpos.line) = true) :
    PE X (.Call (.Attribute o (mtName f) apos) [] [] cpos) (tE X.K XR W (bindM ma fun p => if mtOk f p.1 then bindM (pureM []) fun xs => bindM (liftM (meV f p.1 xs)) fun r => bindM (plug p.2 r.2) fun _ => pureM r.1 else fun _ => .stuck)) := by
  have k : ∀ σ H Q, tE X.K XR W (bindM ma fun p => if mtOk f p.1 then bindM (pureM []) fun xs => bindM (liftM (meV f p.1 xs)) fun r => bindM (plug p.2 r.2) fun _ => pureM r.1 else fun _ => .stuck) σ H Q → tBM0 X.K (mtTy f) (rMe X.K f) (tG X.K XR W ma) σ H Q := fun σ H Q h => by
    obtain ⟨Z, T, e, g, h⟩ := me_ok h
    refine ⟨Z, T, e, g, h.imp (fun p e1 k H1 Z1 v g1 => ?_) fun _ _ k => k⟩
    obtain ⟨h1, Z2, T2, e2, g2, h2⟩ := k H1 Z1 v g1
    exact ⟨h1, h2 H1 Z2 [] g2⟩
  cases f
  · exact PE_imp (pe_bm0 PySem.F.plainAttrs_list PySem.F.slot_list_append PySem.F.type_list_append (mt_me hu (f := .append)) ha (hbase _) hline) k
  · exact PE_imp (pe_bm0 PySem.F.plainAttrs_list PySem.F.slot_list_pop PySem.F.type_list_pop (mt_me hu (f := .pop0)) ha (hbase _) hline) k
  · exact PE_imp (pe_bm0 PySem.F.plainAttrs_list PySem.F.slot_list_pop PySem.F.type_list_pop (mt_me hu (f := .pop1)) ha (hbase _) hline) k
  · exact PE_imp (pe_bm0 PySem.F.plainAttrs_list PySem.F.slot_list_extend PySem.F.type_list_extend (mt_me hu (f := .extend)) ha (hbase _) hline) k
  · exact PE_imp (pe_bm0 PySem.F.plainAttrs_dict PySem.F.slot_dict_get PySem.F.type_dict_get (mt_me hu (f := .get2)) ha (hbase _) hline) k
theorem tE_me {f : Mt} {o e : Expr} {es : List Expr} {ma : M (Val × Tk)} {mx : M (List Val)} {apos cpos : Pos} (hu : X.A.units + 1 < cLine) (ha : PE X o (tG X.K XR W ma)) (hx : PA X (e :: es) (tX X.K XR W mx)) (hbase : ∀ n, attributeBase o n X.env (eval o X.env) = eval o X.env) (hline : (apos.endLine == cpos.line) = true)
    (hpl : (e :: es).all plainE = true) (h30 : es.length < 29) :
    PE X (.Call (.Attribute o (mtName f) apos) (e :: es) [] cpos) (tE X.K XR W (bindM ma fun p => if mtOk f p.1 then bindM mx fun xs => bindM (liftM (meV f p.1 xs)) fun r => bindM (plug p.2 r.2) fun _ => pureM r.1 else fun _ => .stuck)) := by
  have hp2 := hpl
  rw [List.all_cons, Bool.and_eq_true] at hp2
  have hs : starEach (e :: es) X.env = (false, eval e X.env) :: starEach es X.env := starEach_cons hp2.1
  have hpl2 : (backTo cpos (starEach es X.env)).any (·.1) = false := backTo_plain hp2.2
  have hfew : ((backTo cpos (starEach (e :: es) X.env)).all (fun x => !x.1) && (backToKw cpos (keywordEach [] X.env)).all (fun x => x.1.isSome)
      && decide ((e :: es).length + ([] : List Keyword).length + (if ([] : List Keyword).isEmpty then 0 else 1) < 30)) = true := by
    rw [backTo_few hpl]
    simp [keywordEach, backToKw]
    omega
  have k : ∀ σ H Q, tE X.K XR W (bindM ma fun p => if mtOk f p.1 then bindM mx fun xs => bindM (liftM (meV f p.1 xs)) fun r => bindM (plug p.2 r.2) fun _ => pureM r.1 else fun _ => .stuck) σ H Q → tBM X.K (mtTy f) (rMe X.K f) (tG X.K XR W ma) (tX X.K XR W mx) σ H Q := fun σ H Q h => me_ok h
  cases f
  · exact PE_imp (pe_bm PySem.F.plainAttrs_list PySem.F.slot_list_append PySem.F.type_list_append (mt_me hu (f := .append)) ha hx (hbase _) hfew hline hs hpl2) k
  · exact PE_imp (pe_bm PySem.F.plainAttrs_list PySem.F.slot_list_pop PySem.F.type_list_pop (mt_me hu (f := .pop0)) ha hx (hbase _) hfew hline hs hpl2) k
  · exact PE_imp (pe_bm PySem.F.plainAttrs_list PySem.F.slot_list_pop PySem.F.type_list_pop (mt_me hu (f := .pop1)) ha hx (hbase _) hfew hline hs hpl2) k
  · exact PE_imp (pe_bm PySem.F.plainAttrs_list PySem.F.slot_list_extend PySem.F.type_list_extend (mt_me hu (f := .extend)) ha hx (hbase _) hfew hline hs hpl2) k
  · exact PE_imp (pe_bm PySem.F.plainAttrs_dict PySem.F.slot_dict_get PySem.F.type_dict_get (mt_me hu (f := .get2)) ha hx (hbase _) hfew hline hs hpl2) k
theorem meS_ok {f : Mt} {i : Nat} {mx : M (List Val)} {σ : Sl} {H : Hp} {Q : VK} (h : tE X.K XR W (bindM (peekM f i) fun _ => bindM mx fun xs => bindM (takeS i) fun p => bindM (liftM (meV f p.1 xs)) fun r => bindM (plug p.2 r.2) fun _ => pureM r.1) σ H Q) :
    tVar i σ H fun x H1 => tyV X.K (mtTy f) x H1 ∧ tX X.K XR W mx σ H1 fun vs H2 => rMe X.K f x vs H2 Q := by
  obtain ⟨Z, T, e, g, h⟩ := h
  rw [outP_bind] at h
  have h0 : ∃ v, σ[i]? = some (some v) ∧ tyV X.K (mtTy f) v H ∧ OutP (bindM mx (fun xs => bindM (takeS i) fun p => bindM (liftM (meV f p.1 xs)) fun r => bindM (plug p.2 r.2) fun _ => pureM r.1) e) (fun r e' => ∀ H' Z' v, Good H' Z' (rep X.K v r :: (envA X.K σ e' ++ T)) → Q v H') (Px X.K XR W σ T) := by
    unfold peekM at h
    split at h
    · exact h.elim
    · exact h.elim
    · rename_i y hu hy
      split at h
      · rename_i hm
        obtain ⟨v, hs, g1⟩ := g.getS hy hu
        obtain ⟨_, r1⟩ := g1.rp
        exact ⟨v, hs, mt_ty hm r1, h⟩
      · exact h.elim
  obtain ⟨v, hs, hty, h⟩ := h0
  rw [outP_bind] at h
  refine ⟨v, hs, hty, Z, T, e, g, h.imp (fun xs e1 k H1 Z1 vs g1 => ?_) fun _ _ k => k⟩
  rw [outP_bind] at k
  rcases k.det with ⟨p, e2, h1, k⟩ | ⟨y, e2, h1, _⟩
  · obtain ⟨v', hs', g2⟩ := g1.mid.take h1
    rw [hs] at hs'
    cases hs'
    rw [outP_bind, outP_lift] at k
    obtain ⟨⟨r, x'⟩, er, k⟩ := k
    refine ⟨Z1, p.1, xs, r, x', tkA X.K σ v p.2 ++ (envA X.K σ e2 ++ T), g2.perm (permC fun a => by simp only [cnt_cons, cnt_append, cnt_nil, argA]; omega), er, fun H' Z' u g' => ?_⟩
    have g3 : Good H' Z' (rep X.K v x' :: (tkA X.K σ v p.2 ++ (envA X.K σ e2 ++ (rep X.K u r :: T)))) := g'.perm (permC fun a => by simp only [cnt_cons, cnt_append, cnt_nil]; omega)
    obtain ⟨e3, q1, g4⟩ := g3.plug
    rw [outP_bind] at k
    have q1' : plug p.2 (r, x').2 e2 = .ok () e3 := q1
    rw [q1'] at k
    exact k H' Z' u (g4.perm (permC fun a => by simp only [cnt_cons, cnt_append, cnt_nil]; omega))
  · exact (takeS_noexc h1).elim
theorem tE_meS0 {f : Mt} {i : Nat} {x : Str} {p2 apos cpos : Pos} (hu : X.A.units + 1 < cLine) (hN : X.N[i]? = some x) (hv : Vis X.env.scope x) (hd : (x == ("__debug__" : Str)) = false) (hcd : (x == ("__classdict__" : Str)) = false) (hline : (apos.endLine == cpos.line) = true) :
    PE X (.Call (.Attribute (.Name x p2) (mtName f) apos) [] [] cpos) (tE X.K XR W (bindM (peekM f i) fun _ => bindM (pureM []) fun xs => bindM (takeS i) fun p => bindM (liftM (meV f p.1 xs)) fun r => bindM (plug p.2 r.2) fun _ => pureM r.1)) := by
  have ho := pe_var (pos := p2) hN hv hd hcd
  have hbase : ∀ n, attributeBase (.Name x p2) n X.env (eval (.Name x p2) X.env) = eval (.Name x p2) X.env := fun n => rfl
  have k : ∀ σ H Q, tE X.K XR W (bindM (peekM f i) fun _ => bindM (pureM []) fun xs => bindM (takeS i) fun p => bindM (liftM (meV f p.1 xs)) fun r => bindM (plug p.2 r.2) fun _ => pureM r.1) σ H Q → tBM0 X.K (mtTy f) (rMe X.K f) (tVar i) σ H Q := fun σ H Q h => by
    obtain ⟨v, hs, h1, Z2, T2, e2, g2, h2⟩ := meS_ok h
    exact ⟨v, hs, h1, h2 _ Z2 [] g2⟩
  cases f
  · exact PE_imp (pe_bm0 PySem.F.plainAttrs_list PySem.F.slot_list_append PySem.F.type_list_append (mt_me hu (f := .append)) ho (hbase _) hline) k
  · exact PE_imp (pe_bm0 PySem.F.plainAttrs_list PySem.F.slot_list_pop PySem.F.type_list_pop (mt_me hu (f := .pop0)) ho (hbase _) hline) k
  · exact PE_imp (pe_bm0 PySem.F.plainAttrs_list PySem.F.slot_list_pop PySem.F.type_list_pop (mt_me hu (f := .pop1)) ho (hbase _) hline) k
  · exact PE_imp (pe_bm0 PySem.F.plainAttrs_list PySem.F.slot_list_extend PySem.F.type_list_extend (mt_me hu (f := .extend)) ho (hbase _) hline) k
  · exact PE_imp (pe_bm0 PySem.F.plainAttrs_dict PySem.F.slot_dict_get PySem.F.type_dict_get (mt_me hu (f := .get2)) ho (hbase _) hline) k
theorem tE_meS {f : Mt} {i : Nat} {x : Str} {e : Expr} {es : List Expr} {mx : M (List Val)} {p2 apos cpos : Pos} (hu : X.A.units + 1 < cLine) (hN : X.N[i]? = some x) (hv : Vis X.env.scope x) (hd : (x == ("__debug__" : Str)) = false) (hcd : (x == ("__classdict__" : Str)) = false) (hx : PA X (e :: es) (tX X.K XR W mx)) (hline : (apos.endLine == cpos.line) = true)
    (hpl : (e :: es).all plainE = true) (h30 : es.length < 29) :
    PE X (.Call (.Attribute (.Name x p2) (mtName f) apos) (e :: es) [] cpos) (tE X.K XR W (bindM (peekM f i) fun _ => bindM mx fun xs => bindM (takeS i) fun p => bindM (liftM (meV f p.1 xs)) fun r => bindM (plug p.2 r.2) fun _ => pureM r.1)) := by
  have hp2 := hpl
  rw [List.all_cons, Bool.and_eq_true] at hp2
  have hs : starEach (e :: es) X.env = (false, eval e X.env) :: starEach es X.env := starEach_cons hp2.1
  have hpl2 : (backTo cpos (starEach es X.env)).any (·.1) = false := backTo_plain hp2.2
  have hfew : ((backTo cpos (starEach (e :: es) X.env)).all (fun x => !x.1) && (backToKw cpos (keywordEach [] X.env)).all (fun x => x.1.isSome)
      && decide ((e :: es).length + ([] : List Keyword).length + (if ([] : List Keyword).isEmpty then 0 else 1) < 30)) = true := by
    rw [backTo_few hpl]
    simp [keywordEach, backToKw]
    omega
  have ho := pe_var (pos := p2) hN hv hd hcd
  have hbase : ∀ n, attributeBase (.Name x p2) n X.env (eval (.Name x p2) X.env) = eval (.Name x p2) X.env := fun n => rfl
  have k : ∀ σ H Q, tE X.K XR W (bindM (peekM f i) fun _ => bindM mx fun xs => bindM (takeS i) fun p => bindM (liftM (meV f p.1 xs)) fun r => bindM (plug p.2 r.2) fun _ => pureM r.1) σ H Q → tBM X.K (mtTy f) (rMe X.K f) (tVar i) (tX X.K XR W mx) σ H Q := fun σ H Q h => meS_ok h
  cases f
  · exact PE_imp (pe_bm PySem.F.plainAttrs_list PySem.F.slot_list_append PySem.F.type_list_append (mt_me hu (f := .append)) ho hx (hbase _) hfew hline hs hpl2) k
  · exact PE_imp (pe_bm PySem.F.plainAttrs_list PySem.F.slot_list_pop PySem.F.type_list_pop (mt_me hu (f := .pop0)) ho hx (hbase _) hfew hline hs hpl2) k
  · exact PE_imp (pe_bm PySem.F.plainAttrs_list PySem.F.slot_list_pop PySem.F.type_list_pop (mt_me hu (f := .pop1)) ho hx (hbase _) hfew hline hs hpl2) k
  · exact PE_imp (pe_bm PySem.F.plainAttrs_list PySem.F.slot_list_extend PySem.F.type_list_extend (mt_me hu (f := .extend)) ho hx (hbase _) hfew hline hs hpl2) k
  · exact PE_imp (pe_bm PySem.F.plainAttrs_dict PySem.F.slot_dict_get PySem.F.type_dict_get (mt_me hu (f := .get2)) ho hx (hbase _) hfew hline hs hpl2) k
/-! ### built-in functions -/
def biBoot : Bi → Bool
  | _ => true
theorem tE_bi {f : Bi} {e : Expr} {es : List Expr} {m : M (List (Val × Tk))} {p pos : Pos} (hc : X.calm = true) (hg : Gl X (biName f)) (hm : X.mg (biName f) = none) (ha : PA X (e :: es) (tGs X.K XR W m)) (hpl : (e :: es).all plainE = true) :
    PE X (.Call (.Name (biName f) p) (e :: es) [] pos) (tE X.K XR W (bindM m fun ps => bindM (liftM (biV f (ps.map (·.1)))) fun r => bindM (plugs ps (ps.map (·.1))) fun _ => pureM r)) := by
  have hp2 := hpl
  rw [List.all_cons, Bool.and_eq_true] at hp2
  have hs : starEach (e :: es) X.env = (false, eval e X.env) :: starEach es X.env := starEach_cons hp2.1
  have hpl2 : (backTo pos (starEach es X.env)).any (·.1) = false := backTo_plain hp2.2
  cases f
  case len => exact PE_imp (pe_callB (call_bi hc (f := .len)) hg hm (by decide +kernel) ha (by decide) (by decide) hs hpl2) fun σ H Q h => many_ok h
  case sum => exact PE_imp (pe_callB (call_bi hc (f := .sum)) hg hm (by decide +kernel) ha (by decide) (by decide) hs hpl2) fun σ H Q h => many_ok h
  case abs => exact PE_imp (pe_callB (call_bi hc (f := .abs)) hg hm (by decide +kernel) ha (by decide) (by decide) hs hpl2) fun σ H Q h => many_ok h
  case tuple => exact PE_imp (pe_callTy (call_bi hc (f := .tuple)) hg hm (by decide +kernel) ha (by decide) (by decide) hs hpl2) fun σ H Q h => many_ok h
  case list => exact PE_imp (pe_callTy (call_bi hc (f := .list)) hg hm (by decide +kernel) ha (by decide) (by decide) hs hpl2) fun σ H Q h => many_ok h
  case dict => exact PE_imp (pe_callTy (call_bi hc (f := .dict)) hg hm (by decide +kernel) ha (by decide) (by decide) hs hpl2) fun σ H Q h => many_ok h
  case min1 => exact PE_imp (pe_callB (call_bi hc (f := .min1)) hg hm (by decide +kernel) ha (by decide) (by decide) hs hpl2) fun σ H Q h => many_ok h
  case max1 => exact PE_imp (pe_callB (call_bi hc (f := .max1)) hg hm (by decide +kernel) ha (by decide) (by decide) hs hpl2) fun σ H Q h => many_ok h
  case min2 => exact PE_imp (pe_callB (call_bi hc (f := .min2)) hg hm (by decide +kernel) ha (by decide) (by decide) hs hpl2) fun σ H Q h => many_ok h
  case max2 => exact PE_imp (pe_callB (call_bi hc (f := .max2)) hg hm (by decide +kernel) ha (by decide) (by decide) hs hpl2) fun σ H Q h => many_ok h
  case sorted => exact PE_imp (pe_callB (call_bi hc (f := .sorted)) hg hm (by decide +kernel) ha (by decide) (by decide) hs hpl2) fun σ H Q h => many_ok h
  case any => exact PE_imp (pe_callB (call_bi hc (f := .any)) hg hm (by decide +kernel) ha (by decide) (by decide) hs hpl2) fun σ H Q h => many_ok h
  case all => exact PE_imp (pe_callB (call_bi hc (f := .all)) hg hm (by decide +kernel) ha (by decide) (by decide) hs hpl2) fun σ H Q h => many_ok h
  case repr => exact PE_imp (pe_callB (call_bi hc (f := .repr)) hg hm (by decide +kernel) ha (by decide) (by decide) hs hpl2) fun σ H Q h => many_ok h
  case int => exact PE_imp (pe_callTy (call_bi hc (f := .int)) hg hm (by decide +kernel) ha (by decide) (by decide) hs hpl2) fun σ H Q h => many_ok h
end
end Nd

/-! NdR: list(reversed(list)). -/
namespace Nd
open PySem PySem.Spec PyProof.Rows L2 RT
section
variable {prog : Program} {w : World} {A : Around} {E : Value → Shared → Prop} {s : Shared}
theorem init_rev {R : Result → Shared → Prop} {it l : Addr} {items : Array Value} (hh : A.handled = none) (hit : s.heap.IsRevIter it l ((items.size : Int) - 1)) (hl : s.heap.IsList l items) (hne : l ≠ it) (hn : items.size ≤ sizeLine) (S : Addr) (hS : s.heap.get? S = some { cls := .type "list", data := .seq #[] }) (hSi : S ≠ it) (hSl : S ≠ l)
    (hR : ∀ h' tk acc' c', (∀ b o, b ≠ S → b ≠ it → s.heap.get? b = some o → h'.get? b = some o) → h'.get? S = some { cls := .type "list", dict := none, data := .seq acc' c', slots := #[] } →
      ItemsOf (fun i v => items[items.size - 1 - i]? = some v) acc' items.size → R (.ok (.ret .none)) { s with heap := h', toks := tk }) :
    wpAny (model prog w) A.in1 (Builtin.«list.__init__» ⟨[.ref S, .ref it], []⟩)
      (fun fin s' => match fin with | .done f => R (.ok f) s' | .again c' => c'.quiet = true ∧ codeAny (model prog w) A c' R s') (fun e s' => R (.error e) s') s := by
  have W := (Walks.listRev (prog := prog) (w := w) (A := A.in1) hh it l hne items).toS
  have hSf : S ∉ [it, l] := by simp only [List.mem_cons, List.not_mem_nil, or_false, not_or]; exact ⟨hSi, hSl⟩
  show wpAny _ _ (do let old ← Builtin.List.listItems (.ref S); Builtin.List.listUpdate (.ref S) (fun _ => #[]); letGo old.toList.reverse; Builtin.List.listExtendWith (.ref S) (.ref it) .none) _ _ s
  refine wpAny_bind ?_
  unfold Builtin.List.listItems
  refine wpAny_bind (wpAny_seqItems hS rfl (wpAny_pure ?_))
  show wpAny _ _ (updateSeq S (fun _ => #[]) >>= fun _ => letGo (#[] : Array Value).toList.reverse >>= fun _ => Builtin.List.listExtendWith (.ref S) (.ref it) .none) _ _ s
  refine wpAny_bind (wpAny_updateSeq hS rfl ?_)
  have hS₂ := Heap.get?_update_self (Obj.mapSeq (fun _ => (#[] : Array Value))) hS rfl
  have oth : ∀ b o, b ≠ S → s.heap.get? b = some o → (s.heap.update S (Obj.mapSeq (fun _ => (#[] : Array Value)))).get? b = some o :=
    fun b o hb e => (Heap.get?_update_other _ _ (Ne.symm hb)).trans e
  refine wpAny_bind (wpAny_letGo ?_)
  have hit1 : (s.heap.update S (Obj.mapSeq (fun _ => (#[] : Array Value)))).IsRevIter it l ((items.size : Int) - 1) := hit.at fun o e => oth it o (Ne.symm hSi) e
  have hl1 : (s.heap.update S (Obj.mapSeq (fun _ => (#[] : Array Value)))).IsList l items := hl.at fun o e => oth l o (Ne.symm hSl) e
  generalize hs1 : ({ s with heap := s.heap.update S (Obj.mapSeq (fun _ => (#[] : Array Value))) } : Shared) = s1
  have eh : s1.heap = s.heap.update S (Obj.mapSeq (fun _ => (#[] : Array Value))) := by rw [← hs1]
  rw [← eh] at hit1 hl1 hS₂ oth
  have hT : s1.TypeIs (.ref it) "list_reverseiterator" := Heap.IsRevIter.typeIs hit1
  have h1 : Builtin.List.listSameRef (.ref S) (.ref it) = false := by simp [Builtin.List.listSameRef, hSi]
  unfold Builtin.List.listExtendWith
  refine wpAny_bind (wpAny_typeOf hT ?_)
  rw [if_neg (by rw [h1]; decide)]
  refine wpAny_bind (wpAny_pyIter_revIter hit1 ?_)
  refine wpAny_bind (wpAny_holding ?_)
  unfold Builtin.List.listLengthHint
  refine wpAny_bind (wpAny_specialOf hT nolen_lri ?_)
  show wpAny _ A.in1 (specialOf (Value.ref it) (Str.ofString "__length_hint__") >>= _) _ _ _
  refine wpAny_bind (wpAny_specialOf hT hint_lri ?_)
  generalize hid : ("list_reverseiterator.__length_hint__" : String) = id0
  wp_delta
  rw [show splitId id0 = some ("list_reverseiterator", "__length_hint__") from by subst hid; decide +kernel]
  subst hid
  refine wpAny_bind (wpAny_isInstance (b := true) hT (by rw [isSubtype_type]; kernel_rfl) ?_)
  refine wpAny_pure ?_
  rw [if_neg (by decide)]
  have e0 : ((items.size : Nat) : Int) - 1 - ((0 : Nat) : Int) = (items.size : Int) - 1 := by omega
  refine wpAny_pure ⟨plainId_quiet F.plain_extend_loop _, codeAny_extend_loopS W hn _ hSf _ items.size 0 _ _ _ rfl (Nat.zero_le _) ⟨Nat.zero_le _, by rw [e0]; exact hit1, hl1⟩ hS₂ (ItemsOf.nil _) fun s' acc' c' hm hS' hacc => ?_⟩
  rw [Moved.eq_with hm, ← hs1]
  refine hR s'.heap s'.toks acc' c' (fun b o hb hb2 e => hm.heap b o (fun hmem => ?_) (oth b o hb e)) hS' hacc
  rcases List.mem_cons.mp hmem with e' | hmem
  · exact hb e'
  · exact hb2 (List.mem_singleton.mp hmem)
theorem call_list_rev {it l : Addr} {items : Array Value} {Q : Value → Shared → Prop} (hh : A.handled = none) (hit : s.heap.IsRevIter it l ((items.size : Int) - 1)) (hl : s.heap.IsList l items) (hne : l ≠ it) (hn : items.size ≤ sizeLine)
    (hQ : ∀ h' tk acc' c', (∀ b o, b ≠ it → s.heap.get? b = some o → h'.get? b = some o) →
      h'.get? s.heap.objs.size = some { cls := .type "list", dict := none, data := .seq acc' c', slots := #[] } → ItemsOf (fun i v => items[items.size - 1 - i]? = some v) acc' items.size → Q (.ref s.heap.objs.size) { s with heap := h', toks := tk }) :
    wpAny (model prog w) A (call (.type "list") [.ref it]) Q E s := by
  obtain ⟨oi, hoi, _⟩ := id hit
  obtain ⟨ol, hol, _⟩ := id hl
  have hSi : s.heap.objs.size ≠ it := Nat.ne_of_gt (Heap.lt_size hoi)
  have hSl : s.heap.objs.size ≠ l := Nat.ne_of_gt (Heap.lt_size hol)
  refine callType_codes (Q₁ := fun obj s₁ => obj = .ref s.heap.objs.size ∧ s₁ = { s with heap := s.heap.push { cls := .type "list", data := .seq #[] } }) F.called_list (F.typeCall_list_1 _) F.entry_list_init
    (code_list_new _ ⟨rfl, rfl⟩) fun obj s₁ h₁ => ?_
  obtain ⟨rfl, rfl⟩ := h₁
  have hS : (s.heap.push { cls := .type "list", data := .seq #[] }).get? s.heap.objs.size = some { cls := .type "list", data := .seq #[] } := Heap.get?_push_size _ rfl
  refine ⟨⟨_, hS, rfl⟩, F.args_list_init_2 _ _, init_rev (A := A.in1) hh (s := { s with heap := s.heap.push { cls := .type "list", data := .seq #[] } }) (hit.at fun o e => Heap.get?_push_of_some _ e) (hl.push _) hne hn _ hS hSi hSl fun h' tk acc' c' hk hS' hacc => ?_⟩
  exact ⟨rfl, hQ h' tk acc' c' (fun b o hb e => hk b o (Nat.ne_of_lt (Heap.lt_size e)) hb (Heap.get?_push_of_some _ e)) hS' hacc⟩
end
section
variable {X : Cx}
def tLstRev (K : PySem.W.Frag) (te : TE) : TE := fun σ H Q => te σ H fun v H1 => ∃ (a : Addr) (xs : List V), v = .ref a ∧ SqL K H1 a xs ∧ ∀ q, H1 q = none → Q (.ref q) (upd H1 q (.lst xs.reverse))
theorem pe_lstRev {e : Expr} {te : TE} {p p2 pos pos2 : Pos} (hc : X.calm = true) (hg : Gl X "list") (hm : X.mg "list" = none) (hg2 : Gl X "reversed") (hm2 : X.mg "reversed" = none) (he : PE X e te)
    (hs : starEach [e] X.env = (false, eval e X.env) :: starEach [] X.env)
    (hs2 : starEach [.Call (.Name "reversed" p2) [e] [] pos2] X.env = (false, eval (.Call (.Name "reversed" p2) [e] [] pos2) X.env) :: starEach [] X.env := by rfl) :
    PE X (.Call (.Name "list" p) [.Call (.Name "reversed" p2) [e] [] pos2] [] pos) (tLstRev X.K te) := by
  refine ⟨fun pins s σ H Q I h => ?_⟩
  refine Call_ (ld_blt I hg hm boot_list (PyProof.Rows.callWith_type1 (args_cons (Call_ (ld_blt I hg2 hm2 PyProof.Rows.boot_reversed (PyProof.Rows.callWith_type1 (args_cons (thn (he.run pins s σ H _ I h) fun u s1 ⟨v, H1, I1, r1, q1⟩ => args_nil ?_) hs) hs rfl))) hs2) hs2))
  obtain ⟨a, xs, ev, hq, q⟩ := q1
  subst ev
  obtain rfl : u = Value.ref a := r1
  obtain ⟨its, rv, p', hz⟩ := I1.list hq
  have hl := rv.length
  have hlt : a < s1.heap.objs.size := by obtain ⟨o, ho, _⟩ := p'.isList; exact Heap.lt_size ho
  refine call_reversed_list p'.isList (args_nil ?_)
  refine call_list_rev (items := its.toArray) (it := s1.heap.objs.size) (l := a) (I1.ok.hd hc) ⟨_, Heap.get?_push_size _ rfl, rfl, rfl⟩ (p'.isList.push _) (Nat.ne_of_lt hlt) (by simp only [List.size_toArray]; omega) fun h' tk acc c' hk e' hacc => ?_
  have hz2 : (s1.heap.push (revObj a ((its.toArray.size : Int) - 1))).objs.size = s1.heap.objs.size + 1 := Heap.size_push ..
  have kp : ∀ b o, s1.heap.get? b = some o → h'.get? b = some o := fun b o e => hk b o (Nat.ne_of_lt (Heap.lt_size e)) (Heap.get?_push_of_some _ e)
  have I2 : Inv X pins σ H1 { s1 with heap := s1.heap.push (revObj a ((its.toArray.size : Int) - 1)) } := I1.kept (t' := s1.toks) fun b o e => Heap.get?_push_of_some _ e
  have hle : s1.heap.objs.size ≤ (s1.heap.push (revObj a ((its.toArray.size : Int) - 1))).objs.size := by rw [hz2]; exact Nat.le_succ _
  refine ⟨.ref _, upd H1 (s1.heap.push (revObj a ((its.toArray.size : Int) - 1))).objs.size (.lst xs.reverse), I1.laid (t' := tk) kp hle (show ObjOk X.prog X.w _ h' _ (.lst xs.reverse) from ⟨by rw [List.length_reverse]; exact hz, acc.toList, c', vals_rev rv hacc, ?_⟩), rfl, q _ (I1.hok.fresh hle)⟩
  rw [Array.toArray_toList]; exact e'
end
end Nd

/-! NdW: enumerate and zip over lists and tuples in any mix, walked. -/
namespace Nd
open PySem PySem.Spec PyProof.Rows L2
/-- a list (true), a tuple -/
def SqB (b : Bool) (K : PySem.W.Frag) (H : Hp) (a : Addr) (xs : List V) : Prop := match b with
  | true => SqL K H a xs
  | false => SqT K H a xs
def IsSq (b : Bool) (h : Heap) (a : Addr) (its : Array Value) : Prop := match b with
  | true => h.IsList a its
  | false => h.IsTuple a its
def IsItr (b : Bool) (h : Heap) (it a : Addr) (i : Nat) : Prop := match b with
  | true => h.IsListIter it a i
  | false => h.IsTupleIter it a i
def itrObj (b : Bool) (a : Addr) : Obj := match b with
  | true => { cls := .type "list_iterator", data := .fields #[.ref a, .int 0 0] }
  | false => { cls := .type "tuple_iterator", data := .fields #[.ref a, .int 0 0] }
section
variable {X : Cx} {pins : List (Addr × Obj)} {σ : Sl} {H : Hp} {s : Shared} {a : Addr} {xs ys : List V} {b : Bool}
theorem seqB (I : Inv X pins σ H s) (h : SqB b X.K H a xs) : ∃ its : List Value, Vals xs its ∧ IsSq b s.heap a its.toArray := by
  cases b with
  | true => obtain ⟨its, r, p, _⟩ := I.list h; exact ⟨its, r, p.isList⟩
  | false => obtain ⟨its, r, p, _⟩ := I.tuple h; exact ⟨its, r, p⟩
theorem seqB_inj (I : Inv X pins σ H s) (h : SqB b X.K H a xs) (h' : SqB b X.K H a ys) : xs = ys := by
  cases b with
  | true => exact I.list_inj h h'
  | false => exact I.tuple_inj h h'
theorem IsSq.lt {h : Heap} {its : Array Value} (q : IsSq b h a its) : a < h.objs.size := by
  cases b with
  | true => obtain ⟨o, ho, _⟩ := q; exact Heap.lt_size ho
  | false => obtain ⟨o, ho, _⟩ := q; exact Heap.lt_size ho
theorem IsItr.live {h : Heap} {it : Addr} {i : Nat} (q : IsItr b h it a i) : ∃ o, h.get? it = some o ∧ ∀ v, o.data ≠ .cell v := by
  cases b with
  | true => obtain ⟨o, ho, _, hd⟩ := q; exact ⟨o, ho, fun v z => by rw [hd] at z; cases z⟩
  | false => obtain ⟨o, ho, _, hd⟩ := q; exact ⟨o, ho, fun v z => by rw [hd] at z; cases z⟩
theorem IsItr.at {h h' : Heap} {it : Addr} {i : Nat} (q : IsItr b h it a i) (k : ∀ o, h.get? it = some o → h'.get? it = some o) : IsItr b h' it a i := by
  cases b with
  | true => exact Heap.IsListIter.at q k
  | false => exact Heap.IsTupleIter.at q k
theorem drawsB {prog : Program} {w : World} {A : Around} (hh : A.handled = none) (b : Bool) (it a : Addr) (hne : a ≠ it) (items : Array Value) :
    Draws prog w A it [it, a] items.size (fun i v => items[i]? = some v) (fun i h => IsItr b h it a i ∧ IsSq b h a items) := by
  cases b with
  | true => exact Draws.list hh it a hne items
  | false => exact Draws.tuple hh it a hne items
theorem beginsB (b : Bool) (a : Addr) (items : Array Value) : Begins (.ref a) (itrObj b a) (fun h => IsSq b h a items) := by
  cases b with
  | true => exact begins_list a items
  | false => exact begins_tuple a items
theorem itr_new {h : Heap} {it : Addr} (e : h.get? it = some (itrObj b a)) : IsItr b h it a 0 := by
  cases b with
  | true => exact ⟨_, e, rfl, rfl⟩
  | false => exact ⟨_, e, rfl, rfl⟩
end
/-! ### enumerate -/
def ItE (b : Bool) (K : PySem.W.Frag) (a : Addr) : It :=
  ⟨fun i H => ∃ (xs : List V) (x : V), SqB b K H a xs ∧ xs[i]? = some x, fun i H v H' => ∃ T x, v = .ref T ∧ H T = none ∧ H' = upd H T (.tup [.int (i : Nat), x]) ∧ ∀ xs, SqB b K H a xs → xs[i]? = some x, fun i H => ∃ xs : List V, SqB b K H a xs ∧ xs.length = i⟩
theorem turn_enumB {P : Program} {w : World} {K : PySem.W.Frag} {elts : List Expr} {kk : Nat} {tpos : Pos} (b : Bool) (a e it : Addr) :
    Turn P w K (.Tuple elts kk tpos) (ItE b K a) [e, it] e (fun i h => (∃ old, IsEnum h e it ((i : Nat) : Int) old) ∧ IsItr b h it a i ∧ e ≠ it ∧ a ≠ it ∧ e ≠ a) where
  mem := by simp
  obj := fun i h st c hb => by
    obtain ⟨⟨old, he⟩, hi, _⟩ := st
    have e' : c = e ∨ c = it := by simpa using hb
    rcases e' with z | z
    · rw [z]; exact ⟨_, he, fun v q => nomatch q⟩
    · rw [z]; exact hi.live
  keep := fun i h h' st k => let ⟨⟨old, he⟩, hi, hne⟩ := st; ⟨⟨old, k e (by simp) _ he⟩, hi.at fun o q => k it (by simp) o q, hne⟩
  item := by
    intro X hP hw hK hc i pins s σ H E I hf st hg
    subst hP hw hK
    obtain ⟨⟨old, he⟩, hit, hne, hait, hea⟩ := st
    obtain ⟨xs, x, hq, hx⟩ := hg
    obtain ⟨its, rv, p⟩ := seqB I hq
    obtain ⟨u, hu, ru⟩ := rv.get hx
    have hel : e < s.heap.objs.size := Heap.lt_size he
    have hil : it < s.heap.objs.size := by obtain ⟨o, q, _⟩ := hit.live; exact Heap.lt_size q
    have hlt : i < its.toArray.size := by
      obtain ⟨h1, _⟩ := List.getElem?_eq_some_iff.mp hu
      simpa using h1
    refine wpAny_pyNext_enum_itemC (drawsB (A := X.A.in1) (I.ok.hd hc) b it a hait its.toArray) he ⟨hit, p⟩ hlt hne (by simp [hne, hea]) fun y h' tk hy ho st' hT hsz hk => ?_
    have ey : y = u := by
      have h1 : its[i]? = some y := by simpa using hy
      rw [hu] at h1; exact (Option.some.inj h1).symm
    subst ey
    refine ⟨_, rfl, wpAny_letOwnedTupleGo_enum (s := { s with heap := h', toks := tk + 1 }) ho fun h'' he' sb => ?_⟩
    have hT2 : h''.get? s.heap.objs.size = some { cls := .type "tuple", data := .seq #[.int i tk, y] } := (sb.2 _ (Nat.ne_of_gt hel)).trans hT
    have new : ObjOk X.prog X.w (upd H s.heap.objs.size (.tup [.int (i : Nat), x])) h'' s.heap.objs.size (.tup [.int (i : Nat), x]) :=
      ⟨by show 2 ≤ sizeLine; decide, [.int i tk, y], .cons ⟨_, rfl⟩ (.cons ru .nil), ⟨_, hT2, rfl, _, rfl⟩⟩
    have I1 : Inv X pins σ (upd H s.heap.objs.size (.tup [.int (i : Nat), x])) { s with heap := h'', toks := tk + 1 } :=
      I.turnedNew (ch := [e, it]) (fun c ob hb q => (sb.2 c (fun z => hb (by simp [z]))).trans (hk c ob (fun z => hb (by simp [z])) (fun z => hb (by simp [z])) q)) hf (Nat.le_refl _) new
    refine ⟨.ref s.heap.objs.size, _, I1, rfl, ⟨_, x, rfl, I.hok.fresh (Nat.le_refl _), rfl, fun ys hy => by rw [seqB_inj I hy hq]; exact hx⟩, ⟨⟨y, ?_⟩, st'.1.at fun o q => (sb.2 it (Ne.symm hne)).trans q, hne, hait, hea⟩, fun c hb => ?_⟩
    · have e1 : ((i + 1 : Nat) : Int) = (i : Int) + 1 := by omega
      rw [e1]; exact he'
    · have hb' : c < s.heap.objs.size := by
        have e' : c = e ∨ c = it := by simpa using hb
        rcases e' with z | z
        · rw [z]; exact hel
        · rw [z]; exact hil
      rw [upd_ne (Nat.ne_of_lt hb')]
      exact (hf c hb).1
  done := by
    intro X hP hw hK hc i pins s σ H E I hf st hg
    subst hP hw hK
    obtain ⟨⟨old, he⟩, hit, hne, hait, hea⟩ := st
    obtain ⟨xs, hq, hx⟩ := hg
    obtain ⟨its, rv, p⟩ := seqB I hq
    obtain ⟨f0, f1, f2, f3, f4, f5⟩ := hf it (by simp)
    have hl := rv.length
    have hsz : its.toArray.size = i := by simp; omega
    exact wpAny_pyNext_enum_endD (drawsB (A := X.A.in1) (I.ok.hd hc) b it a hait its.toArray) he (by rw [hsz]; exact ⟨hit, p⟩) fun h' eb => ⟨rfl, I.turned (t' := s.toks) (fun c o hb q => eb c o hb q) f0 f1 f3 f4 f5⟩
  self := fun A i s Q E st h => let ⟨⟨_, he⟩, _⟩ := st; wpAny_pyIter_enum he h
set_option maxHeartbeats 1000000 in
theorem meets_enumerate_new1 {v : Value} {o : Obj} {H : Heap → Prop} (B : Begins v o H) :
    Meets (Builtin.«enumerate.__new__» ⟨[.type "enumerate", v], []⟩) (fun _ R s => H s.heap ∧
      R (.ok (.ret (.ref (s.heap.push o).objs.size))) { s with heap := (s.heap.push o).push { cls := .type "enumerate", data := .fields #[.none, .bool false, .ref s.heap.objs.size, rawInt 0, .none, .none] } }) :=
  .of_wp fun prog w A R s h => by
    obtain ⟨hp, g, d, tk, os⟩ := s; obtain ⟨h1, h⟩ := h
    have hsub := sub_enumerate
    have q1 : ∀ {A' : Around} {E : Value → Shared → Prop} {Q : Value → Shared → Prop}, Q (.ref hp.objs.size) ⟨hp.push o, g, d, tk, os⟩ → wpAny (model prog w) A' (pyIter v) Q E ⟨hp, g, d, tk, os⟩ :=
      fun q => B.iter prog w _ _ ⟨hp, g, d, tk, os⟩ _ h1 q
    wp_walk using q1
    refine wpAny_stack_any fun st => wpAny_pure ?_
    split
    · rename_i c _ _ _ _ _
      cases (c == Value.type "enumerate")
      · wp_walk using q1
        exact ⟨_, rfl, h⟩
      · wp_walk using q1
        exact ⟨_, rfl, h⟩
    · wp_walk using q1
      exact ⟨_, rfl, h⟩
theorem enum_begins1 {prog : Program} {w : World} {A : Around} {E : Value → Shared → Prop} {s : Shared} {v : Value} {o : Obj} {H : Heap → Prop} {Q : Value → Shared → Prop} (B : Begins v o H) (h1 : H s.heap)
    (h : ∀ h', IsEnum h' (s.heap.objs.size + 1) s.heap.objs.size 0 .none → h'.get? s.heap.objs.size = some o → h'.objs.size = s.heap.objs.size + 2 →
      (∀ b o, s.heap.get? b = some o → h'.get? b = some o) → Q (.ref (s.heap.objs.size + 1)) { s with heap := h' }) :
    wpAny (model prog w) A (call (.type "enumerate") [v]) Q E s := by
  refine callType_new F.called_enumerate (by decide) (F.typeCall_enumerate_1 _) (F.newCall_enumerate_1 _) (fun obj => F.args_object_init_2 obj _) F.entry_enumerate_new
    (meets_enumerate_new1 B) ⟨h1, ?_⟩
  have hz : (s.heap.push o).objs.size = s.heap.objs.size + 1 := Heap.size_push ..
  show _ ∧ _
  rw [hz]
  have he : IsEnum ((s.heap.push o).push { cls := .type "enumerate", data := .fields #[.none, .bool false, .ref s.heap.objs.size, rawInt 0, .none, .none] }) (s.heap.objs.size + 1) s.heap.objs.size 0 .none := by
    have := Heap.get?_push_size (s.heap.push o) (o := { cls := .type "enumerate", data := .fields #[.none, .bool false, .ref s.heap.objs.size, rawInt 0, .none, .none] }) rfl
    rw [hz] at this; exact this
  refine ⟨⟨_, he, rfl⟩, h _ he (Heap.get?_push_of_some _ (Heap.get?_push_size _ B.free)) (by rw [Heap.size_push, hz]) fun b o x => Heap.get?_push_of_some _ (Heap.get?_push_of_some _ x)⟩
def iEnB (K : PySem.W.Frag) (ta : TA) : TI := fun σ H R => ta σ H fun vs H1 => ∃ b a xs, vs = [.ref a] ∧ SqB b K H1 a xs ∧ R (ItE b K a) H1
theorem pi_enumB {X : Cx} {e : Expr} {ta : TA} {p pos tpos : Pos} {elts : List Expr} {kk : Nat} (hg : Gl X "enumerate") (hm : X.mg "enumerate" = none) (ha : PA X [e] ta) (hs : starEach [e] X.env = [(false, eval e X.env)]) :
    PI X (.Tuple elts kk tpos) (.Call (.Name "enumerate" p) [e] [] pos) (iEnB X.K ta) := by
  refine ⟨fun pins s σ H R I h => ?_⟩
  refine Call_ (ld_blt I hg hm boot_enumerate (PyProof.Rows.callWith_type1 (thn (ha.run pos pins s σ H _ I h) fun us s1 ⟨vs, H1, I1, r1, q1⟩ => ?_) hs rfl))
  obtain ⟨b, a, xs, ex, hq, q⟩ := q1
  subst ex
  cases r1 with
  | cons r rr =>
    cases rr
    cases r
    obtain ⟨its, rv, p'⟩ := seqB I1 hq
    have hlt := IsSq.lt p'
    refine enum_begins1 (beginsB b a its.toArray) p' fun h' he hit hsz hk => wpAny_pyIter_enum he ?_
    have I2 : Inv X pins σ H1 { s1 with heap := h' } := I1.kept (t' := s1.toks) hk
    refine ⟨s1.heap.objs.size + 1, [s1.heap.objs.size + 1, s1.heap.objs.size], _, _, H1, rfl, I2, turn_enumB b a (s1.heap.objs.size + 1) s1.heap.objs.size, ⟨⟨.none, he⟩, itr_new hit, Nat.succ_ne_self _, Nat.ne_of_lt hlt, fun z => by have := hlt; rw [← z] at this; exact absurd (Nat.lt_trans (Nat.lt_succ_self _) this) (Nat.lt_irrefl _)⟩, fun c hb => ?_, q⟩
    have e' : c = s1.heap.objs.size + 1 ∨ c = s1.heap.objs.size := by simpa using hb
    have hle : s1.heap.objs.size ≤ c := by
      rcases e' with z | z
      · rw [z]; exact Nat.le_add_right _ _
      · rw [z]; exact Nat.le_refl _
    exact I1.fpOk hle (I1.hok.fresh hle)
/-! ### zip of two -/
def ItZ (b c : Bool) (K : PySem.W.Frag) (a a' : Addr) : It :=
  ⟨fun i H => ∃ (xs ys : List V) (x y : V), SqB b K H a xs ∧ SqB c K H a' ys ∧ xs[i]? = some x ∧ ys[i]? = some y,
    fun i H v H' => ∃ T x y, v = .ref T ∧ H T = none ∧ H' = upd H T (.tup [x, y]) ∧ (∀ xs, SqB b K H a xs → xs[i]? = some x) ∧ ∀ ys, SqB c K H a' ys → ys[i]? = some y,
    fun i H => ∃ xs ys : List V, SqB b K H a xs ∧ SqB c K H a' ys ∧ i ≤ xs.length ∧ i ≤ ys.length ∧ (i = xs.length ∨ i = ys.length)⟩
theorem turn_zipB {P : Program} {w : World} {K : PySem.W.Frag} {elts : List Expr} {kk : Nat} {tpos : Pos} (b c : Bool) (a a' z TI TO i1 i2 : Addr) (D : ZipSep2 z TI TO i1 i2 [i1, a] [i2, a']) (n1 : a ≠ i1) (n2 : a' ≠ i2) :
    Turn P w K (.Tuple elts kk tpos) (ItZ b c K a a') [z, TI, TO, i1, i2] z (fun i h => IsZip h z TI TO .none ∧ IsTupOf2 h TI (.ref i1) (.ref i2) ∧ (∃ x y, IsTupOf2 h TO x y) ∧ IsItr b h i1 a i ∧ IsItr c h i2 a' i) where
  mem := by simp
  obj := fun i h st cc hc => by
    obtain ⟨hz, hTI, ⟨x, y, hTO⟩, h1, h2⟩ := st
    have e' : cc = z ∨ cc = TI ∨ cc = TO ∨ cc = i1 ∨ cc = i2 := by simpa using hc
    rcases e' with q | q | q | q | q
    · rw [q]; exact ⟨_, hz, fun v q => nomatch q⟩
    · rw [q]; exact ⟨_, hTI, fun v q => nomatch q⟩
    · rw [q]; exact ⟨_, hTO, fun v q => nomatch q⟩
    · rw [q]; exact h1.live
    · rw [q]; exact h2.live
  keep := fun i h h' st k => by
    obtain ⟨hz, hTI, ⟨x, y, hTO⟩, h1, h2⟩ := st
    exact ⟨k z (by simp) _ hz, k TI (by simp) _ hTI, ⟨x, y, k TO (by simp) _ hTO⟩, h1.at fun o q => k i1 (by simp) o q, h2.at fun o q => k i2 (by simp) o q⟩
  item := by
    intro X hP hw hK hc i pins s σ H E I hf st hg
    subst hP hw hK
    obtain ⟨hz, hTI, ⟨x0, y0, hTO⟩, h1, h2⟩ := st
    obtain ⟨xs, ys, x, y, hqx, hqy, hx, hy⟩ := hg
    obtain ⟨its, rv, p⟩ := seqB I hqx
    obtain ⟨its2, rv2, p2⟩ := seqB I hqy
    obtain ⟨u, hu, ru⟩ := rv.get hx
    obtain ⟨u2, hu2, ru2⟩ := rv2.get hy
    have hzl : z < s.heap.objs.size := Heap.lt_size hz
    have hlt1 : i < its.toArray.size := by obtain ⟨q, _⟩ := List.getElem?_eq_some_iff.mp hu; simpa using q
    have hlt2 : i < its2.toArray.size := by obtain ⟨q, _⟩ := List.getElem?_eq_some_iff.mp hu2; simpa using q
    refine wpAny_pyNext_zipD2_item D (drawsB (A := X.A.in1) (I.ok.hd hc) b i1 a n1 its.toArray) (drawsB (A := X.A.in1) (I.ok.hd hc) c i2 a' n2 its2.toArray) hz hTI hTO ⟨h1, p⟩ ⟨h2, p2⟩ hlt1 hlt2 fun v1 v2 h' tk hy1 hy2 z' TO' st1 st2 hT hsz hk => ?_
    have ey1 : v1 = u := by
      have q : its[i]? = some v1 := by simpa using hy1
      rw [hu] at q; exact (Option.some.inj q).symm
    have ey2 : v2 = u2 := by
      have q : its2[i]? = some v2 := by simpa using hy2
      rw [hu2] at q; exact (Option.some.inj q).symm
    subst ey1; subst ey2
    refine ⟨_, rfl, wpAny_letOwnedTupleGo_zip (s := { s with heap := h', toks := tk }) z' fun h'' z'' sb => ?_⟩
    have hT2 : h''.get? s.heap.objs.size = some { cls := .type "tuple", data := .seq #[v1, v2] } := (sb.2 _ (Nat.ne_of_gt hzl)).trans hT
    have new : ObjOk X.prog X.w (upd H s.heap.objs.size (.tup [x, y])) h'' s.heap.objs.size (.tup [x, y]) :=
      ⟨by show 2 ≤ sizeLine; decide, [v1, v2], .cons ru (.cons ru2 .nil), ⟨_, hT2, rfl, _, rfl⟩⟩
    have I1 : Inv X pins σ (upd H s.heap.objs.size (.tup [x, y])) { s with heap := h'', toks := tk } :=
      I.turnedNew (t' := tk) (ch := [z, TI, TO, i1, i2]) (fun cc o hb q => (sb.2 cc (fun q' => hb (by simp [q']))).trans (hk cc o (fun q' => hb (by simp [q'])) (fun q' => hb (by simp [q'])) (fun q' => hb (by simp [q'])) (fun q' => hb (by simp [q'])) q)) hf (Nat.le_refl _) new
    refine ⟨.ref s.heap.objs.size, _, I1, rfl, ⟨_, x, y, rfl, I.hok.fresh (Nat.le_refl _), rfl, fun l hl => by rw [seqB_inj I hl hqx]; exact hx, fun l hl => by rw [seqB_inj I hl hqy]; exact hy⟩, ⟨z'', ?_, ⟨v1, v2, ?_⟩, ?_, ?_⟩, fun cc hcm => ?_⟩
    · exact (sb.2 _ D.TIz).trans (hk _ _ D.TIz D.TITO D.TIi1 D.TIi2 hTI)
    · exact (sb.2 _ D.TOz).trans TO'
    · exact st1.1.at fun o q => (sb.2 _ (Ne.symm D.zi1)).trans q
    · exact st2.1.at fun o q => (sb.2 _ (Ne.symm D.zi2)).trans q
    · have hlt : cc < s.heap.objs.size := by
        have e' : cc = z ∨ cc = TI ∨ cc = TO ∨ cc = i1 ∨ cc = i2 := by simpa using hcm
        rcases e' with q | q | q | q | q
        · rw [q]; exact hzl
        · rw [q]; exact Heap.lt_size hTI
        · rw [q]; exact Heap.lt_size hTO
        · rw [q]; obtain ⟨_, e1, _⟩ := h1.live; exact Heap.lt_size e1
        · rw [q]; obtain ⟨_, e2, _⟩ := h2.live; exact Heap.lt_size e2
      rw [upd_ne (Nat.ne_of_lt hlt)]
      exact (hf cc hcm).1
  done := by
    intro X hP hw hK hc i pins s σ H E I hf st hg
    subst hP hw hK
    obtain ⟨hz, hTI, ⟨x0, y0, hTO⟩, h1, h2⟩ := st
    obtain ⟨xs, ys, hqx, hqy, l1, l2, hend⟩ := hg
    obtain ⟨its, rv, p⟩ := seqB I hqx
    obtain ⟨its2, rv2, p2⟩ := seqB I hqy
    have e1 := rv.length
    have e2 := rv2.length
    have s1 : its.toArray.size = xs.length := by simp [e1]
    have s2 : its2.toArray.size = ys.length := by simp [e2]
    refine wpAny_pyNext_zipD2_end D (drawsB (A := X.A.in1) (I.ok.hd hc) b i1 a n1 its.toArray) (drawsB (A := X.A.in1) (I.ok.hd hc) c i2 a' n2 its2.toArray) hz hTI hTO ⟨h1, p⟩ ⟨h2, p2⟩ (by omega) (by omega) (by omega) fun h' tk hk => ⟨rfl, I.turnedL (t' := tk) (ch := [z, TI, TO, i1, i2]) (fun cc o hb q =>
      hk cc o (fun q' => hb (by simp [q'])) (fun q' => hb (by simp [q'])) (fun q' => hb (by simp [q'])) (fun q' => hb (by simp [q'])) q) hf⟩
  self := fun A i s Q E st h => wpAny_pyIter_zip st.1 h
def iZpB (K : PySem.W.Frag) (ta : TA) : TI := fun σ H R => ta σ H fun vs H1 => ∃ b c a a' xs ys, vs = [.ref a, .ref a'] ∧ SqB b K H1 a xs ∧ SqB c K H1 a' ys ∧ R (ItZ b c K a a') H1
theorem pi_zipB {X : Cx} {e e2 : Expr} {ta : TA} {p pos tpos : Pos} {elts : List Expr} {kk : Nat} (hg : Gl X "zip") (hm : X.mg "zip" = none) (ha : PA X [e, e2] ta) (hs : starEach [e, e2] X.env = (false, eval e X.env) :: starEach [e2] X.env) (hpl : (backTo pos (starEach [e2] X.env)).any (·.1) = false) :
    PI X (.Tuple elts kk tpos) (.Call (.Name "zip" p) [e, e2] [] pos) (iZpB X.K ta) := by
  refine ⟨fun pins s σ H R I h => ?_⟩
  refine Call_ (ld_blt I hg hm PyProof.Rows.boot_zip (PyProof.Rows.callWith_type1 (thn (ha.run pos pins s σ H _ I h) fun us s1 ⟨vs, H1, I1, r1, q1⟩ => ?_) hs hpl))
  obtain ⟨b, c, a, a', xs, ys, ex, hqx, hqy, q⟩ := q1
  subst ex
  cases r1 with
  | cons r rr =>
    cases rr with
    | cons r' rr =>
      cases rr
      cases r
      cases r'
      obtain ⟨its, rv, p1⟩ := seqB I1 hqx
      obtain ⟨its2, rv2, p2⟩ := seqB I1 hqy
      have hl1 := IsSq.lt p1
      have hl2 := IsSq.lt p2
      refine zip_begins2 (beginsB b a its.toArray) (beginsB c a' its2.toArray) p1 p2 fun h' hz hTI hTO h1 h2 hsz hk => wpAny_pyIter_zip hz ?_
      have I2 : Inv X pins σ H1 { s1 with heap := h' } := I1.kept (t' := s1.toks) hk
      have D : ZipSep2 (s1.heap.objs.size + 4) (s1.heap.objs.size + 2) (s1.heap.objs.size + 3) s1.heap.objs.size (s1.heap.objs.size + 1) [s1.heap.objs.size, a] [s1.heap.objs.size + 1, a'] :=
        zip_sep2 (N := s1.heap.objs.size) (fp1 := [a]) (fp2 := [a']) (fun x1 hx1 => by rw [List.mem_singleton.mp hx1]; exact hl1) (fun x1 hx1 => by rw [List.mem_singleton.mp hx1]; exact hl2)
      refine ⟨s1.heap.objs.size + 4, [s1.heap.objs.size + 4, s1.heap.objs.size + 2, s1.heap.objs.size + 3, s1.heap.objs.size, s1.heap.objs.size + 1], _, _, H1, rfl, I2, turn_zipB b c a a' _ _ _ _ _ D (Nat.ne_of_lt hl1) (Nat.ne_of_lt (Nat.lt_succ_of_lt hl2)), ⟨hz, hTI, ⟨_, _, hTO⟩, itr_new h1, itr_new h2⟩, fun cc hcm => ?_, q⟩
      have e' : cc = s1.heap.objs.size + 4 ∨ cc = s1.heap.objs.size + 2 ∨ cc = s1.heap.objs.size + 3 ∨ cc = s1.heap.objs.size ∨ cc = s1.heap.objs.size + 1 := by simpa using hcm
      have hle : s1.heap.objs.size ≤ cc := by
        rcases e' with z | z | z | z | z
        · rw [z]; exact Nat.le_add_right _ _
        · rw [z]; exact Nat.le_add_right _ _
        · rw [z]; exact Nat.le_add_right _ _
        · rw [z]; exact Nat.le_refl _
        · rw [z]; exact Nat.le_add_right _ _
      exact I1.fpOk hle (I1.hok.fresh hle)
end Nd

/-! NdZ: dict(zip(a, b)) over lists and tuples in any mix. -/
namespace Nd
open PySem PySem.Spec PyProof.Rows L2
section
variable {prog : Program} {w : World} {A : Around} {E : Value → Shared → Prop} {s : Shared} {z TI TO T i1 i2 : Addr} {fp1 fp2 : List Addr} {n1 n2 i : Nat} {P1 P2 : Nat → Value → Prop} {St1 St2 : Nat → Heap → Prop} {f : Bool} {oT : Obj}
/-- one more pair, the last one still out -/
theorem zipH_next_item {Q : Value → Shared → Prop} (S : ZipSep2 z TI TO i1 i2 fp1 fp2) (D1 : Draws prog w A i1 fp1 n1 P1 St1) (D2 : Draws prog w A i2 fp2 n2 P2 St2)
    (hz : IsZipHeld s.heap z TI TO T f) (hT : s.heap.get? T = some oT) (hTI : IsTupOf2 s.heap TI (.ref i1) (.ref i2)) (st1 : St1 i s.heap) (st2 : St2 i s.heap) (hlt1 : i < n1) (hlt2 : i < n2)
    (hQ : ∀ x1 x2 h' tk, P1 i x1 → P2 i x2 → IsZipHeld h' z TI TO T true → St1 (i + 1) h' → St2 (i + 1) h' → IsTupOf2 h' s.heap.objs.size x1 x2 →
      (∀ c o, c ≠ z → c ≠ i1 → c ≠ i2 → s.heap.get? c = some o → h'.get? c = some o) → Q (.ref s.heap.objs.size) { s with heap := h', toks := tk }) :
    wpAny (model prog w) A (Builtin.«zip.__next__» ⟨[.ref z], []⟩) (fun fin s' => ∃ v, fin = .done (.ret v) ∧ Q v s') E s := by
  obtain ⟨hp, g, d, tk0, os⟩ := s
  show wpAny _ _ (field (.ref z) 2 >>= _) _ _ _
  refine wpAny_bind (wpAny_field hz rfl (x := .bool false) rfl ?_)
  show wpAny _ _ (field (.ref z) 3 >>= _) _ _ _
  refine wpAny_bind (wpAny_field hz rfl (x := .ref TI) rfl ?_)
  refine wpAny_bind (wpAny_seqItems hTI rfl ?_)
  show wpAny _ _ (Builtin.SmallTypes.ownedTupleIsFree (.ref z) >>= _) _ _ _
  refine wpAny_bind (wpAny_tupleHeld_zip hz hT fun g0 hz0 hs0 => ?_)
  simp only [Bool.false_eq_true, if_false]
  refine wpAny_bind ?_
  rw [← Array.forIn_toList]
  simp only [List.forIn_cons, List.forIn_nil]
  refine wpAny_bind (wpAny_bind (wpAny_holding ?_))
  show wpAny _ _ (Builtin.SmallTypes.nextOf (.ref i1) >>= _) _ _ ⟨g0, g, d, tk0, os⟩
  refine wpAny_bind (D1.item i _ _ _ hlt1 (D1.over st1 hs0 S.zf1) fun x1 p1 tk1 hx1 sn1 hp1 => wpAny_pure ?_)
  replace hp1 : Heap.SameBut i1 g0 p1 := hp1
  refine wpAny_pure ?_
  refine wpAny_bind (wpAny_bind (wpAny_holding ?_))
  show wpAny _ _ (Builtin.SmallTypes.nextOf (.ref i2) >>= _) _ _ ⟨p1, g, d, tk1, os⟩
  refine wpAny_bind (D2.item i _ _ _ hlt2 (D2.over (D2.over st2 hs0 S.zf2) hp1 S.sep1_2) fun x2 p2 tk2 hx2 sn2 hp2 => wpAny_pure ?_)
  replace hp2 : Heap.SameBut i2 p1 p2 := hp2
  refine wpAny_pure (wpAny_pure ?_)
  show wpAny _ _ (newTuple [x1, x2] >>= _) _ _ _
  refine wpAny_bind (wpAny_newTuple ?_)
  have hsz : p2.objs.size = hp.objs.size := by rw [hp2.1, hp1.1, hs0.1]
  have hz2 : IsZipHeld p2 z TI TO T true := hp2.extBut _ _ S.zi2 (hp1.extBut _ _ S.zi1 hz0)
  have hk : ∀ c o, c ≠ z → c ≠ i1 → c ≠ i2 → hp.get? c = some o → p2.get? c = some o := fun c o c1 c2 c3 e => hp2.extBut _ _ c3 (hp1.extBut _ _ c2 (hs0.extBut _ _ c1 e))
  refine wpAny_pure ⟨_, rfl, ?_⟩
  have hpair : IsTupOf2 (p2.push { cls := .type "tuple", data := .seq #[x1, x2] }) p2.objs.size x1 x2 := Heap.get?_push_size _ rfl
  have up : ∀ c o, p2.get? c = some o → (p2.push { cls := .type "tuple", data := .seq #[x1, x2] }).get? c = some o := fun c o e => Heap.get?_push_of_some _ e
  show Q (.ref p2.objs.size) ⟨p2.push { cls := .type "tuple", data := .seq #[x1, x2] }, g, d, tk2, os⟩
  rw [hsz] at hpair ⊢
  exact hQ x1 x2 _ tk2 hx1 hx2 (up _ _ hz2) (D1.frame _ _ _ (D1.over sn1 hp2 S.sep2_1) fun b _ o e => up b o e) (D2.frame _ _ _ sn2 fun b _ o e => up b o e) hpair fun c o c1 c2 c3 e => up _ _ (hk c o c1 c2 c3 e)
theorem zipH_next_end {Q : Fin → Shared → Prop} (S : ZipSep2 z TI TO i1 i2 fp1 fp2) (D1 : Draws prog w A i1 fp1 n1 P1 St1) (D2 : Draws prog w A i2 fp2 n2 P2 St2)
    (hz : IsZipHeld s.heap z TI TO T f) (hT : s.heap.get? T = some oT) (hTI : IsTupOf2 s.heap TI (.ref i1) (.ref i2)) (st1 : St1 i s.heap) (st2 : St2 i s.heap) (hle1 : i ≤ n1) (hle2 : i ≤ n2) (hend : i = n1 ∨ i = n2)
    (hE : ∀ h' tk e, (∀ c o, c ≠ z → c ≠ i1 → c ≠ i2 → s.heap.get? c = some o → h'.get? c = some o) → (∃ o, h'.get? e = some o ∧ o.cls = .type "StopIteration") → E (.ref e) { s with heap := h', toks := tk }) :
    wpAny (model prog w) A (Builtin.«zip.__next__» ⟨[.ref z], []⟩) Q E s := by
  obtain ⟨hp, g, d, tk0, os⟩ := s
  show wpAny _ _ (field (.ref z) 2 >>= _) _ _ _
  refine wpAny_bind (wpAny_field hz rfl (x := .bool false) rfl ?_)
  show wpAny _ _ (field (.ref z) 3 >>= _) _ _ _
  refine wpAny_bind (wpAny_field hz rfl (x := .ref TI) rfl ?_)
  refine wpAny_bind (wpAny_seqItems hTI rfl ?_)
  show wpAny _ _ (Builtin.SmallTypes.ownedTupleIsFree (.ref z) >>= _) _ _ _
  refine wpAny_bind (wpAny_tupleHeld_zip hz hT fun g0 hz0 hs0 => ?_)
  simp only [Bool.false_eq_true, if_false]
  refine wpAny_bind ?_
  rw [← Array.forIn_toList]
  simp only [List.forIn_cons, List.forIn_nil]
  refine wpAny_bind (wpAny_bind (wpAny_holding ?_))
  show wpAny _ _ (Builtin.SmallTypes.nextOf (.ref i1) >>= _) _ _ ⟨g0, g, d, tk0, os⟩
  by_cases hlt1 : i < n1
  · refine wpAny_bind (D1.item i _ _ _ hlt1 (D1.over st1 hs0 S.zf1) fun x1 p1 tk1 hx1 sn1 hp1 => wpAny_pure ?_)
    replace hp1 : Heap.SameBut i1 g0 p1 := hp1
    refine wpAny_pure ?_
    refine wpAny_bind (wpAny_bind (wpAny_holding ?_))
    have hi2 : i = n2 := by omega
    show wpAny _ _ (Builtin.SmallTypes.nextOf (.ref i2) >>= _) _ _ ⟨p1, g, d, tk1, os⟩
    refine wpAny_bind (D2.done ⟨p1, g, d, tk1, os⟩ _ _ (by rw [← hi2]; exact D2.over (D2.over st2 hs0 S.zf2) hp1 S.sep1_2) fun q e hq he => ?_)
    replace hq : Heap.ExtBut i2 p1 q := hq
    exact hE q tk1 e (fun c o cz c1 c2 x => hq _ _ c2 (hp1.extBut _ _ c1 (hs0.extBut _ _ cz x))) he
  · have hi1 : i = n1 := by omega
    refine wpAny_bind (D1.done ⟨g0, g, d, tk0, os⟩ _ _ (by rw [← hi1]; exact D1.over st1 hs0 S.zf1) fun q e hq he => ?_)
    replace hq : Heap.ExtBut i1 g0 q := hq
    exact hE q tk0 e (fun c o cz c1 c2 x => hq _ _ c1 (hs0.extBut _ _ cz x)) he
theorem pyNext_zipH_item {Q : Option Value → Shared → Prop} (S : ZipSep2 z TI TO i1 i2 fp1 fp2) (D1 : Draws prog w A.in1 i1 fp1 n1 P1 St1) (D2 : Draws prog w A.in1 i2 fp2 n2 P2 St2)
    (hz : IsZipHeld s.heap z TI TO T f) (hT : s.heap.get? T = some oT) (hTI : IsTupOf2 s.heap TI (.ref i1) (.ref i2)) (st1 : St1 i s.heap) (st2 : St2 i s.heap) (hlt1 : i < n1) (hlt2 : i < n2)
    (hQ : ∀ x1 x2 h' tk, P1 i x1 → P2 i x2 → IsZipHeld h' z TI TO T true → St1 (i + 1) h' → St2 (i + 1) h' → IsTupOf2 h' s.heap.objs.size x1 x2 →
      (∀ c o, c ≠ z → c ≠ i1 → c ≠ i2 → s.heap.get? c = some o → h'.get? c = some o) → Q (some (.ref s.heap.objs.size)) { s with heap := h', toks := tk }) :
    wpAny (model prog w) A (pyNext (.ref z)) Q E s := by
  have hTy : s.TypeIs (.ref z) "zip" := ⟨_, hz, rfl⟩
  unfold pyNext
  exact wpAny_bind (wpAny_attempt (wpAny_callSpecial?_slot (name := Str.ofString "__next__") hTy F.slot_zip_next
    (wpAny_call_entry F.slot_zip_next hTy F.entry_zip_next
      (zipH_next_item S D1 D2 hz hT hTI st1 st2 hlt1 hlt2 fun x1 x2 h' tk y1 y2 b1 d1 d2 b5 b7 => wpAny_pure (hQ x1 x2 h' tk y1 y2 b1 d1 d2 b5 b7)) (F.args_zip_next_1 _))))
theorem pyNext_zipH_end {Q : Option Value → Shared → Prop} (S : ZipSep2 z TI TO i1 i2 fp1 fp2) (D1 : Draws prog w A.in1 i1 fp1 n1 P1 St1) (D2 : Draws prog w A.in1 i2 fp2 n2 P2 St2)
    (hz : IsZipHeld s.heap z TI TO T f) (hT : s.heap.get? T = some oT) (hTI : IsTupOf2 s.heap TI (.ref i1) (.ref i2)) (st1 : St1 i s.heap) (st2 : St2 i s.heap) (hle1 : i ≤ n1) (hle2 : i ≤ n2) (hend : i = n1 ∨ i = n2)
    (hQ : ∀ h' tk, (∀ c o, c ≠ z → c ≠ i1 → c ≠ i2 → s.heap.get? c = some o → h'.get? c = some o) → Q none { s with heap := h', toks := tk }) : wpAny (model prog w) A (pyNext (.ref z)) Q E s := by
  have hTy : s.TypeIs (.ref z) "zip" := ⟨_, hz, rfl⟩
  unfold pyNext
  refine wpAny_bind (wpAny_attempt (wpAny_callSpecial?_slot (name := Str.ofString "__next__") hTy F.slot_zip_next
    (wpAny_call_entry F.slot_zip_next hTy F.entry_zip_next (zipH_next_end S D1 D2 hz hT hTI st1 st2 hle1 hle2 hend fun h' tk e hk he => ?_) (F.args_zip_next_1 _))))
  obtain ⟨o, ho, hc⟩ := he
  refine wpAny_bind (wpAny_isInstance (T := "StopIteration") (b := true) ⟨o, ho, hc⟩ isSubtype_stop ?_)
  exact wpAny_pure (hQ _ _ hk)
end
theorem IsSq.at {b : Bool} {h h' : Heap} {a : Addr} {its : Array Value} (q : IsSq b h a its) (k : ∀ o, h.get? a = some o → h'.get? a = some o) : IsSq b h' a its := by
  cases b with
  | true => exact Heap.IsList.at q k
  | false => obtain ⟨o, ho, r⟩ := q; exact ⟨o, k _ ho, r⟩
theorem IsSq.live {b : Bool} {h : Heap} {a : Addr} {its : Array Value} (q : IsSq b h a its) : ∃ o, h.get? a = some o := by
  cases b with
  | true => obtain ⟨o, ho, _⟩ := q; exact ⟨o, ho⟩
  | false => obtain ⟨o, ho, _⟩ := q; exact ⟨o, ho⟩
section
variable {prog : Program} {w : World}
theorem PairArg.zipB (b c : Bool) (z TI TO i1 i2 l1 l2 : Addr) (D : ZipSep2 z TI TO i1 i2 [i1, l1] [i2, l2]) (e1 : l1 ≠ i1) (e2 : l2 ≠ i2) (xs ys : Array Value) :
    PairArg prog w "zip" z [z, TI, TO, i1, i2, l1, l2] [z, TO, i1, i2] (min xs.size ys.size) (fun i k v => xs[i]? = some k ∧ ys[i]? = some v)
      (fun h => IsZip h z TI TO .none ∧ IsTupOf2 h TI (.ref i1) (.ref i2) ∧ (∃ a b, IsTupOf2 h TO a b) ∧ IsItr b h i1 l1 0 ∧ IsItr c h i2 l2 0 ∧ IsSq b h l1 xs ∧ IsSq c h l2 ys) where
  type := fun s ok => ⟨_, ok.1, rfl⟩
  notDict := by decide
  keep := fun h h' ok hk => by
    obtain ⟨hz, hTI, ⟨a, b, hTO⟩, h1, h2, hl1, hl2⟩ := ok
    exact ⟨hk _ _ hz, hk _ _ hTI, ⟨a, b, hk _ _ hTO⟩, h1.at fun o e => hk _ o e, h2.at fun o e => hk _ o e, hl1.at fun o e => hk _ o e, hl2.at fun o e => hk _ o e⟩
  there := fun h ok b hb => by
    obtain ⟨hz, hTI, ⟨a, c, hTO⟩, h1, h2, hl1, hl2⟩ := ok
    obtain ⟨o1, h1, _⟩ := h1.live
    obtain ⟨o2, h2, _⟩ := h2.live
    obtain ⟨o3, hl1⟩ := hl1.live
    obtain ⟨o4, hl2⟩ := hl2.live
    simp only [List.mem_cons, List.not_mem_nil, or_false] at hb
    rcases hb with rfl | rfl | rfl | rfl | rfl | rfl | rfl
    all_goals first | exact ⟨_, hz⟩ | exact ⟨_, hTI⟩ | exact ⟨_, hTO⟩ | exact ⟨_, h1⟩ | exact ⟨_, h2⟩ | exact ⟨_, hl1⟩ | exact ⟨_, hl2⟩
  sub := fun b hb => by simp at hb ⊢; rcases hb with rfl | rfl | rfl | rfl <;> simp
  noKeys := fun A s Q E hA ok h => getAttrOr_miss_zip ok.1 rfl rfl rfl zip_no_keys (by decide +kernel) hA h
  iter := fun A s d Q E hA ok hd hdf h => by
    obtain ⟨hz, hTI, ⟨a, a', hTO⟩, h1, h2, hl1, hl2⟩ := ok
    simp only [List.mem_cons, List.not_mem_nil, or_false, not_or] at hdf
    obtain ⟨dz, dTI, dTO, di1, di2, dl1, dl2⟩ := hdf
    refine wpAny_pyIter_zip hz (h z [z, TO, i1, i2] (fun i h => IsTupOf2 h TI (.ref i1) (.ref i2) ∧ (IsItr b h i1 l1 i ∧ IsSq b h l1 xs) ∧ (IsItr c h i2 l2 i ∧ IsSq c h l2 ys) ∧
      ((IsZip h z TI TO .none ∧ ∃ a b, IsTupOf2 h TO a b) ∨ ∃ T f oT, IsZipHeld h z TI TO T f ∧ h.get? T = some oT ∧ T ≠ z ∧ T ≠ i1 ∧ T ≠ i2 ∧ T ≠ d)) s.heap s.toks ?_
      ⟨hTI, ⟨h1, hl1⟩, ⟨h2, hl2⟩, .inl ⟨hz, a, a', hTO⟩⟩ (fun _ _ e => e) fun b hb => .inl hb)
    have hA1 : A.in1.handled = none := hA
    exact {
      off := fun hm => by
        simp only [List.mem_cons, List.not_mem_nil, or_false] at hm
        rcases hm with e | e | e | e
        · exact dz e
        · exact dTO e
        · exact di1 e
        · exact di2 e
      frame := fun i h₁ h₂ st hk => by
        obtain ⟨hTI, ⟨h1, hl1⟩, ⟨h2, hl2⟩, hz⟩ := st
        refine ⟨hk _ _ (Ne.symm dTI) hTI, ⟨h1.at fun o e => hk _ o (Ne.symm di1) e, hl1.at fun o e => hk _ o (Ne.symm dl1) e⟩, ⟨h2.at fun o e => hk _ o (Ne.symm di2) e, hl2.at fun o e => hk _ o (Ne.symm dl2) e⟩, ?_⟩
        rcases hz with ⟨hz, a, b, hTO⟩ | ⟨T, f, oT, hz, hT, r1, r2, r3, r4⟩
        · exact .inl ⟨hk _ _ (Ne.symm dz) hz, a, b, hk _ _ (Ne.symm dTO) hTO⟩
        · exact .inr ⟨T, f, oT, hk _ _ (Ne.symm dz) hz, hk _ _ r4 hT, r1, r2, r3, r4⟩
      item := fun i s₁ Q₁ E₁ hi st hds hQ => by
        obtain ⟨hTI, ⟨h1, hl1⟩, ⟨h2, hl2⟩, hz⟩ := st
        have hix : i < xs.size := Nat.lt_of_lt_of_le hi (Nat.min_le_left ..)
        have hiy : i < ys.size := Nat.lt_of_lt_of_le hi (Nat.min_le_right ..)
        have lt : ∀ {c o}, s₁.heap.get? c = some o → s₁.heap.objs.size ≠ c := fun e => Nat.ne_of_gt (Heap.lt_size e)
        have n1 : s₁.heap.objs.size ≠ i1 := let ⟨_, e, _⟩ := h1.live; lt e
        have n2 : s₁.heap.objs.size ≠ i2 := let ⟨_, e, _⟩ := h2.live; lt e
        rcases hz with ⟨hz, a, a', hTO⟩ | ⟨T, f, oT, hz, hT, r1, r2, r3, r4⟩
        · refine wpAny_pyNext_zipD2_item D (drawsB hA1 b i1 l1 e1 xs) (drawsB hA1 c i2 l2 e2 ys) hz hTI hTO ⟨h1, hl1⟩ ⟨h2, hl2⟩ hix hiy fun x1 x2 h' tk y1 y2 z' TO' st1 st2 hTT hsz hk => ?_
          exact hQ s₁.heap.objs.size _ _ h' tk ⟨y1, y2⟩ (.inl ⟨_, hTT, rfl, _, rfl⟩)
            ⟨hk _ _ D.TIz D.TITO D.TIi1 D.TIi2 hTI, st1, st2, .inr ⟨s₁.heap.objs.size, false, _, z', hTT, lt hz, n1, n2, Nat.ne_of_gt hds⟩⟩
            fun c o hc e => hk c o (fun x => hc (by simp [x])) (fun x => hc (by simp [x])) (fun x => hc (by simp [x])) (fun x => hc (by simp [x])) e
        · refine pyNext_zipH_item D (drawsB hA1 b i1 l1 e1 xs) (drawsB hA1 c i2 l2 e2 ys) hz hT hTI ⟨h1, hl1⟩ ⟨h2, hl2⟩ hix hiy fun x1 x2 h' tk y1 y2 z' st1 st2 hTT hk => ?_
          exact hQ s₁.heap.objs.size _ _ h' tk ⟨y1, y2⟩ (.inl ⟨_, hTT, rfl, _, rfl⟩)
            ⟨hk _ _ D.TIz D.TIi1 D.TIi2 hTI, st1, st2, .inr ⟨T, true, oT, z', hk _ _ r1 r2 r3 hT, r1, r2, r3, r4⟩⟩
            fun c o hc e => hk c o (fun x => hc (by simp [x])) (fun x => hc (by simp [x])) (fun x => hc (by simp [x])) e
      done := fun s₁ Q₁ E₁ st hQ => by
        obtain ⟨hTI, st1, st2, hz⟩ := st
        rcases hz with ⟨hz, a, a', hTO⟩ | ⟨T, f, oT, hz, hT, r1, r2, r3, r4⟩
        · exact wpAny_pyNext_zipD2_end D (drawsB hA1 b i1 l1 e1 xs) (drawsB hA1 c i2 l2 e2 ys) hz hTI hTO st1 st2 (by omega) (by omega) (by omega) fun h' tk hk => hQ h' tk fun c o hc e => hk c o (fun x => hc (by simp [x])) (fun x => hc (by simp [x])) (fun x => hc (by simp [x])) (fun x => hc (by simp [x])) e
        · exact pyNext_zipH_end D (drawsB hA1 b i1 l1 e1 xs) (drawsB hA1 c i2 l2 e2 ys) hz hT hTI st1 st2 (by omega) (by omega) (by omega) fun h' tk hk => hQ h' tk fun c o hc e => hk c o (fun x => hc (by simp [x])) (fun x => hc (by simp [x])) (fun x => hc (by simp [x])) e }
end
section
variable {X : Cx}
theorem boot_dict' : bootBuiltins "dict" = some (.type "dict") := by decide +kernel
def tDz (K : PySem.W.Frag) (ta : TA) : TE := fun σ H Q => ta σ H fun vs H1 => ∃ (b c : Bool) (a a' : Addr) (xs ys : List V) (kvs : List (Key × V)), vs = [.ref a, .ref a'] ∧ SqB b K H1 a xs ∧ SqB c K H1 a' ys ∧
  kvs.length = min xs.length ys.length ∧ (∀ (i : Nat) (k v : V), xs[i]? = some k → ys[i]? = some v → ∃ q, kvs[i]? = some (q, v) ∧ k = kV q) ∧ kvs.length ≤ sizeLine ∧ ∀ p, H1 p = none → Q (.ref p) (upd H1 p (.dK (mergeK [] kvs)))
theorem keyIs_kV {q : Key} {u : Value} (P : Program) (w : World) (r : RelV (kV q) u) : (mixKind P w).is q u = true := kV_is r
theorem kv_build (P : Program) (w : World) : ∀ {kvs : List (Key × V)} {n : Nat} {us vs : List Value} {xs ys : List V}, Vals xs us → Vals ys vs → kvs.length = min xs.length ys.length → (∀ (i : Nat) (k v : V), xs[i]? = some k → ys[i]? = some v → ∃ q, kvs[i]? = some (q, v) ∧ k = kV q) →
    ∃ rs : List (Key × Value), KV kvs rs ∧ rs.length = kvs.length ∧ ∀ (i : Nat) (k v : Value), us[i]? = some k → vs[i]? = some v → ∃ q, rs[i]? = some (q, v) ∧ (mixKind P w).is q k = true
  | kvs, n, [], vs, xs, ys, r1, r2, hl, h => by
    cases r1
    have : kvs = [] := List.eq_nil_of_length_eq_zero (by simpa using hl)
    subst this
    exact ⟨[], .nil, rfl, fun i k v e => by simp at e⟩
  | kvs, n, u :: us, [], xs, ys, r1, r2, hl, h => by
    cases r2
    have : kvs = [] := List.eq_nil_of_length_eq_zero (by simpa using hl)
    subst this
    exact ⟨[], .nil, rfl, fun i k v _ e => by simp at e⟩
  | kvs, n, u :: us, v :: vs, _, _, r1, r2, hl, h => by
    cases r1 with
    | @cons x _ xs _ q1 t1 =>
      cases r2 with
      | @cons y _ ys _ q2 t2 =>
        obtain ⟨q, e1, e2⟩ := h 0 x y rfl rfl
        cases kvs with
        | nil => simp at e1
        | cons p kvs =>
          simp at e1
          subst e1
          subst e2
          obtain ⟨rs, k1, k2, k3⟩ := kv_build P w (kvs := kvs) (n := n) t1 t2 (by simp at hl; omega) fun i k v h1 h2 => h (i + 1) k v (by simpa using h1) (by simpa using h2)
          refine ⟨(q, v) :: rs, .cons ⟨rfl, q2⟩ k1, by simp [k2], fun i k w h1 h2 => ?_⟩
          cases i with
          | zero =>
            simp at h1 h2
            subst h1; subst h2
            exact ⟨q, rfl, keyIs_kV P w q1⟩
          | succ i => exact k3 i k w (by simpa using h1) (by simpa using h2)
theorem pe_dzip {e1 e2 : Expr} {ta : TA} {p p2 pos pos2 : Pos} (hc : X.calm = true) (hg : Gl X "dict") (hm : X.mg "dict" = none) (hg2 : Gl X "zip") (hm2 : X.mg "zip" = none) (ha : PA X [e1, e2] ta) (hs : starEach [e1, e2] X.env = (false, eval e1 X.env) :: starEach [e2] X.env) (hpl : (backTo pos2 (starEach [e2] X.env)).any (·.1) = false)
    (hs2 : starEach [.Call (.Name "zip" p2) [e1, e2] [] pos2] X.env = (false, eval (.Call (.Name "zip" p2) [e1, e2] [] pos2) X.env) :: starEach [] X.env := by rfl) :
    PE X (.Call (.Name "dict" p) [.Call (.Name "zip" p2) [e1, e2] [] pos2] [] pos) (tDz X.K ta) := by
  refine ⟨fun pins s σ H Q I h => ?_⟩
  refine Call_ (ld_blt I hg hm boot_dict' (PyProof.Rows.callWith_type1 (args_cons (Call_ (ld_blt I hg2 hm2 PyProof.Rows.boot_zip (PyProof.Rows.callWith_type1 (thn (ha.run pos2 pins s σ H _ I h) fun us s1 ⟨vs, H1, I1, r1, q1⟩ => ?_) hs hpl))) hs2) hs2))
  obtain ⟨b, c, a, a', xs, ys, kvs, ex, hqx, hqy, hl, hkv, hsz, q⟩ := q1
  subst ex
  cases r1 with
  | cons r rr =>
    cases rr with
    | cons r' rr =>
      cases rr
      cases r
      cases r'
      obtain ⟨its, rv, p1⟩ := seqB I1 hqx
      obtain ⟨its2, rv2, p2'⟩ := seqB I1 hqy
      have hl1 := IsSq.lt p1
      have hl2 := IsSq.lt p2'
      have g1 := rv.length
      have g2 := rv2.length
      obtain ⟨rs, k1, k2, k3⟩ := kv_build X.prog X.w (n := 0) rv rv2 hl hkv
      refine zip_begins2 (beginsB b a its.toArray) (beginsB c a' its2.toArray) p1 p2' fun h' hz hTI hTO h1 h2 hsz' hk => args_nil ?_
      have D : ZipSep2 (s1.heap.objs.size + 4) (s1.heap.objs.size + 2) (s1.heap.objs.size + 3) s1.heap.objs.size (s1.heap.objs.size + 1) [s1.heap.objs.size, a] [s1.heap.objs.size + 1, a'] :=
        zip_sep2 (N := s1.heap.objs.size) (fp1 := [a]) (fp2 := [a']) (fun x1 hx1 => by rw [List.mem_singleton.mp hx1]; exact hl1) (fun x1 hx1 => by rw [List.mem_singleton.mp hx1]; exact hl2)
      have P := PairArg.zipB (prog := X.prog) (w := X.w) b c (s1.heap.objs.size + 4) (s1.heap.objs.size + 2) (s1.heap.objs.size + 3) s1.heap.objs.size (s1.heap.objs.size + 1) a a' D (Nat.ne_of_lt hl1) (Nat.ne_of_lt (Nat.lt_succ_of_lt hl2)) its.toArray its2.toArray
      have I2 : Inv X pins σ H1 { s1 with heap := h' } := I1.kept (t' := s1.toks) hk
      have hn : min its.toArray.size its2.toArray.size ≤ sizeLine := by simp only [List.size_toArray]; rw [← g1, ← g2, ← hl]; exact hsz
      refine call_dict_pairs (knd := mixKind X.prog X.w) (kvs := rs) P (I1.ok.hd hc) ⟨hz, hTI, ⟨_, _, hTO⟩, itr_new h1, itr_new h2, p1.at fun o e => hk _ o e, p2'.at fun o e => hk _ o e⟩ ⟨by rw [k2, hl]; simp only [List.size_toArray]; omega, fun i key v hh => ?_⟩ hn fun h2' tk dd hk2 => ?_
      · obtain ⟨e1, e2⟩ := hh
        exact k3 i key v (by simpa using e1) (by simpa using e2)
      · have kp : ∀ bb o, s1.heap.get? bb = some o → h2'.get? bb = some o := fun bb o e => hk2 bb o (fun hm => ?_) (hk bb o e)
        · have hle : s1.heap.objs.size ≤ h'.objs.size := by rw [hsz']; omega
          refine ⟨.ref h'.objs.size, upd H1 h'.objs.size (.dK (mergeK [] kvs)), ?_, rfl, q _ (I1.hok.fresh hle)⟩
          have hz3 : (mergeK [] kvs).length ≤ sizeLine := by
            have := length_mergeK kvs []
            simp at this
            omega
          refine I1.laid (t' := tk) kp hle ?_
          exact dk_new (P := X.prog) (w := X.w) hz3 (beq_eq_false_iff_ne.mpr (Ne.symm (Nat.ne_of_lt (Nat.lt_of_lt_of_le I1.big hle)))) (KV.merge k1 .nil) dd
        · have hlt : bb < s1.heap.objs.size := Heap.lt_size e
          simp only [List.mem_cons, List.not_mem_nil, or_false] at hm
          have hle : s1.heap.objs.size ≤ bb := by
            rcases hm with hm | hm | hm | hm
            · rw [hm]; exact Nat.le_add_right _ _
            · rw [hm]; exact Nat.le_add_right _ _
            · rw [hm]; exact Nat.le_refl _
            · rw [hm]; exact Nat.le_add_right _ _
          exact absurd (Nat.lt_of_lt_of_le hlt hle) (Nat.lt_irrefl _)
end
end Nd

/-! NdJ: further calls. -/
namespace Nd
open PySem PySem.Spec PyProof.Rows L2
section
variable {XR : XRT} {W : WX} {X : Cx}
/-- one argument -/
theorem one_ok {K : PySem.W.Frag} {σ : Sl} {H : Hp} {Q : VK} {f : Val → Option Val} {ma : M (Val × Tk)} (h : tE K XR W (bindM ma fun p => bindM (liftM (f p.1)) fun r => bindM (plugs [p] [p.1]) fun _ => pureM r) σ H Q) :
    tG K XR W ma σ H fun v H1 => ∃ Z x r As, Good H1 Z (rep K v x :: As) ∧ f x = some r ∧ ∀ H' Z' u, Good H' Z' (rep K u r :: rep K v x :: As) → Q u H' := by
  obtain ⟨Z, T, e, g, h⟩ := h
  rw [outP_bind] at h
  refine ⟨Z, T, e, g, h.imp (fun p e1 k H1 Z1 v g1 => ?_) fun _ _ k => k⟩
  rw [outP_bind, outP_lift] at k
  obtain ⟨r, er, k⟩ := k
  refine ⟨Z1, p.1, r, tkA K σ v p.2 ++ (envA K σ e1 ++ T), g1, er, fun H' Z' u g' => ?_⟩
  have g3 : Good H' Z' (argsA K σ [v] [p] ++ (envA K σ e1 ++ (rep K u r :: T))) := g'.perm (permC fun a => by simp only [cnt_cons, cnt_append, cnt_nil, argA, argsA]; omega)
  obtain ⟨e3, q1, g4⟩ := g3.plugsId
  rw [outP_bind] at k
  have q1' : plugs [p] [p.1] e1 = .ok () e3 := q1
  rw [q1'] at k
  exact k H' Z' u (g4.perm (permC fun a => by simp only [cnt_cons, cnt_append, cnt_nil]; omega))
theorem isi_kit : ∀ a ∈ ["int", "bool", "str", "tuple", "list", "NoneType"], ∀ t ∈ ["int", "bool", "str", "tuple", "list"], kitB a t = some (if a = "bool" ∧ t = "int" then true else a == t) := by decide +kernel
theorem boot_isi : ∀ t ∈ ["int", "bool", "str", "tuple", "list"], bootBuiltins (Str.ofString t) = some (.type t) := by decide +kernel
def isiT (t : String) : Bool := ["int", "bool", "str", "tuple", "list"].contains t
theorem isi_ok {K : PySem.W.Frag} {H : Hp} {Z : ZS} {x r : Val} {v : V} {f : List Addr} {t : String} (ht : t ∈ ["int", "bool", "str", "tuple", "list"]) (rr : Rep K H Z x v f) (e : isiV x t = some r) : ∃ ty b, TyX K H v (.type ty) ∧ kitB ty t = some b ∧ r = .bl b := by
  have lst : ∀ {a : Addr} {vs : List V}, SqL K H a vs → TyX K H (.ref a) (.type "list") := fun h => by
    rcases h with (h | ⟨o, h⟩) | ⟨o, its, n, h1, h2, _⟩
    · exact .base (.lst h)
    · exact .base (.frz h)
    · exact .kList h1 h2
  have tup : ∀ {a : Addr} {vs : List V}, SqT K H a vs → TyX K H (.ref a) (.type "tuple") := fun h => by
    rcases h with (h | ⟨o, h⟩) | ⟨o, its, n, h1, h2, _⟩
    · exact .base (.tup h)
    · exact .fTuple h
    · exact .kTuple h1 h2
  unfold isiV at e
  split at e
  · cases e
    cases (show v = _ from rr.1)
    refine ⟨"int", _, .base (.int _), isi_kit "int" (by decide) t ht, ?_⟩
    simp only [List.mem_cons, List.not_mem_nil, or_false] at ht
    rcases ht with rfl | rfl | rfl | rfl | rfl <;> simp
  · cases e
    cases (show v = _ from rr.1)
    refine ⟨"bool", _, .base (.bl _), isi_kit "bool" (by decide) t ht, ?_⟩
    simp only [List.mem_cons, List.not_mem_nil, or_false] at ht
    rcases ht with rfl | rfl | rfl | rfl | rfl <;> simp
  · cases e
    cases (show v = _ from rr.1)
    refine ⟨"str", _, .base (.str _), isi_kit "str" (by decide) t ht, ?_⟩
    simp only [List.mem_cons, List.not_mem_nil, or_false] at ht
    rcases ht with rfl | rfl | rfl | rfl | rfl <;> simp
  · cases e
    unfold Rep at rr
    obtain ⟨_, a, vs, rfl, hq, rs⟩ := rr
    refine ⟨"tuple", _, tup hq, isi_kit "tuple" (by decide) t ht, ?_⟩
    simp only [List.mem_cons, List.not_mem_nil, or_false] at ht
    rcases ht with rfl | rfl | rfl | rfl | rfl <;> simp
  · cases e
    obtain ⟨a, vs, _, rfl, hq, rs⟩ := rr.listF
    refine ⟨"list", _, lst hq, isi_kit "list" (by decide) t ht, ?_⟩
    simp only [List.mem_cons, List.not_mem_nil, or_false] at ht
    rcases ht with rfl | rfl | rfl | rfl | rfl <;> simp
  · cases e
    cases (show v = _ from rr.1)
    refine ⟨"NoneType", _, .base .non, isi_kit "NoneType" (by decide) t ht, ?_⟩
    simp only [List.mem_cons, List.not_mem_nil, or_false] at ht
    rcases ht with rfl | rfl | rfl | rfl | rfl <;> simp
  · cases e
theorem tE_isi {a : Expr} {t : String} {ma : M (Val × Tk)} {p p2 pos : Pos} (ht : isiT t = true) (hg : Gl X "isinstance") (hm : X.mg "isinstance" = none) (hg2 : Gl X (Str.ofString t)) (hm2 : X.mg (Str.ofString t) = none) (ha : PE X a (tG X.K XR W ma)) (hp : plainE a = true) :
    PE X (.Call (.Name "isinstance" p) [a, .Name (Str.ofString t) p2] [] pos) (tE X.K XR W (bindM ma fun p => bindM (liftM (isiV p.1 t)) fun r => bindM (plugs [p] [p.1]) fun _ => pureM r)) := by
  have ht' : t ∈ ["int", "bool", "str", "tuple", "list"] := by simpa [isiT] using ht
  have hn : Str.ofString t ≠ "__name__" := (show ∀ t ∈ ["int", "bool", "str", "tuple", "list"], Str.ofString t ≠ "__name__" from by decide +kernel) t ht'
  have hd : (Str.ofString t == ("__debug__" : Str)) = false := (show ∀ t ∈ ["int", "bool", "str", "tuple", "list"], (Str.ofString t == ("__debug__" : Str)) = false from by decide +kernel) t ht'
  have pt : PE X (.Name (Str.ofString t) p2) (tC (.ty t)) := pe_bltn hg2 hm2 (boot_isi t ht') rfl hn hd
  refine PE_imp (pe_callB call_isi hg hm (by decide +kernel) (pa_cons ha (pa_cons pt pa_nil) (starEach_cons hp)) (by decide) (by decide) (starEach_cons hp) (by rfl)) fun σ H Q h => ?_
  obtain ⟨Z, T, e, g, h⟩ := one_ok (f := fun x => isiV x t) h
  refine ⟨Z, T, e, g, h.imp (fun p e1 k H1 Z1 v g1 => ?_) fun _ _ k => k⟩
  obtain ⟨Z2, x, r, As, g2, er, q⟩ := k H1 Z1 v g1
  obtain ⟨_, r2⟩ := g2.rp
  obtain ⟨ty, b, k1, k2, rfl⟩ := isi_ok ht' r2 er
  exact ⟨v, .ty t, .type ty, .type t, b, rfl, .ty t, k1, kit_ty k2, q H1 Z2 _ (g2.val ⟨rfl, rfl⟩)⟩
/-! ### repr -/
theorem data_ref {K : PySem.W.Frag} {H : Hp} {Z : ZS} {x : Val} {v : V} {f : List Addr} {d : PyData} (r : Rep K H Z x v f) (e : data x = some d) (h : isDisplay d = true) : ∃ a, v = .ref a := by
  cases x with
  | tup xs => unfold Rep at r; obtain ⟨_, a, vs, rfl, _⟩ := r; exact ⟨a, rfl⟩
  | lst m xs => obtain ⟨a, vs, _, rfl, _⟩ := r.listF; exact ⟨a, rfl⟩
  | _ => simp only [data, reduceCtorEq, Option.some.injEq] at e <;> subst e <;> cases h
def rRepr (K : PySem.W.Frag) : List V → Hp → VK → Prop := fun vs H Q => ∃ Z x r v As, vs = [v] ∧ Good H Z (rep K v x :: As) ∧ rprV x = some r ∧ ∀ u, Good H Z (rep K u r :: rep K v x :: As) → Q u H
theorem call_rpr (hgd : X.A.guards = some []) (hu : X.A.units + 61 < cLine) : CallR X (.builtin "repr") (rRepr X.K) := by
  intro pins s σ H xs us Q I rv h
  obtain ⟨Z, x, r, v, As, rfl, g, e, q⟩ := h
  obtain ⟨u, rfl, ru⟩ := vals1 rv
  obtain ⟨f, rr⟩ := g.rp
  unfold rprV at e
  split at e
  · rename_i d hd
    simp only [Option.map_eq_some_iff] at e
    obtain ⟨t, et, rfl⟩ := e
    unfold rprD at et
    split at et
    · rename_i hh
      cases et
      simp only [Bool.and_eq_true, Bool.not_eq_true', decide_eq_true_eq] at hh
      obtain ⟨⟨⟨⟨h1, h2⟩, h3⟩, h4⟩, h5⟩ := hh
      obtain ⟨a, rfl⟩ := data_ref rr hd h1
      obtain ⟨as, r1⟩ := Dp.reads I d _ u (Rep.dp rr hd) ru
      obtain rfl : u = Value.ref a := ru
      refine repr_of_reads' r1 h2 (PyData.noDict_hsm h3) hgd (by omega) (fun _ _ e => e) (fun h' u' tk hk => ?_) h5
      exact ⟨.str d.shown, H, I.kept (h' := h') (t' := tk) hk, ⟨_, rfl⟩, q _ (g.val ⟨rfl, rfl⟩)⟩
    · cases et
  · cases e
theorem tE_rpr {a : Expr} {ma : M (Val × Tk)} {p pos : Pos} (hgd : X.A.guards = some []) (hu : X.A.units + 61 < cLine) (hg : Gl X "repr") (hm : X.mg "repr" = none) (ha : PE X a (tG X.K XR W ma)) (hp : plainE a = true) :
    PE X (.Call (.Name "repr" p) [a] [] pos) (tE X.K XR W (bindM ma fun p => bindM (liftM (rprV p.1)) fun r => bindM (plugs [p] [p.1]) fun _ => pureM r)) := by
  refine PE_imp (pe_callB (call_rpr hgd hu) hg hm (by decide +kernel) (pa_cons ha pa_nil (starEach_cons hp)) (by decide) (by decide) (starEach_cons hp) (by rfl)) fun σ H Q h => ?_
  obtain ⟨Z, T, e, g, h⟩ := one_ok h
  refine ⟨Z, T, e, g, h.imp (fun p e1 k H1 Z1 v g1 => ?_) fun _ _ k => k⟩
  obtain ⟨Z2, x, r, As, g2, er, q⟩ := k H1 Z1 v g1
  exact ⟨Z2, x, r, v, As, rfl, g2, er, fun u g' => q H1 Z2 u g'⟩
/-! ### list(reversed(..)), dict(zip(..)) -/
theorem tE_lrev {a : Expr} {ma : M (Val × Tk)} {p p2 pos pos2 : Pos} (hc : X.calm = true) (hg : Gl X "list") (hm : X.mg "list" = none) (hg2 : Gl X "reversed") (hm2 : X.mg "reversed" = none) (ha : PE X a (tG X.K XR W ma)) (hp : plainE a = true) :
    PE X (.Call (.Name "list" p) [.Call (.Name "reversed" p2) [a] [] pos2] [] pos) (tE X.K XR W (bindM ma fun p => bindM (liftM (lrevV p.1)) fun r => bindM (plugs [p] [p.1]) fun _ => pureM r)) := by
  refine PE_imp (pe_lstRev hc hg hm hg2 hm2 ha (starEach_cons hp)) fun σ H Q h => ?_
  obtain ⟨Z, T, e, g, h⟩ := one_ok h
  refine ⟨Z, T, e, g, h.imp (fun p e1 k H1 Z1 v g1 => ?_) fun _ _ k => k⟩
  obtain ⟨Z2, x, r, As, g2, er, q⟩ := k H1 Z1 v g1
  obtain ⟨f2, r2⟩ := g2.rp
  have fin : ∀ {xs : List Val}, itemsF x = some xs → (∃ m, x = .lst m xs) → r = .lst .ow xs.reverse → ∃ a ws, v = V.ref a ∧ SqL X.K H1 a ws ∧ ∀ q, H1 q = none → Q (.ref q) (upd H1 q (.lst ws.reverse)) := fun {xs} hx ⟨m, hm⟩ hr => by
    subst hr
    obtain ⟨b, vs, rfl, hq, rs⟩ := Rep.itemsF r2 hx
    obtain ⟨b', vs', _, e', hq', rs'⟩ := (show Rep X.K H1 Z2 (.lst m xs) (.ref b) f2 from hm ▸ r2).listF
    cases e'
    rcases hq with hq | hq
    · exact ⟨b, vs, rfl, hq, fun l hl => q _ Z2 _ (g2.newL hl (Reps.rev rs))⟩
    · subst hm
      cases m <;> (unfold Rep at r2)
      · obtain ⟨_, a2, vs2, e2, hq2, rs2⟩ := r2
        cases e2
        exact ⟨b, vs2, rfl, .inl (.inl hq2.1), fun l hl => q _ Z2 _ (g2.newL hl (Reps.rev rs2))⟩
      · obtain ⟨a2, vs2, _, e2, hq2, rs2⟩ := r2
        cases e2
        exact ⟨b, vs2, rfl, .inl (.inl hq2), fun l hl => q _ Z2 _ (g2.newL hl (Reps.rev rs2))⟩
      · simp [itemsF] at hx
      · obtain ⟨_, a2, vs2, e2, hq2, rs2⟩ := r2
        cases e2
        exact ⟨b, vs2, rfl, hq2.sq, fun l hl => q _ Z2 _ (g2.newL hl (Reps.rev rs2))⟩
  unfold lrevV at er
  split at er
  · cases er
  · rename_i m xs hne
    cases er
    refine fin (xs := xs) ?_ ⟨_, rfl⟩ rfl
    cases m
    · rfl
    · rfl
    · exact (hne rfl).elim
    · rfl
  · cases er
end
end Nd

/-! NdK: how a call binds. -/
namespace Nd
open PySem PySem.Spec PyProof.Rows L2
theorem kw_loop {f : Str × Value → List (Str × Value) × List (Str × Value) → Sem (ForInStep (List (Str × Value) × List (Str × Value)))} {P : Str → Prop} (hf : ∀ x st, P x.1 → (st.1.lookup x.1).isSome = false → f x st = pure (.yield (st.1 ++ [(x.1, x.2)], st.2))) :
    ∀ (kw : List (Str × Value)) (st : List (Str × Value) × List (Str × Value)), (∀ x ∈ kw, P x.1) → (st.1.map (·.1) ++ kw.map (·.1)).Nodup → forIn kw st f = pure (st.1 ++ kw, st.2)
  | [], st, _, _ => by simp
  | x :: r, st, hp, nd => by
    have hn : (st.1.lookup x.1).isSome = false := by
      cases e : st.1.lookup x.1 with
      | none => rfl
      | some v =>
        have hm : x.1 ∈ st.1.map (·.1) := List.mem_map.mpr ⟨(x.1, v), PySem.mem_of_lookup e, rfl⟩
        exact ((List.nodup_append.mp nd).2.2 _ hm _ (by simp) rfl).elim
    rw [List.forIn_cons, hf x st (hp x (by simp)) hn]
    show forIn r (st.1 ++ [(x.1, x.2)], st.2) f = _
    rw [kw_loop hf r _ (fun y hy => hp y (by simp [hy])) (by simpa using nd)]
    simp
theorem seq_none : seqItems? Value.none = pure none := rfl
theorem bind_gen {fd : FuncData} {us : List Value} {kw : List (Str × Value)} {as : List Arg} (hp : fd.params = ⟨[], as, none, [], [], none, []⟩) (hd : fd.defaults = .none) (h1 : us.length ≤ as.length)
    (h2 : (((as.map (·.arg)).zip us).map (·.1) ++ kw.map (·.1)).Nodup) (h3 : ∀ x ∈ kw, x.1 ∈ as.map (·.arg)) (h4 : ∀ n ∈ as.map (·.arg), (((as.map (·.arg)).zip us ++ kw).lookup n).isSome = true) :
    bindArgs fd ⟨us, kw⟩ = pure ((as.map (·.arg)).filterMap fun n => (((as.map (·.arg)).zip us ++ kw).lookup n).map (n, ·)) := by
  unfold bindArgs
  simp only [hp, hd, seq_none]
  rw [kw_loop (P := fun n => n ∈ as.map (·.arg)) (fun x st hx hl => by
    rw [if_pos (by simpa using hx), if_neg (by rw [hl]; decide)]) kw _ h3 h2]
  have hm : (List.filter (fun n => (List.lookup n ((as.map (·.arg)).zip us ++ kw)).isNone) (as.map (·.arg))) = [] := by
    rw [List.filter_eq_nil_iff]
    intro n hn
    have := h4 n hn
    cases e : List.lookup n ((as.map (·.arg)).zip us ++ kw) with
    | none => rw [e] at this; cases this
    | some v => simp
  have hlen : ¬ (us.length > as.length) := by omega
  simp [hlen]
  intro x hx hno
  have := h4 x (List.mem_of_mem_take hx)
  obtain ⟨v, hv⟩ := Option.isSome_iff_exists.mp this
  rcases List.mem_append.mp (PySem.mem_of_lookup hv) with q | q
  · exact ((hno v).1 q).elim
  · exact ((hno v).2 q).elim
theorem lookup_zip : ∀ {l : List Str} {vs : List Value} {i : Nat} {n : Str} {v : Value}, l.Nodup → l[i]? = some n → vs[i]? = some v → (l.zip vs).lookup n = some v
  | [], _, _, _, _, _, h, _ => by simp at h
  | _ :: _, [], _, _, _, _, _, h => by simp at h
  | a :: l, w :: vs, 0, n, v, nd, h1, h2 => by
    simp at h1 h2
    subst h1; subst h2
    simp
  | a :: l, w :: vs, i + 1, n, v, nd, h1, h2 => by
    have hne : ¬ n = a := by
      rintro rfl
      exact (List.nodup_cons.mp nd).1 (List.mem_of_getElem? (by simpa using h1))
    rw [List.zip_cons_cons, List.lookup_cons, beq_eq_false_iff_ne.mpr hne]
    exact lookup_zip (List.nodup_cons.mp nd).2 (by simpa using h1) (by simpa using h2)
theorem zip_take {α β : Type} : ∀ (us : List β) (N : List α) (n : Nat), us.length ≤ n → N.zip us = (N.take n).zip us
  | [], N, n, _ => by simp
  | u :: us, [], n, _ => by simp
  | u :: us, a :: N, 0, h => by simp at h
  | u :: us, a :: N, n + 1, h => by
    rw [List.take_succ_cons, List.zip_cons_cons, List.zip_cons_cons, zip_take us N n (by simpa using h)]
/-- what is seen of a call with keywords -/
def kwC (names ks : List Str) (n : Nat) (pm : List Nat) : Bool := decide ((names.take n ++ ks).Nodup) && decide (n ≤ names.length) && decide (pm.map (fun i => (names.take n ++ ks).getD i (Str.ofString "")) = names) && pm.all (fun i => decide (i < n + ks.length)) && ks.all fun k => decide (k ∈ names)
theorem bind_kw {fd : FuncData} {us ws : List Value} {as : List Arg} {ks : List Str} {n : Nat} {pm : List Nat} (hp : fd.params = ⟨[], as, none, [], [], none, []⟩) (hd : fd.defaults = .none) (hu : us.length = n) (hw : ws.length = ks.length) (hc : kwC (as.map (·.arg)) ks n pm = true) :
    bindArgs fd ⟨us, ks.zip ws⟩ = pure ((as.map (·.arg)).zip (pm.map fun i => (us ++ ws).getD i .none)) := by
  unfold kwC at hc
  simp only [Bool.and_eq_true, decide_eq_true_eq, List.all_eq_true] at hc
  obtain ⟨⟨⟨⟨c1, c2⟩, c3⟩, c4⟩, c5⟩ := hc
  generalize hN : as.map (·.arg) = N at *
  have hl : as.length = N.length := by rw [← hN]; simp
  have ht : (N.take n).length = n := by rw [List.length_take]; omega
  have e1 : N.zip us = (N.take n).zip us := by
    exact zip_take us N n (by omega)
  have e2 : N.zip us ++ ks.zip ws = (N.take n ++ ks).zip (us ++ ws) := by
    rw [e1, List.zip_append (by rw [ht, hu])]
  have look : ∀ i ∈ pm, (N.zip us ++ ks.zip ws).lookup ((N.take n ++ ks).getD i (Str.ofString "")) = some ((us ++ ws).getD i .none) := fun i hi => by
    have hi' := c4 i hi
    have l1 : i < (N.take n ++ ks).length := by rw [List.length_append, ht]; exact hi'
    have l2 : i < (us ++ ws).length := by rw [List.length_append, hu, hw]; exact hi'
    rw [e2, List.getD_eq_getElem?_getD, List.getD_eq_getElem?_getD, List.getElem?_eq_getElem l1, List.getElem?_eq_getElem l2]
    exact lookup_zip c1 (List.getElem?_eq_getElem l1) (List.getElem?_eq_getElem l2)
  have f1 : (N.zip us).map (·.1) = N.take n := by
    rw [e1, List.map_fst_zip (by rw [ht, hu]; exact Nat.le_refl _)]
  have f2 : (ks.zip ws).map (·.1) = ks := List.map_fst_zip (by rw [hw]; exact Nat.le_refl _)
  rw [bind_gen hp hd (by omega) (by rw [hN, f1, f2]; exact c1) (fun x hx => by
    rw [hN]
    exact c5 _ (by rw [← f2]; exact List.mem_map.mpr ⟨x, hx, rfl⟩)) (fun m hm => by
    rw [hN] at hm ⊢
    rw [← c3] at hm
    obtain ⟨i, hi, rfl⟩ := List.mem_map.mp hm
    rw [look i hi]; rfl)]
  rw [hN]
  congr 1
  conv => lhs; arg 2; rw [← c3]
  conv => rhs; rw [← c3]
  rw [List.filterMap_map]
  have e3 : ∀ l : List Nat, (∀ i ∈ l, i ∈ pm) → l.filterMap ((fun m => ((N.zip us ++ ks.zip ws).lookup m).map (m, ·)) ∘ fun i => (N.take n ++ ks).getD i (Str.ofString "")) = (l.map fun i => (N.take n ++ ks).getD i (Str.ofString "")).zip (l.map fun i => (us ++ ws).getD i .none) := by
    intro l
    induction l with
    | nil => intro _; rfl
    | cons i l ih =>
      intro h
      rw [List.filterMap_cons]
      have : ((fun m => ((N.zip us ++ ks.zip ws).lookup m).map (m, ·)) ∘ fun i => (N.take n ++ ks).getD i (Str.ofString "")) i = some ((N.take n ++ ks).getD i (Str.ofString ""), (us ++ ws).getD i .none) := by
        show ((N.zip us ++ ks.zip ws).lookup _).map _ = _
        rw [look i (h i (by simp))]
        rfl
      rw [this, ih fun j hj => h j (by simp [hj])]
      rfl
  exact e3 pm fun _ h => h
theorem bind_pos {fd : FuncData} {us : List Value} {as : List Arg} (hp : fd.params = ⟨[], as, none, [], [], none, []⟩) (hd : fd.defaults = .none) (hu : us.length = as.length) (nd : (as.map (·.arg)).Nodup) : bindArgs fd ⟨us, []⟩ = pure ((as.map (·.arg)).zip us) := by
  have hl : us.length = (as.map (·.arg)).length := by simp [hu]
  have hs : ∀ n ∈ as.map (·.arg), ∃ v, ((as.map (·.arg)).zip us).lookup n = some v ∧ True := fun n hn => by
    obtain ⟨i, hi, e⟩ := List.mem_iff_getElem.mp hn
    exact ⟨us[i], lookup_zip nd (by rw [← e]; exact List.getElem?_eq_getElem hi) (List.getElem?_eq_getElem (by omega)), trivial⟩
  rw [bind_gen hp hd (by omega) (by rw [List.map_fst_zip (by omega)]; simpa using nd) (fun x hx => by simp at hx) (fun n hn => by
    obtain ⟨v, e, _⟩ := hs n hn
    rw [List.append_nil, e]; rfl)]
  congr 1
  rw [List.append_nil]
  generalize as.map (·.arg) = N at *
  clear hs
  have : ∀ (M : List Str) (ws : List Value), M.Nodup → ws.length = M.length → M.filterMap (fun n => ((M.zip ws).lookup n).map (n, ·)) = M.zip ws := by
    intro M ws ndM hlM
    have e3 : ∀ (l : List Str) (vs : List Value), l.length = vs.length → (∀ (i : Nat) n v, l[i]? = some n → vs[i]? = some v → (M.zip ws).lookup n = some v) → l.filterMap (fun n => ((M.zip ws).lookup n).map (n, ·)) = l.zip vs := by
      intro l
      induction l with
      | nil => intro vs _ _; rfl
      | cons a l ih =>
        intro vs hh h
        cases vs with
        | nil => simp at hh
        | cons v vs =>
          rw [List.filterMap_cons, h 0 a v rfl rfl, ih vs (by simpa using hh) fun i n v h1 h2 => h (i + 1) n v (by simpa using h1) (by simpa using h2)]
          rfl
    exact e3 M ws (by omega) fun i n v h1 h2 => lookup_zip ndM h1 h2
  exact this N us nd hl
end Nd

/-! NdL: dict(zip(..)), ranges as lists, dict displays, calls of the text's own defs. -/
namespace Nd
open PySem PySem.Spec PyProof.Rows L2
section
variable {XR : XRT} {W : WX} {X : Cx}
section
variable {K : PySem.W.Frag} {H : Hp} {Z : ZS} {As : List Asn}
theorem Good.newD {xs : List (Key × Val)} {vs : List (Key × V)} {p : Addr} (h : Good H Z As) (hp : H p = none) (r : RepKs K H Z xs vs []) : Good (upd H p (.dK vs)) Z (rep K (.ref p) (.dic .ow xs) :: As) := by
  refine h.allocOwn hp ?_
  have k : Keep H (upd H p (.dK vs)) Z [] := fun a o e _ => by rw [upd_ne (ne_of_none e hp)]; exact e
  show Rep K _ Z (.dic .ow xs) (.ref p) [p]
  unfold Rep
  exact ⟨p, vs, rfl, rfl, upd_same, RepKs.keep (fun _ q => q) _ _ _ k r⟩
theorem RepKs.merge : ∀ {more acc : List (Key × Val)} {ms as : List (Key × V)}, RepKs K H Z more ms [] → RepKs K H Z acc as [] → RepKs K H Z (mergeL acc more) (mergeK as ms) []
  | [], acc, ms, as, r, q => by
    unfold RepKs at r
    obtain ⟨rfl, _⟩ := r
    exact q
  | (k, x) :: more, acc, ms, as, r, q => by
    unfold RepKs at r
    obtain ⟨v, vr, g', h, rfl, e, r1, r2⟩ := r
    obtain ⟨rfl, rfl⟩ : g' = [] ∧ h = [] := by simpa using e.symm
    show RepKs K H Z (mergeL (Nd.putL acc k x) more) (mergeK (putK as k v) vr) []
    exact RepKs.merge r2 (RepKs.putL q r1)
theorem kV_key {x : Val} {v : V} {f : List Addr} {q : Key} (r : Rep K H Z x v f) (e : key x = some q) : v = kV q := key_rep r e
theorem dzip_kv : ∀ {xs ys : List Val} {vs ws : List V} {kvs : List (Key × Val)}, Reps K H Z xs vs [] → Reps K H Z ys ws [] → pairsK (zipL xs ys) = some kvs → ∃ ks : List (Key × V), RepKs K H Z kvs ks [] ∧ ks.length = min vs.length ws.length ∧
    ∀ (i : Nat) (k v : V), vs[i]? = some k → ws[i]? = some v → ∃ q, ks[i]? = some (q, v) ∧ k = kV q
  | [], ys, vs, ws, kvs, r, q, e => by
    have r' := r
    unfold Reps at r'
    obtain ⟨rfl, _⟩ := r'
    simp [zipL, pairsK] at e
    subst e
    exact ⟨[], by unfold RepKs; exact ⟨rfl, rfl⟩, by simp, fun i k v h => by simp at h⟩
  | x :: xs, [], vs, ws, kvs, r, q, e => by
    have q' := q
    unfold Reps at q'
    obtain ⟨rfl, _⟩ := q'
    simp [zipL, pairsK] at e
    subst e
    exact ⟨[], by unfold RepKs; exact ⟨rfl, rfl⟩, by simp, fun i k v _ h => by simp at h⟩
  | x :: xs, y :: ys, vs, ws, kvs, r, q, e => by
    unfold Reps at r q
    obtain ⟨v, vr, g', h, rfl, ef, r1, r2⟩ := r
    obtain ⟨rfl, rfl⟩ : g' = [] ∧ h = [] := by simpa using ef.symm
    obtain ⟨w, wr, g', h, rfl, ef, q1, q2⟩ := q
    obtain ⟨rfl, rfl⟩ : g' = [] ∧ h = [] := by simpa using ef.symm
    simp only [zipL, pairsK] at e
    split at e
    · rename_i qk qs h1 h2
      cases e
      obtain ⟨ks, k1, k2, k3⟩ := dzip_kv r2 q2 h2
      refine ⟨(qk, w) :: ks, ?_, by simp [k2], fun i k v' e1 e2 => ?_⟩
      · unfold RepKs
        exact ⟨w, ks, [], [], rfl, rfl, q1, k1⟩
      · cases i with
        | zero =>
          simp at e1 e2
          subst e1; subst e2
          exact ⟨qk, rfl, key_rep r1 h1⟩
        | succ i => exact k3 i k v' (by simpa using e1) (by simpa using e2)
    · cases e
end
theorem tE_dzip {a b : Expr} {ma mb : M (Val × Tk)} {p p2 pos pos2 : Pos} (hc : X.calm = true) (hg : Gl X "dict") (hm : X.mg "dict" = none) (hg2 : Gl X "zip") (hm2 : X.mg "zip" = none) (ha : PE X a (tG X.K XR W ma)) (hb : PE X b (tG X.K XR W mb)) (hpa : plainE a = true) (hpb : plainE b = true) :
    PE X (.Call (.Name "dict" p) [.Call (.Name "zip" p2) [a, b] [] pos2] [] pos) (tE X.K XR W (bindM ma fun p => bindM mb fun q => bindM (liftM (dzipV p.1 q.1)) fun r => bindM (plugs [p, q] [p.1, q.1]) fun _ => pureM r)) := by
  refine PE_imp (pe_dzip hc hg hm hg2 hm2 (pa_cons ha (pa_cons hb pa_nil (starEach_cons hpb)) (starEach_cons hpa)) (starEach_cons hpa) (backTo_plain (by simp [hpb]))) fun σ H Q h => ?_
  obtain ⟨Z, T, e, g, h⟩ := two_ok (f := dzipV) h
  refine ⟨Z, T, e, g, h.imp (fun p e1 k H1 Z1 v g1 => ?_) fun _ _ k => k⟩
  obtain ⟨Z, T, e, g, h⟩ := k H1 Z1 v g1
  refine ⟨Z, T, e, g, h.imp (fun q e1 k H2 Z2 w g2 => ?_) fun _ _ k => k⟩
  obtain ⟨Z3, x, y, r, As, g3, er, qq⟩ := k H2 Z2 w g2
  obtain ⟨_, r1⟩ := g3.rp
  obtain ⟨_, r2⟩ := g3.rp2
  unfold dzipV at er
  split at er
  · rename_i xs ys hx hy
    split at er
    · rename_i kvs hk
      split at er
      · rename_i hl
        cases er
        obtain ⟨a1, vs, rfl, hq1, rs1⟩ := Rep.itemsF r1 hx
        obtain ⟨a2, ws, rfl, hq2, rs2⟩ := Rep.itemsF r2 hy
        obtain ⟨ks, k1, k2, k3⟩ := dzip_kv rs1 rs2 hk
        have b1 : ∃ b, SqB b X.K H2 a1 vs := by
          rcases hq1 with z | z
          · exact ⟨true, z⟩
          · exact ⟨false, z⟩
        have b2 : ∃ b, SqB b X.K H2 a2 ws := by
          rcases hq2 with z | z
          · exact ⟨true, z⟩
          · exact ⟨false, z⟩
        obtain ⟨b1, b1'⟩ := b1
        obtain ⟨b2, b2'⟩ := b2
        refine ⟨b1, b2, a1, a2, vs, ws, ks, rfl, b1', b2', k2, k3, ?_, fun l hlN => qq _ Z3 _ (g3.newD hlN (RepKs.merge k1 (by unfold RepKs; exact ⟨rfl, rfl⟩)))⟩
        rw [k2, rs1.len, rs2.len, sizeLine_eq]
        omega
      · cases er
    · cases er
  · cases er
/-! ### ranges as lists and tuples -/
theorem rg_ok {K : PySem.W.Frag} {H : Hp} {Z : ZS} (i j : Int) : Reps K H Z (rangeL i j) (rgV i j) [] := by
  unfold rangeL rgV
  generalize (j - i).toNat = n
  have : ∀ l : List Nat, Reps K H Z (l.map fun (n : Nat) => Val.int (i + (n : Int))) (l.map fun k => V.int (i + (k : Nat))) [] := by
    intro l
    induction l with
    | nil => exact Reps.nil
    | cons a l ih => exact Reps.mk (f := []) (g := []) ⟨rfl, rfl⟩ ih
  exact this _
theorem rg_fin {i j : Int} {x y r : Val} {t : Bool} (e : rgV' t x y = some r) : ∃ i j : Int, x = .int i ∧ y = .int j ∧ RgOk i j ∧ r = if t then .tup (rangeL i j) else .lst .ow (rangeL i j) := by
  unfold rgV' at e
  split at e
  · rename_i i j
    split at e
    · rename_i h
      cases e
      simp only [Bool.and_eq_true, decide_eq_true_eq, okR] at h
      exact ⟨i, j, rfl, rfl, ⟨h.1.1.1, h.1.1.2, h.1.2.1, h.1.2.2, by omega⟩, rfl⟩
    · cases e
  · cases e
theorem rg1_ok {m : M Val} {t : Bool} {σ : Sl} {H : Hp} {Q : VK} (h : tE X.K XR W (bindM m fun x => liftM (rgV' t (.int 0) x)) σ H Q) :
    tE X.K XR W m σ H fun x H1 => ∃ n, x = .int n ∧ RgOk 0 n ∧ (t = false → ∀ q, H1 q = none → Q (.ref q) (upd H1 q (.lst (rgV 0 n)))) ∧ (t = true → ∀ q, H1 q = none → Q (.ref q) (upd H1 q (.tup (rgV 0 n)))) := by
  obtain ⟨Z, T, e, g, h⟩ := h
  rw [outP_bind] at h
  refine ⟨Z, T, e, g, h.imp (fun x e1 k H1 Z1 v g1 => ?_) fun _ _ k => k⟩
  rw [outP_lift] at k
  obtain ⟨r, er, k⟩ := k
  obtain ⟨i, j, e1, rfl, ok, rfl⟩ := rg_fin (i := 0) (j := 0) er
  cases e1
  obtain ⟨_, r1⟩ := g1.rp
  refine ⟨j, r1.1, ok, fun ht q hq => ?_, fun ht q hq => ?_⟩
  · subst ht
    exact k _ Z1 _ (g1.drop.newL hq (rg_ok 0 j))
  · subst ht
    exact k _ Z1 _ (g1.drop.newT hq (rg_ok 0 j))
theorem rg2_ok {m n : M Val} {t : Bool} {σ : Sl} {H : Hp} {Q : VK} (h : tE X.K XR W (bindM m fun x => bindM n fun y => liftM (rgV' t x y)) σ H Q) :
    tE X.K XR W m σ H fun x H1 => tE X.K XR W n σ H1 fun y H1 => ∃ i j, x = .int i ∧ y = .int j ∧ RgOk i j ∧ (t = false → ∀ q, H1 q = none → Q (.ref q) (upd H1 q (.lst (rgV i j)))) ∧ (t = true → ∀ q, H1 q = none → Q (.ref q) (upd H1 q (.tup (rgV i j)))) := by
  obtain ⟨Z, T, e, g, h⟩ := h
  rw [outP_bind] at h
  refine ⟨Z, T, e, g, h.imp (fun x e1 k H1 Z1 v g1 => ?_) fun _ _ k => k⟩
  rw [outP_bind] at k
  refine ⟨Z1, [rep X.K v x] ++ T, e1, g1.perm (permC fun a => by simp only [cnt_cons, cnt_append, cnt_nil]; omega), k.imp (fun y e2 k2 H2 Z2 w g2 => ?_) fun _ _ k => k.drop⟩
  rw [outP_lift] at k2
  obtain ⟨r, er, k2⟩ := k2
  obtain ⟨i, j, rfl, rfl, ok, rfl⟩ := rg_fin (i := 0) (j := 0) er
  have g3 : Good H2 Z2 (rep X.K w (.int j) :: rep X.K v (.int i) :: (envA X.K σ e2 ++ T)) := g2.perm (permC fun a => by simp only [cnt_cons, cnt_append, cnt_nil]; omega)
  obtain ⟨_, r1⟩ := g3.rp
  obtain ⟨_, r2⟩ := g3.rp2
  refine ⟨i, j, r2.1, r1.1, ok, fun ht q hq => ?_, fun ht q hq => ?_⟩
  · subst ht
    exact k2 _ Z2 _ (g3.drop.drop.newL hq (rg_ok i j))
  · subst ht
    exact k2 _ Z2 _ (g3.drop.drop.newT hq (rg_ok i j))
def rgN (t : Bool) : Str := if t then "tuple" else "list"
theorem tE_rg {a : Expr} {t : Bool} {m : M Val} {p p2 pos pos2 : Pos} (hc : X.calm = true) (hg : Gl X (rgN t)) (hm : X.mg (rgN t) = none) (hg2 : Gl X "range") (hm2 : X.mg "range" = none) (ha : PE X a (tE X.K XR W m)) (hp : plainE a = true) :
    PE X (.Call (.Name (rgN t) p) [.Call (.Name "range" p2) [a] [] pos2] [] pos) (tE X.K XR W (bindM m fun x => liftM (rgV' t (.int 0) x))) := by
  cases t
  · refine PE_imp (pe_listRg hc hg hm (prg_1 hg2 hm2 ha (starEach_cons hp))) fun σ H Q h => ?_
    obtain ⟨Z, T, e, g, h⟩ := rg1_ok h
    exact ⟨Z, T, e, g, h.imp (fun x e1 k H1 Z1 v g1 => let ⟨n, h1, h2, h3, h4⟩ := k H1 Z1 v g1; ⟨n, h1, h2, h3 rfl⟩) fun _ _ k => k⟩
  · refine PE_imp (pe_tupRg hc hg hm (prg_1 hg2 hm2 ha (starEach_cons hp))) fun σ H Q h => ?_
    obtain ⟨Z, T, e, g, h⟩ := rg1_ok h
    exact ⟨Z, T, e, g, h.imp (fun x e1 k H1 Z1 v g1 => let ⟨n, h1, h2, h3, h4⟩ := k H1 Z1 v g1; ⟨n, h1, h2, h4 rfl⟩) fun _ _ k => k⟩
theorem tE_rg2 {a b : Expr} {t : Bool} {m n : M Val} {p p2 pos pos2 : Pos} (hc : X.calm = true) (hg : Gl X (rgN t)) (hm : X.mg (rgN t) = none) (hg2 : Gl X "range") (hm2 : X.mg "range" = none) (ha : PE X a (tE X.K XR W m)) (hb : PE X b (tE X.K XR W n)) (hp : plainE a = true) (hpb : plainE b = true) :
    PE X (.Call (.Name (rgN t) p) [.Call (.Name "range" p2) [a, b] [] pos2] [] pos) (tE X.K XR W (bindM m fun x => bindM n fun y => liftM (rgV' t x y))) := by
  have key : ∀ σ H Q, tE X.K XR W (bindM m fun x => bindM n fun y => liftM (rgV' t x y)) σ H Q → tRg2 (tE X.K XR W m) (tE X.K XR W n) σ H fun a b H1 => RgOk a b ∧ (t = false → ∀ q, H1 q = none → Q (.ref q) (upd H1 q (.lst (rgV a b)))) ∧ (t = true → ∀ q, H1 q = none → Q (.ref q) (upd H1 q (.tup (rgV a b)))) := fun σ H Q h => by
    obtain ⟨Z, T, e, g, h⟩ := rg2_ok h
    refine ⟨Z, T, e, g, h.imp (fun x e1 k H1 Z1 v g1 => ?_) fun _ _ k => k⟩
    obtain ⟨Z, T, e, g, h⟩ := k H1 Z1 v g1
    exact ⟨Z, T, e, g, h.imp (fun x e1 k H1 Z1 v g1 => let ⟨i, j, h1, h2, h3, h4⟩ := k H1 Z1 v g1; ⟨i, j, h1, h2, h3, h4⟩) fun _ _ k => k⟩
  have mono : ∀ {σ H} {Q Q' : Int → Int → Hp → Prop}, (∀ a b H, Q a b H → Q' a b H) → tRg2 (tE X.K XR W m) (tE X.K XR W n) σ H Q → tRg2 (tE X.K XR W m) (tE X.K XR W n) σ H Q' := fun hq h => by
    obtain ⟨Z, T, e, g, h⟩ := h
    refine ⟨Z, T, e, g, h.imp (fun x e1 k H1 Z1 v g1 => ?_) fun _ _ k => k⟩
    obtain ⟨Z, T, e, g, h⟩ := k H1 Z1 v g1
    exact ⟨Z, T, e, g, h.imp (fun x e1 k H1 Z1 v g1 => let ⟨i, j, h1, h2, h3⟩ := k H1 Z1 v g1; ⟨i, j, h1, h2, hq _ _ _ h3⟩) fun _ _ k => k⟩
  cases t
  · exact PE_imp (pe_listRg hc hg hm (prg_2 hg2 hm2 ha hb (starEach_cons hp) (starEach_cons hpb) (backTo_plain (by simp [hpb])))) fun σ H Q h => mono (fun a b H q => ⟨q.1, q.2.1 rfl⟩) (key σ H Q h)
  · exact PE_imp (pe_tupRg hc hg hm (prg_2 hg2 hm2 ha hb (starEach_cons hp) (starEach_cons hpb) (backTo_plain (by simp [hpb])))) fun σ H Q h => mono (fun a b H q => ⟨q.1, q.2.2 rfl⟩) (key σ H Q h)
/-! ### dict displays -/
def flat2 : List (V × V) → List V
  | [] => []
  | (x, y) :: r => x :: y :: flat2 r
/-- a display's pairs, as the list of keys and values in turn -/
def PD (X : Cx) (XR : XRT) (W : WX) (pos : Pos) (keys : List (Option Expr)) (vals : List Expr) (m : M (List Val)) : Prop :=
  ∃ trs, PPs X pos keys vals trs ∧ ∀ (σ : Sl) (H : Hp) (Q : List (V × V) → Hp → Prop), (∃ Z T e, Good H Z (envA X.K σ e ++ T) ∧ OutP (m e) (fun xs e' => ∀ H' Z' ps, Good H' Z' (reps X.K (flat2 ps) xs ++ (envA X.K σ e' ++ T)) → Q ps H') (Px X.K XR W σ T)) → tPairs trs σ H Q
theorem pd_nil {pos : Pos} : PD X XR W pos [] [] (pureM []) := ⟨[], pps_nil, fun σ H Q ⟨Z, T, e, g, q⟩ => q H Z [] g⟩
theorem pd_cons {pos : Pos} {k v : Expr} {ks : List (Option Expr)} {vs : List Expr} {mk mv : M Val} {m : M (List Val)} (hk : PE X k (tE X.K XR W mk)) (hv : PE X v (tE X.K XR W mv)) (hr : PD X XR W pos ks vs m) :
    PD X XR W pos (some k :: ks) (v :: vs) (bindM mk fun x => bindM (bindM mv fun y => bindM m fun xs => pureM (y :: xs)) fun xs => pureM (x :: xs)) := by
  obtain ⟨trs, h1, h2⟩ := hr
  refine ⟨_, pps_cons hk hv h1, fun σ H Q ⟨Z, T, e, g, h⟩ => ?_⟩
  rw [outP_bind] at h
  refine ⟨Z, T, e, g, h.imp (fun x e1 k H1 Z1 v g1 => ?_) fun _ _ k => k⟩
  rw [outP_bind, outP_bind] at k
  refine ⟨Z1, [rep X.K v x] ++ T, e1, g1.perm (permC fun a => by simp only [cnt_cons, cnt_append, cnt_nil]; omega), k.imp (fun y e2 k2 H2 Z2 w g2 => ?_) fun _ _ k => k.drop⟩
  rw [outP_bind] at k2
  refine h2 σ H2 _ ⟨Z2, [rep X.K w y] ++ ([rep X.K v x] ++ T), e2, g2.perm (permC fun a => by simp only [cnt_cons, cnt_append, cnt_nil]; omega), k2.imp (fun xs e3 k3 H3 Z3 ps g3 => ?_) fun _ _ k => (k.drop).drop⟩
  exact k3 H3 Z3 ((v, w) :: ps) (g3.perm (permC fun a => by simp only [cnt_cons, cnt_append, cnt_nil, flat2, reps]; omega))
theorem twos_ok {K : PySem.W.Frag} {H : Hp} : ∀ {xs : List Val} {ps : List (V × V)} {kvs : List (Key × Val)} {Z : ZS} {As : List Asn}, Good H Z (reps K (flat2 ps) xs ++ As) → twos xs = some kvs → ∃ Z' ks, Good H Z' As ∧ RepKs K H Z' kvs ks [] ∧ ps = ks.map (fun kv => (kV kv.1, kv.2)) ∧ (∀ a, Z a → Z' a)
  | [], ps, kvs, Z, As, g, e => by
    simp [twos] at e
    subst e
    cases ps with
    | nil => exact ⟨Z, [], g, by unfold RepKs; exact ⟨rfl, rfl⟩, rfl, fun _ q => q⟩
    | cons p ps => exact (g.noNever (by simp [flat2, reps])).elim
  | [x], ps, kvs, Z, As, g, e => by simp [twos] at e
  | k :: x :: r, ps, kvs, Z, As, g, e => by
    simp only [twos] at e
    split at e
    · rename_i q y qs h1 h2 h3
      cases e
      cases ps with
      | nil => exact (g.noNever (by simp [flat2, reps])).elim
      | cons p ps =>
        have g1 : Good H Z (rep K p.1 k :: rep K p.2 x :: (reps K (flat2 ps) r ++ As)) := g
        obtain ⟨_, r1⟩ := g1.rp
        have e1 := key_rep r1 h1
        obtain ⟨Z1, hz1, g2⟩ := g1.drop.letgo h2
        obtain ⟨Z2, ks, g3, rk, ep, hz2⟩ := twos_ok g2.drop h3
        obtain ⟨f, ry⟩ := g2.rp
        have ef : f = [] := Rep.freeOf (frz_free h2) ry
        subst ef
        refine ⟨Z2, (q, p.2) :: ks, g3, ?_, ?_, fun a h => hz2 a (hz1 a h)⟩
        · unfold RepKs
          exact ⟨p.2, ks, [], [], rfl, rfl, Rep.keep hz2 _ _ _ (fun _ _ e _ => e) ry, rk⟩
        · rw [ep, List.map_cons, ← e1]
    · cases e
theorem tE_dct {keys : List (Option Expr)} {vals : List Expr} {pos : Pos} {m : M (List Val)} (h : PD X XR W pos keys vals m) (hall : keys.all (·.isSome) = true) (hl : keys.length = vals.length) (h0 : keys ≠ []) (h15 : keys.length ≤ 15) :
    PE X (.Dict keys vals pos) (tE X.K XR W (bindM m fun xs => liftM (dctV xs))) := by
  obtain ⟨trs, h1, h2⟩ := h
  refine PE_imp (pe_disp h1 hall hl h0 h15) fun σ H Q ⟨Z, T, e, g, h⟩ p hp => ?_
  rw [outP_bind] at h
  have g1 : Good (upd H p (.dK [])) Z (rep X.K (.ref p) (.dic .ow []) :: (envA X.K σ e ++ T)) := g.newD hp (by unfold RepKs; exact ⟨rfl, rfl⟩)
  refine h2 σ _ _ ⟨Z, [rep X.K (.ref p) (.dic .ow [])] ++ T, e, g1.perm (permC fun a => by simp only [cnt_cons, cnt_append, cnt_nil]; omega), h.imp (fun xs e1 k H1 Z1 ps g2 => ?_) fun _ _ k => k.drop⟩
  rw [outP_lift] at k
  obtain ⟨r, er, k⟩ := k
  unfold dctV at er
  split at er
  · rename_i kvs hk
    split at er
    · rename_i hh
      cases er
      obtain ⟨Z2, ks, g3, rk, ep, hz⟩ := twos_ok g2 hk
      have g4 : Good H1 Z2 (rep X.K (.ref p) (.dic .ow []) :: (envA X.K σ e1 ++ T)) := g3.perm (permC fun a => by simp only [cnt_cons, cnt_append, cnt_nil]; omega)
      obtain ⟨_, r4⟩ := g4.rp
      have r4' := r4
      unfold Rep at r4'
      obtain ⟨a, ks0, _, e0, hH, rk0⟩ := r4'
      cases e0
      unfold RepKs at rk0
      obtain ⟨rfl, _⟩ := rk0
      refine ⟨hH, ks, ep, by rw [rk.len]; exact hh.1, ?_⟩
      exact k _ Z2 _ (g4.setD (RepKs.merge rk (by unfold RepKs; exact ⟨rfl, rfl⟩))).1
    · cases er
  · cases er
end
/-! ### the text's own defs -/
/-- FnOk, where repr may be called -/
structure FnG (P : Program) (w : World) (K : PySem.W.Frag) (mg : PySem.Str → Option Value) (base : Heap) (CX : CXT) (k : Nat) (f : Addr) (fd : FuncData) (ps : List Str) (sp : Sp) : Prop where
  len : ∀ vs H Q E, sp vs H Q E → vs.length = ps.length
  run : ∀ (A : Around) (outer : List Env) (s : Shared) (H : Hp) (args : Args) (us : List Value) (vs : List V) (Q : VK) (E : XK), Room k A → A.guards = some [] → Env0 P w K mg base A outer s H → BindsTo s fd args (ps.zip us) → Vals vs us → sp vs H Q E →
    codeAny (model P w) A (.call (.ref f) args) (CR CX outer P w H s Q E) s
/-- the promise: what run answers -/
def spR (K : PySem.W.Frag) (XR : XRT) (np : Nat) (run : List Val → CRes) : Sp := fun vs H Q E => vs.length = np ∧ ∃ Z T xs, Good H Z (reps K vs xs ++ T) ∧ match run xs with
  | .ret v outs => ∀ H' Z' w, Good H' Z' (rep K w v :: (reps K vs outs ++ T)) → Q w H'
  | .exc x outs => ∀ H' Z' c d, Good H' Z' (reps K vs outs ++ T) → XR x c d H' Z' → E c d H'
  | .stuck => False
section
variable {XR : XRT} {W : WX} {X : Cx} {k : Nat} {f : Addr} {fd : FuncData} {ps : List Str} {run : List Val → CRes}
theorem run_fnG {pins : List (Addr × Obj)} {σ : L2.St} {H : Hp} {s : Shared} {Q : VK} {sp : Sp} {us us' : List Value} {kw : List (Str × Value)} {vs : List V} (F : FnG X.prog X.w X.K X.mg X.base (L2.CX X.prog X.w) k f fd ps sp) (hr : Room k X.A) (hgd : X.A.guards = some []) (tk : Takes X W)
    (hb : BindsTo s fd ⟨us, kw⟩ (ps.zip us')) (I : Inv X pins σ H s) (r : Vals vs us') (h : sp vs H Q (WE W σ)) : wpAny (model X.prog X.w) X.A (call (.ref f) us kw) (EP X pins σ Q) X.xe s := by
  refine wpAny_call (codeAny_mono (F.run X.A X.stack s H ⟨us, kw⟩ us' vs Q (WE W σ) hr hgd I.env0 hb r h) fun r s' hq => ?_)
  cases r with
  | error e => exact passAt tk σ pins H s e s' I hq
  | ok fl =>
    cases fl with
    | ret u => exact I.after hq
    | next => exact False.elim hq
    | brk => exact False.elim hq
    | cont => exact False.elim hq
theorem args_len {K : PySem.W.Frag} {H : Hp} {Z : ZS} {σ : Sl} : ∀ {vs : List V} {ps : List (Val × Tk)} {As : List Asn}, Good H Z (argsA K σ vs ps ++ As) → vs.length = ps.length
  | [], [], _, _ => rfl
  | [], _ :: _, _, g => (g.noNever (by simp [argsA])).elim
  | _ :: _, [], _, g => (g.noNever (by simp [argsA])).elim
  | v :: vs, p :: ps, As, g => by
    have g1 : Good H Z (argA K σ v p ++ (argsA K σ vs ps ++ As)) := by
      have : argsA K σ (v :: vs) (p :: ps) ++ As = argA K σ v p ++ (argsA K σ vs ps ++ As) := by
        show (argA K σ v p ++ argsA K σ vs ps) ++ As = _
        rw [List.append_assoc]
      rw [← this]; exact g
    simp [args_len g1.dropL]
theorem call_ok {np : Nat} {m : M (List (Val × Tk))} {C : Nat → List Val → CRes} {j : Nat} {σ : Sl} {H : Hp} {Q : VK} (hrun : C j = run) (hlen : ∀ xs, (match run xs with | .ret _ outs => xs.length = np ∧ outs.length = np | .exc _ outs => xs.length = np ∧ outs.length = np | .stuck => True)) (h : tE X.K XR W (bindM m fun ps => callC C j ps) σ H Q) :
    tGs X.K XR W m σ H fun vs H1 => spR X.K XR np run vs H1 Q (WE W σ) := by
  obtain ⟨Z, T, e, g, h⟩ := h
  rw [outP_bind] at h
  refine ⟨Z, T, e, g, h.imp (fun ps e1 k H1 Z1 vs g1 => ?_) fun _ _ k => k⟩
  unfold callC at k
  rw [hrun] at k
  have hl := hlen (ps.map (·.1))
  have hvl := args_len g1
  have g2 : Good H1 Z1 (reps X.K vs (ps.map (·.1)) ++ (tksA X.K σ vs ps ++ (envA X.K σ e1 ++ T))) := g1.perm (permC fun a => by simp only [cnt_cons, cnt_append, cnt_nil, cnt_args]; omega)
  have back : ∀ {outs : List Val} {H' : Hp} {Z' : ZS} {R : List Asn}, outs.length = ps.length → Good H' Z' (R ++ (reps X.K vs outs ++ (tksA X.K σ vs ps ++ (envA X.K σ e1 ++ T)))) → ∃ e2, plugs ps outs e1 = .ok () e2 ∧ Good H' Z' (R ++ (envA X.K σ e2 ++ T)) := fun {outs H' Z' R} ho g' => by
    have g3 : Good H' Z' (argsA X.K σ vs ((ps.zip outs).map fun q => (q.2, q.1.2)) ++ (envA X.K σ e1 ++ (R ++ T))) := by
      refine g'.perm (permC fun a => ?_)
      simp only [cnt_append, cnt_args]
      have h1 : ((ps.zip outs).map fun q => (q.2, q.1.2)).map (·.1) = outs := by
        rw [List.map_map]
        show (ps.zip outs).map (fun q => q.2) = outs
        exact List.map_snd_zip (by omega)
      have h2 : ∀ (vs : List V) (ps : List (Val × Tk)) (outs : List Val), outs.length = ps.length → tksA X.K σ vs ((ps.zip outs).map fun q => (q.2, q.1.2)) = tksA X.K σ vs ps := by
        intro vs
        induction vs with
        | nil => intros; rfl
        | cons v vs ih =>
          intro ps outs hh
          cases ps with
          | nil => simp at hh; subst hh; rfl
          | cons p ps =>
            cases outs with
            | nil => simp at hh
            | cons o outs =>
              show tkA X.K σ v p.2 ++ tksA X.K σ vs ((ps.zip outs).map fun q => (q.2, q.1.2)) = _
              rw [ih ps outs (by simpa using hh)]
              rfl
      rw [h1, h2 _ _ _ ho]
      omega
    obtain ⟨e2, q1, q2⟩ := Good.plugs ho g3
    exact ⟨e2, q1, q2.mid⟩
  have hv0 : vs.length = ps.length := hvl
  cases hr : run (ps.map (·.1)) with
  | stuck => rw [hr] at k; exact k.elim
  | ret v outs =>
    rw [hr] at k hl
    have hl' : ps.length = np ∧ outs.length = np := by simpa using hl
    refine ⟨by omega, Z1, _, ps.map (·.1), g2, ?_⟩
    rw [hr]
    intro H' Z' w g'
    obtain ⟨e2, q1, q2⟩ := back (R := [rep X.K w v]) (by omega) g'
    have k' : OutP (bindM (plugs ps outs) (fun _ => pureM v) e1) (fun r e' => ∀ H' Z' v, Good H' Z' (rep X.K v r :: (envA X.K σ e' ++ T)) → Q v H') (Px X.K XR W σ T) := k
    rw [outP_bind, q1] at k'
    exact k' H' Z' w q2
  | exc x outs =>
    rw [hr] at k hl
    have hl' : ps.length = np ∧ outs.length = np := by simpa using hl
    refine ⟨by omega, Z1, _, ps.map (·.1), g2, ?_⟩
    rw [hr]
    intro H' Z' c d g' xr
    obtain ⟨e2, q1, q2⟩ := back (R := []) (by omega) g'
    have k' : OutP (bindM (plugs ps outs) (fun _ => fun e' => (Out.exc x e' : Out Val)) e1) (fun r e' => ∀ H' Z' v, Good H' Z' (rep X.K v r :: (envA X.K σ e' ++ T)) → Q v H') (Px X.K XR W σ T) := k
    rw [outP_bind, q1] at k'
    exact k' H' Z' c d q2 xr
end
end Nd

/-! NdM: calls of own defs as expressions; walks. -/
namespace Nd
open PySem PySem.Spec PyProof.Rows L2
def LenOk (np : Nat) (run : List Val → CRes) : Prop := ∀ xs, (match run xs with | .ret _ outs => xs.length = np ∧ outs.length = np | .exc _ outs => xs.length = np ∧ outs.length = np | .stuck => True)
section
variable {XR : XRT} {W : WX} {X : Cx} {k : Nat} {f : Addr} {fd : FuncData} {ps : List PySem.Str} {run : List Val → CRes}
theorem tE_call0 {x : PySem.Str} {p pos : Pos} {np j : Nat} {C : Nat → List Val → CRes} (F : FnG X.prog X.w X.K X.mg X.base (L2.CX X.prog X.w) k f fd ps (spR X.K XR np run)) (hr : Room k X.A) (hgd : X.A.guards = some []) (tk : Takes X W) (hg : Gl X x) (hm : X.mg x = some (.ref f)) (hk : PySem.W.keepIn X.K (.ref f) = true)
    (hb : ∀ (s : Shared) (us : List Value), us.length = ps.length → BindsTo s fd ⟨us, []⟩ (ps.zip us)) (hdb : (x == ("__debug__" : PySem.Str)) = false) (hrun : C j = run) (hlen : LenOk np run) : PE X (.Call (.Name x p) [] [] pos) (tE X.K XR W (bindM (pureM []) fun ps => callC C j ps)) := by
  refine ⟨fun pins s σ H Q I h => ?_⟩
  obtain ⟨Z, T, e, g, h1⟩ := call_ok hrun hlen h
  have q1 : spR X.K XR np run [] H Q (WE W σ) := h1 H Z [] g
  refine wpAny_Call_Name_kw (ld_glob I hg hm ?_ hdb)
  exact PySem.W.callWith_K0 I.kIn hk (run_fnG F hr hgd tk (hb s [] (F.len _ _ _ _ q1)) I .nil q1)
theorem tE_call {x : PySem.Str} {p pos : Pos} {e : Expr} {es : List Expr} {np j : Nat} {m : M (List (Val × Tk))} {C : Nat → List Val → CRes} (F : FnG X.prog X.w X.K X.mg X.base (L2.CX X.prog X.w) k f fd ps (spR X.K XR np run)) (hr : Room k X.A) (hgd : X.A.guards = some []) (tk : Takes X W) (hg : Gl X x) (hm : X.mg x = some (.ref f)) (hk : PySem.W.keepIn X.K (.ref f) = true)
    (hb : ∀ (s : Shared) (us : List Value), us.length = ps.length → BindsTo s fd ⟨us, []⟩ (ps.zip us)) (hdb : (x == ("__debug__" : PySem.Str)) = false) (hrun : C j = run) (hlen : LenOk np run)
    (ha : PA X (e :: es) (tGs X.K XR W m)) (hpl : (e :: es).all plainE = true) : PE X (.Call (.Name x p) (e :: es) [] pos) (tE X.K XR W (bindM m fun ps => callC C j ps)) := by
  have hp2 := hpl
  rw [List.all_cons, Bool.and_eq_true] at hp2
  refine ⟨fun pins s σ H Q I h => ?_⟩
  have h1 := call_ok hrun hlen h
  refine wpAny_Call_Name_kw (ld_glob I hg hm ?_ hdb)
  refine PySem.W.callWith_K (h₀ := X.base) I.ok.mod.kin hk (thn (ha.run pos pins s σ H _ I h1) fun us s1 ⟨vs, H1, I1, r, q⟩ => ⟨I1.kIn, ?_⟩) (starEach_cons hp2.1) (backTo_plain hp2.2)
  exact run_fnG F hr hgd tk (hb s1 us (by rw [← r.length]; exact F.len _ _ _ _ q)) I1 r q
/-! ### keywords -/
section
variable {K : PySem.W.Frag} {H : Hp} {Z : ZS}
theorem reps_app : ∀ {vs ws : List V} {xs ys : List Val}, vs.length = xs.length → reps K (vs ++ ws) (xs ++ ys) = reps K vs xs ++ reps K ws ys
  | [], ws, [], ys, _ => rfl
  | [], _, _ :: _, _, h => by simp at h
  | _ :: _, _, [], _, h => by simp at h
  | v :: vs, ws, x :: xs, ys, h => by
    show rep K v x :: reps K (vs ++ ws) (xs ++ ys) = _
    rw [reps_app (by simpa using h)]
    rfl
theorem reps_map {f : Nat → V} {g : Nat → Val} : ∀ l : List Nat, reps K (l.map f) (l.map g) = l.map fun i => rep K (f i) (g i)
  | [] => rfl
  | i :: l => by
    show rep K (f i) (g i) :: reps K (l.map f) (l.map g) = _
    rw [reps_map l]
    rfl
theorem map_getD {α : Type} (d : α) : ∀ (l : List α), (List.range l.length).map (fun i => l.getD i d) = l := fun l => by
  apply List.ext_getElem?
  intro i
  rw [List.getElem?_map]
  by_cases h : i < l.length
  · rw [List.getElem?_range h]
    simp [h]
  · rw [List.getElem?_eq_none (by simpa using h), List.getElem?_eq_none (by simpa using h)]
    rfl
theorem reps_perm {vs : List V} {xs : List Val} {pm : List Nat} (hl : vs.length = xs.length) (hp : pm.Perm (List.range xs.length)) : (reps K vs xs).Perm (reps K (pm.map fun i => vs.getD i .non) (pm.map fun i => xs.getD i .und)) := by
  rw [reps_map]
  have h1 : reps K vs xs = (List.range xs.length).map fun i => rep K (vs.getD i .non) (xs.getD i .und) := by
    rw [← reps_map, map_getD, ← hl, map_getD]
  rw [h1]
  exact (hp.map _).symm
end
def kwPm (n : Nat) (ks : List PySem.Str) (pm : List Nat) : Bool := pm.isPerm (List.range (n + ks.length))
theorem callK_ok {np j n : Nat} {pm : List Nat} {mx mz : M (List Val)} {C : Nat → List Val → CRes} {σ : Sl} {H : Hp} {Q : VK} (hrun : C j = run) (hlen : LenOk np run) (hp : pm.Perm (List.range pm.length))
    (h : tE X.K XR W (bindM mx fun xs => bindM mz fun zs => fun e => if xs.length = n ∧ n + zs.length = pm.length then (match C j (pm.map fun i => (xs ++ zs).getD i .und) with
    | .ret v outs => .ok v e
    | .exc x outs => .exc x e
    | .stuck => .stuck) else .stuck) σ H Q) :
    tX X.K XR W mx σ H fun vs H1 => tX X.K XR W mz σ H1 fun zs H2 => vs.length = n ∧ n + zs.length = pm.length ∧ spR X.K XR np run (pm.map fun i => (vs ++ zs).getD i .non) H2 Q (WE W σ) := by
  obtain ⟨Z, T, e, g, h⟩ := h
  rw [outP_bind] at h
  refine ⟨Z, T, e, g, h.imp (fun xs e1 k H1 Z1 vs g1 => ?_) fun _ _ k => k⟩
  rw [outP_bind] at k
  refine ⟨Z1, reps X.K vs xs ++ T, e1, g1.mid, k.imp (fun ys e2 k2 H2 Z2 zs g2 => ?_) fun _ _ k => k.drop⟩
  rw [hrun] at k2
  split at k2
  · rename_i hh
    have hl2 := reps_len g2
    have g2' : Good H2 Z2 (reps X.K vs xs ++ (reps X.K zs ys ++ (envA X.K σ e2 ++ T))) := g2.perm (permC fun a => by simp only [cnt_append]; omega)
    have hl1 := reps_len g2'
    have hl : (vs ++ zs).length = (xs ++ ys).length := by simp; omega
    have hpl : pm.length = (xs ++ ys).length := by simp; omega
    have g3 : Good H2 Z2 (reps X.K (pm.map fun i => (vs ++ zs).getD i .non) (pm.map fun i => (xs ++ ys).getD i .und) ++ (envA X.K σ e2 ++ T)) := by
      refine g2'.perm ?_
      rw [← List.append_assoc, ← reps_app hl1]
      exact (reps_perm hl (by rw [← hpl]; exact hp)).append_right _
    refine ⟨by omega, by omega, ?_⟩
    have hL := hlen (pm.map fun i => (xs ++ ys).getD i .und)
    cases hr : run (pm.map fun i => (xs ++ ys).getD i .und) with
    | stuck => rw [hr] at k2; exact k2.elim
    | ret v outs =>
      rw [hr] at k2 hL
      refine ⟨by have := hL.1; simpa using this, Z2, _, _, g3, ?_⟩
      rw [hr]
      intro H' Z' w g'
      exact k2 H' Z' w ((g'.perm (permC fun a => by simp only [cnt_cons, cnt_append]; omega) : Good H' Z' (reps X.K (pm.map fun i => (vs ++ zs).getD i .non) outs ++ (rep X.K w v :: (envA X.K σ e2 ++ T)))).dropL)
    | exc x outs =>
      rw [hr] at k2 hL
      refine ⟨by have := hL.1; simpa using this, Z2, _, _, g3, ?_⟩
      rw [hr]
      intro H' Z' c d g' xr
      exact k2 H' Z' c d g'.dropL xr
  · exact k2.elim
theorem kwEach (kws : List Keyword) (env : Env) (pos : Pos) : (backToKw pos (keywordEach kws env)).map (·.1) = kws.map (·.arg) := by
  induction kws with
  | nil => rfl
  | cons a kws ih =>
    obtain ⟨n, v, p⟩ := a
    show n :: (backToKw pos (keywordEach kws env)).map (·.1) = _
    rw [ih]
    rfl
theorem kw_all {kws : List Keyword} {env : Env} {pos : Pos} {ks : List PySem.Str} (h : kws.map (·.arg) = ks.map some) : (backToKw pos (keywordEach kws env)).all (·.1.isSome) = true ∧ (backToKw pos (keywordEach kws env)).any (·.1.isNone) = false ∧ (backToKw pos (keywordEach kws env)).filterMap (·.1) = ks := by
  have e := kwEach kws env pos
  rw [h] at e
  generalize backToKw pos (keywordEach kws env) = l at e
  clear h
  induction l generalizing ks with
  | nil =>
    cases ks with
    | nil => exact ⟨rfl, rfl, rfl⟩
    | cons a b => simp at e
  | cons a l ih =>
    cases ks with
    | nil => simp at e
    | cons b ks =>
      simp at e
      obtain ⟨i1, i2, i3⟩ := ih e.2
      have ea : a.1 = some b := e.1
      refine ⟨by simp [ea]; simpa using i1, by simp [ea]; simpa using i2, ?_⟩
      rw [List.filterMap_cons, ea, i3]
/-- f(k = ..), f(a, k = ..) -/
theorem tE_callK {x : PySem.Str} {p pos : Pos} {es : List Expr} {kws : List Keyword} {ks : List PySem.Str} {np j n : Nat} {pm : List Nat} {mx mz : M (List Val)} {C : Nat → List Val → CRes} (F : FnG X.prog X.w X.K X.mg X.base (L2.CX X.prog X.w) k f fd ps (spR X.K XR np run)) (hr : Room k X.A) (hgd : X.A.guards = some []) (tk : Takes X W) (hg : Gl X x) (hm : X.mg x = some (.ref f)) (hk : PySem.W.keepIn X.K (.ref f) = true)
    (hb : ∀ (s : Shared) (us ws : List Value), us.length = n → ws.length = ks.length → BindsTo s fd ⟨us, ks.zip ws⟩ (ps.zip (pm.map fun i => (us ++ ws).getD i .none))) (hdb : (x == ("__debug__" : PySem.Str)) = false) (hrun : C j = run) (hlen : LenOk np run) (hp : pm.Perm (List.range pm.length)) (hn : n + ks.length = pm.length)
    (hks : kws.map (·.arg) = ks.map some) (ha : es = [] ∧ mx = pureM [] ∨ (∃ e r, es = e :: r) ∧ PA X es (tX X.K XR W mx)) (hkw : PK X kws (tX X.K XR W mz)) (hpl : es.all plainE = true) :
    PE X (.Call (.Name x p) es kws pos) (tE X.K XR W (bindM mx fun xs => bindM mz fun zs => fun e => if xs.length = n ∧ n + zs.length = pm.length then (match C j (pm.map fun i => (xs ++ zs).getD i .und) with
    | .ret v outs => .ok v e
    | .exc x outs => .exc x e
    | .stuck => .stuck) else .stuck)) := by
  refine ⟨fun pins s σ H Q I h => ?_⟩
  have h1 := callK_ok (W := W) hrun hlen hp h
  obtain ⟨k1, k2, k3⟩ := kw_all (env := X.env) (pos := pos) hks
  refine wpAny_Call_Name_kw (ld_glob I hg hm ?_ hdb)
  have vg : ∀ {vs : List V} {us : List Value}, Vals vs us → Vals (pm.map fun i => vs.getD i .non) (pm.map fun i => us.getD i .none) := fun {vs us} r => by
    have hl := r.length
    have one : ∀ i, RelV (vs.getD i .non) (us.getD i .none) := fun i => by
      by_cases hi : i < vs.length
      · obtain ⟨u, hu, ru⟩ := r.get (List.getElem?_eq_getElem hi)
        rw [List.getD_eq_getElem?_getD, List.getD_eq_getElem?_getD, hu, List.getElem?_eq_getElem hi]
        exact ru
      · rw [List.getD_eq_getElem?_getD, List.getD_eq_getElem?_getD, List.getElem?_eq_none (by omega), List.getElem?_eq_none (by omega)]
        rfl
    have : ∀ l : List Nat, Vals (l.map fun i => vs.getD i .non) (l.map fun i => us.getD i .none) := fun l => by
      induction l with
      | nil => exact .nil
      | cons i l ih => exact .cons (one i) ih
    exact this pm
  have fin : ∀ {us ws : List Value} {vs zs : List V} {s1 : Shared} {H1 : Hp}, Inv X pins σ H1 s1 → Vals vs us → Vals zs ws → vs.length = n → n + zs.length = pm.length → spR X.K XR np run (pm.map fun i => (vs ++ zs).getD i .non) H1 Q (WE W σ) → wpAny (model X.prog X.w) X.A (call (.ref f) us (ks.zip ws)) (EP X pins σ Q) X.xe s1 := fun {us ws vs zs s1 H1} I1 r1 r2 e1 e2 q1 => by
    have l1 := r1.length
    have l2 := r2.length
    exact run_fnG F hr hgd tk (hb s1 us ws (by omega) (by omega)) I1 (vg (r1.append r2)) q1
  rcases ha with ⟨rfl, rfl⟩ | ⟨⟨e, r, rfl⟩, ha⟩
  · obtain ⟨Z, T, e, g, h2⟩ := h1
    have h3 := h2 H Z [] g
    refine PySem.W.callWith_KW0 (h₀ := X.base) I.ok.mod.kin hk k1 (thn (hkw.run pos pins s σ H _ I h3) fun ws s2 ⟨zs, H2, I2, rz, q1, q2, q3⟩ => ⟨I2.kIn, ?_⟩) (by rw [k2]; rfl)
    rw [k3]
    exact fin I2 .nil rz q1 q2 q3
  · have hp2 := hpl
    rw [List.all_cons, Bool.and_eq_true] at hp2
    refine PySem.W.callWith_KW (h₀ := X.base) I.ok.mod.kin hk k1 (thn (ha.run pos pins s σ H _ I h1) fun us s1 ⟨vs, H1, I1, r, q⟩ => ?_) (by rw [k2, backTo_plain hpl]; rfl) (starEach_cons hp2.1)
    refine thn (hkw.run pos pins s1 σ H1 _ I1 q) fun ws s2 ⟨zs, H2, I2, rz, q1, q2, q3⟩ => ⟨I2.kIn, ?_⟩
    rw [k3]
    exact fin I2 r rz q1 q2 q3
theorem tXk_nil : PK X [] (tX X.K XR W (pureM [])) := ⟨fun pos pins s σ H Q I ⟨Z, T, e, g, q⟩ => pk_nil.run pos pins s σ H Q I (q H Z [] g)⟩
theorem tXk_cons {e : Expr} {nm : Option PySem.Str} {kpos : Pos} {kws : List Keyword} {m : M Val} {n : M (List Val)} (ha : PE X e (tE X.K XR W m)) (hr : PK X kws (tX X.K XR W n)) : PK X (⟨nm, e, kpos⟩ :: kws) (tX X.K XR W (bindM m fun x => bindM n fun xs => pureM (x :: xs))) := by
  refine ⟨fun pos pins s σ H Q I h => (pk_cons ha hr).run pos pins s σ H Q I ?_⟩
  obtain ⟨Z, T, e, g, h⟩ := h
  rw [outP_bind] at h
  refine ⟨Z, T, e, g, h.imp (fun x e1 k H1 Z1 v g1 => ?_) fun _ _ k => k⟩
  rw [outP_bind] at k
  refine ⟨Z1, [rep X.K v x] ++ T, e1, (g1.perm (permC fun a => by simp only [cnt_cons, cnt_append, cnt_nil]; omega)), k.imp (fun xs e2 k2 H2 Z2 vs g2 => ?_) fun _ _ k => k.drop⟩
  exact k2 H2 Z2 (v :: vs) (g2.perm (permC fun a => by simp only [cnt_cons, cnt_append, cnt_nil, reps]; omega))
end
end Nd

/-! NdN: walks. -/
namespace Nd
open PySem PySem.Spec PyProof.Rows L2
/-- J gives xs's items one by one while As stands -/
def Wlk (K : PySem.W.Frag) (J : It) (As : List Asn) (xs : List Val) : Prop := ∀ H Z Bs (i : Nat), Good H Z (As ++ Bs) → (∀ x, xs[i]? = some x → J.go i H ∧ ∀ v H', J.yld i H v H' → Good H' Z (rep K v x :: (As ++ Bs))) ∧ (i = xs.length → J.stop i H)
def tI (K : PySem.W.Frag) (XR : XRT) (W : WX) (m : M (List Val × List (Val × Tk))) : TI := fun σ H R => ∃ Z T e, Good H Z (envA K σ e ++ T) ∧ OutP (m e) (fun q e' => ∀ H' Z' vs J, Good H' Z' (argsA K σ vs q.2 ++ (envA K σ e' ++ T)) → Wlk K J (argsA K σ vs q.2) q.1 → R J H') (Px K XR W σ T)
theorem PI_imp {X : Cx} {tg e : Expr} {t t' : TI} (h : PI X tg e t) (k : ∀ σ H R, t' σ H R → t σ H R) : PI X tg e t' := ⟨fun pins s σ H R I q => h.run pins s σ H R I (k _ _ _ q)⟩
section
variable {XR : XRT} {W : WX} {X : Cx} {tg : Expr}
/-- a list or a tuple walked -/
def iSeq (K : PySem.W.Frag) (tl : TE) : TI := fun σ H R => tl σ H fun x H1 => ∃ a, x = .ref a ∧ (((∃ xs, SqL K H1 a xs) ∧ R (Itl K a) H1) ∨ ((∃ xs, SqT K H1 a xs) ∧ R (Itt K a) H1))
theorem pi_seq {l : Expr} {tl : TE} (hl : PE X l tl) : PI X tg l (iSeq X.K tl) := by
  refine ⟨fun pins s σ H R I h => ?_⟩
  refine thn (hl.run pins s σ H _ I h) fun v s1 ⟨x, H1, I1, r1, q1⟩ => ?_
  obtain ⟨a, e, q⟩ := q1
  subst e
  cases r1
  rcases q with ⟨⟨xs, hq⟩, q⟩ | ⟨⟨xs, hq⟩, q⟩
  · obtain ⟨its, rv, p, hz⟩ := I1.list hq
    refine wpAny_pyIter_list p.isList ?_
    refine ⟨s1.heap.objs.size, [s1.heap.objs.size], _, _, H1, rfl, I1.kept (t' := s1.toks) fun b o e => Heap.get?_push_of_some _ e, turn_list a _, ⟨_, Heap.get?_push_size _ rfl, rfl, rfl⟩, fun b hb => ?_, q⟩
    have e : b = s1.heap.objs.size := by simpa using hb
    subst e
    exact I1.fpOk (Nat.le_refl _) (I1.hok.fresh (Nat.le_refl _))
  · obtain ⟨its, rv, p, hz⟩ := I1.tuple hq
    refine wpAny_pyIter_tuple (show s1.heap.IsTuple a its.toArray from p) ?_
    refine ⟨s1.heap.objs.size, [s1.heap.objs.size], _, _, H1, rfl, I1.kept (t' := s1.toks) fun b o e => Heap.get?_push_of_some _ e, turn_tuple a _, ⟨_, Heap.get?_push_size _ rfl, rfl, rfl⟩, fun b hb => ?_, q⟩
    have e : b = s1.heap.objs.size := by simpa using hb
    subst e
    exact I1.fpOk (Nat.le_refl _) (I1.hok.fresh (Nat.le_refl _))
def isL : Val → Bool
  | .lst _ _ => true
  | _ => false
section
variable {K : PySem.W.Frag} {H : Hp} {Z : ZS}
theorem Rep.sqB {x : Val} {v : V} {f : List Addr} {xs : List Val} (r : Rep K H Z x v f) (e : Nd.itemsF x = some xs) : ∃ a vs, v = .ref a ∧ SqB (isL x) K H a vs ∧ Reps K H Z xs vs [] := by
  cases x with
  | tup ys =>
    cases e
    unfold Rep at r
    obtain ⟨_, a, vs, rfl, q, rs⟩ := r
    exact ⟨a, vs, rfl, q, rs⟩
  | lst m ys =>
    cases m <;> simp only [Nd.itemsF, Option.some.injEq, reduceCtorEq] at e
    · subst e
      unfold Rep at r
      obtain ⟨_, a, vs, rfl, q, rs⟩ := r
      exact ⟨a, vs, rfl, .inl (.inl q.1), rs⟩
    · subst e
      unfold Rep at r
      obtain ⟨a, vs, _, rfl, q, rs⟩ := r
      exact ⟨a, vs, rfl, .inl (.inl q), rs⟩
    · subst e
      unfold Rep at r
      obtain ⟨_, a, vs, rfl, q, rs⟩ := r
      exact ⟨a, vs, rfl, q.sq, rs⟩
  | _ => cases e
end
theorem walk_seq {K : PySem.W.Frag} {σ : Sl} {p : Val × Tk} {a : Addr} {xs : List Val} (e : itemsF p.1 = some xs) : Wlk K (if isL p.1 then Itl K a else Itt K a) (argsA K σ [.ref a] [p]) xs := by
  intro H Z Bs i g
  have g1 : Good H Z (rep K (.ref a) p.1 :: (tkA K σ (.ref a) p.2 ++ Bs)) := g.perm (permC fun a => by simp only [cnt_cons, cnt_append, cnt_nil, argsA, argA]; omega)
  obtain ⟨f, r⟩ := g1.rp
  obtain ⟨a', vs, e', q, rs⟩ := Rep.sqB r e
  cases e'
  have hl := rs.len
  cases hL : isL p.1 with
  | true =>
    rw [hL] at q
    have q' : SqL K H a vs := q
    refine ⟨fun x hx => ?_, fun hi => ⟨vs, q', by rw [hl]; omega⟩⟩
    obtain ⟨v, hv, rv⟩ := Reps.get rs hx
    refine ⟨⟨vs, v, q', hv⟩, fun w H' y => ?_⟩
    obtain ⟨rfl, y2⟩ := y
    have := y2 vs q'
    rw [hv] at this
    cases this
    exact g.val rv
  | false =>
    rw [hL] at q
    have q' : SqT K H a vs := q
    refine ⟨fun x hx => ?_, fun hi => ⟨vs, q', by rw [hl]; omega⟩⟩
    obtain ⟨v, hv, rv⟩ := Reps.get rs hx
    refine ⟨⟨vs, v, q', hv⟩, fun w H' y => ?_⟩
    obtain ⟨rfl, y2⟩ := y
    have := y2 vs q'
    rw [hv] at this
    cases this
    exact g.val rv
theorem tI_ex {l : Expr} {ma : M (Val × Tk)} (ha : PE X l (tG X.K XR W ma)) : PI X tg l (tI X.K XR W (bindM ma fun p => bindM (liftM (itemsF p.1)) fun xs => pureM (xs, [p]))) := by
  refine PI_imp (pi_seq ha) fun σ H R ⟨Z, T, e, g, h⟩ => ?_
  rw [outP_bind] at h
  refine ⟨Z, T, e, g, h.imp (fun p e1 k H1 Z1 v g1 => ?_) fun _ _ k => k⟩
  rw [outP_bind, outP_lift] at k
  obtain ⟨xs, ex, k⟩ := k
  obtain ⟨f, r⟩ := g1.rp
  obtain ⟨a, vs, rfl, q, rs⟩ := Rep.sqB r ex
  have g2 : Good H1 Z1 (argsA X.K σ [.ref a] [p] ++ (envA X.K σ e1 ++ T)) := g1.perm (permC fun a => by simp only [cnt_cons, cnt_append, cnt_nil, argsA]; omega)
  have k' : ∀ H' Z' vs J, Good H' Z' (argsA X.K σ vs [p] ++ (envA X.K σ e1 ++ T)) → Wlk X.K J (argsA X.K σ vs [p]) xs → R J H' := k
  refine ⟨a, rfl, ?_⟩
  have w := walk_seq (K := X.K) (σ := σ) (a := a) ex
  cases hL : isL p.1 with
  | true =>
    rw [hL] at q w
    exact .inl ⟨⟨vs, q⟩, k' H1 Z1 _ _ g2 w⟩
  | false =>
    rw [hL] at q w
    exact .inr ⟨⟨vs, q⟩, k' H1 Z1 _ _ g2 w⟩
/-! ### ranges -/
theorem walk_rng {K : PySem.W.Frag} {lo hi : Int} : Wlk K (Itr lo (hi - lo).toNat) [] (rangeL lo hi) := by
  intro H Z Bs i g
  have hl : (rangeL lo hi).length = (hi - lo).toNat := by unfold rangeL; simp
  refine ⟨fun x hx => ?_, fun h => by show _ ≤ _; omega⟩
  have hi' := (List.getElem?_eq_some_iff.mp hx).1
  refine ⟨by show i < _; omega, fun v H' y => ?_⟩
  obtain ⟨rfl, rfl⟩ := y
  have : x = .int (lo + (i : Int)) := by
    unfold rangeL at hx
    rw [List.getElem?_map, List.getElem?_range (by omega)] at hx
    exact (Option.some.inj hx).symm
  subst this
  exact g.val ⟨rfl, rfl⟩
theorem tI_rng {a : Expr} {m : M Val} {p pos : Pos} (hg : Gl X "range") (hm : X.mg "range" = none) (ha : PE X a (tE X.K XR W m)) (hp : plainE a = true) : PI X tg (.Call (.Name "range" p) [a] [] pos) (tI X.K XR W (bindM m fun x => match x with
    | .int i => if okR i then pureM (rangeL 0 i, []) else fun _ => .stuck
    | _ => fun _ => .stuck)) := by
  refine PI_imp (pi_range1 hg hm (pa_cons ha pa_nil (starEach_cons hp)) (starEach_cons hp)) fun σ H R ⟨Z, T, e, g, h⟩ => ?_
  rw [outP_bind] at h
  refine ⟨Z, T, e, g, h.imp (fun x e1 k H1 Z1 v g1 => ?_) fun _ _ k => k⟩
  split at k
  · rename_i i
    split at k
    · rename_i ok
      simp only [okR, decide_eq_true_eq] at ok
      obtain ⟨_, r⟩ := g1.rp
      have hv : v = .int i := r.1
      subst hv
      refine ⟨i, rfl, ok.1, ok.2, ?_⟩
      have w := walk_rng (K := X.K) (lo := 0) (hi := i)
      rw [Int.sub_zero] at w
      exact k H1 Z1 [] _ g1.drop w
    · exact k.elim
  · exact k.elim
theorem tI_rng2 {a b : Expr} {m n : M Val} {p pos : Pos} (hg : Gl X "range") (hm : X.mg "range" = none) (ha : PE X a (tE X.K XR W m)) (hb : PE X b (tE X.K XR W n)) (hp : plainE a = true) (hpb : plainE b = true) : PI X tg (.Call (.Name "range" p) [a, b] [] pos) (tI X.K XR W (bindM m fun x => bindM n fun y => match x, y with
    | .int i, .int j => if okR i && okR j then pureM (rangeL i j, []) else fun _ => .stuck
    | _, _ => fun _ => .stuck)) := by
  refine PI_imp (pi_range2 hg hm (pa_cons ha (pa_cons hb pa_nil (starEach_cons hpb)) (starEach_cons hp)) (by rw [starEach_cons hp, starEach_cons hpb]; rfl) (starEach_cons hpb)) fun σ H R ⟨Z, T, e, g, h⟩ => ?_
  rw [outP_bind] at h
  refine ⟨Z, T, e, g, h.imp (fun x e1 k H1 Z1 v g1 => ?_) fun _ _ k => k⟩
  rw [outP_bind] at k
  refine ⟨Z1, [rep X.K v x] ++ T, e1, g1.perm (permC fun a => by simp only [cnt_cons, cnt_append, cnt_nil]; omega), k.imp (fun y e2 k2 H2 Z2 w g2 => ?_) fun _ _ k => k.drop⟩
  split at k2
  · rename_i i j
    split at k2
    · rename_i ok
      simp only [okR, Bool.and_eq_true, decide_eq_true_eq] at ok
      have g3 : Good H2 Z2 (rep X.K w (.int j) :: rep X.K v (.int i) :: (envA X.K σ e2 ++ T)) := g2.perm (permC fun a => by simp only [cnt_cons, cnt_append, cnt_nil]; omega)
      obtain ⟨_, r1⟩ := g3.rp
      obtain ⟨_, r2⟩ := g3.rp2
      have hv : w = .int j := r1.1
      have hw : v = .int i := r2.1
      subst hv; subst hw
      exact ⟨i, j, rfl, ⟨ok.1.1, ok.1.2, ok.2.1, ok.2.2⟩, k2 H2 Z2 [] _ g3.drop.drop walk_rng⟩
    · exact k2.elim
  · exact k2.elim
/-! ### reversed -/
theorem walk_rev {K : PySem.W.Frag} {σ : Sl} {p : Val × Tk} {a : Addr} {xs : List Val} (e : itemsF p.1 = some xs) : Wlk K (if isL p.1 then Itv K a xs.length else RT.ItvT K a xs.length) (argsA K σ [.ref a] [p]) xs.reverse := by
  intro H Z Bs i g
  have g1 : Good H Z (rep K (.ref a) p.1 :: (tkA K σ (.ref a) p.2 ++ Bs)) := g.perm (permC fun a => by simp only [cnt_cons, cnt_append, cnt_nil, argsA, argA]; omega)
  obtain ⟨f, r⟩ := g1.rp
  obtain ⟨a', vs, e', q, rs⟩ := Rep.sqB r e
  cases e'
  have hl := rs.len
  have at' : ∀ x, xs.reverse[i]? = some x → i < xs.length ∧ ∃ v, vs[xs.length - 1 - i]? = some v ∧ Rep K H Z x v [] := fun x hx => by
    have hi := (List.getElem?_eq_some_iff.mp hx).1
    rw [List.length_reverse] at hi
    rw [List.getElem?_reverse hi] at hx
    exact ⟨hi, Reps.get rs hx⟩
  cases hL : isL p.1 with
  | true =>
    rw [hL] at q
    have q' : SqL K H a vs := q
    refine ⟨fun x hx => ?_, fun hi => by rw [List.length_reverse] at hi; show _ ≤ _; omega⟩
    obtain ⟨hi, v, hv, rv⟩ := at' x hx
    refine ⟨⟨hi, vs, v, q', hv⟩, fun w H' y => ?_⟩
    obtain ⟨rfl, y2⟩ := y
    have := y2 vs q'
    rw [hv] at this
    cases this
    exact g.val rv
  | false =>
    rw [hL] at q
    have q' : SqT K H a vs := q
    refine ⟨fun x hx => ?_, fun hi => by rw [List.length_reverse] at hi; show _ ≤ _; omega⟩
    obtain ⟨hi, v, hv, rv⟩ := at' x hx
    refine ⟨⟨hi, vs, v, q', hv⟩, fun w H' y => ?_⟩
    obtain ⟨rfl, y2⟩ := y
    have := y2 vs q'
    rw [hv] at this
    cases this
    exact g.val rv
theorem tI_rev {l : Expr} {ma : M (Val × Tk)} {p pos : Pos} (hg : Gl X "reversed") (hm : X.mg "reversed" = none) (ha : PE X l (tG X.K XR W ma)) (hp : plainE l = true) : PI X tg (.Call (.Name "reversed" p) [l] [] pos) (tI X.K XR W (bindM ma fun p => bindM (liftM (itemsF p.1)) fun xs => pureM (xs.reverse, [p]))) := by
  refine PI_imp (RT.pi_revA hg hm ha (starEach_cons hp)) fun σ H R ⟨Z, T, e, g, h⟩ => ?_
  rw [outP_bind] at h
  refine ⟨Z, T, e, g, h.imp (fun p e1 k H1 Z1 v g1 => ?_) fun _ _ k => k⟩
  rw [outP_bind, outP_lift] at k
  obtain ⟨xs, ex, k⟩ := k
  obtain ⟨f, r⟩ := g1.rp
  obtain ⟨a, vs, rfl, q, rs⟩ := Rep.sqB r ex
  have g2 : Good H1 Z1 (argsA X.K σ [.ref a] [p] ++ (envA X.K σ e1 ++ T)) := g1.perm (permC fun a => by simp only [cnt_cons, cnt_append, cnt_nil, argsA]; omega)
  have k' : ∀ H' Z' vs J, Good H' Z' (argsA X.K σ vs [p] ++ (envA X.K σ e1 ++ T)) → Wlk X.K J (argsA X.K σ vs [p]) xs.reverse → R J H' := k
  refine ⟨a, vs, rfl, ?_⟩
  have w := walk_rev (K := X.K) (σ := σ) (a := a) ex
  rw [← rs.len] at w
  cases hL : isL p.1 with
  | true =>
    rw [hL] at q w
    exact .inl ⟨q, k' H1 Z1 _ _ g2 w⟩
  | false =>
    rw [hL] at q w
    exact .inr ⟨q, k' H1 Z1 _ _ g2 w⟩
/-! ### enumerate, zip -/
theorem enumL_at : ∀ {xs : List Val} {k i : Nat} {y : Val}, (enumL k xs)[i]? = some y → ∃ x, xs[i]? = some x ∧ y = .tup [.int ((k + i : Nat) : Int), x]
  | [], _, _, _, h => by simp [enumL] at h
  | x :: xs, k, 0, y, h => by
    simp [enumL] at h
    exact ⟨x, rfl, by rw [← h]; simp⟩
  | x :: xs, k, i + 1, y, h => by
    simp only [enumL, List.getElem?_cons_succ] at h
    obtain ⟨z, h1, h2⟩ := enumL_at h
    exact ⟨z, by simpa using h1, by rw [h2]; congr 3; congr 1; omega⟩
theorem enumL_len : ∀ {xs : List Val} {k : Nat}, (enumL k xs).length = xs.length
  | [], _ => rfl
  | x :: xs, k => by simp [enumL, enumL_len]
theorem walk_enum {K : PySem.W.Frag} {σ : Sl} {p : Val × Tk} {a : Addr} {xs : List Val} (e : itemsF p.1 = some xs) : Wlk K (ItE (isL p.1) K a) (argsA K σ [.ref a] [p]) (enumL 0 xs) := by
  intro H Z Bs i g
  have g1 : Good H Z (rep K (.ref a) p.1 :: (tkA K σ (.ref a) p.2 ++ Bs)) := g.perm (permC fun a => by simp only [cnt_cons, cnt_append, cnt_nil, argsA, argA]; omega)
  obtain ⟨f, r⟩ := g1.rp
  obtain ⟨a', vs, e', q, rs⟩ := Rep.sqB r e
  cases e'
  have hl := rs.len
  refine ⟨fun y hy => ?_, fun hi => ⟨vs, q, by rw [hl, hi, enumL_len]⟩⟩
  obtain ⟨x, hx, rfl⟩ := enumL_at hy
  obtain ⟨v, hv, rv⟩ := Reps.get rs hx
  refine ⟨⟨vs, v, q, hv⟩, fun w H' y => ?_⟩
  obtain ⟨T, z, rfl, hT, rfl, y2⟩ := y
  have := y2 vs q
  rw [hv] at this
  cases this
  refine g.newT hT ?_
  rw [Nat.zero_add]
  exact Reps.mk (f := []) (g := []) ⟨rfl, rfl⟩ (Reps.one rv)
theorem tI_enum {l : Expr} {elts : List Expr} {kk : Nat} {ma : M (Val × Tk)} {p pos tpos : Pos} (hg : Gl X "enumerate") (hm : X.mg "enumerate" = none) (ha : PE X l (tG X.K XR W ma)) (hp : plainE l = true) : PI X (.Tuple elts kk tpos) (.Call (.Name "enumerate" p) [l] [] pos) (tI X.K XR W (bindM ma fun p => bindM (liftM (itemsF p.1)) fun xs => pureM (enumL 0 xs, [p]))) := by
  refine PI_imp (pi_enumB hg hm (pa_cons ha pa_nil (starEach_cons hp)) (starEach_cons hp)) fun σ H R ⟨Z, T, e, g, h⟩ => ?_
  rw [outP_bind] at h
  refine ⟨Z, T, e, g, h.imp (fun p e1 k H1 Z1 v g1 => ?_) fun _ _ k => k⟩
  rw [outP_bind, outP_lift] at k
  obtain ⟨xs, ex, k⟩ := k
  obtain ⟨f, r⟩ := g1.rp
  obtain ⟨a, vs, rfl, q, rs⟩ := Rep.sqB r ex
  have g2 : Good H1 Z1 (argsA X.K σ [.ref a] [p] ++ (envA X.K σ e1 ++ T)) := g1.perm (permC fun a => by simp only [cnt_cons, cnt_append, cnt_nil, argsA]; omega)
  exact ⟨isL p.1, a, vs, rfl, q, k H1 Z1 _ _ g2 (walk_enum ex)⟩
theorem zipL_at : ∀ {xs ys : List Val} {i : Nat} {z : Val}, (zipL xs ys)[i]? = some z → ∃ x y, xs[i]? = some x ∧ ys[i]? = some y ∧ z = .tup [x, y]
  | [], _, _, _, h => by simp [zipL] at h
  | _ :: _, [], _, _, h => by simp [zipL] at h
  | x :: xs, y :: ys, 0, z, h => by
    simp [zipL] at h
    exact ⟨x, y, rfl, rfl, h.symm⟩
  | x :: xs, y :: ys, i + 1, z, h => by
    simp only [zipL, List.getElem?_cons_succ] at h
    obtain ⟨a, b, h1, h2, h3⟩ := zipL_at h
    exact ⟨a, b, by simpa using h1, by simpa using h2, h3⟩
theorem zipL_len : ∀ {xs ys : List Val}, (zipL xs ys).length = min xs.length ys.length
  | [], _ => by simp [zipL]
  | _ :: _, [] => by simp [zipL]
  | x :: xs, y :: ys => by simp [zipL, zipL_len]
theorem walk_zip {K : PySem.W.Frag} {σ : Sl} {p q : Val × Tk} {a a' : Addr} {xs ys : List Val} (e : itemsF p.1 = some xs) (e2 : itemsF q.1 = some ys) : Wlk K (ItZ (isL p.1) (isL q.1) K a a') (argsA K σ [.ref a, .ref a'] [p, q]) (zipL xs ys) := by
  intro H Z Bs i g
  have g1 : Good H Z (rep K (.ref a) p.1 :: rep K (.ref a') q.1 :: (tkA K σ (.ref a) p.2 ++ (tkA K σ (.ref a') q.2 ++ Bs))) := g.perm (permC fun a => by simp only [cnt_cons, cnt_append, cnt_nil, argsA, argA]; omega)
  obtain ⟨f, r⟩ := g1.rp
  obtain ⟨f2, r2⟩ := g1.rp2
  obtain ⟨b, vs, e', q1, rs⟩ := Rep.sqB r e
  obtain ⟨b', ws, e2', q2, rs2⟩ := Rep.sqB r2 e2
  cases e'; cases e2'
  have hl := rs.len
  have hl2 := rs2.len
  refine ⟨fun z hz => ?_, fun hi => ⟨vs, ws, q1, q2, ?_, ?_, ?_⟩⟩
  · obtain ⟨x, y, hx, hy, rfl⟩ := zipL_at hz
    obtain ⟨v, hv, rv⟩ := Reps.get rs hx
    obtain ⟨w, hw, rw'⟩ := Reps.get rs2 hy
    refine ⟨⟨vs, ws, v, w, q1, q2, hv, hw⟩, fun u H' y => ?_⟩
    obtain ⟨T, x1, y1, rfl, hT, rfl, k1, k2⟩ := y
    have k1 := k1 vs q1
    have k2 := k2 ws q2
    rw [hv] at k1
    rw [hw] at k2
    cases k1; cases k2
    exact g.newT hT (Reps.mk (f := []) (g := []) rv (Reps.one rw'))
  · rw [zipL_len] at hi; omega
  · rw [zipL_len] at hi; omega
  · rw [zipL_len] at hi; omega
theorem tI_zip {l l2 : Expr} {elts : List Expr} {kk : Nat} {ma mb : M (Val × Tk)} {p pos tpos : Pos} (hg : Gl X "zip") (hm : X.mg "zip" = none) (ha : PE X l (tG X.K XR W ma)) (hb : PE X l2 (tG X.K XR W mb)) (hp : plainE l = true) (hp2 : plainE l2 = true) : PI X (.Tuple elts kk tpos) (.Call (.Name "zip" p) [l, l2] [] pos) (tI X.K XR W (bindM ma fun p => bindM mb fun q => bindM (liftM (itemsF p.1)) fun xs => bindM (liftM (itemsF q.1)) fun ys => pureM (zipL xs ys, [p, q]))) := by
  refine PI_imp (pi_zipB hg hm (pa_cons ha (pa_cons hb pa_nil (starEach_cons hp2)) (starEach_cons hp)) (starEach_cons hp) (backTo_plain (by simp [hp2]))) fun σ H R ⟨Z, T, e, g, h⟩ => ?_
  rw [outP_bind] at h
  refine ⟨Z, T, e, g, h.imp (fun p e1 k H1 Z1 v g1 => ?_) fun _ _ k => k⟩
  rw [outP_bind] at k
  refine ⟨Z1, argA X.K σ v p ++ T, e1, g1.mid, k.imp (fun q e2 k2 H2 Z2 w g2 => ?_) fun _ _ k => k.dropA⟩
  rw [outP_bind, outP_lift] at k2
  obtain ⟨xs, ex, k2⟩ := k2
  rw [outP_bind, outP_lift] at k2
  obtain ⟨ys, ey, k2⟩ := k2
  have g3 : Good H2 Z2 (rep X.K v p.1 :: rep X.K w q.1 :: (tkA X.K σ v p.2 ++ (tkA X.K σ w q.2 ++ (envA X.K σ e2 ++ T)))) := g2.perm (permC fun a => by simp only [cnt_cons, cnt_append, cnt_nil, argA]; omega)
  obtain ⟨f, r⟩ := g3.rp
  obtain ⟨f2, r2⟩ := g3.rp2
  obtain ⟨a, vs, rfl, q1, rs⟩ := Rep.sqB r ex
  obtain ⟨a', ws, rfl, q2, rs2⟩ := Rep.sqB r2 ey
  have g4 : Good H2 Z2 (argsA X.K σ [.ref a, .ref a'] [p, q] ++ (envA X.K σ e2 ++ T)) := g2.perm (permC fun a => by simp only [cnt_cons, cnt_append, cnt_nil, argsA, argA]; omega)
  exact ⟨isL p.1, isL q.1, a, a', vs, ws, rfl, q1, q2, k2 H2 Z2 _ _ g4 (walk_zip ex ey)⟩
end
end Nd

/-! NdO: tests, targets, comprehensions. -/
namespace Nd
open PySem PySem.Spec PyProof.Rows L2
section
variable {XR : XRT} {W : WX} {X : Cx}
/-! ### tests -/
theorem emp_len {α β : Type} {xs : List α} {ys : List β} (h : ys.length = xs.length) : (!xs.isEmpty) = !ys.isEmpty := by
  cases xs with
  | nil =>
    have : ys = [] := List.eq_nil_of_length_eq_zero h
    subst this; rfl
  | cons x xs =>
    cases ys with
    | nil => simp at h
    | cons y ys => rfl
theorem int_ne (i : Int) : decide (i ≠ 0) = (i != 0) := by
  by_cases h : i = 0
  · subst h; rfl
  · rw [decide_eq_true h]; exact (bne_iff_ne.mpr h).symm
theorem len_ne (n : Nat) : (!(n == 0)) = ((n : Int) != 0) := by
  cases n with
  | zero => rfl
  | succ n =>
    have : ((n + 1 : Nat) : Int) ≠ 0 := by omega
    rw [bne_iff_ne.mpr this]
    rfl
theorem truV_ok {K : PySem.W.Frag} {H : Hp} {Z : ZS} {x : Val} {v : V} {f : List Addr} {b : Bool} (r : Rep K H Z x v f) (e : truV x = some b) : TruV K v H b := by
  unfold truV at e
  split at e
  · cases e; cases (show v = _ from r.1); rfl
  · cases e; cases (show v = _ from r.1); exact int_ne _
  · cases e; cases (show v = _ from r.1); rfl
  · split at e
    · cases e; cases (show v = _ from r.1)
      rename_i h
      exact ⟨h, len_ne _⟩
    · cases e
  · cases e
    unfold Rep at r
    obtain ⟨_, a, vs, rfl, q, rs⟩ := r
    exact .inr (.inl ⟨vs, q, emp_len rs.len⟩)
  · cases e
    obtain ⟨a, vs, g, rfl, q, rs⟩ := r.listF
    exact .inl ⟨vs, q, emp_len rs.len⟩
  · cases e
    obtain ⟨a, vs, g, rfl, q, rs⟩ := r.dicF
    exact .inr (.inr ⟨vs, q, emp_len rs.len⟩)
  · cases e
theorem tru_imp {m : M Val} {σ : Sl} {H : Hp} {Q : Bool → Hp → Prop} (h : tB1 X.K XR W (bindM m fun x => liftM (truV x)) σ H Q) : tE X.K XR W m σ H fun v H' => ∃ k, TruV X.K v H' k ∧ Q k H' := by
  obtain ⟨Z, T, e, g, h⟩ := h
  rw [outP_bind] at h
  refine ⟨Z, T, e, g, h.imp (fun x e1 k H1 Z1 v g1 => ?_) fun _ _ k => k⟩
  rw [outP_lift] at k
  obtain ⟨b, eb, k⟩ := k
  obtain ⟨_, r⟩ := g1.rp
  exact ⟨b, truV_ok r eb, k H1 Z1 g1.drop⟩
/-- any test by the truth of its value -/
theorem tT_val {e : Expr} {m : M Val} (he : PE X e (tE X.K XR W m)) (h : ∀ whole, isTrue e X.env whole = (do let v ← whole; standAt e.pos; holding [v] (truthy v))) : PT X e (tB1 X.K XR W (bindM m fun x => liftM (truV x))) :=
  PT_imp (pt_truth he h) fun σ H Q q => tru_imp q
theorem tT_arg {e : Expr} {ma : M (Val × Tk)} (he : PE X e (tG X.K XR W ma)) (h : ∀ whole, isTrue e X.env whole = (do let v ← whole; standAt e.pos; holding [v] (truthy v))) : PT X e (tB1 X.K XR W (bindM ma fun p => bindM (liftM (truV p.1)) fun b => bindM (plug p.2 p.1) fun _ => pureM b)) := by
  refine PT_imp (pt_truth he h) fun σ H Q ⟨Z, T, e, g, h⟩ => ?_
  rw [outP_bind] at h
  refine ⟨Z, T, e, g, h.imp (fun p e1 k H1 Z1 v g1 => ?_) fun _ _ k => k⟩
  rw [outP_bind, outP_lift] at k
  obtain ⟨b, eb, k⟩ := k
  obtain ⟨_, r⟩ := g1.rp
  have g2 : Good H1 Z1 (rep X.K v p.1 :: (tkA X.K σ v p.2 ++ (envA X.K σ e1 ++ T))) := g1
  obtain ⟨e2, q1, g3⟩ := g2.plug
  rw [outP_bind, q1] at k
  exact ⟨b, truV_ok r eb, k H1 Z1 g3⟩
/-- the values that m may answer are bools -/
def OnlyBl (m : M Val) : Prop := ∀ e r e', m e = .ok r e' → ∃ b, r = .bl b
theorem bl_imp {m : M Val} {σ : Sl} {H : Hp} {Q : Bool → Hp → Prop} (ob : OnlyBl m) (h : tB1 X.K XR W (bindM m fun x => liftM (truV x)) σ H Q) : tE X.K XR W m σ H fun v H' => ∃ k, v = .bl k ∧ Q k H' := by
  obtain ⟨Z, T, e, g, h⟩ := h
  rw [outP_bind] at h
  refine ⟨Z, T, e, g, ?_⟩
  have ob' := ob e
  cases hm : m e with
  | ok r e1 =>
    rw [hm] at h ob'
    obtain ⟨b, rfl⟩ := ob' r e1 rfl
    intro H1 Z1 v g1
    obtain ⟨_, r⟩ := g1.rp
    have h' : OutP (liftM (truV (.bl b)) e1) (fun b e' => ∀ H' Z', Good H' Z' (envA X.K σ e' ++ T) → Q b H') (Px X.K XR W σ T) := h
    rw [outP_lift] at h'
    obtain ⟨b', eb, k⟩ := h'
    cases eb
    exact ⟨b, r.1, k H1 Z1 g1.drop⟩
  | exc x e1 => rw [hm] at h; exact h
  | stuck => rw [hm] at h; exact h.elim
theorem bind_ok {α β : Type} {m : M α} {k : α → M β} {e e' : List Val} {r : β} (h : bindM m k e = .ok r e') : ∃ a e1, m e = .ok a e1 ∧ k a e1 = .ok r e' := by
  unfold bindM at h
  cases hm : m e with
  | ok a e1 => rw [hm] at h; exact ⟨a, e1, rfl, h⟩
  | exc x e1 => rw [hm] at h; cases h
  | stuck => rw [hm] at h; cases h
theorem lift_ok {α : Type} {o : Option α} {e e' : List Val} {r : α} (h : liftM o e = .ok r e') : o = some r := by
  cases o with
  | none => cases h
  | some a => cases h; rfl
theorem ob_cmp {op : Cop} {ma mb : M (Val × Tk)} : OnlyBl (bindM ma fun p => bindM mb fun q => bindM (liftM (cmpV op p.1 q.1)) fun r => bindM (plugs [p, q] [p.1, q.1]) fun _ => pureM r) := fun e r e' h => by
  obtain ⟨p, e1, _, h⟩ := bind_ok h
  obtain ⟨q, e2, _, h⟩ := bind_ok h
  obtain ⟨c, e3, h3, h⟩ := bind_ok h
  obtain ⟨_, e4, _, h⟩ := bind_ok h
  cases h
  exact cmpV_bl (lift_ok h3)
theorem ob_chain {op op' : Cop} {ma mb mc : M (Val × Tk)} : OnlyBl (bindM ma fun p => bindM mb fun q => bindM (liftM (cmpV op p.1 q.1)) fun r => match r with
    | .bl true => bindM mc fun w => bindM (liftM (cmpV op' q.1 w.1)) fun r' => bindM (plugs [p, q, w] [p.1, q.1, w.1]) fun _ => pureM r'
    | .bl false => bindM (plugs [p, q] [p.1, q.1]) fun _ => pureM (.bl false)
    | _ => fun _ => .stuck) := fun e r e' h => by
  obtain ⟨p, e1, _, h⟩ := bind_ok h
  obtain ⟨q, e2, _, h⟩ := bind_ok h
  obtain ⟨c, e3, h3, h⟩ := bind_ok h
  split at h
  · obtain ⟨w, e4, _, h⟩ := bind_ok h
    obtain ⟨c', e5, h5, h⟩ := bind_ok h
    obtain ⟨_, e6, _, h⟩ := bind_ok h
    cases h
    exact cmpV_bl (lift_ok h5)
  · obtain ⟨_, e6, _, h⟩ := bind_ok h
    cases h
    exact ⟨false, rfl⟩
  · cases h
theorem tT_cmp {op : Cop} {a b : Expr} {ma mb : M (Val × Tk)} {pos : Pos} (hu : X.A.units + 65 < cLine) (ha : PE X a (tG X.K XR W ma)) (hb : PE X b (tG X.K XR W mb)) (hm : behindInMarks (cmpOf op) b = false) :
    PT X (.Compare a [cmpOf op] [b] pos) (tB1 X.K XR W (bindM (bindM ma fun p => bindM mb fun q => bindM (liftM (cmpV op p.1 q.1)) fun r => bindM (plugs [p, q] [p.1, q.1]) fun _ => pureM r) fun x => liftM (truV x))) :=
  PT_imp (pt_cmpR (op_cmp hu) ha hb hm) fun σ H Q h => two_ok (bl_imp ob_cmp h)
theorem chain_imp {op op' : Cop} {ma mb mc : M (Val × Tk)} {σ : Sl} {H : Hp} {Q : VK} (h : tE X.K XR W (bindM ma fun p => bindM mb fun q => bindM (liftM (cmpV op p.1 q.1)) fun r => match r with
    | .bl true => bindM mc fun w => bindM (liftM (cmpV op' q.1 w.1)) fun r' => bindM (plugs [p, q, w] [p.1, q.1, w.1]) fun _ => pureM r'
    | .bl false => bindM (plugs [p, q] [p.1, q.1]) fun _ => pureM (.bl false)
    | _ => fun _ => .stuck) σ H Q) : tChain (rB2 X.K (cmpV op)) (rB2 X.K (cmpV op')) (tG X.K XR W ma) (tG X.K XR W mb) (tG X.K XR W mc) σ H Q := by
  obtain ⟨Z, T, e, g, h⟩ := h
  rw [outP_bind] at h
  refine ⟨Z, T, e, g, h.imp (fun p e1 k H1 Z1 v g1 => ?_) fun _ _ k => k⟩
  rw [outP_bind] at k
  refine ⟨Z1, argA X.K σ v p ++ T, e1, g1.mid, k.imp (fun q e2 k2 H2 Z2 w g2 => ?_) fun _ _ k => k.dropA⟩
  rw [outP_bind, outP_lift] at k2
  obtain ⟨r, er, k2⟩ := k2
  obtain ⟨b1, rfl⟩ := cmpV_bl er
  refine ⟨Z2, p.1, q.1, .bl b1, tkA X.K σ v p.2 ++ (tkA X.K σ w q.2 ++ (envA X.K σ e2 ++ T)), g2.perm (permC fun a => by simp only [cnt_cons, cnt_append, cnt_nil, argA]; omega), er, fun H' Z' u g' => ?_⟩
  obtain ⟨_, ru⟩ := g'.rp
  have hu' : u = .bl b1 := ru.1
  subst hu'
  refine ⟨b1, rfl, ?_⟩
  cases b1 with
  | true =>
    rw [if_pos rfl]
    have k3 : OutP (bindM mc (fun w => bindM (liftM (cmpV op' q.1 w.1)) fun r' => bindM (plugs [p, q, w] [p.1, q.1, w.1]) fun _ => pureM r') e2) (fun r e' => ∀ H' Z' v, Good H' Z' (rep X.K v r :: (envA X.K σ e' ++ T)) → Q v H') (Px X.K XR W σ T) := k2
    rw [outP_bind] at k3
    refine ⟨Z', argA X.K σ v p ++ (argA X.K σ w q ++ T), e2, g'.drop.perm (permC fun a => by simp only [cnt_cons, cnt_append, cnt_nil, argA]; omega), k3.imp (fun s e3 k4 H3 Z3 t g3 => ?_) fun _ _ k => (k.dropA).dropA⟩
    rw [outP_bind, outP_lift] at k4
    obtain ⟨r', er', k4⟩ := k4
    refine ⟨Z3, q.1, s.1, r', rep X.K v p.1 :: (tkA X.K σ v p.2 ++ (tkA X.K σ w q.2 ++ (tkA X.K σ t s.2 ++ (envA X.K σ e3 ++ T)))), g3.perm (permC fun a => by simp only [cnt_cons, cnt_append, cnt_nil, argA]; omega), er', fun H4 Z4 u g4 => ?_⟩
    have g5 : Good H4 Z4 (argsA X.K σ [v, w, t] [p, q, s] ++ (envA X.K σ e3 ++ (rep X.K u r' :: T))) := g4.perm (permC fun a => by simp only [cnt_cons, cnt_append, cnt_nil, argA, argsA]; omega)
    obtain ⟨e4, q1, g6⟩ := g5.plugsId
    rw [outP_bind] at k4
    have q1' : plugs [p, q, s] [p.1, q.1, s.1] e3 = .ok () e4 := q1
    rw [q1'] at k4
    exact k4 H4 Z4 u (g6.perm (permC fun a => by simp only [cnt_cons, cnt_append, cnt_nil]; omega))
  | false =>
    rw [if_neg (by simp)]
    have k3 : OutP (bindM (plugs [p, q] [p.1, q.1]) (fun _ => pureM (Val.bl false)) e2) (fun r e' => ∀ H' Z' v, Good H' Z' (rep X.K v r :: (envA X.K σ e' ++ T)) → Q v H') (Px X.K XR W σ T) := k2
    have g3 : Good H' Z' (argsA X.K σ [v, w] [p, q] ++ (envA X.K σ e2 ++ (rep X.K (.bl false) (.bl false) :: T))) := g'.perm (permC fun a => by simp only [cnt_cons, cnt_append, cnt_nil, argA, argsA]; omega)
    obtain ⟨e3, q1, g4⟩ := g3.plugsId
    rw [outP_bind] at k3
    have q1' : plugs [p, q] [p.1, q.1] e2 = .ok () e3 := q1
    rw [q1'] at k3
    exact k3 H' Z' _ (g4.perm (permC fun a => by simp only [cnt_cons, cnt_append, cnt_nil]; omega))
theorem tT_chain {op op' : Cop} {a b c : Expr} {ma mb mc : M (Val × Tk)} {pos : Pos} (hu : X.A.units + 65 < cLine) (ha : PE X a (tG X.K XR W ma)) (hb : PE X b (tG X.K XR W mb)) (hc : PE X c (tG X.K XR W mc)) (hl : lastMarks [cmpOf op, cmpOf op'] [b, c] = false) :
    PT X (.Compare a [cmpOf op, cmpOf op'] [b, c] pos) (tB1 X.K XR W (bindM (bindM ma fun p => bindM mb fun q => bindM (liftM (cmpV op p.1 q.1)) fun r => match r with
    | .bl true => bindM mc fun w => bindM (liftM (cmpV op' q.1 w.1)) fun r' => bindM (plugs [p, q, w] [p.1, q.1, w.1]) fun _ => pureM r'
    | .bl false => bindM (plugs [p, q] [p.1, q.1]) fun _ => pureM (.bl false)
    | _ => fun _ => .stuck) fun x => liftM (truV x))) :=
  PT_imp (pt_chain (op_cmp hu) (op_cmp hu) ha hb hc hl) fun σ H Q h => chain_imp (bl_imp ob_chain h)
theorem tT_not {a : Expr} {m : M Bool} {pos : Pos} (ha : PT X a (tB1 X.K XR W m)) : PT X (.UnaryOp .Not a pos) (tB1 X.K XR W (bindM m fun b => pureM (!b))) := by
  refine PT_imp (pt_not ha) fun σ H Q ⟨Z, T, e, g, h⟩ => ?_
  rw [outP_bind] at h
  exact ⟨Z, T, e, g, h.imp (fun b e1 k => k) fun _ _ k => k⟩
theorem PW_imp {e : Expr} {t t' : TT} (h : PW X e t) (k : ∀ σ H Q, t' σ H Q → t σ H Q) : PW X e t' := ⟨fun wh pins s σ H Q I q => h.run wh pins s σ H Q I (k _ _ _ q)⟩
theorem tW_and {a b : Expr} {rest : List Expr} {m n : M Bool} {pos : Pos} (ha : PT X a (tB1 X.K XR W m)) (hb : PW X (.BoolOp .And (b :: rest) pos) (tB1 X.K XR W n)) : PW X (.BoolOp .And (a :: b :: rest) pos) (tB1 X.K XR W (bindM m fun t => if t then n else pureM false)) := by
  refine PW_imp (pw_and ha hb) fun σ H Q ⟨Z, T, e, g, h⟩ => ?_
  rw [outP_bind] at h
  refine ⟨Z, T, e, g, h.imp (fun t e1 k H1 Z1 g1 => ?_) fun _ _ k => k⟩
  cases t with
  | true => rw [if_pos rfl]; exact ⟨Z1, T, e1, g1, by simpa using k⟩
  | false => rw [if_neg (by simp)]; exact k H1 Z1 g1
theorem tW_or {a b : Expr} {rest : List Expr} {m n : M Bool} {pos : Pos} (ha : PT X a (tB1 X.K XR W m)) (hb : PW X (.BoolOp .Or (b :: rest) pos) (tB1 X.K XR W n)) : PW X (.BoolOp .Or (a :: b :: rest) pos) (tB1 X.K XR W (bindM m fun t => if t then pureM true else n)) := by
  refine PW_imp (pw_or ha hb) fun σ H Q ⟨Z, T, e, g, h⟩ => ?_
  rw [outP_bind] at h
  refine ⟨Z, T, e, g, h.imp (fun t e1 k H1 Z1 g1 => ?_) fun _ _ k => k⟩
  cases t with
  | true => rw [if_pos rfl]; exact k H1 Z1 g1
  | false => rw [if_neg (by simp)]; exact ⟨Z1, T, e1, g1, by simpa using k⟩
/-! ### targets -/
/-- what keep tells is kept -/
def Mod (keep : Nat → Bool) (σ σ' : Sl) : Prop := σ'.length = σ.length ∧ ∀ j, keep j = true → σ'[j]? = σ[j]?
theorem Mod.refl {keep : Nat → Bool} {σ : Sl} : Mod keep σ σ := ⟨rfl, fun _ _ => rfl⟩
theorem Mod.trans {keep : Nat → Bool} {σ σ' σ'' : Sl} (h : Mod keep σ σ') (h' : Mod keep σ' σ'') : Mod keep σ σ'' := ⟨h'.1.trans h.1, fun j k => (h'.2 j k).trans (h.2 j k)⟩
def PxS (keep : Nat → Bool) (K : PySem.W.Frag) (XR : XRT) (W : WX) (σ : Sl) (T : List Asn) : Exn → List Val → Prop := fun x e' => ∀ σ', Mod keep σ σ' → Px K XR W σ' T x e'
theorem PxS.px {keep : Nat → Bool} {σ : Sl} {T : List Asn} {x : Exn} {e : List Val} {K : PySem.W.Frag} (h : PxS keep K XR W σ T x e) : Px K XR W σ T x e := h σ .refl
theorem PxS.next {keep : Nat → Bool} {σ σ' : Sl} {T : List Asn} {x : Exn} {e : List Val} {K : PySem.W.Frag} (h : PxS keep K XR W σ T x e) (m : Mod keep σ σ') : PxS keep K XR W σ' T x e := fun σ'' m' => h σ'' (m.trans m')
theorem PxS.drop {keep : Nat → Bool} {σ : Sl} {T Bs : List Asn} {x : Exn} {e : List Val} {K : PySem.W.Frag} (h : PxS keep K XR W σ T x e) : PxS keep K XR W σ (Bs ++ T) x e := fun σ' m => (h σ' m).drop
def gT (keep : Nat → Bool) (K : PySem.W.Frag) (XR : XRT) (W : WX) (m : Val → M Unit) : TG := fun v σ H Q => ∃ Z T e x, Good H Z (rep K v x :: (envA K σ e ++ T)) ∧ OutP (m x e) (fun _ e' => ∀ H' Z' σ', Mod keep σ σ' → Good H' Z' (envA K σ' e' ++ T) → Q σ' H') (PxS keep K XR W σ T)
def gTs (keep : Nat → Bool) (K : PySem.W.Frag) (XR : XRT) (W : WX) (m : List Val → M Unit) : TGs := fun vs σ H Q => ∃ Z T e xs, Good H Z (reps K vs xs ++ (envA K σ e ++ T)) ∧ OutP (m xs e) (fun _ e' => ∀ H' Z' σ', Mod keep σ σ' → Good H' Z' (envA K σ' e' ++ T) → Q σ' H') (PxS keep K XR W σ T)
theorem PG_imp {e : Expr} {t t' : TG} (h : PG X e t) (k : ∀ v σ H Q, t' v σ H Q → t v σ H Q) : PG X e t' := ⟨fun pins s σ H v u Q I r q => h.run pins s σ H v u Q I r (k _ _ _ _ q)⟩
theorem PGs_imp {es : List Expr} {t t' : TGs} (h : PGs X es t) (k : ∀ v σ H Q, t' v σ H Q → t v σ H Q) : PGs X es t' := ⟨fun pins s σ H v u Q I r q => h.run pins s σ H v u Q I r (k _ _ _ _ q)⟩
theorem mod_set {keep ok : Nat → Bool} (hk : ∀ j, keep j = !ok j) {σ : Sl} {i : Nat} {o : Option V} (h : ok i = true) : Mod keep σ (σ.set i o) := ⟨by simp, fun j hj => by
  have : ¬ i = j := by rintro rfl; rw [hk, h] at hj; cases hj
  rw [List.getElem?_set_ne this]⟩
theorem tT_name {keep ok : Nat → Bool} (hk : ∀ j, keep j = !ok j) {i : Nat} {x : PySem.Str} {pos : Pos} (hN : X.N.Nodup) (hi : X.N[i]? = some x) (hx : Loc X.env.scope x) (hf : X.fn x = true ∨ X.env.scope.names.lookup x = some .local) : PG X (.Name x pos) (gT keep X.K XR W fun x => fun e => if ok i then .ok () (e.set i x) else .stuck) := by
  refine PG_imp (pg_name hN hi hx hf) fun v σ H Q ⟨Z, T, e, x, g, h⟩ => ?_
  have h : OutP (if ok i = true then Out.ok () (e.set i x) else Out.stuck) (fun _ e' => ∀ H' Z' σ', Mod keep σ σ' → Good H' Z' (envA X.K σ' e' ++ T) → Q σ' H') (PxS keep X.K XR W σ T) := h
  by_cases ho : ok i = true
  · rw [if_pos ho] at h
    exact h H Z _ (mod_set hk ho) g.setS
  · rw [if_neg ho] at h
    exact h.elim
theorem tT_nil {keep : Nat → Bool} : PGs X [] (gTs keep X.K XR W fun xs => match xs with
    | [] => pureM ()
    | _ => fun _ => .stuck) := by
  refine PGs_imp pgs_nil fun vs σ H Q ⟨Z, T, e, xs, g, h⟩ => ?_
  cases xs with
  | nil =>
    have := reps0 g
    subst this
    exact ⟨rfl, h H Z σ .refl g⟩
  | cons x xs => exact h.elim
theorem tT_cons {keep : Nat → Bool} {e : Expr} {es : List Expr} {m : Val → M Unit} {n : List Val → M Unit} (h1 : PG X e (gT keep X.K XR W m)) (h2 : PGs X es (gTs keep X.K XR W n)) (hp : plainE e = true) : PGs X (e :: es) (gTs keep X.K XR W fun xs => match xs with
    | x :: xs => bindM (m x) fun _ => n xs
    | [] => fun _ => .stuck) := by
  refine PGs_imp (pgs_cons h1 h2 (by cases e <;> first | rfl | cases hp)) fun vs σ H Q ⟨Z, T, e, xs, g, h⟩ => ?_
  cases xs with
  | nil => exact h.elim
  | cons x xs =>
    cases vs with
    | nil => exact (g.noNever (by simp [reps])).elim
    | cons v vs =>
      refine ⟨v, vs, rfl, ?_⟩
      have h' : OutP (bindM (m x) (fun _ => n xs) e) (fun _ e' => ∀ H' Z' σ', Mod keep σ σ' → Good H' Z' (envA X.K σ' e' ++ T) → Q σ' H') (PxS keep X.K XR W σ T) := h
      rw [outP_bind] at h'
      have g1 : Good H Z (rep X.K v x :: (envA X.K σ e ++ (reps X.K vs xs ++ T))) := g.perm (by
        show (rep X.K v x :: (reps X.K vs xs ++ (envA X.K σ e ++ T))).Perm _
        exact List.Perm.cons _ perm_mid)
      refine ⟨Z, reps X.K vs xs ++ T, e, x, g1, h'.imp (fun _ e1 k H1 Z1 σ1 m1 g2 => ?_) fun _ _ k => k.drop⟩
      refine ⟨Z1, T, e1, xs, g2.mid, k.imp (fun _ e2 k2 H2 Z2 σ2 m2 g3 => k2 H2 Z2 σ2 (m1.trans m2) g3) fun _ _ k => k.next m1⟩
theorem good_reps {K : PySem.W.Frag} {H : Hp} {Z : ZS} {As : List Asn} : ∀ {xs : List Val} {vs : List V}, Reps K H Z xs vs [] → Good H Z As → Good H Z (reps K vs xs ++ As)
  | [], vs, r, g => by
    unfold Reps at r
    obtain ⟨rfl, _⟩ := r
    exact g
  | x :: xs, vs, r, g => by
    unfold Reps at r
    obtain ⟨v, vr, g', h, rfl, e, r1, r2⟩ := r
    obtain ⟨rfl, rfl⟩ : g' = [] ∧ h = [] := by simpa using e.symm
    exact (good_reps r2 g).new r1
theorem assign_len {es : List Expr} {env : Env} : (assignEach es env).length = es.length := by
  induction es with
  | nil => rfl
  | cons e es ih => cases e <;> (simp only [assignEach, List.length_cons]; rw [ih])
theorem assign_plain {es : List Expr} {env : Env} (h : es.all plainE = true) : (assignEach es env).findIdx? (·.1) = none := by
  induction es with
  | nil => rfl
  | cons e es ih =>
    rw [List.all_cons, Bool.and_eq_true] at h
    have : assignEach (e :: es) env = (false, assign e env) :: assignEach es env := by
      have := h.1
      cases e <;> first | rfl | cases this
    rw [this, List.findIdx?_cons, ih h.2]
    rfl
theorem tT_tup {keep : Nat → Bool} {es : List Expr} {k n : Nat} {pos : Pos} {m : List Val → M Unit} (hc : X.calm = true) (h : PGs X es (gTs keep X.K XR W m)) (hn : es.length = n) (hp : es.all plainE = true) : PG X (.Tuple es k pos) (gT keep X.K XR W fun x => match x with
    | .tup xs => if xs.length = n then m xs else fun _ => .stuck
    | _ => fun _ => .stuck) := by
  refine PG_imp (pg_tup (n := n) hc h (by rw [assign_len]; exact hn) (assign_plain hp)) fun v σ H Q ⟨Z, T, e, x, g, h⟩ => ?_
  cases x with
  | tup xs =>
    have h' : OutP ((if xs.length = n then m xs else fun _ => .stuck) e) (fun _ e' => ∀ H' Z' σ', Mod keep σ σ' → Good H' Z' (envA X.K σ' e' ++ T) → Q σ' H') (PxS keep X.K XR W σ T) := h
    split at h'
    · rename_i hl
      obtain ⟨f, r⟩ := g.rp
      unfold Rep at r
      obtain ⟨_, a, vs, rfl, hq, rs⟩ := r
      exact ⟨a, vs, rfl, hq, by rw [rs.len]; exact hl, Z, T, e, xs, good_reps rs g.drop, h'⟩
    · exact h'.elim
  | _ => exact h.elim
def rSt (K : PySem.W.Frag) : TSet := fun o i v H Q => ∃ Z ov y x nv As, Good H Z (rep K o ov :: rep K i y :: rep K v x :: As) ∧ setV ov y x = some nv ∧ ∀ H' Z', Good H' Z' (rep K o nv :: As) → Q H'
theorem set_any (hu : X.A.units + 1 < cLine) : PSet X (rSt X.K) := by
  intro pins s σ H o i v ov iv u Q I ro ri rv h
  obtain ⟨Z, ov', y, x, nv, As, g, e, q⟩ := h
  unfold setV at e
  split at e
  · -- ow
    rename_i xs k
    split at e
    · rename_i z n hz hn
      cases e
      have g0 : Good H Z (rep X.K v x :: rep X.K o (.lst .ow xs) :: rep X.K i (.int k) :: As) := g.perm (permC fun a => by simp only [cnt_cons, cnt_append, cnt_nil]; omega)
      obtain ⟨Z1, hz1, g1⟩ := g0.letgo hz
      obtain ⟨f, rz⟩ := g1.rp
      have ef : f = [] := Rep.freeOf (frz_free hz) rz
      subst ef
      have g2 := g1.drop
      obtain ⟨f2, r2⟩ := g2.rp
      obtain ⟨f3, r3⟩ := g2.rp2
      have hi : i = .int k := r3.1
      subst hi
      have r2' := r2
      unfold Rep at r2'
      obtain ⟨a, ws, rfl, rfl, hH, rs⟩ := r2'
      refine set_list pins s σ H _ _ v ov iv u Q I ro ri rv ⟨a, ws, k, n, rfl, rfl, hH, by rw [rs.len]; exact hn, ?_⟩
      have g3 : Good H Z1 (rep X.K (.ref a) (.lst .ow xs) :: As) := (g2.perm (List.Perm.swap _ _ _)).drop
      exact q _ _ (g3.setL (Reps.set0 rs rz)).1
    · cases e
  · -- ne
    rename_i xs k
    split at e
    · rename_i n hn
      cases e
      have g0 : Good H Z (rep X.K o (.lst .ne xs) :: rep X.K v x :: rep X.K i (.int k) :: As) := g.perm (permC fun a => by simp only [cnt_cons, cnt_append, cnt_nil]; omega)
      obtain ⟨f2, r2⟩ := g0.rp
      obtain ⟨f3, r3⟩ := g0.drop.rp2
      have hi : i = .int k := r3.1
      subst hi
      have r2' := r2
      unfold Rep at r2'
      obtain ⟨a, ws, gg, rfl, rfl, hH, rs⟩ := r2'
      refine set_list pins s σ H _ _ v ov iv u Q I ro ri rv ⟨a, ws, k, n, rfl, rfl, hH, by rw [rs.len]; exact hn, ?_⟩
      have g3 : Good H Z (rep X.K (.ref a) (.lst .ne xs) :: rep X.K v x :: As) := (g0.perm (permC fun a => by simp only [cnt_cons, cnt_append, cnt_nil]; omega) : Good H Z (rep X.K (.int k) (.int k) :: rep X.K (.ref a) (.lst .ne xs) :: rep X.K v x :: As)).drop
      exact q _ _ (g3.setN hH (ixN_lt hn))
    · cases e
  · -- dict
    rename_i kvs
    split at e
    · rename_i z qk hz hk
      split at e
      · rename_i hl
        cases e
        have g0 : Good H Z (rep X.K v x :: rep X.K o (.dic .ow kvs) :: rep X.K i y :: As) := g.perm (permC fun a => by simp only [cnt_cons, cnt_append, cnt_nil]; omega)
        obtain ⟨Z1, hz1, g1⟩ := g0.letgo hz
        obtain ⟨f, rz⟩ := g1.rp
        have ef : f = [] := Rep.freeOf (frz_free hz) rz
        subst ef
        have g2 := g1.drop
        obtain ⟨f2, r2⟩ := g2.rp
        obtain ⟨f3, r3⟩ := g2.rp2
        have hi := key_rep r3 hk
        subst hi
        have r2' := r2
        unfold Rep at r2'
        obtain ⟨a, ws, rfl, rfl, hH, rs⟩ := r2'
        refine set_dict hu pins s σ H _ _ v ov iv u Q I ro ri rv ⟨a, _, rfl, DPut.k hH (by rw [rs.len]; exact hl), ?_⟩
        have g3 : Good H Z1 (rep X.K (.ref a) (.dic .ow kvs) :: As) := (g2.perm (List.Perm.swap _ _ _)).drop
        exact q _ _ (g3.setD (RepKs.putL rs rz)).1
      · cases e
    · cases e
  · cases e
theorem tT_sub {keep : Nat → Bool} {o i : Expr} {ma : M (Val × Tk)} {mb : M Val} {pos : Pos} (hu : X.A.units + 1 < cLine) (ho : PE X o (tG X.K XR W ma)) (hi : PE X i (tE X.K XR W mb)) (hs : ∀ v, assign (.Subscript o i pos) X.env v = (do
      let ov ← holding [v] (eval o X.env)
      let iv ← holding [v, ov] (eval i X.env)
      standAt pos
      holding [v, ov, iv] (setItem ov iv v)
      release [v, ov, iv] [])) : PG X (.Subscript o i pos) (gT keep X.K XR W fun x => bindM ma fun p => bindM mb fun y => bindM (liftM (setV p.1 y x)) fun z => plug p.2 z) := by
  refine PG_imp (pg_sub ho hi (set_any hu) hs) fun v σ H Q ⟨Z, T, e, x, g, h⟩ => ?_
  rw [outP_bind] at h
  refine ⟨Z, [rep X.K v x] ++ T, e, g.perm (permC fun a => by simp only [cnt_cons, cnt_append, cnt_nil]; omega), h.imp (fun p e1 k H1 Z1 w g1 => ?_) fun _ _ k => (k.px).drop⟩
  rw [outP_bind] at k
  refine ⟨Z1, argA X.K σ w p ++ ([rep X.K v x] ++ T), e1, g1.mid, k.imp (fun y e2 k2 H2 Z2 t g2 => ?_) fun _ _ k => ((k.px).drop).dropA⟩
  rw [outP_bind, outP_lift] at k2
  obtain ⟨z, ez, k2⟩ := k2
  refine ⟨Z2, p.1, y, x, z, tkA X.K σ w p.2 ++ (envA X.K σ e2 ++ T), g2.perm (permC fun a => by simp only [cnt_cons, cnt_append, cnt_nil, argA]; omega), ez, fun H' Z' g3 => ?_⟩
  obtain ⟨e3, q1, g4⟩ := g3.plug
  rw [q1] at k2
  exact k2 H' Z' σ .refl g4
end
end Nd

/-! NdP: comprehensions. -/
namespace Nd
open PySem PySem.Spec PyProof.Rows L2
section
variable {K : PySem.W.Frag}
theorem envA_out : ∀ (σ : Sl) (e : List Val) (i : Nat) (o : Option V), e.length ≤ i → envA K (σ.set i o) e = envA K σ e := by
  intro σ
  induction σ with
  | nil => intro e i o _; rfl
  | cons a σ ih =>
    intro e i o hh
    cases e with
    | nil => cases i <;> rfl
    | cons x e =>
      cases i with
      | zero => simp at hh
      | succ i =>
        show repO K a x :: envA K (σ.set i o) e = _
        rw [ih e i o (by simpa using hh)]
        rfl
theorem wipe_at : ∀ {own : List Nat} {σ : Sl} {j : Nat}, (wipe σ own)[j]? = if j ∈ own ∧ j < σ.length then some none else σ[j]?
  | [], σ, j => by simp [wipe]
  | i :: r, σ, j => by
    unfold wipe
    by_cases h : i = j
    · subst h
      by_cases hl : i < σ.length
      · rw [List.getElem?_set_self (by rw [wipe_length]; exact hl), if_pos ⟨by simp, hl⟩]
      · rw [List.getElem?_eq_none (by simp [wipe_length]; omega), if_neg (fun z => hl z.2), List.getElem?_eq_none (by omega)]
    · rw [List.getElem?_set_ne h, wipe_at]
      have : (j ∈ i :: r) ↔ j ∈ r := by simp [Ne.symm h]
      simp only [this]
theorem mod_wipe {own : List Nat} {σ σ' : Sl} {keep : Nat → Bool} (hk : ∀ j, keep j = !own.contains j) (m : Mod keep (wipe σ own) σ') : wipe σ' own = wipe σ own := by
  apply List.ext_getElem?
  intro j
  have hl : σ'.length = σ.length := by rw [m.1, wipe_length]
  rw [wipe_at, wipe_at, hl]
  by_cases h : j ∈ own
  · by_cases h2 : j < σ.length
    · rw [if_pos ⟨h, h2⟩, if_pos ⟨h, h2⟩]
    · rw [if_neg (fun z => h2 z.2), if_neg (fun z => h2 z.2), List.getElem?_eq_none (by omega), List.getElem?_eq_none (by omega)]
  · rw [if_neg (fun z => h z.1), if_neg (fun z => h z.1), m.2 j (by rw [hk]; simp [h]), wipe_at, if_neg (fun z => h z.1)]
theorem restores_len : ∀ {own : List Nat} {xs e : List Val}, (restores own xs e).length = e.length
  | [], _, _ => rfl
  | _ :: _, [], _ => rfl
  | i :: r, x :: xs, e => by
    show ((restores r xs e).set i x).length = _
    rw [List.length_set, restores_len]
theorem restores_set : ∀ {own : List Nat} {xs e : List Val} {i : Nat} {x : Val}, i ∉ own → restores own xs (e.set i x) = (restores own xs e).set i x
  | [], _, _, _, _, _ => rfl
  | _ :: _, [], _, _, _, _ => rfl
  | j :: r, y :: xs, e, i, x, h => by
    show (restores r xs (e.set i x)).set j y = ((restores r xs e).set j y).set i x
    rw [restores_set (fun z => h (by simp [z]))]
    exact List.set_comm _ _ (fun z => h (by simp [z]))
theorem restores_wipes : ∀ {own : List Nat} {xs e : List Val}, own.Nodup → xs.length = own.length → restores own xs (wipes own e) = restores own xs e
  | [], _, _, _, _ => rfl
  | _ :: _, [], _, _, h => by simp at h
  | i :: r, x :: xs, e, nd, h => by
    have hi := (List.nodup_cons.mp nd).1
    show (restores r xs ((wipes r e).set i .und)).set i x = (restores r xs e).set i x
    rw [restores_set hi, List.set_set, restores_wipes (List.nodup_cons.mp nd).2 (by simpa using h)]
/-- a block's own slots: set aside, and put back -/
theorem wipe_split (e : List Val) (σ : Sl) : ∀ own : List Nat, own.Nodup → ∃ S : List Asn, (∀ H Z Bs, Good H Z (envA K σ e ++ Bs) → Good H Z (envA K (wipe σ own) (wipes own e) ++ (S ++ Bs))) ∧
    (∀ H Z Bs e'', Good H Z (envA K (wipe σ own) e'' ++ (S ++ Bs)) → Good H Z (envA K σ (restores own (saves own e) e'') ++ Bs))
  | [], _ => ⟨[], fun _ _ _ g => g, fun _ _ _ _ g => g⟩
  | i :: r, nd => by
    have hi := (List.nodup_cons.mp nd).1
    obtain ⟨Sr, f1, f2⟩ := wipe_split e σ r (List.nodup_cons.mp nd).2
    have hw : (wipe σ r)[i]? = σ[i]? := by rw [wipe_at, if_neg (fun z => hi z.1)]
    have hwe : (wipes r e)[i]? = e[i]? := by
      clear f1 f2 hw nd
      induction r with
      | nil => rfl
      | cons j r ih =>
        show ((wipes r e).set j .und)[i]? = _
        rw [List.getElem?_set_ne (fun z => hi (by simp [z])), ih (fun z => hi (by simp [z]))]
    have hwl : (wipes r e).length = e.length := by
      clear f1 f2 hw hwe nd hi
      induction r with
      | nil => rfl
      | cons j r ih => show ((wipes r e).set j .und).length = _; rw [List.length_set, ih]
    -- back where the slot isn't one of e''
    have over : ∀ (H : Hp) (Z : ZS) (Bs : List Asn) (e'' : List Val) (S : List Asn), e''.length ≤ i → Good H Z (envA K (wipe σ (i :: r)) e'' ++ (Sr ++ Bs)) → Good H Z (envA K σ (restores (i :: r) (saves (i :: r) e) e'') ++ Bs) := fun H Z Bs e'' S hlt g => by
      have g1 : Good H Z (envA K ((wipe σ r).set i none) e'' ++ (Sr ++ Bs)) := g
      rw [envA_out _ _ _ _ hlt] at g1
      have g2 := f2 H Z Bs e'' g1
      show Good H Z (envA K σ ((restores r (saves r e) e'').set i (e.getD i .und)) ++ Bs)
      have e2 : (restores r (saves r e) e'').set i (e.getD i .und) = restores r (saves r e) e'' := List.set_eq_of_length_le (by rw [restores_len]; exact hlt)
      rw [e2]
      exact g2
    by_cases hA : i < e.length ∧ i < σ.length
    · have hx : e[i]? = some (e[i]'hA.1) := List.getElem?_eq_getElem hA.1
      have ho : σ[i]? = some (σ[i]'hA.2) := List.getElem?_eq_getElem hA.2
      generalize hxx : e[i]'hA.1 = x at hx
      generalize hoo : σ[i]'hA.2 = o at ho
      refine ⟨repO K o x :: Sr, fun H Z Bs g => ?_, fun H Z Bs e'' g => ?_⟩
      · have g1 := f1 H Z Bs g
        obtain ⟨R, p, q⟩ := envA_at (K := K) (hw.trans ho) (hwe.trans hx)
        show Good H Z (envA K ((wipe σ r).set i none) ((wipes r e).set i .und) ++ (repO K o x :: (Sr ++ Bs)))
        have g2 : Good H Z (repO K o x :: (R ++ (Sr ++ Bs))) := g1.perm (p.append_right _)
        have g3 : Good H Z (repO K none .und :: repO K o x :: (R ++ (Sr ++ Bs))) := g2.new ⟨rfl, rfl⟩
        have g4 : Good H Z ((repO K none .und :: R) ++ (repO K o x :: (Sr ++ Bs))) := g3.perm (permC fun a => by simp only [cnt_cons, cnt_append]; omega)
        exact g4.perm ((q none .und).symm.append_right _)
      · by_cases hlt : i < e''.length
        · have hs : ((wipe σ r).set i none)[i]? = some none := List.getElem?_set_self (by rw [wipe_length]; exact hA.2)
          obtain ⟨R, p, q⟩ := envA_at (K := K) hs (List.getElem?_eq_getElem hlt)
          have g1 : Good H Z (envA K ((wipe σ r).set i none) e'' ++ (repO K o x :: (Sr ++ Bs))) := g
          have g2 : Good H Z (repO K none e''[i] :: (R ++ (repO K o x :: (Sr ++ Bs)))) := g1.perm (p.append_right _)
          have g3 : Good H Z ((repO K o x :: R) ++ (Sr ++ Bs)) := g2.drop.perm (permC fun a => by simp only [cnt_cons, cnt_append]; omega)
          have g4 := g3.perm ((q o x).symm.append_right _)
          rw [List.set_set, set_same (hw.trans ho)] at g4
          have g5 := f2 H Z Bs _ g4
          rw [restores_set hi] at g5
          show Good H Z (envA K σ ((restores r (saves r e) e'').set i (e.getD i .und)) ++ Bs)
          have : e.getD i .und = x := by rw [List.getD_eq_getElem?_getD, hx]; rfl
          rw [this]
          exact g5
        · refine over H Z Bs e'' [] (by omega) ?_
          have g1 : Good H Z (repO K o x :: (envA K (wipe σ (i :: r)) e'' ++ (Sr ++ Bs))) := g.perm (permC fun a => by simp only [cnt_cons, cnt_append]; omega)
          exact g1.drop
    · refine ⟨Sr, fun H Z Bs g => ?_, fun H Z Bs e'' g => ?_⟩
      · have hl := good_len g
        have hle : e.length ≤ i := by omega
        show Good H Z (envA K ((wipe σ r).set i none) ((wipes r e).set i .und) ++ (Sr ++ Bs))
        have e2 : (wipes r e).set i .und = wipes r e := List.set_eq_of_length_le (by rw [hwl]; exact hle)
        rw [e2, envA_out _ _ _ _ (by rw [hwl]; exact hle)]
        exact f1 H Z Bs g
      · by_cases hlt : i < e''.length
        · have hl := good_len g
          have hl2 : e''.length ≤ σ.length := by
            have h2 : (wipe σ (i :: r)).length = σ.length := wipe_length _ _
            omega
          have hle : e.length ≤ i := by omega
          have ho : σ[i]? = some (σ[i]'(by omega)) := List.getElem?_eq_getElem (by omega)
          generalize hoo : σ[i]'(by omega) = o at ho
          have hs : ((wipe σ r).set i none)[i]? = some none := List.getElem?_set_self (by rw [wipe_length]; omega)
          obtain ⟨R, p, q⟩ := envA_at (K := K) hs (List.getElem?_eq_getElem hlt)
          have g1 : Good H Z (envA K ((wipe σ r).set i none) e'' ++ (Sr ++ Bs)) := g
          have g2 : Good H Z (repO K none e''[i] :: (R ++ (Sr ++ Bs))) := g1.perm (p.append_right _)
          have g3 : Good H Z ((repO K o .und :: R) ++ (Sr ++ Bs)) := g2.drop.new (by
            cases o with
            | none => exact ⟨rfl, rfl⟩
            | some v => exact rfl)
          have g4 := g3.perm ((q o .und).symm.append_right _)
          rw [List.set_set, set_same (hw.trans ho)] at g4
          have g5 := f2 H Z Bs _ g4
          rw [restores_set hi] at g5
          show Good H Z (envA K σ ((restores r (saves r e) e'').set i (e.getD i .und)) ++ Bs)
          have : e.getD i .und = .und := by rw [List.getD_eq_getElem?_getD, List.getElem?_eq_none (by omega)]; rfl
          rw [this]
          exact g5
        · exact over H Z Bs e'' [] (by omega) g
theorem wipe_any {H : Hp} {Z : ZS} {e : List Val} {σ : Sl} {own : List Nat} {Bs : List Asn} (nd : own.Nodup) (g : Good H Z (envA K σ e ++ Bs)) : Good H Z (envA K (wipe σ own) (wipes own e) ++ Bs) := by
  obtain ⟨S, f1, _⟩ := wipe_split (K := K) e σ own nd
  exact ((f1 H Z Bs g).mid).dropL
end
def isOw : Md → Bool
  | .ow => true
  | .ne => true
  | _ => false
theorem Good.newE {K : PySem.W.Frag} {H : Hp} {Z : ZS} {As : List Asn} {md : Md} {p : Addr} (h : Good H Z As) (hm : isOw md = true) (hp : H p = none) : Good (upd H p (.lst [])) Z (rep K (.ref p) (.lst md []) :: As) := by
  refine h.allocOwn hp ?_
  show Rep K _ Z (.lst md []) (.ref p) [p]
  cases md <;> first | cases hm | (unfold Rep)
  · exact ⟨p, [], rfl, rfl, upd_same, Reps.nil⟩
  · exact ⟨p, [], [], rfl, rfl, upd_same, Reps.nil⟩
/-- one more item -/
theorem Good.push {K : PySem.W.Frag} {H : Hp} {Z : ZS} {As : List Asn} {md : Md} {D : Addr} {acc : List Val} {y : Val} {v : V} (g : Good H Z (rep K v y :: rep K (.ref D) (.lst md acc) :: As)) {z : Val} (hz : (md = .ow ∧ frz y = some z) ∨ (md = .ne ∧ z = y)) :
    ∃ ws, H D = some (.lst ws) ∧ ws.length = acc.length ∧ ∃ Z', Good (upd H D (.lst (ws ++ [v]))) Z' (rep K (.ref D) (.lst md (acc ++ [z])) :: As) := by
  rcases hz with ⟨rfl, hz⟩ | ⟨rfl, rfl⟩
  · obtain ⟨Z1, hz1, g1⟩ := g.letgo hz
    obtain ⟨f, rz⟩ := g1.rp
    have ef : f = [] := Rep.freeOf (frz_free hz) rz
    subst ef
    obtain ⟨f2, r2⟩ := g1.drop.rp
    have r2' := r2
    unfold Rep at r2'
    obtain ⟨a, ws, rfl, e, hH, rs⟩ := r2'
    cases e
    exact ⟨ws, hH, rs.len, Z1, (g1.drop.setL (Reps.append rs (Reps.one rz))).1⟩
  · obtain ⟨f2, r2⟩ := g.rp2
    have r2' := r2
    unfold Rep at r2'
    obtain ⟨a, ws, gg, rfl, e, hH, rs⟩ := r2'
    cases e
    exact ⟨ws, hH, rs.len, Z, (g.perm (List.Perm.swap _ _ _)).appN hH⟩
section
variable {XR : XRT} {W : WX} {X : Cx}
abbrev WF : WX := fun _ _ _ _ => False
/-- a turn -/
def turnM (mt : Val → M Unit) (mc : M Bool) (me : M Val) : Val → M (Option Val) := fun x => bindM (mt x) fun _ => bindM mc fun b => if b then bindM me fun y => pureM (some y) else pureM none
def compM (mI : M (List Val × List (Val × Tk))) (body : Val → M (Option Val)) (md : Md) (own : List Nat) : M Val := bindM mI fun q => fun e => bindM (fun e' => compL (fun x => fun e1 => noexc (body x) (wipes own e1)) md q.1 [] e') (fun r => fun e'' => bindM (plugs q.2 (q.2.map (·.1))) (fun _ => pureM (.lst md r)) (restores own (saves own e) e'')) e
theorem comp_ok {mI : M (List Val × List (Val × Tk))} {mt : Val → M Unit} {mc : M Bool} {me : M Val} {md : Md} {own : List Nat} {σ : Sl} {H : Hp} {Q : VK} (nd : own.Nodup) (hmd : isOw md = true) (h : tE X.K XR W (compM mI (turnM mt mc me) md own) σ H Q) :
    tLc (tI X.K XR W mI) (gT (fun j => !own.contains j) X.K XR WF mt) (tB1 X.K XR WF mc) (tE X.K XR WF me) own σ H Q := by
  obtain ⟨Z, T, e, g, h⟩ := h
  unfold compM at h
  rw [outP_bind] at h
  refine ⟨Z, T, e, g, h.imp (fun q e0 k H1 Z1 vs J g1 w => ?_) fun _ _ k => k⟩
  rw [outP_bind] at k
  intro D hD
  generalize hA : argsA X.K σ vs q.2 = A at g1 w
  obtain ⟨S, f1, f2⟩ := wipe_split (K := X.K) e0 σ own nd
  generalize hF : (fun x => fun e1 => noexc (turnM mt mc me x) (wipes own e1)) = F at k
  -- what holds at each turn
  let Inv' : Nat → Hp → Prop := fun i H => ∃ Z acc e1, Good H Z (rep X.K (.ref D) (.lst md acc) :: (A ++ (envA X.K (wipe σ own) (wipes own e1) ++ (S ++ T)))) ∧ OutP (compL F md (q.1.drop i) acc e1) (fun r e'' => OutP (bindM (plugs q.2 (q.2.map (·.1))) (fun _ => pureM (.lst md r)) (restores own (saves own e0) e'')) (fun r e' => ∀ H' Z' v, Good H' Z' (rep X.K v r :: (envA X.K σ e' ++ T)) → Q v H') (Px X.K XR W σ T)) (Px X.K XR W σ T)
  refine ⟨fun i m H => m = q.1.length - i ∧ i ≤ q.1.length ∧ Inv' i H, ⟨q.1.length, by simp, Nat.zero_le _, Z1, [], e0, ?_, by simpa using k⟩, ?_⟩
  · -- the start
    have g2 : Good H1 Z1 (envA X.K σ e0 ++ (A ++ T)) := g1.mid
    have g3 := f1 _ _ _ g2
    have g4 : Good H1 Z1 (A ++ (envA X.K (wipe σ own) (wipes own e0) ++ (S ++ T))) := g3.perm (permC fun a => by simp only [cnt_append]; omega)
    exact g4.newE hmd hD
  · rintro i m H2 ⟨rfl, hi, Z2, acc, e1, g2, k2⟩
    have gA : Good H2 Z2 (A ++ (rep X.K (.ref D) (.lst md acc) :: (envA X.K (wipe σ own) (wipes own e1) ++ (S ++ T)))) := g2.perm (permC fun a => by simp only [cnt_append, cnt_cons]; omega)
    have wk := w H2 Z2 _ i gA
    by_cases hlt : i < q.1.length
    · have hx : q.1[i]? = some q.1[i] := List.getElem?_eq_getElem hlt
      obtain ⟨go, yld⟩ := wk.1 _ hx
      refine .inr ⟨go, fun H' => q.1.length - (i + 1) = q.1.length - (i + 1) ∧ i + 1 ≤ q.1.length ∧ Inv' (i + 1) H', fun H' n' => ⟨q.1.length - (i + 1), by omega, n'⟩, fun v H3 y => ?_⟩
      have g3 := yld v H3 y
      -- the turn's code
      rw [List.drop_eq_getElem_cons hlt] at k2
      unfold compL at k2
      rw [outP_bind, ← hF] at k2
      have k3 := outP_noexc (E' := PxS (fun j => !own.contains j) X.K XR WF (wipe σ own) (rep X.K (.ref D) (.lst md acc) :: (A ++ (S ++ T)))) (show OutP (noexc (turnM mt mc me q.1[i]) (wipes own e1)) _ _ from k2)
      have k4 : OutP (turnM mt mc me q.1[i] (wipes own e1)) _ _ := outP_noexc (E' := fun _ _ => False) (show OutP (noexc (turnM mt mc me q.1[i]) (wipes own e1)) _ _ from k2)
      rw [hF] at k4
      unfold turnM at k4
      rw [outP_bind] at k4
      have gX : Good H3 Z2 (rep X.K v q.1[i] :: (envA X.K (wipe σ own) (wipes own e1) ++ (rep X.K (.ref D) (.lst md acc) :: (A ++ (S ++ T))))) := g3.perm (permC fun a => by simp only [cnt_append, cnt_cons]; omega)
      have next : ∀ {H5 : Hp} {Z5 : ZS} {acc' : List Val} {σ2 : Sl} {e5 : List Val}, Mod (fun j => !own.contains j) (wipe σ own) σ2 → Good H5 Z5 (rep X.K (.ref D) (.lst md acc') :: (envA X.K σ2 e5 ++ (A ++ (S ++ T)))) → OutP (compL F md (q.1.drop (i + 1)) acc' e5) (fun r e'' => OutP (bindM (plugs q.2 (q.2.map (·.1))) (fun _ => pureM (.lst md r)) (restores own (saves own e0) e'')) (fun r e' => ∀ H' Z' v, Good H' Z' (rep X.K v r :: (envA X.K σ e' ++ T)) → Q v H') (Px X.K XR W σ T)) (Px X.K XR W σ T) →
          q.1.length - (i + 1) = q.1.length - (i + 1) ∧ i + 1 ≤ q.1.length ∧ Inv' (i + 1) H5 := fun {H5 Z5 acc' σ2 e5} m5 g5 k5 => by
        refine ⟨rfl, hlt, Z5, acc', e5, ?_, k5⟩
        have g6 : Good H5 Z5 (envA X.K σ2 e5 ++ (rep X.K (.ref D) (.lst md acc') :: (A ++ (S ++ T)))) := g5.perm (permC fun a => by simp only [cnt_append, cnt_cons]; omega)
        have g7 := wipe_any nd g6
        rw [mod_wipe (fun _ => rfl) m5] at g7
        exact g7.perm (permC fun a => by simp only [cnt_append, cnt_cons]; omega)
      refine ⟨Z2, rep X.K (.ref D) (.lst md acc) :: (A ++ (S ++ T)), wipes own e1, q.1[i], gX, k4.imp (fun _ e2 k5 H4 Z4 σ2 m2 g4 => ⟨mod_wipe (fun _ => rfl) m2, ?_⟩) fun _ _ z => False.elim z⟩
      rw [outP_bind] at k5
      refine ⟨Z4, rep X.K (.ref D) (.lst md acc) :: (A ++ (S ++ T)), e2, g4, k5.imp (fun b e3 k6 H5 Z5 g5 => ?_) fun _ _ z => False.elim z⟩
      cases b with
      | false =>
        rw [if_neg (by simp)]
        have k7 : OutP (compL F md (q.1.drop (i + 1)) acc e3) _ _ := k6
        exact next m2 (g5.perm (permC fun a => by simp only [cnt_append, cnt_cons]; omega)) k7
      | true =>
        rw [if_pos rfl]
        rw [if_pos rfl, outP_bind] at k6
        refine ⟨Z5, rep X.K (.ref D) (.lst md acc) :: (A ++ (S ++ T)), e3, g5, k6.imp (fun y e4 k7 H6 Z6 u g6 => ?_) fun _ _ z => False.elim z⟩
        have g7 : Good H6 Z6 (rep X.K u y :: rep X.K (.ref D) (.lst md acc) :: (envA X.K σ2 e4 ++ (A ++ (S ++ T)))) := g6.perm (permC fun a => by simp only [cnt_append, cnt_cons]; omega)
        have k8 : OutP ((if acc.length < sizeLine then (match md with
          | .ow => match frz y with
            | some z => compL F md (q.1.drop (i + 1)) (acc ++ [z])
            | none => fun _ => .stuck
          | .ne => compL F md (q.1.drop (i + 1)) (acc ++ [y])
          | _ => fun _ => .stuck) else fun _ => .stuck) e4) _ _ := k7
        split at k8
        · rename_i hl
          cases md with
          | fz => cases hmd
          | sc => cases hmd
          | ow =>
            cases hz : frz y with
            | none => simp only [hz] at k8; exact k8.elim
            | some z =>
              simp only [hz] at k8
              obtain ⟨ws, hD6, hwl, Z7, g8⟩ := g7.push (.inl ⟨rfl, hz⟩)
              exact ⟨ws, hD6, by rw [hwl]; exact hl, next m2 g8 k8⟩
          | ne =>
            obtain ⟨ws, hD6, hwl, Z7, g8⟩ := g7.push (.inr ⟨rfl, rfl⟩)
            exact ⟨ws, hD6, by rw [hwl]; exact hl, next m2 g8 k8⟩
        · exact k8.elim
    · have ei : i = q.1.length := by omega
      refine .inl ⟨wk.2 ei, ?_⟩
      rw [ei, List.drop_length] at k2
      have k3 : OutP (bindM (plugs q.2 (q.2.map (·.1))) (fun _ => pureM (.lst md acc)) (restores own (saves own e0) e1)) (fun r e' => ∀ H' Z' v, Good H' Z' (rep X.K v r :: (envA X.K σ e' ++ T)) → Q v H') (Px X.K XR W σ T) := k2
      have g3 : Good H2 Z2 (envA X.K (wipe σ own) (wipes own e1) ++ (S ++ (rep X.K (.ref D) (.lst md acc) :: (A ++ T)))) := g2.perm (permC fun a => by simp only [cnt_append, cnt_cons]; omega)
      have g4 := f2 _ _ _ _ g3
      rw [restores_wipes nd (by simp [saves])] at g4
      have g5 : Good H2 Z2 (argsA X.K σ vs q.2 ++ (envA X.K σ (restores own (saves own e0) e1) ++ (rep X.K (.ref D) (.lst md acc) :: T))) := by
        rw [hA]
        exact g4.perm (permC fun a => by simp only [cnt_append, cnt_cons]; omega)
      obtain ⟨e5, q1, g6⟩ := g5.plugsId
      rw [outP_bind, q1] at k3
      exact k3 H2 Z2 _ (g6.perm (permC fun a => by simp only [cnt_append, cnt_cons]; omega))
end
end Nd

/-! NdQ: statements. -/
namespace Nd
open PySem PySem.Spec PyProof.Rows L2
theorem asn_eq {A B : Asn} (h : A.p = B.p) : A = B := by
  cases A; cases B; cases h; rfl
section
variable {XR : XRT} {W : WX} {X : Cx}
/-! ### comprehensions, as values -/
theorem tE_comp {elt tg iter : Expr} {ifs : List Expr} {scope : Scope} {ownL : List (PySem.Str × Nat)} {pos : Pos} {mI : M (List Val × List (Val × Tk))} {mt : Val → M Unit} {mc : M Bool} {me : M Val} {md : Md} (hc : X.calm = true) (hN : X.N.Nodup) (hi : PI X tg iter (tI X.K XR W mI)) (ok : BlkOk X.N X.env.scope scope ownL) (nd : (ownL.map (·.2)).Nodup) (hmd : isOw md = true)
    (hg : ∀ (s : Shared) (H : Hp) (C : Addr) (cl : List (PySem.Str × Addr)) (fp : List Addr), PG (X.blk s H scope (compEnvC scope cl C X.env) fp) tg (gT (fun j => !(ownL.map (·.2)).contains j) X.K XR WF mt))
    (ht : ∀ (s : Shared) (H : Hp) (C : Addr) (cl : List (PySem.Str × Addr)) (fp : List Addr), PTs (X.blk s H scope (compEnvC scope cl C X.env) fp) ifs (tB1 X.K XR WF mc))
    (he : ∀ (s : Shared) (H : Hp) (C : Addr) (cl : List (PySem.Str × Addr)) (fp : List Addr), PE (X.blk s H scope (compEnvC scope cl C X.env) fp) elt (tE X.K XR WF me)) (hs : ∀ x, foldedSetIterable iter X.env x = pure x) :
    PE X (.ListComp elt [⟨tg, iter, ifs, 0⟩] scope pos) (tE X.K XR W (compM mI (turnM mt mc me) md (ownL.map (·.2)))) :=
  PE_imp (pe_lc hc hN hi ok hg ht he hs) fun σ H Q h => comp_ok nd hmd h
theorem PTs_yes {X' : Cx} {K : PySem.W.Frag} : PTs X' [] (tB1 K XR WF (pureM true)) := ⟨fun pins s σ H Q I h => pts_nil.run pins s σ H Q I (by
  obtain ⟨Z, T, e, g, h⟩ := h
  exact h H Z g)⟩
/-! ### statements -/
def EndsOk (K : PySem.W.Frag) (D : Ends) (T : List Asn) (σ : Sl) (H : Hp) (Z : ZS) (e : List Val) : Fl → Prop
  | .nx => Good H Z (envA K σ e ++ T) → D.nx σ H
  | .ct => Good H Z (envA K σ e ++ T) → D.ct σ H
  | .bk => Good H Z (envA K σ e ++ T) → D.bk σ H
  | .rt r => ∀ v, Good H Z (rep K v r :: (envA K σ e ++ T)) → D.rt v H
def tS (keep : Nat → Bool) (K : PySem.W.Frag) (XR : XRT) (W : WX) (m : M Fl) : TS := fun D σ H => ∃ Z T e, Good H Z (envA K σ e ++ T) ∧ OutP (m e) (fun fl e' => ∀ H' Z' σ', Mod keep σ σ' → EndsOk K D T σ' H' Z' e' fl) (PxS keep K XR W σ T)
theorem PS_imp {st : Stmt} {t t' : TS} (h : PS X st t) (k : ∀ D σ H, t' D σ H → t D σ H) : PS X st t' := ⟨fun pins s σ H D I q => h.run pins s σ H D I (k _ _ _ q)⟩
theorem PSs_imp {st : List Stmt} {t t' : TS} (h : PSs X st t) (k : ∀ D σ H, t' D σ H → t D σ H) : PSs X st t' := ⟨fun pins s σ H D I q => h.run pins s σ H D I (k _ _ _ q)⟩
theorem asg_imp {keep : Nat → Bool} {m : M Val} {mt : Val → M Unit} {D : Ends} {σ : Sl} {H : Hp} (h : tS keep X.K XR W (bindM m fun x => bindM (mt x) fun _ => pureM .nx) D σ H) : tAsg (tE X.K XR W m) (gT keep X.K XR W mt) D σ H := by
  obtain ⟨Z, T, e, g, h⟩ := h
  rw [outP_bind] at h
  refine ⟨Z, T, e, g, h.imp (fun x e1 k H1 Z1 v g1 => ?_) fun _ _ k => k.px⟩
  rw [outP_bind] at k
  exact ⟨Z1, T, e1, x, g1, k.imp (fun _ e2 k2 H2 Z2 σ2 m2 g2 => k2 H2 Z2 σ2 m2 g2) fun _ _ k => k⟩
theorem tS_asg {keep : Nat → Bool} {tg e : Expr} {m : M Val} {mt : Val → M Unit} {pos : Pos} (he : PE X e (tE X.K XR W m)) (hg : PG X tg (gT keep X.K XR W mt)) (hs : swapsWithSole [tg] e pos.line X.env = pure false) (hw : swappedStores [tg] e X.env = pure none) (hp : plainE tg = true) :
    PS X (.Assign [tg] e pos) (tS keep X.K XR W (bindM m fun x => bindM (mt x) fun _ => pureM .nx)) :=
  PS_imp (ps_asg he hg hs hw (by cases tg <;> first | rfl | cases hp)) fun D σ H h => asg_imp h
/-- name = [..] on its line -/
theorem tS_setLc {keep ok' : Nat → Bool} (hk : ∀ j, keep j = !ok' j) {i : Nat} {y : PySem.Str} {py : Pos} {elt tg iter : Expr} {ifs : List Expr} {scope : Scope} {ownL : List (PySem.Str × Nat)} {pos spos : Pos} {mI : M (List Val × List (Val × Tk))} {mt : Val → M Unit} {mc : M Bool} {me : M Val} {md : Md} (hc : X.calm = true) (hN : X.N.Nodup) (hy : X.N[i]? = some y) (hyl : X.env.scope.names.lookup y = some .local)
    (hsw : swapsWith (.ListComp elt [⟨tg, iter, ifs, 0⟩] scope pos) (some (.Name y py)) spos.line X.env = pure true) (hi : PI X tg iter (tI X.K XR W mI)) (ok : BlkOk X.N X.env.scope scope ownL) (nd : (ownL.map (·.2)).Nodup) (hmd : isOw md = true)
    (hg : ∀ (s : Shared) (H : Hp) (C : Addr) (cl : List (PySem.Str × Addr)) (fp : List Addr), PG (X.blk s H scope (compEnvC scope cl C X.env) fp) tg (gT (fun j => !(ownL.map (·.2)).contains j) X.K XR WF mt))
    (ht : ∀ (s : Shared) (H : Hp) (C : Addr) (cl : List (PySem.Str × Addr)) (fp : List Addr), PTs (X.blk s H scope (compEnvC scope cl C X.env) fp) ifs (tB1 X.K XR WF mc))
    (he : ∀ (s : Shared) (H : Hp) (C : Addr) (cl : List (PySem.Str × Addr)) (fp : List Addr), PE (X.blk s H scope (compEnvC scope cl C X.env) fp) elt (tE X.K XR WF me)) (hs : ∀ x, foldedSetIterable iter X.env x = pure x) :
    PS X (.Assign [.Name y py] (.ListComp elt [⟨tg, iter, ifs, 0⟩] scope pos) spos) (tS keep X.K XR W (bindM (compM mI (turnM mt mc me) md (ownL.map (·.2))) fun x => bindM (fun e => if ok' i then .ok () (e.set i x) else .stuck) fun _ => pureM .nx)) := by
  refine PS_imp (ps_setLc hc hN hy hyl hsw hi ok hg ht he hs) fun D σ H h => ?_
  obtain ⟨Z, T, e, g, h⟩ := h
  rw [outP_bind] at h
  have h2 : tE X.K XR W (compM mI (turnM mt mc me) md (ownL.map (·.2))) σ H fun v H1 => D.nx (σ.set i (some v)) H1 := by
    refine ⟨Z, T, e, g, h.imp (fun x e1 k H1 Z1 v g1 => ?_) fun _ _ k => k.px⟩
    have k' : OutP (bindM (fun e => if ok' i then Out.ok () (e.set i x) else Out.stuck) (fun _ => pureM Fl.nx) e1) (fun fl e' => ∀ H' Z' σ', Mod keep σ σ' → EndsOk X.K D T σ' H' Z' e' fl) (PxS keep X.K XR W σ T) := k
    rw [outP_bind] at k'
    by_cases ho : ok' i = true
    · rw [if_pos ho] at k'
      exact k' H1 Z1 _ (mod_set hk ho) g1.setS
    · rw [if_neg ho] at k'
      exact k'.elim
  exact comp_ok nd hmd h2
/-! ### several at once -/
theorem sets_par {K : PySem.W.Frag} {T : List Asn} : ∀ {is : List Nat} {vs : List V} {xs : List Val} {σ : Sl} {e : List Val} {H : Hp} {Z : ZS}, is.length = xs.length → Good H Z (reps K vs xs ++ (envA K σ e ++ T)) → Good H Z (envA K ((is.zip vs).foldl (fun σ p => σ.set p.1 (some p.2)) σ) (sets is xs e) ++ T)
  | [], vs, [], σ, e, H, Z, _, g => by
    have := reps0 g
    subst this
    exact g
  | [], _, _ :: _, _, _, _, _, h, _ => by simp at h
  | _ :: _, _, [], _, _, _, _, h, _ => by simp at h
  | i :: is, [], x :: xs, σ, e, H, Z, _, g => (g.noNever (by simp [reps])).elim
  | i :: is, v :: vs, x :: xs, σ, e, H, Z, h, g => by
    have g1 : Good H Z (rep K v x :: (envA K σ e ++ (reps K vs xs ++ T))) := g.perm (List.Perm.cons _ perm_mid)
    have g2 := g1.setS (i := i)
    exact sets_par (is := is) (by simpa using h) g2.mid
def parM (io : List Nat) (is : List Nat) (m : M (List Val)) : M Fl := bindM m fun xs => if is.any (fun i => io.contains i) || !decide (xs.length = is.length) then fun _ => .stuck else fun e => .ok .nx (sets is xs e)
theorem par_imp {io is : List Nat} {m : M (List Val)} {D : Ends} {σ : Sl} {H : Hp} (h : tS (fun j => io.contains j) X.K XR W (parM io is m) D σ H) : tX X.K XR W m σ H fun vs H1 => vs.length = is.length ∧ D.nx ((is.zip vs).foldl (fun σ p => σ.set p.1 (some p.2)) σ) H1 := by
  obtain ⟨Z, T, e, g, h⟩ := h
  unfold parM at h
  rw [outP_bind] at h
  refine ⟨Z, T, e, g, h.imp (fun xs e1 k H1 Z1 vs g1 => ?_) fun _ _ k => k.px⟩
  split at k
  · exact k.elim
  · rename_i hh
    simp only [Bool.or_eq_true, not_or, Bool.not_eq_true, Bool.not_eq_true', decide_eq_false_iff_not, Decidable.not_not] at hh
    have hl := reps_len g1
    have k' : ∀ H' Z' σ', Mod (fun j => io.contains j) σ σ' → EndsOk X.K D T σ' H' Z' (sets is xs e1) .nx := k
    refine ⟨by omega, k' H1 Z1 _ ?_ (sets_par hh.2.symm g1)⟩
    have hn : ∀ i ∈ is, io.contains i = false := fun i hi => by
      have := List.any_eq_false.mp hh.1 i hi
      simpa using this
    have : ∀ (is : List Nat) (vs : List V) (σ : Sl), (∀ i ∈ is, io.contains i = false) → Mod (fun j => io.contains j) σ ((is.zip vs).foldl (fun σ p => σ.set p.1 (some p.2)) σ) := by
      intro is
      induction is with
      | nil => intro vs σ _; exact .refl
      | cons i is ih =>
        intro vs σ hh
        cases vs with
        | nil => exact .refl
        | cons v vs =>
          refine Mod.trans (σ' := σ.set i (some v)) ⟨by simp, fun j hj => ?_⟩ (ih vs _ fun i hi => hh i (by simp [hi]))
          have : ¬ i = j := by
            rintro rfl
            have hj : io.contains i = true := hj
            rw [hh i (by simp)] at hj; cases hj
          rw [List.getElem?_set_ne this]
    exact this is vs σ hn
theorem tS_par2 {io : List Nat} {i j : Nat} {x y : PySem.Str} {a b : Expr} {m : M (List Val)} {px py pt pos : Pos} {kt k2 : Nat} {pt2 : Pos} (hc : X.calm = true) (hN : X.N.Nodup) (hi : X.N[i]? = some x) (hj : X.N[j]? = some y) (hij : i ≠ j)
    (hx : X.env.scope.names.lookup x = some .local) (hy : X.env.scope.names.lookup y = some .local) (ha : PA X [a, b] (tX X.K XR W m))
    (hw : swappedStores [.Tuple [.Name x px, .Name y py] kt pt] (.Tuple [a, b] k2 pt2) X.env = pure (some [x, y])) :
    PS X (.Assign [.Tuple [.Name x px, .Name y py] kt pt] (.Tuple [a, b] k2 pt2) pos) (tS (fun j => io.contains j) X.K XR W (parM io [i, j] m)) := by
  refine PS_imp (ps_par hc hN hi hj hij hx hy ha hw rfl) fun D σ H h => ?_
  obtain ⟨Z, T, e, g, h⟩ := par_imp h
  refine ⟨Z, T, e, g, h.imp (fun xs e1 k H1 Z1 vs g1 => ?_) fun _ _ k => k⟩
  obtain ⟨k1, k2⟩ := k H1 Z1 vs g1
  match vs, k1, k2 with
  | [v, w], _, k2 => exact ⟨v, w, rfl, k2⟩
theorem tS_par3 {io : List Nat} {i j l : Nat} {x y z : PySem.Str} {a b c : Expr} {m : M (List Val)} {px py pz pt pos : Pos} {kt k2 : Nat} {pt2 : Pos} (hc : X.calm = true) (hN : X.N.Nodup) (hi : X.N[i]? = some x) (hj : X.N[j]? = some y) (hl : X.N[l]? = some z) (hij : i ≠ j) (hil : i ≠ l) (hjl : j ≠ l)
    (hx : X.env.scope.names.lookup x = some .local) (hy : X.env.scope.names.lookup y = some .local) (hz : X.env.scope.names.lookup z = some .local) (ha : PA X [a, b, c] (tX X.K XR W m))
    (hw : swappedStores [.Tuple [.Name x px, .Name y py, .Name z pz] kt pt] (.Tuple [a, b, c] k2 pt2) X.env = pure (some [x, y, z])) :
    PS X (.Assign [.Tuple [.Name x px, .Name y py, .Name z pz] kt pt] (.Tuple [a, b, c] k2 pt2) pos) (tS (fun j => io.contains j) X.K XR W (parM io [i, j, l] m)) := by
  refine PS_imp (ps_par3 hc hN hi hj hl hij hil hjl hx hy hz ha hw rfl) fun D σ H h => ?_
  obtain ⟨Z, T, e, g, h⟩ := par_imp h
  refine ⟨Z, T, e, g, h.imp (fun xs e1 k H1 Z1 vs g1 => ?_) fun _ _ k => k⟩
  obtain ⟨k1, k2⟩ := k H1 Z1 vs g1
  match vs, k1, k2 with
  | [u, v, w], _, k2 => exact ⟨u, v, w, rfl, k2⟩
/-! ### small ones -/
theorem tS_expr {keep : Nat → Bool} {e : Expr} {m : M Val} {pos : Pos} (he : PE X e (tE X.K XR W m)) (hs : swapsWith e none pos.line X.env = pure false) : PS X (.Expr e pos) (tS keep X.K XR W (bindM m fun _ => pureM .nx)) := by
  refine PS_imp (ps_expr he hs) fun D σ H ⟨Z, T, e, g, h⟩ => ?_
  rw [outP_bind] at h
  exact ⟨Z, T, e, g, h.imp (fun x e1 k H1 Z1 v g1 => k H1 Z1 σ .refl g1.drop) fun _ _ k => k.px⟩
theorem tS_doc {keep : Nat → Bool} {x : PySem.Str} {j : Nat} {pos pos' : Pos} : PS X (.Expr (.Constant (.str x) j pos) pos') (tS keep X.K XR W (pureM .nx)) :=
  PS_imp ps_doc fun D σ H ⟨Z, T, e, g, h⟩ => h H Z σ .refl g
theorem tS_ret {keep : Nat → Bool} {e : Expr} {m : M Val} {pos : Pos} (he : PE X e (tE X.K XR W m)) : PS X (.Return (some e) pos) (tS keep X.K XR W (bindM m fun x => pureM (.rt x))) := by
  refine PS_imp (ps_ret he) fun D σ H ⟨Z, T, e, g, h⟩ => ?_
  rw [outP_bind] at h
  exact ⟨Z, T, e, g, h.imp (fun x e1 k H1 Z1 v g1 => k H1 Z1 σ .refl v g1) fun _ _ k => k.px⟩
theorem tS_retN {keep : Nat → Bool} {pos : Pos} : PS X (.Return none pos) (tS keep X.K XR W (pureM (.rt .non))) :=
  PS_imp ps_retN fun D σ H ⟨Z, T, e, g, h⟩ => h H Z σ .refl .non (g.new ⟨rfl, rfl⟩)
theorem tS_pass {keep : Nat → Bool} {pos : Pos} : PS X (.Pass pos) (tS keep X.K XR W (pureM .nx)) := PS_imp ps_pass fun D σ H ⟨Z, T, e, g, h⟩ => h H Z σ .refl g
theorem tS_brk {keep : Nat → Bool} {pos : Pos} : PS X (.Break pos) (tS keep X.K XR W (pureM .bk)) := PS_imp ps_break fun D σ H ⟨Z, T, e, g, h⟩ => h H Z σ .refl g
theorem tS_cont {keep : Nat → Bool} {pos : Pos} : PS X (.Continue pos) (tS keep X.K XR W (pureM .ct)) := PS_imp ps_continue fun D σ H ⟨Z, T, e, g, h⟩ => h H Z σ .refl g
theorem tS_if {keep : Nat → Bool} {c : Expr} {a b : List Stmt} {mc : M Bool} {m n : M Fl} {pos : Pos} (hc : PT X c (tB1 X.K XR W mc)) (ha : PSs X a (tS keep X.K XR W m)) (hb : PSs X b (tS keep X.K XR W n)) : PS X (.If c a b pos) (tS keep X.K XR W (bindM mc fun t => if t then m else n)) := by
  refine PS_imp (ps_if hc ha hb) fun D σ H ⟨Z, T, e, g, h⟩ => ?_
  rw [outP_bind] at h
  refine ⟨Z, T, e, g, h.imp (fun t e1 k H1 Z1 g1 => ?_) fun _ _ k => k.px⟩
  cases t with
  | true => rw [if_pos rfl]; exact ⟨Z1, T, e1, g1, by simpa using k⟩
  | false => rw [if_neg (by simp)]; exact ⟨Z1, T, e1, g1, by simpa using k⟩
theorem tSs_nil {keep : Nat → Bool} : PSs X [] (tS keep X.K XR W (pureM .nx)) := PSs_imp pss_nil fun D σ H ⟨Z, T, e, g, h⟩ => h H Z σ .refl g
theorem tSs_cons {keep : Nat → Bool} {st : Stmt} {r : List Stmt} {m n : M Fl} (h1 : PS X st (tS keep X.K XR W m)) (h2 : PSs X r (tS keep X.K XR W n)) : PSs X (st :: r) (tS keep X.K XR W (bindM m fun
    | .nx => n
    | f => pureM f)) := by
  refine PSs_imp (pss_cons h1 h2) fun D σ H ⟨Z, T, e, g, h⟩ => ?_
  rw [outP_bind] at h
  refine ⟨Z, T, e, g, h.imp (fun fl e1 k H1 Z1 σ1 m1 => ?_) fun _ _ k => k⟩
  cases fl with
  | nx =>
    intro g1
    exact ⟨Z1, T, e1, g1, k.imp (fun fl e2 k2 H2 Z2 σ2 m2 => k2 H2 Z2 σ2 (m1.trans m2)) fun _ _ k => k.next m1⟩
  | ct => exact k H1 Z1 σ1 m1
  | bk => exact k H1 Z1 σ1 m1
  | rt v => exact k H1 Z1 σ1 m1
/-! ### loops -/
theorem slotA_eq {σ σ' : Sl} {i : Nat} {v : V} (h : σ'[i]? = σ[i]?) : slotA σ' i v = slotA σ i v := by unfold slotA; rw [h]
theorem holeA_eq {K : PySem.W.Frag} {σ σ' : Sl} {i : Nat} {xs : List Val} {n : Nat} {v : V} (h : σ'[i]? = σ[i]?) : holeA K σ' i xs n v = holeA K σ i xs n v := by
  apply asn_eq
  show (fun H Z f => ∃ a vs g, f = a :: g ∧ σ'[i]? = some (some (.ref a)) ∧ H a = some (.lst vs) ∧ vs[n]? = some v ∧ Reps K H Z (xs.set n .und) vs g) = _
  rw [h]
  rfl
theorem argsA_eq {K : PySem.W.Frag} {σ σ' : Sl} : ∀ {vs : List V} {ps : List (Val × Tk)}, (∀ i ∈ slotsOf ps, σ'[i]? = σ[i]?) → argsA K σ' vs ps = argsA K σ vs ps
  | [], [], _ => rfl
  | [], _ :: _, _ => rfl
  | _ :: _, [], _ => rfl
  | v :: vs, (x, k) :: ps, h => by
    have h2 : ∀ i ∈ slotsOf ps, σ'[i]? = σ[i]? := fun i hi => h i (by
      unfold slotsOf at hi ⊢
      rw [List.filterMap_cons]
      split
      · exact hi
      · exact List.mem_cons_of_mem _ hi)
    have e1 : tkA K σ' v k = tkA K σ v k := by
      cases k with
      | no => rfl
      | sl i => show [slotA σ' i v] = [slotA σ i v]; rw [slotA_eq (h i (by simp [slotsOf]))]
      | it i xs n => show [holeA K σ' i xs n v] = [holeA K σ i xs n v]; rw [holeA_eq (h i (by simp [slotsOf]))]
    show argA K σ' v (x, k) ++ argsA K σ' vs ps = argA K σ v (x, k) ++ argsA K σ vs ps
    rw [argsA_eq h2]
    unfold argA
    rw [e1]
def forM' (mI : M (List Val × List (Val × Tk))) (mt : List Nat → Val → M Unit) (mb : List Nat → M Fl) (io : List Nat) : M Fl := bindM mI fun q => bindM (forL (fun x => bindM (mt (slotsOf q.2 ++ io) x) fun _ => mb (slotsOf q.2 ++ io)) q.1) (forR q.2)
abbrev kp (io : List Nat) : Nat → Bool := fun j => io.contains j
theorem PG_ex {ι : Type} {e : Expr} {t : ι → TG} (h : ∀ i, PG X e (t i)) : PG X e (fun v σ H Q => ∃ i, t i v σ H Q) := ⟨fun pins s σ H v u Q I r ⟨i, q⟩ => (h i).run pins s σ H v u Q I r q⟩
theorem PSs_ex {ι : Type} {sts : List Stmt} {t : ι → TS} (h : ∀ i, PSs X sts (t i)) : PSs X sts (fun D σ H => ∃ i, t i D σ H) := ⟨fun pins s σ H D I ⟨i, q⟩ => (h i).run pins s σ H D I q⟩
theorem PxS.less {io io2 : List Nat} {σ : Sl} {T : List Asn} {x : Exn} {e : List Val} {K : PySem.W.Frag} (h : PxS (kp io) K XR W σ T x e) : PxS (kp (io2 ++ io)) K XR W σ T x e := fun σ' m => h σ' ⟨m.1, fun j hj => m.2 j (by simp [kp] at hj ⊢; exact .inr hj)⟩
theorem tS_for {io : List Nat} {tg iter : Expr} {body : List Stmt} {mI : M (List Val × List (Val × Tk))} {mt : List Nat → Val → M Unit} {mb : List Nat → M Fl} {pos : Pos} (hp : PassesOwn (model X.prog X.w) X.A X.env X.xe) (hc : X.calm = true) (hi : PI X tg iter (tI X.K XR W mI)) (hg : ∀ io2, PG X tg (gT (kp io2) X.K XR W (mt io2))) (hb : ∀ io2, PSs X body (tS (kp io2) X.K XR W (mb io2))) (hs : ∀ x, foldedSetIterable iter X.env x = pure x) :
    PS X (.For tg iter body [] pos) (tS (kp io) X.K XR W (forM' mI mt mb io)) := by
  refine PS_imp (ps_for hp hc hi (PG_ex hg) (PSs_ex hb) hs) fun D σ H ⟨Z, T, e, g, h⟩ => ?_
  unfold forM' at h
  rw [outP_bind] at h
  refine ⟨Z, T, e, g, h.imp (fun q e0 k H1 Z1 vs J g1 w => ?_) fun _ _ k => k.px⟩
  generalize hio : slotsOf q.2 ++ io = io2 at k
  generalize hA : argsA X.K σ vs q.2 = A at g1 w
  generalize hF : (fun x => bindM (mt io2 x) fun _ => mb io2) = F at k
  generalize hR : forR q.2 = R at k
  rw [outP_bind] at k
  have hk : ∀ {σ1 : Sl}, Mod (kp io2) σ σ1 → Mod (kp io) σ σ1 := fun m => ⟨m.1, fun j hj => m.2 j (by rw [← hio]; simp [kp] at hj ⊢; exact .inr hj)⟩
  let Top : Fl → List Val → Prop := fun fl e' => ∀ H' Z' σ', Mod (kp io) σ σ' → EndsOk X.K D T σ' H' Z' e' fl
  let Inv' : Nat → Sl → Hp → Prop := fun i σ1 H => ∃ Z e1, Mod (kp io2) σ σ1 ∧ Good H Z (A ++ (envA X.K σ1 e1 ++ T)) ∧ OutP (forL F (q.1.drop i) e1) (fun fl e' => OutP (R fl e') Top (PxS (kp io) X.K XR W σ T)) (PxS (kp io) X.K XR W σ T)
  -- the loop's end, at the code behind it
  have fin : ∀ {fl : Fl} {e1 : List Val} {σ1 : Sl} {H2 : Hp} {Z2 : ZS}, (∀ v, fl ≠ .rt v) → Mod (kp io2) σ σ1 → Good H2 Z2 (A ++ (envA X.K σ1 e1 ++ T)) → OutP (R fl e1) Top (PxS (kp io) X.K XR W σ T) → ∃ e5, Top fl e5 ∧ Good H2 Z2 (envA X.K σ1 e5 ++ T) := fun {fl e1 σ1 H2 Z2} hn m g2 k2 => by
    have ea : argsA X.K σ1 vs q.2 = A := by
      rw [← hA]
      exact argsA_eq fun i hi => m.2 i (by rw [← hio]; simp [kp]; exact .inl hi)
    rw [← ea] at g2
    obtain ⟨e5, q1, g3⟩ := g2.plugsId
    have k3 : OutP (bindM (plugs q.2 (q.2.map (·.1))) (fun _ => pureM fl) e1) Top (PxS (kp io) X.K XR W σ T) := by
      rw [← hR] at k2
      cases fl with
      | rt v => exact absurd rfl (hn v)
      | nx => exact k2
      | bk => exact k2
      | ct => exact k2
    rw [outP_bind, q1] at k3
    exact ⟨e5, k3, g3⟩
  refine ⟨fun i m σ1 H => m = q.1.length - i ∧ i ≤ q.1.length ∧ Inv' i σ1 H, ⟨q.1.length, by simp, Nat.zero_le _, Z1, e0, .refl, g1, by simpa using k⟩, ?_⟩
  rintro i m σ1 H2 ⟨rfl, hi', Z2, e1, m1, g2, k2⟩
  have wk := w H2 Z2 _ i g2
  by_cases hlt : i < q.1.length
  · obtain ⟨go, yld⟩ := wk.1 _ (List.getElem?_eq_getElem hlt)
    refine .inr ⟨go, fun σ' H' => q.1.length - (i + 1) = q.1.length - (i + 1) ∧ i + 1 ≤ q.1.length ∧ Inv' (i + 1) σ' H', fun σ' H' n' => ⟨q.1.length - (i + 1), by omega, n'⟩, fun v H3 y => ?_⟩
    have g3 := yld v H3 y
    rw [List.drop_eq_getElem_cons hlt] at k2
    unfold forL at k2
    rw [outP_bind, ← hF] at k2
    have k3 : OutP (bindM (mt io2 q.1[i]) (fun _ => mb io2) e1) _ _ := k2
    rw [hF, outP_bind] at k3
    have up : ∀ {x : Exn} {e : List Val} {σ2 : Sl}, Mod (kp io2) σ σ2 → PxS (kp io) X.K XR W σ T x e → PxS (kp io2) X.K XR W σ2 (A ++ T) x e := fun {x e σ2} m p => by
      have p1 : PxS (kp io2) X.K XR W σ T x e := by rw [← hio]; exact p.less
      exact (p1.next m).drop
    have gX : Good H3 Z2 (rep X.K v q.1[i] :: (envA X.K σ1 e1 ++ (A ++ T))) := g3.perm (permC fun a => by simp only [cnt_append, cnt_cons]; omega)
    refine ⟨io2, Z2, A ++ T, e1, q.1[i], gX, k3.imp (fun _ e2 k4 H4 Z4 σ2 m2 g4 => ?_) fun _ _ p => up m1 p⟩
    refine ⟨io2, Z4, A ++ T, e2, g4, k4.imp (fun fl e3 k5 H5 Z5 σ3 m3 => ?_) fun _ _ p => up (m1.trans m2) p⟩
    have m5 : Mod (kp io2) σ σ3 := (m1.trans m2).trans m3
    have gp : Good H5 Z5 (envA X.K σ3 e3 ++ (A ++ T)) → Good H5 Z5 (A ++ (envA X.K σ3 e3 ++ T)) := fun g5 => g5.mid
    cases fl with
    | nx =>
      intro g5
      exact ⟨rfl, hlt, Z5, e3, m5, gp g5, k5⟩
    | ct =>
      intro g5
      exact ⟨rfl, hlt, Z5, e3, m5, gp g5, k5⟩
    | bk =>
      intro g5
      have k6 : OutP (R .nx e3) Top (PxS (kp io) X.K XR W σ T) := k5
      obtain ⟨e5, t5, g6⟩ := fin (fl := .nx) (fun v z => by cases z) m5 (gp g5) k6
      exact t5 H5 Z5 σ3 (hk m5) g6
    | rt r =>
      intro u g5
      have k6 : OutP (R (.rt r) e3) Top (PxS (kp io) X.K XR W σ T) := k5
      rw [← hR] at k6
      have k7 : Top (.rt r) e3 := k6
      refine k7 H5 Z5 σ3 (hk m5) u ?_
      have g6 : Good H5 Z5 (A ++ (rep X.K u r :: (envA X.K σ3 e3 ++ T))) := g5.perm (permC fun a => by simp only [cnt_append, cnt_cons]; omega)
      exact g6.dropL
  · have ei : i = q.1.length := by omega
    refine .inl ⟨wk.2 ei, ?_⟩
    rw [ei, List.drop_length] at k2
    have k3 : OutP (R .nx e1) Top (PxS (kp io) X.K XR W σ T) := k2
    obtain ⟨e5, t5, g6⟩ := fin (fl := .nx) (fun v z => by cases z) m1 g2 k3
    exact t5 H2 Z2 σ1 (hk m1) g6
theorem tS_whl {io : List Nat} {c : Expr} {body : List Stmt} {mc : M Bool} {mb : M Fl} {pos : Pos} {n : Nat} (hp : PassesOwn (model X.prog X.w) X.A X.env X.xe) (hc : PT X c (tB1 X.K XR W mc)) (hb : PSs X body (tS (kp io) X.K XR W mb)) : PS X (.While c body [] pos) (tS (kp io) X.K XR W (whlL mc mb n)) := by
  refine PS_imp (ps_while hp hc hb) fun D σ H ⟨Z, T, e, g, h⟩ => ?_
  let Top : Fl → List Val → Prop := fun fl e' => ∀ H' Z' σ', Mod (kp io) σ σ' → EndsOk X.K D T σ' H' Z' e' fl
  refine ⟨fun m σ1 H => ∃ Z e1, Mod (kp io) σ σ1 ∧ Good H Z (envA X.K σ1 e1 ++ T) ∧ OutP (whlL mc mb m e1) Top (PxS (kp io) X.K XR W σ T), ⟨n, Z, e, .refl, g, h⟩, ?_⟩
  rintro m σ1 H1 ⟨Z1, e1, m1, g1, k⟩
  cases m with
  | zero => exact k.elim
  | succ m =>
    unfold whlL at k
    rw [outP_bind] at k
    refine ⟨Z1, T, e1, g1, k.imp (fun b e2 k2 H2 Z2 g2 => ?_) fun _ _ p => (p.next m1).px⟩
    cases b with
    | false =>
      rw [if_neg (by simp)]
      have k3 : Top .nx e2 := by
        rw [if_neg (by simp)] at k2
        exact k2
      exact k3 H2 Z2 σ1 m1 g2
    | true =>
      rw [if_pos rfl]
      rw [if_pos rfl, outP_bind] at k2
      refine ⟨fun σ' H' => ∃ Z e1, Mod (kp io) σ σ' ∧ Good H' Z (envA X.K σ' e1 ++ T) ∧ OutP (whlL mc mb m e1) Top (PxS (kp io) X.K XR W σ T), fun σ' H' w => ⟨m, by omega, w⟩, Z2, T, e2, g2, k2.imp (fun fl e3 k4 H3 Z3 σ3 m3 => ?_) fun _ _ p => p.next m1⟩
      cases fl with
      | nx => intro g3; exact ⟨Z3, e3, m1.trans m3, g3, k4⟩
      | ct => intro g3; exact ⟨Z3, e3, m1.trans m3, g3, k4⟩
      | bk =>
        intro g3
        have k5 : Top .nx e3 := k4
        exact k5 H3 Z3 σ3 (m1.trans m3) g3
      | rt r =>
        intro u g3
        have k5 : Top (.rt r) e3 := k4
        exact k5 H3 Z3 σ3 (m1.trans m3) u g3
end
end Nd

/-! NdS: what is seen of the text: a piece of the small language stands for a piece of the text. -/
namespace Nd
open PySem PySem.Spec PyProof.Rows L2
/-- the defs: name and parameters; the names that are built-in ones -/
structure Tab where
  fns : List (PySem.Str × List PySem.Str)
  bl : List PySem.Str
/-- slots, scope, names that are stored without a look -/
structure Sco where
  N : List PySem.Str
  sc : Scope
  fnB : PySem.Str → Bool
def isVis : Option NameKind → Bool
  | some .local => true
  | some .cell => true
  | some .free => true
  | _ => false
def isLoc : Option NameKind → Bool
  | some .local => true
  | some .cell => true
  | _ => false
def isLocal : Option NameKind → Bool
  | some .local => true
  | _ => false
def isCell : Option NameKind → Bool
  | some .cell => true
  | _ => false
def isGlo : Option NameKind → Bool
  | some .globalImplicit => true
  | _ => false
def nm (S : Sco) (i : Nat) (x : PySem.Str) : Bool := decide (S.N[i]? = some x) && isVis (S.sc.names.lookup x) && decide ((x == ("__debug__" : PySem.Str)) = false) && decide ((x == ("__classdict__" : PySem.Str)) = false)
def nmT (S : Sco) (i : Nat) (x : PySem.Str) : Bool := decide (S.N[i]? = some x) && isLoc (S.sc.names.lookup x) && (S.fnB x || isLocal (S.sc.names.lookup x))
def blB (T : Tab) (S : Sco) (x : PySem.Str) : Bool := isGlo (S.sc.names.lookup x) && T.bl.contains x
def plainIx : Expr → Bool
  | .Slice _ _ _ _ => false
  | _ => true
def notSet : Expr → Bool
  | .Set _ _ _ => false
  | _ => true
def baseOk : Expr → Bool
  | .Call _ _ _ _ => false
  | _ => true
def plainTest : Expr → Bool
  | .UnaryOp .Not _ _ => false
  | .BoolOp _ _ _ => false
  | .IfExp _ _ _ _ => false
  | .Compare _ _ _ _ => false
  | _ => true
def notComp : Expr → Bool
  | .ListComp _ _ _ _ => false
  | .SetComp _ _ _ _ => false
  | .DictComp _ _ _ _ _ => false
  | _ => true
def ownOf (N : List PySem.Str) (own : List Nat) : List (PySem.Str × Nat) := own.map fun i => (N.getD i (PySem.Str.ofString ""), i)
/-- a comprehension's block -/
def blkS (S : Sco) (scope : Scope) : Sco := ⟨S.N, relS scope S.sc, fun x => isCell (scope.names.lookup x)⟩
mutual
def ckE (T : Tab) : Ex → Sco → Expr → Bool
  | .var i, S, e => match e with
    | .Name x _ => nm S i x
    | _ => false
  | .mov i, S, e => match e with
    | .Name x _ => nm S i x
    | _ => false
  | .int i, _, e => match e with
    | .Constant (.int j) _ _ => decide (i = j)
    | _ => false
  | .bl b, _, e => match e with
    | .Constant (.bool c) _ _ => decide (b = c)
    | _ => false
  | .non, _, e => match e with
    | .Constant .none _ _ => true
    | _ => false
  | .str x, _, e => match e with
    | .Constant (.str y) _ _ => decide (x = y)
    | _ => false
  | .bin op a b, S, e => match e with
    | .BinOp x o y _ => decide (o = opOf op) && ckA T a S x && ckA T b S y
    | _ => false
  | .neg a, S, e => match e with
    | .UnaryOp .USub x _ => ckA T a S x
    | _ => false
  | .cmp op a b, S, e => match e with
    | .Compare x [o] [y] _ => decide (o = cmpOf op) && ckA T a S x && ckA T b S y && !behindInMarks (cmpOf op) y
    | _ => false
  | .chain op op' a b c, S, e => match e with
    | .Compare x [o, o'] [y, z] _ => decide (o = cmpOf op) && decide (o' = cmpOf op') && ckA T a S x && ckA T b S y && ckA T c S z && !lastMarks [cmpOf op, cmpOf op'] [y, z]
    | _ => false
  | .notE a, S, e => match e with
    | .UnaryOp .Not x _ => ckE T a S x
    | _ => false
  | .andE a b, S, e => match e with
    | .BoolOp .And (x :: y :: r) pos => ckE T a S x && (match r with
      | [] => ckE T b S y
      | z :: r' => ckE T b S (.BoolOp .And (y :: z :: r') pos))
    | _ => false
  | .orE a b, S, e => match e with
    | .BoolOp .Or (x :: y :: r) pos => ckE T a S x && (match r with
      | [] => ckE T b S y
      | z :: r' => ckE T b S (.BoolOp .Or (y :: z :: r') pos))
    | _ => false
  | .ite c a b, S, e => match e with
    | .IfExp t x y _ => ckT T c S t && ckE T a S x && ckE T b S y
    | _ => false
  | .tup es, S, e => match e with
    | .Tuple xs _ _ => ckXs T es S xs
    | _ => false
  | .lst m es, S, e => match e with
    | .List xs _ => ckXs T es S xs
    | _ => false
  | .sub a b, S, e => match e with
    | .Subscript x y _ => ckA T a S x && ckA T b S y && plainIx y
    | _ => false
  | .slc a lo hi, S, e => match e with
    | .Subscript x (.Slice l h none _) _ => ckA T a S x && ckO T lo S l && ckO T hi S h
    | _ => false
  | .bi f as, S, e => match e with
    | .Call (.Name n _) (x :: xs) [] _ => decide (n = biName f) && blB T S (biName f) && ckAs T as S (x :: xs) && (x :: xs).all plainE
    | _ => false
  | .me f a es, S, e => match e with
    | .Call (.Attribute o n apos) xs [] cpos => decide (n = mtName f) && ckA T a S o && ckXs T es S xs && (apos.endLine == cpos.line) && xs.all plainE && decide (xs.length < 29) && baseOk o
    | _ => false
  | .isi a t, S, e => match e with
    | .Call (.Name n _) [x, .Name t' _] [] _ => decide (n = "isinstance") && blB T S "isinstance" && ckA T a S x && decide (t' = Str.ofString t) && blB T S (Str.ofString t) && isiT t && plainE x
    | _ => false
  | .call f as, S, e => match e with
    | .Call (.Name n _) xs [] _ => (match T.fns[f]? with
      | some (m, ps) => decide (n = m) && isGlo (S.sc.names.lookup m) && decide ((m == ("__debug__" : PySem.Str)) = false) && ckAs T as S xs && xs.all plainE
      | none => false)
    | _ => false
  | .callK f n es ks pm, S, e => match e with
    | .Call (.Name x _) xs kws _ => (match T.fns[f]? with
      | some (m, ps) => decide (x = m) && isGlo (S.sc.names.lookup m) && decide ((m == ("__debug__" : PySem.Str)) = false) && ckXs T es S xs && xs.all plainE && ckXs T ks S (kws.map (·.value)) && kws.all (fun k => k.arg.isSome) && kwC ps (kws.filterMap (·.arg)) n pm && pm.isPerm (List.range pm.length) && decide (n + kws.length = pm.length)
      | none => false)
    | _ => false
  | .dzip a b, S, e => match e with
    | .Call (.Name d _) [.Call (.Name z _) [x, y] [] _] [] _ => decide (d = "dict") && decide (z = "zip") && blB T S "dict" && blB T S "zip" && ckA T a S x && ckA T b S y && plainE x && plainE y
    | _ => false
  | .lrev a, S, e => match e with
    | .Call (.Name d _) [.Call (.Name z _) [x] [] _] [] _ => decide (d = "list") && decide (z = "reversed") && blB T S "list" && blB T S "reversed" && ckA T a S x && plainE x
    | _ => false
  | .rpr a, S, e => match e with
    | .Call (.Name d _) [x] [] _ => decide (d = "repr") && blB T S "repr" && ckA T a S x && plainE x
    | _ => false
  | .gl n, _, _ => false
  | .dct es, S, e => match e with
    | .Dict keys vals _ => ckD T es S keys vals && decide (keys.length = vals.length) && decide (0 < keys.length) && decide (keys.length ≤ 15)
    | _ => false
  | .rg t a, S, e => match e with
    | .Call (.Name d _) [.Call (.Name z _) [x] [] _] [] _ => decide (d = rgN t) && decide (z = "range") && blB T S (rgN t) && blB T S "range" && ckE T a S x && plainE x
    | _ => false
  | .rg2 t a b, S, e => match e with
    | .Call (.Name d _) [.Call (.Name z _) [x, y] [] _] [] _ => decide (d = rgN t) && decide (z = "range") && blB T S (rgN t) && blB T S "range" && ckE T a S x && ckE T b S y && plainE x && plainE y
    | _ => false
  | .subS i b, S, e => match e with
    | .Subscript (.Name x _) y _ => nm S i x && ckA T b S y && plainIx y
    | _ => false
  | .meS f i es, S, e => match e with
    | .Call (.Attribute (.Name x _) n apos) xs [] cpos => decide (n = mtName f) && nm S i x && ckXs T es S xs && (apos.endLine == cpos.line) && xs.all plainE && decide (xs.length < 29)
    | _ => false
  | .comp m elt t it own, S, e => match e with
    | .ListComp el [⟨tg, iter, [], 0⟩] scope _ => isOw m && blkC S.N S.sc scope (ownOf S.N own) && decide own.Nodup && notSet iter && ckI T it S tg iter && ckTg T t (blkS S scope) tg && ckE T elt (blkS S scope) el
    | _ => false
  | .compI m elt t it c own, S, e => match e with
    | .ListComp el [⟨tg, iter, [i], 0⟩] scope _ => isOw m && blkC S.N S.sc scope (ownOf S.N own) && decide own.Nodup && notSet iter && ckI T it S tg iter && ckTg T t (blkS S scope) tg && ckT T c (blkS S scope) i && ckE T elt (blkS S scope) el
    | _ => false
def ckT (T : Tab) : Ex → Sco → Expr → Bool
  | .notE a, S, e => match e with
    | .UnaryOp .Not x _ => ckT T a S x
    | _ => false
  | .andE a b, S, e => match e with
    | .BoolOp .And (x :: y :: r) pos => ckT T a S x && (match r with
      | [] => ckT T b S y
      | z :: r' => ckT T b S (.BoolOp .And (y :: z :: r') pos))
    | _ => false
  | .orE a b, S, e => match e with
    | .BoolOp .Or (x :: y :: r) pos => ckT T a S x && (match r with
      | [] => ckT T b S y
      | z :: r' => ckT T b S (.BoolOp .Or (y :: z :: r') pos))
    | _ => false
  | .var i, S, e => match e with
    | .Name x _ => nm S i x
    | _ => false
  | .cmp op a b, S, e => match e with
    | .Compare x [o] [y] _ => decide (o = cmpOf op) && ckA T a S x && ckA T b S y && !behindInMarks (cmpOf op) y
    | _ => false
  | .chain op op' a b c, S, e => match e with
    | .Compare x [o, o'] [y, z] _ => decide (o = cmpOf op) && decide (o' = cmpOf op') && ckA T a S x && ckA T b S y && ckA T c S z && !lastMarks [cmpOf op, cmpOf op'] [y, z]
    | _ => false
  | .bi f as, S, e => match e with
    | .Call (.Name n _) (x :: xs) [] _ => decide (n = biName f) && blB T S (biName f) && ckAs T as S (x :: xs) && (x :: xs).all plainE
    | _ => false
  | .isi a t, S, e => match e with
    | .Call (.Name n _) [x, .Name t' _] [] _ => decide (n = "isinstance") && blB T S "isinstance" && ckA T a S x && decide (t' = Str.ofString t) && blB T S (Str.ofString t) && isiT t && plainE x
    | _ => false
  | .call f as, S, e => match e with
    | .Call (.Name n _) xs [] _ => (match T.fns[f]? with
      | some (m, ps) => decide (n = m) && isGlo (S.sc.names.lookup m) && decide ((m == ("__debug__" : PySem.Str)) = false) && ckAs T as S xs && xs.all plainE
      | none => false)
    | _ => false
  | .sub a b, S, e => match e with
    | .Subscript x y _ => ckA T a S x && ckA T b S y && plainIx y
    | _ => false
  | .bl b, _, e => match e with
    | .Constant (.bool c) _ _ => decide (b = c)
    | _ => false
  | .subS i b, S, e => match e with
    | .Subscript (.Name x _) y _ => nm S i x && ckA T b S y && plainIx y
    | _ => false
  | _, _, _ => false
def ckO (T : Tab) : Ox → Sco → Option Expr → Bool
  | .none, _, e => match e with
    | none => true
    | _ => false
  | .some a, S, e => match e with
    | some x => ckE T a S x
    | _ => false
def ckXs (T : Tab) : Exs → Sco → List Expr → Bool
  | .nil, _, xs => match xs with
    | [] => true
    | _ => false
  | .cons a es, S, xs => match xs with
    | x :: xs => ckE T a S x && plainE x && ckXs T es S xs
    | _ => false
/-- a dict display: keys and values in turn -/
def ckD (T : Tab) : Exs → Sco → List (Option Expr) → List Expr → Bool
  | .nil, _, ks, vs => match ks, vs with
    | [], [] => true
    | _, _ => false
  | .cons a es, S, ks, vs => match ks with
    | some k :: ks => ckE T a S k && ckD2 T es S ks vs
    | _ => false
def ckD2 (T : Tab) : Exs → Sco → List (Option Expr) → List Expr → Bool
  | .nil, _, ks, vs => false
  | .cons a es, S, ks, vs => match vs with
    | v :: vs => ckE T a S v && ckD T es S ks vs
    | _ => false
def ckA (T : Tab) : Ag → Sco → Expr → Bool
  | .v a, S, e => ckE T a S e
  | .mv i, S, e => match e with
    | .Name x _ => nm S i x
    | _ => false
  | .mx i a, S, e => match e with
    | .Subscript (.Name x _) y _ => nm S i x && ckE T a S y && plainIx y
    | _ => false
def ckAs (T : Tab) : Ags → Sco → List Expr → Bool
  | .nil, _, xs => match xs with
    | [] => true
    | _ => false
  | .cons a es, S, xs => match xs with
    | x :: xs => ckA T a S x && plainE x && ckAs T es S xs
    | _ => false
def ckI (T : Tab) : Wk → Sco → Expr → Expr → Bool
  | .ex a, S, _, e => ckA T a S e
  | .rng a, S, _, e => match e with
    | .Call (.Name n _) [x] [] _ => decide (n = "range") && blB T S "range" && ckE T a S x && plainE x
    | _ => false
  | .rng2 a b, S, _, e => match e with
    | .Call (.Name n _) [x, y] [] _ => decide (n = "range") && blB T S "range" && ckE T a S x && ckE T b S y && plainE x && plainE y
    | _ => false
  | .enum a, S, tg, e => match tg, e with
    | .Tuple _ _ _, .Call (.Name n _) [x] [] _ => decide (n = "enumerate") && blB T S "enumerate" && ckA T a S x && plainE x
    | _, _ => false
  | .zip a b, S, tg, e => match tg, e with
    | .Tuple _ _ _, .Call (.Name n _) [x, y] [] _ => decide (n = "zip") && blB T S "zip" && ckA T a S x && ckA T b S y && plainE x && plainE y
    | _, _ => false
  | .rev a, S, _, e => match e with
    | .Call (.Name n _) [x] [] _ => decide (n = "reversed") && blB T S "reversed" && ckA T a S x && plainE x
    | _ => false
def ckTg (T : Tab) : Tg → Sco → Expr → Bool
  | .name i, S, e => match e with
    | .Name x _ => nmT S i x
    | _ => false
  | .tup ts, S, e => match e with
    | .Tuple es _ _ => ckTgs T ts S es && decide (es.length = tlen ts) && es.all plainE
    | _ => false
  | .sub a b, S, e => match e with
    | .Subscript x y _ => ckA T a S x && ckE T b S y && plainIx y
    | _ => false
def ckTgs (T : Tab) : Tgs → Sco → List Expr → Bool
  | .nil, _, es => match es with
    | [] => true
    | _ => false
  | .cons t ts, S, es => match es with
    | e :: es => ckTg T t S e && plainE e && ckTgs T ts S es
    | _ => false
end
end Nd

/-! NdT: what is seen is so: expressions. -/
namespace Nd
open PySem PySem.Spec PyProof.Rows L2
/-- a def of the text, as it can be called -/
def CtxF (XR : XRT) (C : Nat → List Val → CRes) (k : Nat) (X : Cx) (f : Nat) (m : PySem.Str) (ps : List PySem.Str) : Prop :=
  ∃ (a : Addr) (fd : FuncData) (as : List Arg), X.mg m = some (.ref a) ∧ PySem.W.keepIn X.K (.ref a) = true ∧ fd.params = ⟨[], as, none, [], [], none, []⟩ ∧ as.map (·.arg) = ps ∧ ps.Nodup ∧ fd.defaults = .none ∧
    FnG X.prog X.w X.K X.mg X.base (L2.CX X.prog X.w) k a fd ps (spR X.K XR ps.length (C f)) ∧ LenOk ps.length (C f)
structure Ctx (T : Tab) (S : Sco) (XR : XRT) (C : Nat → List Val → CRes) (k : Nat) (X : Cx) : Prop where
  N : X.N = S.N
  nd : S.N.Nodup
  sc : X.env.scope = S.sc
  calm : X.calm = true
  room : Room k X.A
  gd : X.A.guards = some []
  bl : ∀ x, T.bl.contains x = true → X.mg x = none
  fns : ∀ f m ps, T.fns[f]? = some (m, ps) → CtxF XR C k X f m ps
  fnB : ∀ x, S.fnB x = true → X.fn x = true
section
variable {T : Tab} {S : Sco} {XR : XRT} {C : Nat → List Val → CRes} {G : Nat → Option Val} {k : Nat} {X : Cx} {W : WX}
theorem Ctx.blk (c : Ctx T S XR C k X) {s : Shared} {H : Hp} {Cc : Addr} {cl : List (PySem.Str × Addr)} {fp : List Addr} {scope : Scope} : Ctx T (blkS S scope) XR C k (X.blk s H scope (compEnvC scope cl Cc X.env) fp) where
  N := c.N
  nd := c.nd
  sc := by
    show relS scope X.env.scope = relS scope S.sc
    rw [c.sc]
  calm := c.calm
  room := c.room
  gd := c.gd
  bl := c.bl
  fns := c.fns
  fnB := fun x h => by
    show (scope.names.lookup x == some .cell) = true
    have h' : isCell (scope.names.lookup x) = true := h
    unfold isCell at h'
    split at h'
    · rename_i e; rw [e]; rfl
    · cases h'
theorem takesF {s : Shared} {H : Hp} {ce : Env} {fp : List Addr} {scope : Scope} : Takes (X.blk s H scope ce fp) WF := fun u s' x => by
  obtain ⟨a, B, sI, pins, σ, H, cls, d, e, I, nb, up, sky, na, os, ag, w⟩ := x
  exact w.elim
theorem Ctx.hu (c : Ctx T S XR C k X) : X.A.units + 65 < cLine := by have := c.room.un; omega
theorem Ctx.hu1 (c : Ctx T S XR C k X) : X.A.units + 1 < cLine := by have := c.room.un; omega
theorem Ctx.hu61 (c : Ctx T S XR C k X) : X.A.units + 61 < cLine := by have := c.room.un; omega
theorem Ctx.nd' (c : Ctx T S XR C k X) : X.N.Nodup := by rw [c.N]; exact c.nd
theorem Ctx.nm (c : Ctx T S XR C k X) {i : Nat} {x : PySem.Str} (h : nm S i x = true) : X.N[i]? = some x ∧ Vis X.env.scope x ∧ (x == ("__debug__" : PySem.Str)) = false ∧ (x == ("__classdict__" : PySem.Str)) = false := by
  unfold Nd.nm at h
  simp only [Bool.and_eq_true, decide_eq_true_eq] at h
  obtain ⟨⟨⟨h1, h2⟩, h3⟩, h4⟩ := h
  refine ⟨by rw [c.N]; exact h1, ?_, h3, h4⟩
  unfold Vis
  rw [c.sc]
  unfold isVis at h2
  split at h2
  · exact .inl (by assumption)
  · exact .inr (.inl (by assumption))
  · exact .inr (.inr (by assumption))
  · cases h2
theorem isLocal_eq {o : Option NameKind} (h : isLocal o = true) : o = some .local := by
  unfold isLocal at h
  split at h
  · rfl
  · cases h
theorem isGlo_eq {o : Option NameKind} (h : isGlo o = true) : o = some .globalImplicit := by
  unfold isGlo at h
  split at h
  · rfl
  · cases h
theorem Ctx.nmT (c : Ctx T S XR C k X) {i : Nat} {x : PySem.Str} (h : nmT S i x = true) : X.N[i]? = some x ∧ Loc X.env.scope x ∧ (X.fn x = true ∨ X.env.scope.names.lookup x = some .local) := by
  unfold Nd.nmT at h
  simp only [Bool.and_eq_true, decide_eq_true_eq, Bool.or_eq_true] at h
  obtain ⟨⟨h1, h2⟩, h3⟩ := h
  refine ⟨by rw [c.N]; exact h1, ?_, ?_⟩
  · unfold L2.Loc
    rw [c.sc]
    unfold isLoc at h2
    split at h2
    · exact .inl (by assumption)
    · exact .inr (by assumption)
    · cases h2
  · rcases h3 with h3 | h3
    · exact .inl (c.fnB x h3)
    · right
      rw [c.sc]
      exact isLocal_eq h3
theorem Ctx.gl (c : Ctx T S XR C k X) {x : PySem.Str} (h : isGlo (S.sc.names.lookup x) = true) : Gl X x := by
  show X.env.scope.names.lookup x = _
  rw [c.sc]
  exact isGlo_eq h
theorem Ctx.blt (c : Ctx T S XR C k X) {x : PySem.Str} (h : blB T S x = true) : Gl X x ∧ X.mg x = none := by
  unfold blB at h
  rw [Bool.and_eq_true] at h
  exact ⟨c.gl h.1, c.bl x h.2⟩
theorem plain_ix {b : Expr} (h : plainIx b = true) : PlainIx b := by
  cases b <;> first | (intro o i; rfl) | cases h
theorem not_set {e : Expr} {env : Env} (h : notSet e = true) : ∀ x, foldedSetIterable e env x = pure x := by
  cases e <;> first | (intro x; rfl) | cases h
theorem base_ok {o : Expr} {env : Env} (h : baseOk o = true) : ∀ n, attributeBase o n env (eval o env) = eval o env := by
  cases o <;> first | (intro n; rfl) | cases h
theorem plain_test {e : Expr} {env : Env} (h : plainTest e = true) : ∀ whole, isTrue e env whole = (do let v ← whole; standAt e.pos; holding [v] (truthy v)) := by
  cases e <;> first | (intro n; rfl) | cases h | skip
  rename_i op a p
  cases op <;> first | (intro n; rfl) | cases h
theorem CtxF.call {f : Nat} {m : PySem.Str} {ps : List PySem.Str} (c : Ctx T S XR C k X) (tk : Takes X W) (hf : CtxF XR C k X f m ps) (hg : Gl X m) (hd : (m == ("__debug__" : PySem.Str)) = false) {es : List Expr} {ma : M (List (Val × Tk))} {p pos : Pos} (h : (es = [] ∧ ma = pureM []) ∨ (∃ e r, es = e :: r ∧ PA X es (tGs X.K XR W ma))) (hp : es.all plainE = true) :
    PE X (.Call (.Name m p) es [] pos) (tE X.K XR W (bindM ma fun ps => callC C f ps)) := by
  obtain ⟨a, fd, as, h1, h2, h3, h4, h5, h6, h7, h8⟩ := hf
  have hb : ∀ (s : Shared) (us : List Value), us.length = ps.length → BindsTo s fd ⟨us, []⟩ (ps.zip us) := fun s us hl => by
    have := bind_pos (us := us) h3 h6 (by rw [hl, ← h4]; simp) (by rw [h4]; exact h5)
    rw [h4] at this
    exact .of_eq this
  rcases h with ⟨rfl, rfl⟩ | ⟨e, r, rfl, ha⟩
  · exact tE_call0 h7 c.room c.gd tk hg h1 h2 hb hd rfl h8
  · exact tE_call h7 c.room c.gd tk hg h1 h2 hb hd rfl h8 ha hp
theorem kws_some {kws : List Keyword} (h : kws.all (fun k => k.arg.isSome) = true) : kws.map (·.arg) = (kws.filterMap (·.arg)).map some := by
  induction kws with
  | nil => rfl
  | cons a r ih =>
    rw [List.all_cons, Bool.and_eq_true] at h
    obtain ⟨v, hv⟩ := Option.isSome_iff_exists.mp h.1
    rw [List.map_cons, List.filterMap_cons, hv, ih h.2]
    rfl
theorem CtxF.callK {f n : Nat} {m : PySem.Str} {ps : List PySem.Str} {pm : List Nat} {kws : List Keyword} (c : Ctx T S XR C k X) (tk : Takes X W) (hf : CtxF XR C k X f m ps) (hg : Gl X m) (hd : (m == ("__debug__" : PySem.Str)) = false) {es : List Expr} {mx mz : M (List Val)} {p pos : Pos} (ha : es = [] ∧ mx = pureM [] ∨ (∃ e r, es = e :: r) ∧ PA X es (tX X.K XR W mx)) (hkw : PK X kws (tX X.K XR W mz)) (hp : es.all plainE = true)
    (hs : kws.all (fun k => k.arg.isSome) = true) (hc : kwC ps (kws.filterMap (·.arg)) n pm = true) (hpm : pm.isPerm (List.range pm.length) = true) (hn : n + kws.length = pm.length) :
    PE X (.Call (.Name m p) es kws pos) (tE X.K XR W (bindM mx fun xs => bindM mz fun zs => fun e => if xs.length = n ∧ n + zs.length = pm.length then (match C f (pm.map fun i => (xs ++ zs).getD i .und) with
    | .ret v outs => .ok v e
    | .exc x outs => .exc x e
    | .stuck => .stuck) else .stuck)) := by
  obtain ⟨a, fd, as, h1, h2, h3, h4, h5, h6, h7, h8⟩ := hf
  have hks := kws_some hs
  have hkl : (kws.filterMap (·.arg)).length = kws.length := by
    have := congrArg List.length hks
    simpa using this.symm
  have hb : ∀ (s : Shared) (us ws : List Value), us.length = n → ws.length = (kws.filterMap (·.arg)).length → BindsTo s fd ⟨us, (kws.filterMap (·.arg)).zip ws⟩ (ps.zip (pm.map fun i => (us ++ ws).getD i .none)) := fun s us ws hl hl2 => by
    have := bind_kw (us := us) (ws := ws) (ks := kws.filterMap (·.arg)) (n := n) (pm := pm) h3 h6 hl hl2 (by rw [h4]; exact hc)
    rw [h4] at this
    exact .of_eq this
  exact tE_callK h7 c.room c.gd tk hg h1 h2 hb hd rfl h8 (List.isPerm_iff.mp hpm) (by rw [hkl]; exact hn) hks ha hkw hp
theorem own_map (N : List PySem.Str) : ∀ own : List Nat, (ownOf N own).map (·.2) = own
  | [] => rfl
  | i :: r => by
    show i :: (ownOf N r).map (·.2) = _
    rw [own_map N r]
theorem and3 {a b : Bool} (h : (a && b) = true) : a = true ∧ b = true := by
  rw [Bool.and_eq_true] at h
  exact h
theorem PE_var {i : Nat} {x : PySem.Str} {pos : Pos} (c : Ctx T S XR C k X) (h : nm S i x = true) : PE X (.Name x pos) (tE X.K XR W (readS i)) := by
  obtain ⟨h1, h2, h3, h4⟩ := c.nm h
  exact tE_var h1 h2 h3 h4
theorem PE_mov {i : Nat} {x : PySem.Str} {pos : Pos} (c : Ctx T S XR C k X) (h : nm S i x = true) : PE X (.Name x pos) (tE X.K XR W (moveS i)) := by
  obtain ⟨h1, h2, h3, h4⟩ := c.nm h
  exact tE_mov h1 h2 h3 h4
theorem PG_mv {i : Nat} {x : PySem.Str} {pos : Pos} (c : Ctx T S XR C k X) (h : nm S i x = true) : PE X (.Name x pos) (tG X.K XR W (takeS i)) := by
  obtain ⟨h1, h2, h3, h4⟩ := c.nm h
  exact tG_mv h1 h2 h3 h4
/-- and, or: the last one -/
theorem PE_last {op : BoolOp} {y : Expr} {pos : Pos} {m : M Val} (h : PE X y (tE X.K XR W m)) : PE X (.BoolOp op [y] pos) (tE X.K XR W m) := pe_one h
def isBool : Expr → Bool
  | .BoolOp _ _ _ => true
  | _ => false
/-- a test, and whatever stands behind it -/
def PTW (X : Cx) (e : Expr) (t : TT) : Prop := PT X e t ∧ (isBool e = true → PW X e t)
theorem PTW.of {e : Expr} {t : TT} (h : PT X e t) (hb : isBool e = false) : PTW X e t := ⟨h, fun z => by rw [hb] at z; cases z⟩
theorem PTW.bool {e : Expr} {t : TT} (h : PW X e t) : PTW X e t := ⟨h.pt, fun _ => h⟩
end
set_option maxHeartbeats 4000000
section
variable (T : Tab) (XR : XRT) (C : Nat → List Val → CRes) (G : Nat → Option Val) (k : Nat)
mutual
theorem simE : ∀ (e : Ex) {S : Sco} {X : Cx} {W : WX} (x : Expr), Ctx T S XR C k X → Takes X W → ckE T e S x = true → PE X x (tE X.K XR W (evE C G e))
  | .var i, S, X, W, x, c, tk, h => by
    unfold ckE at h
    split at h
    · rw [evE]; exact PE_var c h
    · cases h
  | .mov i, S, X, W, x, c, tk, h => by
    unfold ckE at h
    split at h
    · rw [evE]; exact PE_mov c h
    · cases h
  | .int i, S, X, W, x, c, tk, h => by
    unfold ckE at h
    split at h
    · rw [decide_eq_true_eq] at h
      subst h
      rw [evE]; exact tE_const pe_int fun _ _ => ⟨rfl, rfl⟩
    · cases h
  | .bl i, S, X, W, x, c, tk, h => by
    unfold ckE at h
    split at h
    · rw [decide_eq_true_eq] at h
      subst h
      rw [evE]; exact tE_const pe_bl fun _ _ => ⟨rfl, rfl⟩
    · cases h
  | .non, S, X, W, x, c, tk, h => by
    unfold ckE at h
    split at h
    · rw [evE]; exact tE_const pe_non fun _ _ => ⟨rfl, rfl⟩
    · cases h
  | .str i, S, X, W, x, c, tk, h => by
    unfold ckE at h
    split at h
    · rw [decide_eq_true_eq] at h
      subst h
      rw [evE]; exact tE_const pe_str fun _ _ => ⟨rfl, rfl⟩
    · cases h
  | .bin op a b, S, X, W, x, c, tk, h => by
    unfold ckE at h
    split at h
    · obtain ⟨h, h3⟩ := and3 h
      obtain ⟨h1, h2⟩ := and3 h
      rw [decide_eq_true_eq] at h1
      subst h1
      rw [evE]; exact tE_bin (simA a _ c tk h2) (simA b _ c tk h3)
    · cases h
  | .neg a, S, X, W, x, c, tk, h => by
    unfold ckE at h
    split at h
    · rw [evE]; exact tE_neg (simA a _ c tk h)
    · cases h
  | .cmp op a b, S, X, W, x, c, tk, h => by
    unfold ckE at h
    split at h
    · obtain ⟨h, h4⟩ := and3 h
      obtain ⟨h, h3⟩ := and3 h
      obtain ⟨h1, h2⟩ := and3 h
      rw [decide_eq_true_eq] at h1
      subst h1
      rw [evE]; exact tE_cmp c.hu (simA a _ c tk h2) (simA b _ c tk h3) (by simpa using h4)
    · cases h
  | .chain op op' a b d, S, X, W, x, c, tk, h => by
    unfold ckE at h
    split at h
    · obtain ⟨h, h6⟩ := and3 h
      obtain ⟨h, h5⟩ := and3 h
      obtain ⟨h, h4⟩ := and3 h
      obtain ⟨h, h3⟩ := and3 h
      obtain ⟨h1, h2⟩ := and3 h
      rw [decide_eq_true_eq] at h1 h2
      subst h1; subst h2
      rw [evE]; exact tE_chain c.hu (simA a _ c tk h3) (simA b _ c tk h4) (simA d _ c tk h5) (by simpa using h6)
    · cases h
  | .notE a, S, X, W, x, c, tk, h => by
    unfold ckE at h
    split at h
    · rw [evE]; exact tE_not (simE a _ c tk h)
    · cases h
  | .andE a b, S, X, W, x, c, tk, h => by
    unfold ckE at h
    split at h
    · obtain ⟨h1, h2⟩ := and3 h
      rw [evE]
      split at h2
      · exact tE_and (simE a _ c tk h1) (PE_last (simE b _ c tk h2))
      · exact tE_and (simE a _ c tk h1) (simE b _ c tk h2)
    · cases h
  | .orE a b, S, X, W, x, c, tk, h => by
    unfold ckE at h
    split at h
    · obtain ⟨h1, h2⟩ := and3 h
      rw [evE]
      split at h2
      · exact tE_or (simE a _ c tk h1) (PE_last (simE b _ c tk h2))
      · exact tE_or (simE a _ c tk h1) (simE b _ c tk h2)
    · cases h
  | .ite d a b, S, X, W, x, c, tk, h => by
    unfold ckE at h
    split at h
    · obtain ⟨h, h3⟩ := and3 h
      obtain ⟨h1, h2⟩ := and3 h
      rw [evE]; exact tE_ite (simT d _ c tk h1).1 (simE a _ c tk h2) (simE b _ c tk h3)
    · cases h
  | .tup es, S, X, W, x, c, tk, h => by
    unfold ckE at h
    split at h
    · rw [evE]; exact tE_tup (simXs es _ c tk h)
    · cases h
  | .lst m es, S, X, W, x, c, tk, h => by
    unfold ckE at h
    split at h
    · rw [evE]; exact tE_lst (simXs es _ c tk h)
    · cases h
  | .sub a b, S, X, W, x, c, tk, h => by
    unfold ckE at h
    split at h
    · obtain ⟨h, h3⟩ := and3 h
      obtain ⟨h1, h2⟩ := and3 h
      rw [evE]; exact tE_sub c.hu1 (simA a _ c tk h1) (simA b _ c tk h2) (plain_ix h3)
    · cases h
  | .slc a lo hi, S, X, W, x, c, tk, h => by
    unfold ckE at h
    split at h
    · obtain ⟨h, h3⟩ := and3 h
      obtain ⟨h1, h2⟩ := and3 h
      rw [evE]; exact tE_slc (simA a _ c tk h1) (simO lo _ c tk h2) (simO hi _ c tk h3)
    · cases h
  | .bi f as, S, X, W, x, c, tk, h => by
    unfold ckE at h
    split at h
    · obtain ⟨h, h4⟩ := and3 h
      obtain ⟨h, h3⟩ := and3 h
      obtain ⟨h1, h2⟩ := and3 h
      rw [decide_eq_true_eq] at h1
      subst h1
      rw [evE]; exact tE_bi c.calm (c.blt h2).1 (c.blt h2).2 (simAs as _ c tk h3) h4
    · cases h
  | .me f a es, S, X, W, x, c, tk, h => by
    unfold ckE at h
    split at h
    · rename_i o n apos xs cpos
      obtain ⟨h, h7⟩ := and3 h
      obtain ⟨h, h6⟩ := and3 h
      obtain ⟨h, h5⟩ := and3 h
      obtain ⟨h, h4⟩ := and3 h
      obtain ⟨h, h3⟩ := and3 h
      obtain ⟨h1, h2⟩ := and3 h
      rw [decide_eq_true_eq] at h1 h6
      subst h1
      rw [evE]
      cases xs with
      | nil =>
        cases es with
        | nil => rw [evXs]; exact tE_me0 c.hu1 (simA a _ c tk h2) (base_ok h7) h4
        | cons e es => unfold ckXs at h3; cases h3
      | cons y ys => exact tE_me c.hu1 (simA a _ c tk h2) (simXs es _ c tk h3) (base_ok h7) h4 h5 (by simp at h6; omega)
    · cases h
  | .isi a t, S, X, W, x, c, tk, h => by
    unfold ckE at h
    split at h
    · obtain ⟨h, h7⟩ := and3 h
      obtain ⟨h, h6⟩ := and3 h
      obtain ⟨h, h5⟩ := and3 h
      obtain ⟨h, h4⟩ := and3 h
      obtain ⟨h, h3⟩ := and3 h
      obtain ⟨h1, h2⟩ := and3 h
      rw [decide_eq_true_eq] at h1 h4
      subst h1; subst h4
      rw [evE]; exact tE_isi h6 (c.blt h2).1 (c.blt h2).2 (c.blt h5).1 (c.blt h5).2 (simA a _ c tk h3) h7
    · cases h
  | .call f as, S, X, W, x, c, tk, h => by
    unfold ckE at h
    split at h
    · rename_i n p xs pos
      split at h
      · rename_i m ps hf
        obtain ⟨h, h5⟩ := and3 h
        obtain ⟨h, h4⟩ := and3 h
        obtain ⟨h, h3⟩ := and3 h
        obtain ⟨h1, h2⟩ := and3 h
        rw [decide_eq_true_eq] at h1 h3
        subst h1
        rw [evE]
        refine CtxF.call c tk (c.fns _ _ _ hf) (c.gl h2) h3 ?_ h5
        cases xs with
        | nil =>
          cases as with
          | nil => rw [evAs]; exact .inl ⟨rfl, rfl⟩
          | cons e es => unfold ckAs at h4; cases h4
        | cons y ys => exact .inr ⟨y, ys, rfl, simAs as _ c tk h4⟩
      · cases h
    · cases h
  | .callK f n es ks pm, S, X, W, x, c, tk, h => by
    unfold ckE at h
    split at h
    · rename_i x' p xs kws pos
      split at h
      · rename_i m ps hf
        obtain ⟨h, h10⟩ := and3 h
        obtain ⟨h, h9⟩ := and3 h
        obtain ⟨h, h8⟩ := and3 h
        obtain ⟨h, h7⟩ := and3 h
        obtain ⟨h, h6⟩ := and3 h
        obtain ⟨h, h5⟩ := and3 h
        obtain ⟨h, h4⟩ := and3 h
        obtain ⟨h, h3⟩ := and3 h
        obtain ⟨h1, h2⟩ := and3 h
        rw [decide_eq_true_eq] at h1 h3 h10
        subst h1
        rw [evE]
        refine CtxF.callK c tk (c.fns _ _ _ hf) (c.gl h2) h3 ?_ (simK ks _ c tk h6) h5 h7 h8 h9 h10
        cases xs with
        | nil =>
          cases es with
          | nil => rw [evXs]; exact .inl ⟨rfl, rfl⟩
          | cons e es => unfold ckXs at h4; cases h4
        | cons y ys => exact .inr ⟨⟨y, ys, rfl⟩, simXs es _ c tk h4⟩
      · cases h
    · cases h
  | .dzip a b, S, X, W, x, c, tk, h => by
    unfold ckE at h
    split at h
    · obtain ⟨h, h8⟩ := and3 h
      obtain ⟨h, h7⟩ := and3 h
      obtain ⟨h, h6⟩ := and3 h
      obtain ⟨h, h5⟩ := and3 h
      obtain ⟨h, h4⟩ := and3 h
      obtain ⟨h, h3⟩ := and3 h
      obtain ⟨h1, h2⟩ := and3 h
      rw [decide_eq_true_eq] at h1 h2
      subst h1; subst h2
      rw [evE]; exact tE_dzip c.calm (c.blt h3).1 (c.blt h3).2 (c.blt h4).1 (c.blt h4).2 (simA a _ c tk h5) (simA b _ c tk h6) h7 h8
    · cases h
  | .lrev a, S, X, W, x, c, tk, h => by
    unfold ckE at h
    split at h
    · obtain ⟨h, h6⟩ := and3 h
      obtain ⟨h, h5⟩ := and3 h
      obtain ⟨h, h4⟩ := and3 h
      obtain ⟨h, h3⟩ := and3 h
      obtain ⟨h1, h2⟩ := and3 h
      rw [decide_eq_true_eq] at h1 h2
      subst h1; subst h2
      rw [evE]; exact tE_lrev c.calm (c.blt h3).1 (c.blt h3).2 (c.blt h4).1 (c.blt h4).2 (simA a _ c tk h5) h6
    · cases h
  | .rpr a, S, X, W, x, c, tk, h => by
    unfold ckE at h
    split at h
    · obtain ⟨h, h4⟩ := and3 h
      obtain ⟨h, h3⟩ := and3 h
      obtain ⟨h1, h2⟩ := and3 h
      rw [decide_eq_true_eq] at h1
      subst h1
      rw [evE]; exact tE_rpr c.gd c.hu61 (c.blt h2).1 (c.blt h2).2 (simA a _ c tk h3) h4
    · cases h
  | .gl n, S, X, W, x, c, tk, h => by
    unfold ckE at h
    cases h
  | .dct es, S, X, W, x, c, tk, h => by
    unfold ckE at h
    split at h
    · rename_i keys vals pos
      obtain ⟨h, h4⟩ := and3 h
      obtain ⟨h, h3⟩ := and3 h
      obtain ⟨h1, h2⟩ := and3 h
      rw [decide_eq_true_eq] at h2 h3 h4
      have hk := simD es (pos := pos) keys vals c tk h1
      rw [evE]; exact tE_dct hk.1 hk.2 h2 (by rintro rfl; simp at h3) h4
    · cases h
  | .rg t a, S, X, W, x, c, tk, h => by
    unfold ckE at h
    split at h
    · obtain ⟨h, h6⟩ := and3 h
      obtain ⟨h, h5⟩ := and3 h
      obtain ⟨h, h4⟩ := and3 h
      obtain ⟨h, h3⟩ := and3 h
      obtain ⟨h1, h2⟩ := and3 h
      rw [decide_eq_true_eq] at h1 h2
      subst h1; subst h2
      rw [evE]; exact tE_rg c.calm (c.blt h3).1 (c.blt h3).2 (c.blt h4).1 (c.blt h4).2 (simE a _ c tk h5) h6
    · cases h
  | .rg2 t a b, S, X, W, x, c, tk, h => by
    unfold ckE at h
    split at h
    · obtain ⟨h, h8⟩ := and3 h
      obtain ⟨h, h7⟩ := and3 h
      obtain ⟨h, h6⟩ := and3 h
      obtain ⟨h, h5⟩ := and3 h
      obtain ⟨h, h4⟩ := and3 h
      obtain ⟨h, h3⟩ := and3 h
      obtain ⟨h1, h2⟩ := and3 h
      rw [decide_eq_true_eq] at h1 h2
      subst h1; subst h2
      rw [evE]; exact tE_rg2 c.calm (c.blt h3).1 (c.blt h3).2 (c.blt h4).1 (c.blt h4).2 (simE a _ c tk h5) (simE b _ c tk h6) h7 h8
    · cases h
  | .subS i b, S, X, W, x, c, tk, h => by
    unfold ckE at h
    split at h
    · obtain ⟨h, h3⟩ := and3 h
      obtain ⟨h1, h2⟩ := and3 h
      obtain ⟨q1, q2, q3, q4⟩ := c.nm h1
      rw [evE]; exact tE_subS c.hu1 q1 q2 q3 q4 (simA b _ c tk h2) (plain_ix h3)
    · cases h
  | .meS f i es, S, X, W, x, c, tk, h => by
    unfold ckE at h
    split at h
    · rename_i x p2 n apos xs cpos
      obtain ⟨h, h6⟩ := and3 h
      obtain ⟨h, h5⟩ := and3 h
      obtain ⟨h, h4⟩ := and3 h
      obtain ⟨h, h3⟩ := and3 h
      obtain ⟨h1, h2⟩ := and3 h
      obtain ⟨q1, q2, q3, q4⟩ := c.nm h2
      rw [decide_eq_true_eq] at h1 h6
      subst h1
      rw [evE]
      cases xs with
      | nil =>
        cases es with
        | nil => rw [evXs]; exact tE_meS0 c.hu1 q1 q2 q3 q4 h4
        | cons e es => unfold ckXs at h3; cases h3
      | cons y ys => exact tE_meS c.hu1 q1 q2 q3 q4 (simXs es _ c tk h3) h4 h5 (by simp at h6; omega)
    · cases h
  | .comp m elt t it own, S, X, W, x, c, tk, h => by
    unfold ckE at h
    split at h
    · rename_i el tg iter scope pos
      obtain ⟨h, h7⟩ := and3 h
      obtain ⟨h, h6⟩ := and3 h
      obtain ⟨h, h5⟩ := and3 h
      obtain ⟨h, h4⟩ := and3 h
      obtain ⟨h, h3⟩ := and3 h
      obtain ⟨h1, h2⟩ := and3 h
      rw [decide_eq_true_eq] at h3
      have ho : (ownOf S.N own).map (·.2) = own := own_map _ _
      have ok : BlkOk X.N X.env.scope scope (ownOf S.N own) := by rw [c.N, c.sc]; exact blkOk_by h2
      have g := tE_comp (XR := XR) (W := W) (elt := el) (tg := tg) (iter := iter) (ifs := []) (scope := scope) (pos := pos) (md := m) (mc := pureM true) c.calm c.nd' (simI it _ _ c tk h5) ok (by rw [ho]; exact h3) h1
        (fun s H Cc cl fp => by
          rw [ho]
          exact simTg t (fun j => !own.contains j) (fun i => own.contains i) (fun _ => rfl) _ (c.blk (s := s) (H := H) (Cc := Cc) (cl := cl) (fp := fp) (scope := scope)) takesF h6)
        (fun s H Cc cl fp => PTs_yes) (fun s H Cc cl fp => simE elt _ (c.blk (s := s) (H := H) (Cc := Cc) (cl := cl) (fp := fp) (scope := scope)) takesF h7) (not_set h4)
      rw [ho] at g
      rw [evE]
      exact g
    · cases h
  | .compI m elt t it d own, S, X, W, x, c, tk, h => by
    unfold ckE at h
    split at h
    · rename_i el tg iter i scope pos
      obtain ⟨h, h8⟩ := and3 h
      obtain ⟨h, h7⟩ := and3 h
      obtain ⟨h, h6⟩ := and3 h
      obtain ⟨h, h5⟩ := and3 h
      obtain ⟨h, h4⟩ := and3 h
      obtain ⟨h, h3⟩ := and3 h
      obtain ⟨h1, h2⟩ := and3 h
      rw [decide_eq_true_eq] at h3
      have ho : (ownOf S.N own).map (·.2) = own := own_map _ _
      have ok : BlkOk X.N X.env.scope scope (ownOf S.N own) := by rw [c.N, c.sc]; exact blkOk_by h2
      have g := tE_comp (XR := XR) (W := W) (elt := el) (tg := tg) (iter := iter) (ifs := [i]) (scope := scope) (pos := pos) (md := m) c.calm c.nd' (simI it _ _ c tk h5) ok (by rw [ho]; exact h3) h1
        (fun s H Cc cl fp => by
          rw [ho]
          exact simTg t (fun j => !own.contains j) (fun i => own.contains i) (fun _ => rfl) _ (c.blk (s := s) (H := H) (Cc := Cc) (cl := cl) (fp := fp) (scope := scope)) takesF h6)
        (fun s H Cc cl fp => pts_one (simT d _ (c.blk (s := s) (H := H) (Cc := Cc) (cl := cl) (fp := fp) (scope := scope)) takesF h7).1) (fun s H Cc cl fp => simE elt _ (c.blk (s := s) (H := H) (Cc := Cc) (cl := cl) (fp := fp) (scope := scope)) takesF h8) (not_set h4)
      rw [ho] at g
      rw [evE]
      exact g
    · cases h
theorem simT : ∀ (e : Ex) {S : Sco} {X : Cx} {W : WX} (x : Expr), Ctx T S XR C k X → Takes X W → ckT T e S x = true → PTW X x (tB1 X.K XR W (evT C G e))
  | .notE a, S, X, W, x, c, tk, h => by
    unfold ckT at h
    split at h
    · rw [evT]; exact .of (tT_not (simT a _ c tk h).1) rfl
    · cases h
  | .andE a b, S, X, W, x, c, tk, h => by
    unfold ckT at h
    split at h
    · obtain ⟨h1, h2⟩ := and3 h
      rw [evT]
      split at h2
      · exact .bool (tW_and (simT a _ c tk h1).1 (pw_and1 (simT b _ c tk h2).1))
      · exact .bool (tW_and (simT a _ c tk h1).1 ((simT b _ c tk h2).2 rfl))
    · cases h
  | .orE a b, S, X, W, x, c, tk, h => by
    unfold ckT at h
    split at h
    · obtain ⟨h1, h2⟩ := and3 h
      rw [evT]
      split at h2
      · exact .bool (tW_or (simT a _ c tk h1).1 (pw_or1 (simT b _ c tk h2).1))
      · exact .bool (tW_or (simT a _ c tk h1).1 ((simT b _ c tk h2).2 rfl))
    · cases h
  | .var i, S, X, W, x, c, tk, h => by
    unfold ckT at h
    split at h
    · rw [evT]; exact .of (tT_arg (PG_mv c h) fun _ => rfl) rfl
    · cases h
  | .cmp op a b, S, X, W, x, c, tk, h => by
    unfold ckT at h
    split at h
    · obtain ⟨h, h4⟩ := and3 h
      obtain ⟨h, h3⟩ := and3 h
      obtain ⟨h1, h2⟩ := and3 h
      rw [decide_eq_true_eq] at h1
      subst h1
      rw [evT]
      · exact .of (tT_cmp c.hu (simA a _ c tk h2) (simA b _ c tk h3) (by simpa using h4)) rfl
      all_goals simp
    · cases h
  | .chain op op' a b d, S, X, W, x, c, tk, h => by
    unfold ckT at h
    split at h
    · obtain ⟨h, h6⟩ := and3 h
      obtain ⟨h, h5⟩ := and3 h
      obtain ⟨h, h4⟩ := and3 h
      obtain ⟨h, h3⟩ := and3 h
      obtain ⟨h1, h2⟩ := and3 h
      rw [decide_eq_true_eq] at h1 h2
      subst h1; subst h2
      rw [evT]
      · exact .of (tT_chain c.hu (simA a _ c tk h3) (simA b _ c tk h4) (simA d _ c tk h5) (by simpa using h6)) rfl
      all_goals simp
    · cases h
  | .bi f as, S, X, W, x, c, tk, h => by
    unfold ckT at h
    split at h
    · obtain ⟨h, h4⟩ := and3 h
      obtain ⟨h, h3⟩ := and3 h
      obtain ⟨h1, h2⟩ := and3 h
      rw [decide_eq_true_eq] at h1
      subst h1
      rw [evT]
      · exact .of (tT_val (tE_bi c.calm (c.blt h2).1 (c.blt h2).2 (simAs as _ c tk h3) h4) fun _ => rfl) rfl
      all_goals simp
    · cases h
  | .isi a t, S, X, W, x, c, tk, h => by
    unfold ckT at h
    split at h
    · obtain ⟨h, h7⟩ := and3 h
      obtain ⟨h, h6⟩ := and3 h
      obtain ⟨h, h5⟩ := and3 h
      obtain ⟨h, h4⟩ := and3 h
      obtain ⟨h, h3⟩ := and3 h
      obtain ⟨h1, h2⟩ := and3 h
      rw [decide_eq_true_eq] at h1 h4
      subst h1; subst h4
      rw [evT]
      · exact .of (tT_val (tE_isi h6 (c.blt h2).1 (c.blt h2).2 (c.blt h5).1 (c.blt h5).2 (simA a _ c tk h3) h7) fun _ => rfl) rfl
      all_goals simp
    · cases h
  | .call f as, S, X, W, x, c, tk, h => by
    unfold ckT at h
    split at h
    · rename_i n p xs pos
      split at h
      · rename_i m ps hf
        obtain ⟨h, h5⟩ := and3 h
        obtain ⟨h, h4⟩ := and3 h
        obtain ⟨h, h3⟩ := and3 h
        obtain ⟨h1, h2⟩ := and3 h
        rw [decide_eq_true_eq] at h1 h3
        subst h1
        rw [evT]
        · refine .of (tT_val (CtxF.call c tk (c.fns _ _ _ hf) (c.gl h2) h3 ?_ h5) fun _ => rfl) rfl
          cases xs with
          | nil =>
            cases as with
            | nil => rw [evAs]; exact .inl ⟨rfl, rfl⟩
            | cons e es => unfold ckAs at h4; cases h4
          | cons y ys => exact .inr ⟨y, ys, rfl, simAs as _ c tk h4⟩
        all_goals simp
      · cases h
    · cases h
  | .sub a b, S, X, W, x, c, tk, h => by
    unfold ckT at h
    split at h
    · obtain ⟨h, h3⟩ := and3 h
      obtain ⟨h1, h2⟩ := and3 h
      rw [evT]
      · exact .of (tT_val (tE_sub c.hu1 (simA a _ c tk h1) (simA b _ c tk h2) (plain_ix h3)) fun _ => rfl) rfl
      all_goals simp
    · cases h
  | .bl i, S, X, W, x, c, tk, h => by
    unfold ckT at h
    split at h
    · rw [decide_eq_true_eq] at h
      subst h
      rw [evT]
      · exact .of (tT_val (tE_const pe_bl fun _ _ => ⟨rfl, rfl⟩) fun _ => rfl) rfl
      all_goals simp
    · cases h
  | .subS i b, S, X, W, x, c, tk, h => by
    unfold ckT at h
    split at h
    · obtain ⟨h, h3⟩ := and3 h
      obtain ⟨h1, h2⟩ := and3 h
      obtain ⟨q1, q2, q3, q4⟩ := c.nm h1
      rw [evT]
      · exact .of (tT_val (tE_subS c.hu1 q1 q2 q3 q4 (simA b _ c tk h2) (plain_ix h3)) fun _ => rfl) rfl
      all_goals simp
    · cases h
  | .meS _ _ _, S, X, W, x, c, tk, h => by unfold ckT at h; cases h
  | .mov _, S, X, W, x, c, tk, h => by unfold ckT at h; cases h
  | .int _, S, X, W, x, c, tk, h => by unfold ckT at h; cases h
  | .non, S, X, W, x, c, tk, h => by unfold ckT at h; cases h
  | .str _, S, X, W, x, c, tk, h => by unfold ckT at h; cases h
  | .bin _ _ _, S, X, W, x, c, tk, h => by unfold ckT at h; cases h
  | .neg _, S, X, W, x, c, tk, h => by unfold ckT at h; cases h
  | .ite _ _ _, S, X, W, x, c, tk, h => by unfold ckT at h; cases h
  | .tup _, S, X, W, x, c, tk, h => by unfold ckT at h; cases h
  | .lst _ _, S, X, W, x, c, tk, h => by unfold ckT at h; cases h
  | .slc _ _ _, S, X, W, x, c, tk, h => by unfold ckT at h; cases h
  | .me _ _ _, S, X, W, x, c, tk, h => by unfold ckT at h; cases h
  | .callK _ _ _ _ _, S, X, W, x, c, tk, h => by unfold ckT at h; cases h
  | .dzip _ _, S, X, W, x, c, tk, h => by unfold ckT at h; cases h
  | .lrev _, S, X, W, x, c, tk, h => by unfold ckT at h; cases h
  | .rpr _, S, X, W, x, c, tk, h => by unfold ckT at h; cases h
  | .gl _, S, X, W, x, c, tk, h => by unfold ckT at h; cases h
  | .dct _, S, X, W, x, c, tk, h => by unfold ckT at h; cases h
  | .rg _ _, S, X, W, x, c, tk, h => by unfold ckT at h; cases h
  | .rg2 _ _ _, S, X, W, x, c, tk, h => by unfold ckT at h; cases h
  | .comp _ _ _ _ _, S, X, W, x, c, tk, h => by unfold ckT at h; cases h
  | .compI _ _ _ _ _ _, S, X, W, x, c, tk, h => by unfold ckT at h; cases h
theorem simO : ∀ (e : Ox) {S : Sco} {X : Cx} {W : WX} (x : Option Expr), Ctx T S XR C k X → Takes X W → ckO T e S x = true → PO X x (tO1 X.K XR W (evO C G e))
  | .none, S, X, W, x, c, tk, h => by
    unfold ckO at h
    split at h
    · rw [evO]; exact tO_none
    · cases h
  | .some e, S, X, W, x, c, tk, h => by
    unfold ckO at h
    split at h
    · rw [evO]; exact tO_some (simE e _ c tk h)
    · cases h
theorem simXs : ∀ (e : Exs) {S : Sco} {X : Cx} {W : WX} (x : List Expr), Ctx T S XR C k X → Takes X W → ckXs T e S x = true → PA X x (tX X.K XR W (evXs C G e))
  | .nil, S, X, W, x, c, tk, h => by
    unfold ckXs at h
    split at h
    · rw [evXs]; exact tX_nil
    · cases h
  | .cons e es, S, X, W, x, c, tk, h => by
    unfold ckXs at h
    split at h
    · obtain ⟨h, h3⟩ := and3 h
      obtain ⟨h1, h2⟩ := and3 h
      rw [evXs]; exact tX_cons (simE e _ c tk h1) (simXs es _ c tk h3) (starEach_cons h2)
    · cases h
theorem simK : ∀ (e : Exs) {S : Sco} {X : Cx} {W : WX} (x : List Keyword), Ctx T S XR C k X → Takes X W → ckXs T e S (x.map (·.value)) = true → PK X x (tX X.K XR W (evXs C G e))
  | .nil, S, X, W, [], c, tk, h => by rw [evXs]; exact tXk_nil
  | .nil, S, X, W, _ :: _, c, tk, h => by unfold ckXs at h; cases h
  | .cons e es, S, X, W, [], c, tk, h => by unfold ckXs at h; cases h
  | .cons e es, S, X, W, ⟨n, v, p⟩ :: kws, c, tk, h => by
    have h' : (ckE T e S v && plainE v && ckXs T es S (kws.map (·.value))) = true := by
      unfold ckXs at h
      exact h
    obtain ⟨h, h3⟩ := and3 h'
    obtain ⟨h1, h2⟩ := and3 h
    rw [evXs]; exact tXk_cons (simE e _ c tk h1) (simK es _ c tk h3)
theorem simD : ∀ (e : Exs) {S : Sco} {X : Cx} {W : WX} {pos : Pos} (ks : List (Option Expr)) (vs : List Expr), Ctx T S XR C k X → Takes X W → ckD T e S ks vs = true → PD X XR W pos ks vs (evXs C G e) ∧ ks.all (·.isSome) = true
  | .nil, S, X, W, pos, ks, vs, c, tk, h => by
    unfold ckD at h
    split at h
    · rw [evXs]; exact ⟨pd_nil, rfl⟩
    · cases h
  | .cons e .nil, S, X, W, pos, ks, vs, c, tk, h => by
    unfold ckD at h
    split at h
    · obtain ⟨h1, h2⟩ := and3 h
      unfold ckD2 at h2
      cases h2
    · cases h
  | .cons e (.cons e2 es), S, X, W, pos, ks, vs, c, tk, h => by
    unfold ckD at h
    split at h
    · obtain ⟨h1, h2⟩ := and3 h
      unfold ckD2 at h2
      split at h2
      · obtain ⟨h3, h4⟩ := and3 h2
        obtain ⟨q1, q2⟩ := simD es (pos := pos) _ _ c tk h4
        rw [evXs, evXs]
        exact ⟨pd_cons (simE e _ c tk h1) (simE e2 _ c tk h3) q1, by rw [List.all_cons, q2]; rfl⟩
      · cases h2
    · cases h
theorem simA : ∀ (e : Ag) {S : Sco} {X : Cx} {W : WX} (x : Expr), Ctx T S XR C k X → Takes X W → ckA T e S x = true → PE X x (tG X.K XR W (evA C G e))
  | .v e, S, X, W, x, c, tk, h => by
    unfold ckA at h
    rw [evA]; exact tG_v (simE e _ c tk h)
  | .mv i, S, X, W, x, c, tk, h => by
    unfold ckA at h
    split at h
    · rw [evA]; exact PG_mv c h
    · cases h
  | .mx i e, S, X, W, x, c, tk, h => by
    unfold ckA at h
    split at h
    · obtain ⟨h, h3⟩ := and3 h
      obtain ⟨h1, h2⟩ := and3 h
      obtain ⟨q1, q2, q3, q4⟩ := c.nm h1
      rw [evA]; exact tG_mx q1 q2 q3 q4 (simE e _ c tk h2) (plain_ix h3)
    · cases h
theorem simAs : ∀ (e : Ags) {S : Sco} {X : Cx} {W : WX} (x : List Expr), Ctx T S XR C k X → Takes X W → ckAs T e S x = true → PA X x (tGs X.K XR W (evAs C G e))
  | .nil, S, X, W, x, c, tk, h => by
    unfold ckAs at h
    split at h
    · rw [evAs]; exact tGs_nil
    · cases h
  | .cons (.v e) es, S, X, W, x, c, tk, h => by
    unfold ckAs at h
    split at h
    · obtain ⟨h, h3⟩ := and3 h
      obtain ⟨h1, h2⟩ := and3 h
      rw [evAs]
      · exact tGs_cons (simA (.v e) _ c tk h1) (simAs es _ c tk h3) (starEach_cons h2)
      · intro i z; cases z
    · cases h
  | .cons (.mx i e) es, S, X, W, x, c, tk, h => by
    unfold ckAs at h
    split at h
    · obtain ⟨h, h3⟩ := and3 h
      obtain ⟨h1, h2⟩ := and3 h
      rw [evAs]
      · exact tGs_cons (simA (.mx i e) _ c tk h1) (simAs es _ c tk h3) (starEach_cons h2)
      · intro i z; cases z
    · cases h
  | .cons (.mv i) es, S, X, W, x, c, tk, h => by
    unfold ckAs at h
    split at h
    · obtain ⟨h, h3⟩ := and3 h
      obtain ⟨h1, h2⟩ := and3 h
      unfold ckA at h1
      split at h1
      · obtain ⟨q1, q2, q3, q4⟩ := c.nm h1
        rw [evAs]; exact tGs_mv q1 q2 q3 q4 (simAs es _ c tk h3)
      · cases h1
    · cases h
theorem simI : ∀ (e : Wk) {S : Sco} {X : Cx} {W : WX} (tg x : Expr), Ctx T S XR C k X → Takes X W → ckI T e S tg x = true → PI X tg x (tI X.K XR W (evI C G e))
  | .ex a, S, X, W, tg, x, c, tk, h => by
    unfold ckI at h
    rw [evI]; exact tI_ex (simA a _ c tk h)
  | .rng a, S, X, W, tg, x, c, tk, h => by
    unfold ckI at h
    split at h
    · obtain ⟨h, h4⟩ := and3 h
      obtain ⟨h, h3⟩ := and3 h
      obtain ⟨h1, h2⟩ := and3 h
      rw [decide_eq_true_eq] at h1
      subst h1
      rw [evI]; exact tI_rng (c.blt h2).1 (c.blt h2).2 (simE a _ c tk h3) h4
    · cases h
  | .rng2 a b, S, X, W, tg, x, c, tk, h => by
    unfold ckI at h
    split at h
    · obtain ⟨h, h6⟩ := and3 h
      obtain ⟨h, h5⟩ := and3 h
      obtain ⟨h, h4⟩ := and3 h
      obtain ⟨h, h3⟩ := and3 h
      obtain ⟨h1, h2⟩ := and3 h
      rw [decide_eq_true_eq] at h1
      subst h1
      rw [evI]; exact tI_rng2 (c.blt h2).1 (c.blt h2).2 (simE a _ c tk h3) (simE b _ c tk h4) h5 h6
    · cases h
  | .enum a, S, X, W, tg, x, c, tk, h => by
    unfold ckI at h
    split at h
    · obtain ⟨h, h4⟩ := and3 h
      obtain ⟨h, h3⟩ := and3 h
      obtain ⟨h1, h2⟩ := and3 h
      rw [decide_eq_true_eq] at h1
      subst h1
      rw [evI]; exact tI_enum (c.blt h2).1 (c.blt h2).2 (simA a _ c tk h3) h4
    · cases h
  | .zip a b, S, X, W, tg, x, c, tk, h => by
    unfold ckI at h
    split at h
    · obtain ⟨h, h6⟩ := and3 h
      obtain ⟨h, h5⟩ := and3 h
      obtain ⟨h, h4⟩ := and3 h
      obtain ⟨h, h3⟩ := and3 h
      obtain ⟨h1, h2⟩ := and3 h
      rw [decide_eq_true_eq] at h1
      subst h1
      rw [evI]; exact tI_zip (c.blt h2).1 (c.blt h2).2 (simA a _ c tk h3) (simA b _ c tk h4) h5 h6
    · cases h
  | .rev a, S, X, W, tg, x, c, tk, h => by
    unfold ckI at h
    split at h
    · obtain ⟨h, h4⟩ := and3 h
      obtain ⟨h, h3⟩ := and3 h
      obtain ⟨h1, h2⟩ := and3 h
      rw [decide_eq_true_eq] at h1
      subst h1
      rw [evI]; exact tI_rev (c.blt h2).1 (c.blt h2).2 (simA a _ c tk h3) h4
    · cases h
theorem simTg : ∀ (e : Tg) (keep ok : Nat → Bool) (hk : ∀ j, keep j = !ok j) {S : Sco} {X : Cx} {W : WX} (x : Expr), Ctx T S XR C k X → Takes X W → ckTg T e S x = true → PG X x (gT keep X.K XR W (evTg C G ok e))
  | .name i, keep, ok, hk, S, X, W, x, c, tk, h => by
    unfold ckTg at h
    split at h
    · obtain ⟨q1, q2, q3⟩ := c.nmT h
      have : evTg C G ok (.name i) = fun x => fun e => if ok i then .ok () (e.set i x) else .stuck := by funext x; rw [evTg]
      rw [this]
      exact tT_name hk c.nd' q1 q2 q3
    · cases h
  | .tup ts, keep, ok, hk, S, X, W, x, c, tk, h => by
    unfold ckTg at h
    split at h
    · obtain ⟨h, h3⟩ := and3 h
      obtain ⟨h1, h2⟩ := and3 h
      rw [decide_eq_true_eq] at h2
      have : evTg C G ok (.tup ts) = fun x => match x with
          | .tup xs => if xs.length = tlen ts then evTgs C G ok ts xs else fun _ => .stuck
          | _ => fun _ => .stuck := by
        funext x
        cases x <;> (rw [evTg]; try simp)
      rw [this]
      exact tT_tup c.calm (simTgs ts keep ok hk _ c tk h1) h2 h3
    · cases h
  | .sub a b, keep, ok, hk, S, X, W, x, c, tk, h => by
    unfold ckTg at h
    split at h
    · rename_i x' y pos
      obtain ⟨h, h3⟩ := and3 h
      obtain ⟨h1, h2⟩ := and3 h
      have : evTg C G ok (.sub a b) = fun x => bindM (evA C G a) fun p => bindM (evE C G b) fun y => bindM (liftM (setV p.1 y x)) fun z => plug p.2 z := by funext x; rw [evTg]
      rw [this]
      exact tT_sub c.hu1 (simA a _ c tk h1) (simE b _ c tk h2) (by
        intro v
        cases y <;> first | rfl | cases h3)
    · cases h
theorem simTgs : ∀ (e : Tgs) (keep ok : Nat → Bool) (hk : ∀ j, keep j = !ok j) {S : Sco} {X : Cx} {W : WX} (x : List Expr), Ctx T S XR C k X → Takes X W → ckTgs T e S x = true → PGs X x (gTs keep X.K XR W (evTgs C G ok e))
  | .nil, keep, ok, hk, S, X, W, x, c, tk, h => by
    unfold ckTgs at h
    split at h
    · have : evTgs C G ok .nil = fun xs => match xs with
          | [] => pureM ()
          | _ => fun _ => .stuck := by
        funext x
        cases x with
        | nil => rw [evTgs]
        | cons a b =>
          rw [evTgs]
          all_goals first | (intros; contradiction) | simp
      rw [this]
      exact tT_nil
    · cases h
  | .cons t ts, keep, ok, hk, S, X, W, x, c, tk, h => by
    unfold ckTgs at h
    split at h
    · obtain ⟨h, h3⟩ := and3 h
      obtain ⟨h1, h2⟩ := and3 h
      have : evTgs C G ok (.cons t ts) = fun xs => match xs with
          | x :: xs => bindM (evTg C G ok t x) fun _ => evTgs C G ok ts xs
          | [] => fun _ => .stuck := by funext x; cases x <;> rw [evTgs] <;> simp
      rw [this]
      exact tT_cons (simTg t keep ok hk _ c tk h1) (simTgs ts keep ok hk _ c tk h3) h2
    · cases h
end
end
end Nd

/-! NdU: how an assignment stores. -/
namespace Nd
open PySem PySem.Spec PyProof.Rows L2
def isFun : ScopeKind → Bool
  | .function => true
  | _ => false
def isName : Expr → Bool
  | .Name _ _ => true
  | _ => false
def namesOf (env : Env) (ts : List Expr) : List PySem.Str := ts.filterMap fun
    | .Name id pos => if env.kindOf id == some .local && pos.line == (ts.head?.map (·.pos.line)).getD 0 then some id else none
    | _ => none
def starr (vs : List Expr) : Bool := vs.any fun | .Starred .. => true | _ => false
theorem sw_eq {env : Env} {ts vs : List Expr} {kt k2 : Nat} {pt pt2 : Pos} : swappedStores [.Tuple ts kt pt] (.Tuple vs k2 pt2) env =
    if (!(ts.length == 2 || ts.length == 3) || vs.length != ts.length || env.blockKind != .function) = true then pure none
    else if starr vs = true then pure none
    else if ((namesOf env ts).length != ts.length || (namesOf env ts).eraseDups.length != (namesOf env ts).length) = true then pure none
    else if vs.all (foldedForSure 8) = true then pure none
    else if vs.all (constantsAlone 8) = true then (do unsupported "assign.tuple-of-constant-expressions:order-of-the-stores"; pure (some (namesOf env ts)))
    else pure (some (namesOf env ts)) := by
  unfold swappedStores
  rfl
/-- it stores no pair in a swapped order -/
def locName (S : Sco) : Expr → Bool
  | .Name x _ => isLocal (S.sc.names.lookup x)
  | _ => false
def stN (S : Sco) (tg e : Expr) : Bool := match tg, e with
  | .Tuple ts _ _, .Tuple vs _ _ => !(ts.length == 2 || ts.length == 3) || vs.length != ts.length || vs.all (foldedForSure 8) || ts.any fun t => !locName S t
  | .List _ _, .Tuple _ _ _ => false
  | _, _ => true
theorem names_less {S : Sco} {env : Env} {ts : List Expr} (he : env.scope = S.sc) (h : (ts.any fun t => !locName S t) = true) : (namesOf env ts).length < ts.length := by
  obtain ⟨t, ht, hn⟩ := List.any_eq_true.mp h
  have key : ∀ (l : List Expr) (f : Expr → Option PySem.Str), (∀ t, locName S t = false → f t = none) → t ∈ l → (l.filterMap f).length < l.length := by
    intro l f hf
    induction l with
    | nil => intro hm; simp at hm
    | cons a l ih =>
      intro hm
      rw [List.filterMap_cons]
      rcases List.mem_cons.mp hm with rfl | hm
      · rw [hf t (by simpa using hn)]
        exact Nat.lt_succ_of_le (List.length_filterMap_le f l)
      · have := ih hm
        split <;> simp only [List.length_cons] <;> omega
  exact key ts _ (fun t ht => by
    cases t <;> first | rfl | skip
    rename_i x p
    have : (env.kindOf x == some .local) = false := by
      show (env.scope.names.lookup x == _) = false
      rw [he]
      have ht : isLocal (S.sc.names.lookup x) = false := ht
      cases hk : S.sc.names.lookup x with
      | none => rfl
      | some kk =>
        rw [hk] at ht
        cases kk <;> first | rfl | cases ht
    show (if env.kindOf x == some .local && _ then some x else none) = none
    rw [this]
    rfl) ht
theorem stN_ok {S : Sco} {tg e : Expr} {env : Env} (he : env.scope = S.sc) (h : stN S tg e = true) : swappedStores [tg] e env = pure none := by
  unfold stN at h
  split at h
  · rename_i ts _ _ vs _ _
    rw [sw_eq]
    simp only [Bool.or_eq_true] at h
    split
    · rfl
    · rename_i c1
      split
      · rfl
      · split
        · rfl
        · rename_i c3
          split
          · rfl
          · rename_i c4
            exfalso
            rcases h with ((h | h) | h) | h
            · exact c1 (by rw [h]; rfl)
            · exact c1 (by rw [h]; simp)
            · exact c4 h
            · have := names_less he h
              refine c3 ?_
              have e : ((namesOf env ts).length != ts.length) = true := bne_iff_ne.mpr (by omega)
              rw [e]; rfl
  · cases h
  · rename_i hA hB
    unfold swappedStores
    cases tg <;> first | rfl | (cases e <;> first | rfl | exact (hA _ _ _ _ _ _ rfl rfl).elim | exact (hB _ _ _ _ _ rfl rfl).elim)
/-- names that are stored from the right -/
def parOk (S : Sco) (vs : List Expr) : Bool := isFun S.sc.kind && vs.all plainE && !vs.all (foldedForSure 8) && !vs.all (constantsAlone 8)
theorem starr_none {vs : List Expr} (h : vs.all plainE = true) : starr vs = false := by
  unfold starr
  rw [List.any_eq_false]
  intro v hv
  have := List.all_eq_true.mp h v hv
  cases v <;> first | (simp [plainE] at this; done) | (intro z; cases z)
theorem par_ok {S : Sco} {env : Env} {ts vs : List Expr} {kt k2 : Nat} {pt pt2 : Pos} {ns : List PySem.Str} (he : env.scope = S.sc) (h : parOk S vs = true) (hl : ts.length = 2 ∨ ts.length = 3) (hv : vs.length = ts.length) (hn : namesOf env ts = ns) (hnl : ns.length = ts.length) (hd : ns.eraseDups.length = ns.length) : swappedStores [.Tuple ts kt pt] (.Tuple vs k2 pt2) env = pure (some ns) := by
  unfold parOk at h
  simp only [Bool.and_eq_true, Bool.not_eq_true'] at h
  obtain ⟨⟨⟨h1, h2⟩, h3⟩, h4⟩ := h
  have hb : (env.blockKind != .function) = false := by
    unfold Env.blockKind
    rw [he]
    unfold isFun at h1
    split at h1
    · rename_i e; rw [e]; rfl
    · cases h1
  rw [sw_eq, hn]
  have c1 : (!(ts.length == 2 || ts.length == 3) || vs.length != ts.length || env.blockKind != .function) = false := by
    rw [hb, hv]
    rcases hl with e | e <;> rw [e] <;> rfl
  have c3 : (ns.length != ts.length || ns.eraseDups.length != ns.length) = false := by
    rw [hd, hnl]
    simp
  rw [if_neg (by rw [c1]; simp), if_neg (by rw [starr_none h2]; simp), if_neg (by rw [c3]; simp), if_neg (by rw [h3]; simp), if_neg (by rw [h4]; simp)]
theorem nameAt {env : Env} {S : Sco} {x : PySem.Str} (he : env.scope = S.sc) (h : isLocal (S.sc.names.lookup x) = true) : (env.kindOf x == some .local) = true := by
  show (env.scope.names.lookup x == _) = true
  rw [he, isLocal_eq h]; rfl
theorem names2 {env : Env} {S : Sco} {x y : PySem.Str} {px py : Pos} (he : env.scope = S.sc) (h2 : isLocal (S.sc.names.lookup x) = true) (h3 : isLocal (S.sc.names.lookup y) = true) (h4 : (py.line == px.line) = true) : namesOf env [.Name x px, .Name y py] = [x, y] := by
  have kx := nameAt he h2
  have ky := nameAt he h3
  simp only [namesOf, List.filterMap_cons, List.head?_cons, Option.map_some, Option.getD_some, Expr.pos, List.filterMap_nil, kx, ky, h4, beq_self_eq_true, Bool.and_self, if_true]
theorem names3 {env : Env} {S : Sco} {x y z : PySem.Str} {px py pz : Pos} (he : env.scope = S.sc) (h2 : isLocal (S.sc.names.lookup x) = true) (h3 : isLocal (S.sc.names.lookup y) = true) (h5 : isLocal (S.sc.names.lookup z) = true) (h4 : (py.line == px.line) = true) (h6 : (pz.line == px.line) = true) : namesOf env [.Name x px, .Name y py, .Name z pz] = [x, y, z] := by
  have kx := nameAt he h2
  have ky := nameAt he h3
  have kz := nameAt he h5
  simp only [namesOf, List.filterMap_cons, List.head?_cons, Option.map_some, Option.getD_some, Expr.pos, List.filterMap_nil, kx, ky, kz, h4, h6, beq_self_eq_true, Bool.and_self, if_true]
/-- the store after a comprehension is not made within it -/
def swN (S : Sco) (tg e : Expr) : Bool := match e with
  | .ListComp _ _ _ _ => match tg with
    | .Name y _ => !isLocal (S.sc.names.lookup y)
    | _ => true
  | .SetComp _ _ _ _ => false
  | .DictComp _ _ _ _ _ => false
  | _ => true
theorem swN_ok {S : Sco} {env : Env} {tg e : Expr} {l : Nat} (he : env.scope = S.sc) (h : swN S tg e = true) : swapsWithSole [tg] e l env = pure false := by
  unfold swN at h
  unfold swapsWithSole
  split at h
  · split at h
    · rename_i y py
      have : (env.kindOf y == some .local) = false := by
        show (env.scope.names.lookup y == _) = false
        rw [he]
        cases hk : S.sc.names.lookup y with
        | none => rfl
        | some kk =>
          rw [hk] at h
          cases kk <;> first | rfl | cases h
      show swapsWith _ (some (.Name y py)) l env = _
      unfold swapsWith
      simp [this]
    · rename_i hn
      show swapsWith _ (some tg) l env = _
      unfold swapsWith
      cases tg <;> first | rfl | exact (hn _ _ rfl).elim
  · cases h
  · cases h
  · rename_i h1 h2 h3
    show swapsWith _ (some tg) l env = _
    unfold swapsWith
    cases e <;> first | rfl | exact (h1 _ _ _ _ rfl).elim | exact (h2 _ _ _ _ rfl).elim | exact (h3 _ _ _ _ _ rfl).elim
theorem notComp_ok {e : Expr} {env : Env} {l : Nat} (h : notComp e = true) : swapsWith e none l env = pure false := by
  cases e <;> first | rfl | cases h
end Nd

/-! NdV: what is seen is so: statements; defs; programs. -/
namespace Nd
open PySem PySem.Spec PyProof.Rows L2
/-- y = [..] on its line, y a local that the block doesn't store -/
def swC (S : Sco) (t : Tg) (tg e : Expr) : Bool := match t, tg, e with
  | .name i, .Name y py, .ListComp _ _ scope pos => decide (S.N[i]? = some y) && isLocal (S.sc.names.lookup y) && (py.line == pos.line) && isFun S.sc.kind && !(scope.names.any fun (n, k) => n == y && (k == .local || k == .cell))
  | _, _, _ => false
mutual
def ckS (T : Tab) : Sm → Sco → Stmt → Bool
  | .asg t e, S, s => match s with
    | .Assign [tg] x _ => ckE T e S x && ((ckTg T t S tg && plainE tg && stN S tg x && swN S tg x) || swC S t tg x)
    | _ => false
  | .par is es, S, s => match s with
    | .Assign [.Tuple [.Name x px, .Name y py] _ _] (.Tuple [a, b] _ _) _ => (match is with
      | [i, j] => decide (S.N[i]? = some x) && decide (S.N[j]? = some y) && decide (i ≠ j) && decide (x ≠ y) && isLocal (S.sc.names.lookup x) && isLocal (S.sc.names.lookup y) && (py.line == px.line) && parOk S [a, b] && ckXs T es S [a, b]
      | _ => false)
    | .Assign [.Tuple [.Name x px, .Name y py, .Name z pz] _ _] (.Tuple [a, b, c] _ _) _ => (match is with
      | [i, j, l] => decide (S.N[i]? = some x) && decide (S.N[j]? = some y) && decide (S.N[l]? = some z) && decide (i ≠ j) && decide (i ≠ l) && decide (j ≠ l) && decide (x ≠ y) && decide (x ≠ z) && decide (y ≠ z) && isLocal (S.sc.names.lookup x) && isLocal (S.sc.names.lookup y) && isLocal (S.sc.names.lookup z) && (py.line == px.line) && (pz.line == px.line) && parOk S [a, b, c] && ckXs T es S [a, b, c]
      | _ => false)
    | _ => false
  | .expr e, S, s => match s with
    | .Expr x _ => ckE T e S x && notComp x
    | _ => false
  | .ret e, S, s => match s with
    | .Return (some x) _ => ckE T e S x
    | _ => false
  | .retN, _, s => match s with
    | .Return none _ => true
    | _ => false
  | .ifS c a b, S, s => match s with
    | .If t x y _ => ckT T c S t && ckSs T a S x && ckSs T b S y
    | _ => false
  | .forS t it b, S, s => match s with
    | .For tg iter body [] _ => notSet iter && ckI T it S tg iter && ckTg T t S tg && ckSs T b S body
    | _ => false
  | .whl c b, S, s => match s with
    | .While t body [] _ => ckT T c S t && ckSs T b S body
    | _ => false
  | .brk, _, s => match s with
    | .Break _ => true
    | _ => false
  | .cont, _, s => match s with
    | .Continue _ => true
    | _ => false
  | .pass, _, s => match s with
    | .Pass _ => true
    | .Expr (.Constant (.str _) _ _) _ => true
    | _ => false
def ckSs (T : Tab) : Sms → Sco → List Stmt → Bool
  | .nil, _, s => match s with
    | [] => true
    | _ => false
  | .cons a as, S, s => match s with
    | x :: xs => ckS T a S x && ckSs T as S xs
    | _ => false
end
theorem dedup2 {x y : PySem.Str} (h : x ≠ y) : ([x, y] : List PySem.Str).eraseDups.length = 2 := by
  simp [List.eraseDups_cons, h, Ne.symm h]
theorem dedup3 {x y z : PySem.Str} (h : x ≠ y) (h2 : x ≠ z) (h3 : y ≠ z) : ([x, y, z] : List PySem.Str).eraseDups.length = 3 := by
  simp [List.eraseDups_cons, h, Ne.symm h, h2, Ne.symm h2, h3, Ne.symm h3]
section
variable (T : Tab) (XR : XRT) (C : Nat → List Val → CRes) (G : Nat → Option Val) (k : Nat)
theorem simSw {S : Sco} {X : Cx} {W : WX} {t : Tg} {e : Ex} {tg x : Expr} {pos : Pos} {io : List Nat} (c : Ctx T S XR C k X) (tk : Takes X W) (h : ckE T e S x = true) (hs : swC S t tg x = true) : PS X (.Assign [tg] x pos) (tS (kp io) X.K XR W (evS C G io (.asg t e))) := by
  unfold swC at hs
  split at hs
  · rename_i i y py el gens scope cpos
    obtain ⟨hs, s5⟩ := and3 hs
    obtain ⟨hs, s4⟩ := and3 hs
    obtain ⟨hs, s3⟩ := and3 hs
    obtain ⟨s1, s2⟩ := and3 hs
    rw [decide_eq_true_eq] at s1
    have hN : X.N[i]? = some y := by rw [c.N]; exact s1
    have hl : X.env.scope.names.lookup y = some .local := by rw [c.sc]; exact isLocal_eq s2
    have hkind : X.env.scope.kind = .function := by
      rw [c.sc]
      unfold isFun at s4
      split at s4
      · assumption
      · cases s4
    have hk : ∀ j, kp io j = !(fun i => !io.contains i) j := fun j => by simp [kp]
    have hsw : ∀ {el' gens'}, swapsWith (.ListComp el' gens' scope cpos) (some (.Name y py)) pos.line X.env = pure true := sw_true hkind hl s3 (by simpa using s5)
    have hT : ∀ x, evTg C G (fun i => !io.contains i) (.name i) x = fun e => if (fun i => !io.contains i) i then .ok () (e.set i x) else .stuck := fun x => by rw [evTg]
    have hE : evS C G io (.asg (.name i) e) = bindM (evE C G e) fun x => bindM (fun e => if (fun i => !io.contains i) i then .ok () (e.set i x) else .stuck) fun _ => pureM .nx := by
      rw [evS]
      first
        | rfl
        | (congr 1
           funext x
           rw [hT])
    rw [hE]
    cases e <;> first | (unfold ckE at h; cases h; done) | (unfold ckE at h; split at h <;> first | (cases h; done) | (rename_i hh; cases hh; done)) | skip
    · -- comp
      rename_i m elt t it own
      unfold ckE at h
      split at h
      · rename_i heq
        cases heq
        rename_i tg iter
        obtain ⟨h, h7⟩ := and3 h
        obtain ⟨h, h6⟩ := and3 h
        obtain ⟨h, h5⟩ := and3 h
        obtain ⟨h, h4⟩ := and3 h
        obtain ⟨h, h3⟩ := and3 h
        obtain ⟨h1, h2⟩ := and3 h
        rw [decide_eq_true_eq] at h3
        have ho : (ownOf S.N own).map (·.2) = own := own_map _ _
        have ok : BlkOk X.N X.env.scope scope (ownOf S.N own) := by rw [c.N, c.sc]; exact blkOk_by h2
        have g := tS_setLc (XR := XR) (W := W) (ifs := []) (scope := scope) (md := m) (mc := pureM true) hk c.calm c.nd' hN hl hsw (simI T XR C G k it _ _ c tk h5) ok (by rw [ho]; exact h3) h1
          (fun s H Cc cl fp => by
            rw [ho]
            exact simTg T XR C G k t (fun j => !own.contains j) (fun i => own.contains i) (fun _ => rfl) _ (c.blk (s := s) (H := H) (Cc := Cc) (cl := cl) (fp := fp) (scope := scope)) takesF h6)
          (fun s H Cc cl fp => PTs_yes) (fun s H Cc cl fp => simE T XR C G k elt _ (c.blk (s := s) (H := H) (Cc := Cc) (cl := cl) (fp := fp) (scope := scope)) takesF h7) (not_set h4)
        rw [ho] at g
        rw [evE]
        exact g
      · cases h
    · rename_i m elt t it d own
      unfold ckE at h
      split at h
      · rename_i heq
        cases heq
        rename_i tg iter i
        obtain ⟨h, h8⟩ := and3 h
        obtain ⟨h, h7⟩ := and3 h
        obtain ⟨h, h6⟩ := and3 h
        obtain ⟨h, h5⟩ := and3 h
        obtain ⟨h, h4⟩ := and3 h
        obtain ⟨h, h3⟩ := and3 h
        obtain ⟨h1, h2⟩ := and3 h
        rw [decide_eq_true_eq] at h3
        have ho : (ownOf S.N own).map (·.2) = own := own_map _ _
        have ok : BlkOk X.N X.env.scope scope (ownOf S.N own) := by rw [c.N, c.sc]; exact blkOk_by h2
        have g := tS_setLc (XR := XR) (W := W) (ifs := [i]) (scope := scope) (md := m) hk c.calm c.nd' hN hl hsw (simI T XR C G k it _ _ c tk h5) ok (by rw [ho]; exact h3) h1
          (fun s H Cc cl fp => by
            rw [ho]
            exact simTg T XR C G k t (fun j => !own.contains j) (fun i => own.contains i) (fun _ => rfl) _ (c.blk (s := s) (H := H) (Cc := Cc) (cl := cl) (fp := fp) (scope := scope)) takesF h6)
          (fun s H Cc cl fp => pts_one (simT T XR C G k d _ (c.blk (s := s) (H := H) (Cc := Cc) (cl := cl) (fp := fp) (scope := scope)) takesF h7).1) (fun s H Cc cl fp => simE T XR C G k elt _ (c.blk (s := s) (H := H) (Cc := Cc) (cl := cl) (fp := fp) (scope := scope)) takesF h8) (not_set h4)
        rw [ho] at g
        rw [evE]
        exact g
      · cases h
  · cases hs
mutual
theorem simS : ∀ (st : Sm) (io : List Nat) {S : Sco} {X : Cx} {W : WX} (s : Stmt), Ctx T S XR C k X → Takes X W → PassesOwn (model X.prog X.w) X.A X.env X.xe → ckS T st S s = true → PS X s (tS (kp io) X.K XR W (evS C G io st))
  | .asg t e, io, S, X, W, s, c, tk, po, h => by
    unfold ckS at h
    split at h
    · obtain ⟨h1, h2⟩ := and3 h
      rw [Bool.or_eq_true] at h2
      rcases h2 with h2 | h2
      · obtain ⟨h2, h5⟩ := and3 h2
        obtain ⟨h2, h4⟩ := and3 h2
        obtain ⟨h2, h3⟩ := and3 h2
        rw [evS]
        exact tS_asg (simE T XR C G k e _ c tk h1) (simTg T XR C G k t (kp io) (fun i => !io.contains i) (fun j => by simp [kp]) _ c tk h2) (swN_ok c.sc h5) (stN_ok c.sc h4) h3
      · exact simSw T XR C G k c tk h1 h2
    · cases h
  | .par is es, io, S, X, W, s, c, tk, po, h => by
    unfold ckS at h
    split at h
    · split at h
      · rename_i x px y py kt pt a b k2 pt2 pos is i j
        obtain ⟨h, h9⟩ := and3 h
        obtain ⟨h, h8⟩ := and3 h
        obtain ⟨h, h7⟩ := and3 h
        obtain ⟨h, h6⟩ := and3 h
        obtain ⟨h, h5⟩ := and3 h
        obtain ⟨h, h4⟩ := and3 h
        obtain ⟨h, h3⟩ := and3 h
        obtain ⟨h1, h2⟩ := and3 h
        rw [decide_eq_true_eq] at h1 h2 h3 h4
        rw [evS]
        exact tS_par2 c.calm c.nd' (by rw [c.N]; exact h1) (by rw [c.N]; exact h2) h3 (by rw [c.sc]; exact isLocal_eq h5) (by rw [c.sc]; exact isLocal_eq h6) (simXs T XR C G k es _ c tk h9)
          (par_ok c.sc h8 (.inl rfl) rfl (names2 c.sc h5 h6 h7) rfl (dedup2 h4))
      · cases h
    · split at h
      · rename_i x px y py z pz kt pt a b d k2 pt2 pos is i j l
        obtain ⟨h, h16⟩ := and3 h
        obtain ⟨h, h15⟩ := and3 h
        obtain ⟨h, h14⟩ := and3 h
        obtain ⟨h, h13⟩ := and3 h
        obtain ⟨h, h12⟩ := and3 h
        obtain ⟨h, h11⟩ := and3 h
        obtain ⟨h, h10⟩ := and3 h
        obtain ⟨h, h9⟩ := and3 h
        obtain ⟨h, h8⟩ := and3 h
        obtain ⟨h, h7⟩ := and3 h
        obtain ⟨h, h6⟩ := and3 h
        obtain ⟨h, h5⟩ := and3 h
        obtain ⟨h, h4⟩ := and3 h
        obtain ⟨h, h3⟩ := and3 h
        obtain ⟨h1, h2⟩ := and3 h
        rw [decide_eq_true_eq] at h1 h2 h3 h4 h5 h6 h7 h8 h9
        rw [evS]
        exact tS_par3 c.calm c.nd' (by rw [c.N]; exact h1) (by rw [c.N]; exact h2) (by rw [c.N]; exact h3) h4 h5 h6 (by rw [c.sc]; exact isLocal_eq h10) (by rw [c.sc]; exact isLocal_eq h11) (by rw [c.sc]; exact isLocal_eq h12) (simXs T XR C G k es _ c tk h16)
          (par_ok c.sc h15 (.inr rfl) rfl (names3 c.sc h10 h11 h12 h13 h14) rfl (dedup3 h7 h8 h9))
      · cases h
    · cases h
  | .expr e, io, S, X, W, s, c, tk, po, h => by
    unfold ckS at h
    split at h
    · obtain ⟨h1, h2⟩ := and3 h
      rw [evS]
      exact tS_expr (simE T XR C G k e _ c tk h1) (notComp_ok h2)
    · cases h
  | .ret e, io, S, X, W, s, c, tk, po, h => by
    unfold ckS at h
    split at h
    · rw [evS]
      exact tS_ret (simE T XR C G k e _ c tk h)
    · cases h
  | .retN, io, S, X, W, s, c, tk, po, h => by
    unfold ckS at h
    split at h
    · rw [evS]
      exact tS_retN
    · cases h
  | .ifS d a b, io, S, X, W, s, c, tk, po, h => by
    unfold ckS at h
    split at h
    · obtain ⟨h, h3⟩ := and3 h
      obtain ⟨h1, h2⟩ := and3 h
      rw [evS]
      exact tS_if (simT T XR C G k d _ c tk h1).1 (simSs a io _ c tk po h2) (simSs b io _ c tk po h3)
    · cases h
  | .forS t it b, io, S, X, W, s, c, tk, po, h => by
    unfold ckS at h
    split at h
    · obtain ⟨h, h4⟩ := and3 h
      obtain ⟨h, h3⟩ := and3 h
      obtain ⟨h1, h2⟩ := and3 h
      rw [evS]
      exact tS_for (mt := fun io2 => evTg C G (fun i => !io2.contains i) t) (mb := fun io2 => evSs C G io2 b) po c.calm (simI T XR C G k it _ _ c tk h2) (fun io2 => simTg T XR C G k t (kp io2) (fun i => !io2.contains i) (fun j => by simp [kp]) _ c tk h3) (fun io2 => simSs b io2 _ c tk po h4) (not_set h1)
    · cases h
  | .whl d b, io, S, X, W, s, c, tk, po, h => by
    unfold ckS at h
    split at h
    · obtain ⟨h1, h2⟩ := and3 h
      rw [evS]
      exact tS_whl po (simT T XR C G k d _ c tk h1).1 (simSs b io _ c tk po h2)
    · cases h
  | .brk, io, S, X, W, s, c, tk, po, h => by
    unfold ckS at h
    split at h
    · rw [evS]
      exact tS_brk
    · cases h
  | .cont, io, S, X, W, s, c, tk, po, h => by
    unfold ckS at h
    split at h
    · rw [evS]
      exact tS_cont
    · cases h
  | .pass, io, S, X, W, s, c, tk, po, h => by
    unfold ckS at h
    split at h
    · rw [evS]
      exact tS_pass
    · rw [evS]
      exact tS_doc
    · cases h
theorem simSs : ∀ (st : Sms) (io : List Nat) {S : Sco} {X : Cx} {W : WX} (s : List Stmt), Ctx T S XR C k X → Takes X W → PassesOwn (model X.prog X.w) X.A X.env X.xe → ckSs T st S s = true → PSs X s (tS (kp io) X.K XR W (evSs C G io st))
  | .nil, io, S, X, W, s, c, tk, po, h => by
    unfold ckSs at h
    split at h
    · rw [evSs]
      exact tSs_nil
    · cases h
  | .cons a as, io, S, X, W, s, c, tk, po, h => by
    unfold ckSs at h
    split at h
    · obtain ⟨h1, h2⟩ := and3 h
      rw [evSs]
      exact tSs_cons (simS a io _ c tk po h1) (simSs as io _ c tk po h2)
    · cases h
end
end
end Nd

set_option maxHeartbeats 2000000
/-! NdX: defs, programs, laws. -/
namespace Nd
open PySem PySem.Spec PyProof.Rows L2
theorem outs_len {np : Nat} {io : List Nat} {e : List Val} : (outsOf np io e).length = np := by unfold outsOf; simp
theorem lenOk_runD {C : Nat → List Val → CRes} {G : Nat → Option Val} {d : Df} : LenOk d.np (runD C G d) := fun xs => by
  unfold runD
  by_cases h : xs.length = d.np
  · rw [if_pos h]
    cases evSs C G d.io d.body (xs ++ List.replicate (d.ns - d.np) .und) with
    | ok fl e =>
      cases fl with
      | nx => exact ⟨h, outs_len⟩
      | rt v => exact ⟨h, outs_len⟩
      | bk => trivial
      | ct => trivial
    | exc x e => exact ⟨h, outs_len⟩
    | stuck => trivial
  · rw [if_neg h]
    trivial
theorem lenOk_runN {D : List Df} {G : Nat → Option Val} {k f : Nat} {d : Df} (h : D[f]? = some d) : LenOk d.np (runN D G k f) := by
  cases k with
  | zero => intro xs; trivial
  | succ k =>
    intro xs
    have := lenOk_runD (C := runN D G k) (G := G) (d := d) xs
    unfold runN
    rw [h]
    exact this
/-- what a def leaves of its parameters -/
theorem outs_ok {K : PySem.W.Frag} {H : Hp} {Z : ZS} {vs : List V} {σ : Sl} {e : List Val} {io : List Nat} {Bs : List Asn} (hσ : ∀ i, io.contains i = true → i < vs.length → σ[i]? = some ((vs[i]?))) (g : Good H Z (envA K σ e ++ Bs)) : Good H Z (reps K vs (outsOf vs.length io e) ++ Bs) := by
  have step : ∀ m, m ≤ vs.length → ∃ e', (∀ j, m ≤ j → e'[j]? = e[j]?) ∧ Good H Z (reps K (vs.take m) ((outsOf vs.length io e).take m) ++ (envA K σ e' ++ Bs)) := by
    intro m
    induction m with
    | zero => intro _; exact ⟨e, fun _ _ => rfl, g⟩
    | succ m ih =>
      intro hm
      obtain ⟨e', he', g'⟩ := ih (by omega)
      have hv : vs[m]? = some vs[m] := List.getElem?_eq_getElem (by omega)
      have ht : reps K (vs.take (m + 1)) ((outsOf vs.length io e).take (m + 1)) = reps K (vs.take m) ((outsOf vs.length io e).take m) ++ [rep K vs[m] (if io.contains m then e.getD m .und else .und)] := by
        have e1 : vs.take (m + 1) = vs.take m ++ [vs[m]] := by rw [List.take_succ, hv]; rfl
        have e2 : (outsOf vs.length io e).take (m + 1) = (outsOf vs.length io e).take m ++ [if io.contains m then e.getD m .und else .und] := by
          rw [List.take_succ]
          congr 1
          unfold outsOf
          rw [List.getElem?_map, List.getElem?_range (by omega)]
          simp
        rw [e1, e2, reps_app (by simp [outs_len])]
        rfl
      rw [ht]
      have keep : Good H Z ((reps K (vs.take m) ((outsOf vs.length io e).take m) ++ [rep K vs[m] .und]) ++ (envA K σ e' ++ Bs)) := by
        have g2 : Good H Z (rep K vs[m] .und :: (reps K (vs.take m) ((outsOf vs.length io e).take m) ++ (envA K σ e' ++ Bs))) := g'.new rfl
        exact g2.perm (permC fun a => by simp only [cnt_cons, cnt_append, cnt_nil]; omega)
      by_cases hio : io.contains m = true
      · rw [if_pos hio]
        cases hx : e[m]? with
        | none =>
          rw [List.getD_eq_getElem?_getD, hx]
          exact ⟨e', fun j hj => he' j (by omega), keep⟩
        | some x =>
          rw [List.getD_eq_getElem?_getD, hx]
          by_cases hu : x = .und
          · subst hu
            exact ⟨e', fun j hj => he' j (by omega), keep⟩
          · have hx' : e'[m]? = some x := (he' m (Nat.le_refl _)).trans hx
            obtain ⟨v, q1, q2⟩ := g'.mid.getS hx' hu
            have q3 := hσ m hio (by omega)
            rw [q1, hv] at q3
            have hvv : v = vs[m] := Option.some.inj (Option.some.inj q3)
            subst hvv
            refine ⟨e'.set m .und, fun j hj => ?_, ?_⟩
            · rw [List.getElem?_set_ne (by omega)]
              exact he' j (by omega)
            · exact q2.perm (permC fun a => by simp only [cnt_cons, cnt_append, cnt_nil, Option.getD_some]; omega)
      · rw [if_neg hio]
        exact ⟨e', fun j hj => he' j (by omega), keep⟩
  obtain ⟨e', _, g'⟩ := step vs.length (Nat.le_refl _)
  rw [List.take_length, List.take_of_length_le (by rw [outs_len]; exact Nat.le_refl _)] at g'
  exact g'.mid.dropL
theorem start_env {K : PySem.W.Frag} : ∀ {vs : List V} {xs : List Val} {n m : Nat}, vs.length = xs.length → m ≤ n → ∀ {H : Hp} {Z : ZS} {Bs : List Asn}, Good H Z (reps K vs xs ++ Bs) → Good H Z (envA K (vs.map some ++ List.replicate n none) (xs ++ List.replicate m .und) ++ Bs)
  | [], [], n, m, _, hm, H, Z, Bs, g => by
    have : ∀ m n, m ≤ n → Good H Z (envA K (List.replicate n none) (List.replicate m .und) ++ Bs) := by
      intro m
      induction m with
      | zero =>
        intro n _
        cases n <;> exact g
      | succ m ih =>
        intro n hn
        cases n with
        | zero => omega
        | succ n =>
          show Good H Z (repO K none .und :: (envA K (List.replicate n none) (List.replicate m .und) ++ Bs))
          exact (ih n (by omega)).new ⟨rfl, rfl⟩
    exact this m n hm
  | [], _ :: _, _, _, h, _, _, _, _, _ => by simp at h
  | _ :: _, [], _, _, h, _, _, _, _, _ => by simp at h
  | v :: vs, x :: xs, n, m, h, hm, H, Z, Bs, g => by
    have g1 : Good H Z (reps K vs xs ++ (rep K v x :: Bs)) := g.perm (by
      show (rep K v x :: (reps K vs xs ++ Bs)).Perm _
      exact List.perm_middle.symm)
    have g2 := start_env (n := n) (m := m) (by simpa using h) hm g1
    have g3 : Good H Z (rep K v x :: (envA K (vs.map some ++ List.replicate n none) (xs ++ List.replicate m .und) ++ Bs)) := g2.perm List.perm_middle
    exact g3
theorem start_at {N : List PySem.Str} {vs : List V} {i : Nat} (h : i < vs.length) : (start N vs)[i]? = some (vs[i]?) := by
  unfold L2.start
  rw [List.getElem?_append_left (by simpa using h), List.getElem?_map, List.getElem?_eq_getElem h]
  rfl
/-- a def by its body -/
theorem fnG_of {P : Program} {w : World} {K : PySem.W.Frag} {mg : PySem.Str → Option Value} {base : Heap} {k : Nat} {f : Addr} {name qual : PySem.Str} {params : Arguments} {body : List Stmt} {scope : Scope} {dV kV doc pm cdv ct oc : Value} {an od : Option Addr} {osl : Array (Option Value)} {N ps : List PySem.Str}
    {XR : XRT} {C : Nat → List Val → CRes} {G : Nat → Option Val} (d : Df) (lk : K.lookup f = some ⟨oc, od, .func (PySem.W.fnOf name qual params body scope dV kV doc pm an cdv ct), osl⟩) (hcd : PySem.W.codeIn K cdv qual = true) (S : FnScope N ps scope) (hnp : ps.length = d.np) (hns : d.ns ≤ N.length)
    (hbody : ∀ (A : Around) (outer : List Env) (s : Shared) (H : Hp) (E : XK), Room k (A.deeper (envOfC qual scope s.heap.objs.size f cdv)) → A.guards = some [] →
      PSs (cxOf (L2.CX P w) P w K mg base N qual scope f cdv A outer s H E) body (tS (kp d.io) K XR (fun c' d' _ H' => E c' d' H') (evSs C G d.io d.body))) :
    FnG P w K mg base (L2.CX P w) (k + 1) f (PySem.W.fnOf name qual params body scope dV kV doc pm an cdv ct) ps (spR K XR d.np (runD C G d)) := by
  refine ⟨fun vs H Q E h => by rw [hnp]; exact h.1, fun A outer s H args us vs Q E hr hgd e0 hb r hsp => ?_⟩
  have hl : vs.length = ps.length := by rw [hnp]; exact hsp.1
  have KX : K.In s.heap := e0.mod.kin.keeps fun b o e => (e0.bs b o e).1
  have lim : s.heap.NoLimit := e0.mod.nolimit.keeps fun b o e => (e0.bs b o e).1
  have hkind : ∀ y ∈ ps.zip us, scope.names.lookup y.1 = some .local ∨ (scope.names.lookup y.1 = some .cell ∧ ((cellsFrom (s.heap.objs.size + 1) scope.names []).lookup y.1).isSome = true) := fun ⟨n, v⟩ hy => by
    rcases S.par n (List.of_mem_zip hy).1 with q | q
    · exact .inl q
    · exact .inr ⟨q, PySem.W.cellsFrom_some _ _ _ (.inl q)⟩
  refine codeAny_call_function hr.depth (KX _ _ lk) rfl S.co S.gen rfl (PySem.W.codeRec_of KX hcd) (hb _ _ _ _ ?_)
  refine wpAny_newFunctionEnv_cells S.kind hkind fun env he s1 x => ?_
  subst he
  refine ⟨lim.keeps x.toInCall.keep, codeAny_func ?_⟩
  have ht := hbody A outer s H E (hr.deeper _) hgd
  have I : Inv (cxOf (L2.CX P w) P w K mg base N qual scope f cdv A outer s H E) [] (start N vs) H s1 := inv_start S hr.hd e0 hl r x
  have hq : tS (kp d.io) K XR (fun c' d' _ H' => E c' d' H') (evSs C G d.io d.body) { nx := fun _ H' => Q .non H', rt := Q } (start N vs) H := by
    obtain ⟨hvl, Z, T, xs, g, hm⟩ := hsp
    have hxl := reps_len g
    refine ⟨Z, T, xs ++ List.replicate (d.ns - d.np) .und, ?_, ?_⟩
    · exact start_env hxl (by omega) g
    · have back : ∀ {σ' : Sl} {H' : Hp} {Z' : ZS} {e' : List Val} {R : List Asn}, Mod (kp d.io) (start N vs) σ' → Good H' Z' (R ++ (envA K σ' e' ++ T)) → Good H' Z' (R ++ (reps K vs (outsOf d.np d.io e') ++ T)) := fun {σ' H' Z' e' R} m g' => by
        have g2 := outs_ok (vs := vs) (io := d.io) (fun i hi hlt => by rw [m.2 i hi]; exact start_at hlt) g'.mid
        rw [hvl] at g2
        exact g2.mid
      unfold runD at hm
      rw [if_pos (by omega)] at hm
      cases hev : evSs C G d.io d.body (xs ++ List.replicate (d.ns - d.np) .und) with
      | stuck => rw [hev] at hm; exact hm.elim
      | ok fl e' =>
        rw [hev] at hm
        cases fl with
        | nx =>
          intro H' Z' σ' m g'
          have g2 : Good H' Z' (rep K .non .non :: (envA K σ' e' ++ T)) := g'.new ⟨rfl, rfl⟩
          exact hm H' Z' .non (back (R := [rep K .non .non]) m g2)
        | rt v =>
          intro H' Z' σ' m u g'
          exact hm H' Z' u (back (R := [rep K u v]) m g')
        | bk => exact hm.elim
        | ct => exact hm.elim
      | exc x e' =>
        rw [hev] at hm
        intro σ' m H' Z' c' d' g' xr
        exact hm H' Z' c' d' (back (R := []) m g') xr
  refine wpAny_mono (ht.run [] s1 (start N vs) H _ I hq) (fun fl s' hs => ?_) fun e s' hs => hs
  have fin : ∀ {σ' : L2.St} {H' : Hp} {v : V} {u : Value}, Inv (cxOf (L2.CX P w) P w K mg base N qual scope f cdv A outer s H E) [] σ' H' s' → RelV v u → Q v H' → CE outer P w H s Q u s' :=
    fun {σ' H' v u} J rv q => ⟨v, H', J.os, J.bare, J.base, J.hok, rv, q⟩
  cases fl with
  | ret u =>
    obtain ⟨v, σ', H', J, rv, q⟩ := hs
    exact fin J rv q
  | next =>
    obtain ⟨σ', H', J, q⟩ := hs
    exact fin (v := V.non) (u := Value.none) J rfl q
  | brk =>
    obtain ⟨_, _, _, q⟩ := hs
    exact False.elim q
  | cont =>
    obtain ⟨_, _, _, q⟩ := hs
    exact False.elim q
/-! ### programs -/
/-- a def as it stands in the written part, and what stands for it -/
def FnHave (K : PySem.W.Frag) (mg : PySem.Str → Option Value) (T : Tab) (D : List Df) (f : Nat) (m : PySem.Str) (ps : List PySem.Str) (a : Addr) (fd : FuncData) : Prop :=
  ∃ (oc : Value) (od : Option Addr) (osl : Array (Option Value)) (name qual : PySem.Str) (as : List Arg) (body : List Stmt) (scope : Scope) (kV doc pm cdv ct : Value) (an : Option Addr) (N : List PySem.Str) (d : Df),
    fd = PySem.W.fnOf name qual ⟨[], as, none, [], [], none, []⟩ body scope .none kV doc pm an cdv ct ∧ mg m = some (.ref a) ∧ PySem.W.keepIn K (.ref a) = true ∧ as.map (·.arg) = ps ∧ ps.Nodup ∧ K.lookup a = some ⟨oc, od, .func fd, osl⟩ ∧ PySem.W.codeIn K cdv qual = true ∧ FnScope N ps scope ∧
      D[f]? = some d ∧ ps.length = d.np ∧ d.ns ≤ N.length ∧ ckSs T d.body ⟨N, scope, fun _ => true⟩ body = true
theorem levels {P : Program} {w : World} {K : PySem.W.Frag} {mg : PySem.Str → Option Value} {base : Heap} {T : Tab} {D : List Df} {G : Nat → Option Val} {XR : XRT} (hbl : ∀ x, T.bl.contains x = true → mg x = none) (hT : ∀ f m ps, T.fns[f]? = some (m, ps) → ∃ a fd, FnHave K mg T D f m ps a fd) :
    ∀ k f m ps a fd, T.fns[f]? = some (m, ps) → FnHave K mg T D f m ps a fd → FnG P w K mg base (L2.CX P w) k a fd ps (spR K XR ps.length (runN D G k f))
  | 0, f, m, ps, a, fd, hf, h => ⟨fun vs H Q E h => by
      obtain ⟨hl, _⟩ := h
      exact hl, fun A outer s H args us vs Q E hr hgd e0 hb r hsp => by
      obtain ⟨_, Z, T, xs, g, hm⟩ := hsp
      exact hm.elim⟩
  | k + 1, f, m, ps, a, fd, hf, h => by
    obtain ⟨oc, od, osl, name, qual, as, body, scope, kV, doc, pm, cdv, ct, an, N, d, rfl, h1, h2, h3, h4, h5, h6, h7, h8, h9, h10, h11⟩ := h
    have hr : runN D G (k + 1) f = runD (runN D G k) G d := by
      funext xs
      show (match D[f]? with | some d => runD (runN D G k) G d xs | none => .stuck) = _
      rw [h8]
    rw [hr, h9]
    refine fnG_of d h5 h6 h7 h9 h10 fun A outer s H E hroom hgd => ?_
    refine simSs T XR (runN D G k) G k d.body d.io (X := cxOf (L2.CX P w) P w K mg base N qual scope a cdv A outer s H E) (S := ⟨N, scope, fun _ => true⟩) body ?_ (takes_of rfl rfl rfl rfl) (passes_of rfl) h11
    refine ⟨rfl, h7.nd, rfl, rfl, hroom, hgd, hbl, fun f' m' ps' hf' => ?_, fun x _ => rfl⟩
    obtain ⟨a', fd', h'⟩ := hT f' m' ps' hf'
    have ih := levels (P := P) (w := w) (base := base) (XR := XR) (G := G) hbl hT k f' m' ps' a' fd' hf' h'
    obtain ⟨oc', od', osl', name', qual', as', body', scope', kV', doc', pm', cdv', ct', an', N', d', rfl, q1, q2, q3, q4, q5, q6, q7, q8, q9, q10, q11⟩ := h'
    refine ⟨a', _, as', q1, q2, rfl, q3, q4, rfl, ih, ?_⟩
    rw [q9]
    exact lenOk_runN q8
/-! ### a law's end -/
theorem law_callG {P : Program} {w : World} {K : PySem.W.Frag} {mg mb : PySem.Str → Option Value} {CX : CXT} {k : Nat} {fa a : Addr} {fd : FuncData} {x : PySem.Str} {sp : Sp} {s₁ : Shared} {vs : List Value} {ns : List Int}
    (KX : K.In s₁.heap) (hns : s₁.heap.Ns mainGlobals mg) (hb : s₁.heap.Ns builtinsNs mb) (hbb : ∀ x : PySem.Str, x ≠ "__name__" → mb x = bootBuiltins x) (hlim : s₁.heap.NoLimit) (hg : s₁.gens = #[])
    (ha : s₁.heap.get? a = some { cls := .type "list", data := .seq vs.toArray }) (hi : IntsAre vs ns) (hl : ns.length ≤ sizeLine) (hr : Room k callerA)
    (F : ∀ base : Heap, FnG P w K mg base CX k fa fd [x] sp) (hbind : ∀ (s : Shared) (u : Value), BindsTo s fd ⟨[u], []⟩ [(x, u)])
    (hsp : ∀ H : Hp, Only H → SqL K H a (ns.map V.int) → sp [.ref a] H (fun v _ => v = .bl true) fun _ _ _ => False)
    (hCX : ∀ H e s', CX [] H s₁ (fun _ _ _ => False) e s' → False) :
    codeAny (model P w) callerA (.call (.ref fa) ⟨[.ref a], []⟩) (fun r s' => r = .ok (.ret (.bool true)) ∧ OldK s₁.heap s'.heap ∧ s'.os = s₁.os ∧ AllBare s'.gens) s₁ := by
  have rv := vals_ints hi
  have lenV := hi.length
  have core : ∀ H : Hp, Only H → SqL K H a (ns.map V.int) → HOk P w H s₁.heap → (∀ b, H b ≠ none → b = a) → (H a ≠ none → K.lookup a = none) →
      codeAny (model P w) callerA (.call (.ref fa) ⟨[.ref a], []⟩) (fun r s' => r = .ok (.ret (.bool true)) ∧ OldK s₁.heap s'.heap ∧ s'.os = s₁.os ∧ AllBare s'.gens) s₁ := by
    intro H hO hS hok hA hK
    have base_of : ∀ {b : Addr} {o : Obj}, s₁.heap.get? b = some o → H b = none → (hidT s₁.heap H).get? b = some o := fun e n => hidT_get e n
    have noA : ∀ {b : Addr} {o : Obj} {es : Array DictEntry} {ep : Nat}, s₁.heap.get? b = some o → o.data = .dict es ep → H b = none := fun {b o es ep} e d => by
      cases q : H b with
      | none => rfl
      | some u =>
        have e' : b = a := hA b (by rw [q]; simp)
        subst e'
        rw [ha] at e; cases e
        have d' : Data.seq vs.toArray _ = Data.dict es ep := d
        cases d'
    have nsK : ∀ {b : Addr} {m : PySem.Str → Option Value}, s₁.heap.Ns b m → (hidT s₁.heap H).Ns b m := fun {b m} ⟨o, es, ep, e, d, r⟩ => ⟨o, es, ep, base_of e (noA e d), d, r⟩
    have hKb : K.In (hidT s₁.heap H) := fun b o e => base_of (KX b o e) (by
      cases q : H b with
      | none => rfl
      | some u =>
        have e' : b = a := hA b (by rw [q]; simp)
        subst e'
        rw [hK (by rw [q]; simp)] at e; cases e)
    have hM : L2.Mod K mg (hidT s₁.heap H) := ⟨hKb, nsK hns, ⟨mb, nsK hb, hbb⟩, let ⟨mc, h1, h2⟩ := hlim; ⟨mc, nsK h1, h2⟩⟩
    have e0 : Env0 P w K mg (hidT s₁.heap H) callerA [] s₁ H := ⟨rfl, hM, fun b o e => of_hidT e, Nat.le_of_eq (hidT_size _ _), trivial, fun b hb => absurd (show b ∈ ([] : List Addr) from hb) (by simp), hok, .of_eq hg⟩
    refine codeAny_mono ((F _).run callerA [] s₁ H ⟨[.ref a], []⟩ [.ref a] [.ref a] _ _ hr rfl e0 (hbind s₁ (.ref a)) (.cons rfl .nil) (hsp H hO hS)) fun r s' h => ?_
    cases r with
    | error e => exact (hCX H e s' h).elim
    | ok fl =>
      cases fl with
      | next => exact False.elim h
      | brk => exact False.elim h
      | cont => exact False.elim h
      | ret u =>
        obtain ⟨v, H', os, bare, un, hok', r', q⟩ := h
        have q' : v = .bl true := q
        subst q'
        obtain rfl : u = Value.bool true := r'
        refine ⟨rfl, OldK.of_keep fun b o e => ?_, os, bare⟩
        cases q : H b with
        | none => exact un.keep b o e q (by intro z; exact absurd (show b ∈ ([] : List Addr) from z) (by simp)) (by simp)
        | some u =>
          rcases hO b with z | ⟨ob, xs, z⟩
          · rw [q] at z; cases z
          · have z2 := un.frzs b ob _ z
            obtain ⟨e1, _⟩ := hok b _ z
            obtain ⟨e2, _⟩ := hok' b _ z2
            rw [e] at e1; cases e1
            exact e2
  cases hk : K.lookup a with
  | some o =>
    have e := KX a o hk
    rw [ha] at e
    cases e
    refine core (fun _ => none) (fun _ => .inl rfl) (.inr ⟨_, vs.toArray, _, hk, rfl, rfl, rfl, by rw [List.size_toArray, lenV]; exact hl, by simpa using rv⟩) (fun b u z => by have z' : (none : Option HO) = some u := z; cases z') (fun b z => absurd rfl z) fun z => absurd rfl z
  | none =>
    refine core (fun b => if b = a then some (.frz { cls := .type "list", data := .seq vs.toArray } (.lst (ns.map V.int))) else none) (fun b => ?_) (.inl (.inr ⟨{ cls := .type "list", data := .seq vs.toArray }, if_pos rfl⟩)) (fun b u z => ?_) (fun b z => ?_) fun _ => hk
    · by_cases hb : b = a
      · exact .inr ⟨_, _, if_pos hb⟩
      · exact .inl (if_neg hb)
    · by_cases hb : b = a
      · have z' := (if_pos hb).symm.trans z
        cases z'
        subst hb
        exact ⟨ha, by rw [List.length_map]; exact hl, vs, _, rv, ha⟩
      · have z' := (if_neg hb).symm.trans z
        cases z'
    · by_cases hb : b = a
      · exact hb
      · exact absurd (if_neg hb) z
/-- the law's promise, from what its code answers -/
theorem law_sp {K : PySem.W.Frag} {XR : XRT} {run : List Val → CRes} {H : Hp} {a : Addr} {ns : List Int} {outs : List Val} (hO : Only H) (hS : SqL K H a (ns.map V.int)) (h : run [.lst .sc (ns.map Val.int)] = .ret (.bl true) outs) : spR K XR 1 run [.ref a] H (fun v _ => v = .bl true) fun _ _ _ => False := by
  have sc : ScL K H a (ns.map V.int) := by
    rcases hS with (hS | hS) | hS
    · rcases hO a with z | ⟨o, xs, z⟩
      · rw [hS] at z; cases z
      · rw [hS] at z; cases z
    · exact .inl hS
    · exact .inr hS
  refine ⟨rfl, fun _ => False, [], [.lst .sc (ns.map Val.int)], ?_, ?_⟩
  · have g0 : Good H (fun _ => False) [] := ⟨[], rfl, List.nodup_nil, fun a h => by simp at h, fun a h => h.elim⟩
    have g1 : Good H (fun _ => False) [rep K (.ref a) (.lst .sc (ns.map Val.int))] := g0.new (by
      show Rep K H _ (.lst .sc (ns.map Val.int)) (.ref a) []
      unfold Rep
      exact ⟨rfl, a, _, rfl, sc, Reps.ofInts ns⟩)
    exact g1
  · rw [h]
    intro H' Z' w g
    obtain ⟨_, r⟩ := g.rp
    exact r.1
theorem walk_ofG {l : PySem.W.OpenLaw} {n k : Nat} {q : Program} {loose : List PySem.Str} {XP : (PySem.Str → Option Value) → Heap → Prop} {YP : World → Heap → Prop} {d : DefRec} {x : PySem.Str} {T : Tab} {D : List Df} {G : Nat → Option Val} {fl : Nat}
    (hn : l.most = some n) (hn2 : n ≤ sizeLine) (hdf : d.params.defaults = []) (hr : Room k callerA) (hfl : T.fns[fl]? = some (d.name, [x]))
    (F : ∀ (w : World) (mg : PySem.Str → Option Value) (h : Heap), YP w h → h.Ns mainGlobals mg → ∃ K : PySem.W.Frag, K.In h ∧ (∀ x, T.bl.contains x = true → mg x = none) ∧ ∀ f m ps, T.fns[f]? = some (m, ps) → ∃ a fd, FnHave K mg T D f m ps a fd)
    (plain : ∀ ns : List Int, ns.length ≤ n → ∃ outs, runN D G k fl [.lst .sc (ns.map Val.int)] = .ret (.bl true) outs) :
    PySem.W.WalkO q loose XP YP l.row.toRowW d [] (fun f vs => PySem.call f vs) := by
  refine Att.attach_call hn hdf fun w s₀ s₁ mg mb fa o pm cd doc a vs ns G' Y ho hd hcd hmg hobj hints hlen hg => ?_
  obtain ⟨K, KX, hbl, hT⟩ := F w mg _ Y G'.T.g
  obtain ⟨a', fd, h'⟩ := hT fl _ _ hfl
  have hF : ∀ base : Heap, FnG l.prog w K mg base (L2.CX l.prog w) k a' fd [x] (spR K (fun _ _ _ _ _ => False) 1 (runN D G k fl)) := fun base => levels hbl hT k fl _ _ a' fd hfl h'
  obtain ⟨oc', od', osl', name', qual', as', body', scope', kV', doc', pm', cdv', ct', an', N', d', rfl, q1, q2, q3, q4, q5, q6, q7, q8, q9, q10, q11⟩ := h'
  have ea : a' = fa := by
    have := hmg.symm.trans q1
    cases this
    rfl
  subst ea
  obtain ⟨outs, hp⟩ := plain ns hlen
  refine law_callG KX G'.T.g G'.T.b G'.T.builtins G'.T.nolimit hg hobj hints (Nat.le_trans hlen hn2) hr hF (fun s u => ?_) (fun H hO hS => law_sp hO hS hp) fun H e s' h => ?_
  · have hl : as'.length = 1 := by
      have := congrArg List.length q3
      simpa using this
    have := bind_pos (us := [u]) (fd := PySem.W.fnOf name' qual' ⟨[], as', none, [], [], none, []⟩ body' scope' .none kV' doc' pm' an' cdv' ct') (as := as') rfl rfl (by rw [hl]; rfl) (by rw [q3]; exact q4)
    rw [q3] at this
    exact .of_eq this
  · obtain ⟨a, B, H', cls, d, _, _, _, _, _, _, _, z⟩ := h
    exact z
end Nd

/-! NdY: a program's defs, from the head's facts. -/
namespace Nd
open PySem PySem.Spec PyProof.Rows L2
def notFree : NameKind → Bool
  | .free => false
  | _ => true
def fnScC (N ps : List PySem.Str) (sc : Scope) : Bool := isFun sc.kind && !sc.isCoroutine && !sc.isGenerator && decide N.Nodup && decide (N.take ps.length = ps) && ps.all (fun x => isLoc (sc.names.lookup x)) && sc.names.all fun y => notFree y.2
theorem fnSc_ok {N ps : List PySem.Str} {sc : Scope} (h : fnScC N ps sc = true) : FnScope N ps sc := by
  unfold fnScC at h
  simp only [Bool.and_eq_true, Bool.not_eq_true', decide_eq_true_eq, List.all_eq_true] at h
  obtain ⟨⟨⟨⟨⟨⟨h1, h2⟩, h3⟩, h4⟩, h5⟩, h6⟩, h7⟩ := h
  refine ⟨?_, h2, h3, h4, h5, fun x hx => ?_, fun y hy e => ?_⟩
  · unfold isFun at h1
    split at h1
    · assumption
    · cases h1
  · have := h6 x hx
    unfold isLoc at this
    split at this
    · exact .inl (by assumption)
    · exact .inr (by assumption)
    · cases this
  · have := h7 y hy
    rw [e] at this
    cases this
def argsC (ps : List PySem.Str) (a : Arguments) : Bool := match a with
  | ⟨[], as, none, [], [], none, []⟩ => decide (as.map (·.arg) = ps)
  | _ => false
def defC (T : Tab) (dd : He.DefD) (m : PySem.Str) (ps N : List PySem.Str) (d : Df) : Bool :=
  argsC ps dd.params && decide ps.Nodup && decide (dd.at_.1 = m) && dd.at_.2.isNone && dd.dfl.isEmpty && fnScC N ps dd.scope && decide (ps.length = d.np) && decide (d.ns ≤ N.length) && ckSs T d.body ⟨N, dd.scope, fun _ => true⟩ dd.body
section
variable {K : PySem.W.Frag} {h : Heap} {mg : PySem.Str → Option Value} {fa : List He.Fa} {fn : List He.DefD} {T : Tab} {D : List Df} {Ns : List (List PySem.Str)}
theorem have_of {f i : Nat} {m : PySem.Str} {ps N : List PySem.Str} {dd : He.DefD} {d : Df} (X : K.In h) (G : h.Ns mainGlobals mg) (c : He.SaysD fa fn K) (hi : fa[i]? = some (.glo m)) (hd : fn[f]? = some dd) (hD : D[f]? = some d) (hc : defC T dd m ps N d = true) : ∃ a fd, FnHave K mg T D f m ps a fd := by
  unfold defC at hc
  simp only [Bool.and_eq_true, decide_eq_true_eq] at hc
  obtain ⟨⟨⟨⟨⟨⟨⟨⟨h1, h2⟩, h3⟩, h4⟩, h5⟩, h6⟩, h7⟩, h8⟩, h9⟩ := hc
  obtain ⟨fd, F⟩ := c.def_ f (d := dd) hd
  have hg := He.glo_ok X G (c.fact i (f := .glo m) hi)
  obtain ⟨at_, name, qual, params, body, scope, dfl, kwd⟩ := dd
  obtain ⟨a1, a2⟩ := at_
  have e2 : a2 = none := by cases a2 with | none => rfl | some _ => cases h4
  have e1 : a1 = m := h3
  subst e1; subst e2
  have e3 : dfl = [] := by cases dfl with | nil => rfl | cons _ _ => cases h5
  subst e3
  obtain ⟨oc, od, dV, kV, doc, pm, an, cdv, ct, osl, rfl, lk, hcd, hD', hKw⟩ := F.ex
  have edV : dV = .none := by
    rcases hD' with ⟨_, e⟩ | ⟨e, _⟩
    · exact e
    · exact absurd rfl e
  subst edV
  replace h1 : argsC ps params = true := h1
  have kp : PySem.W.keepIn K (.ref (He.fAd K (a1, none))) = true := F.kp
  clear F hd hKw
  unfold argsC at h1
  split at h1
  · rename_i as
    rw [decide_eq_true_eq] at h1
    refine ⟨_, _, oc, od, osl, name, qual, as, body, scope, kV, doc, pm, cdv, ct, an, N, d, rfl, hg, kp, h1, h2, lk, hcd, fnSc_ok h6, hD, h7, h8, h9⟩
  · cases h1
def isFreeOf (x : PySem.Str) : He.Fa → Bool
  | .free y => decide (x = y)
  | _ => false
def isGloOf (x : PySem.Str) : He.Fa → Bool
  | .glo y => decide (x = y)
  | _ => false
/-- one def of a program -/
def oneC (fa : List He.Fa) (fn : List He.DefD) (T : Tab) (D : List Df) (Ns : List (List PySem.Str)) (f : Nat) : Bool := match T.fns[f]?, fn[f]?, D[f]?, Ns[f]?, fa[f]? with
  | some (m, ps), some dd, some d, some N, some q => isGloOf m q && defC T dd m ps N d
  | _, _, _, _, _ => false
def blC (fa : List He.Fa) (T : Tab) : Bool := T.bl.all fun x => fa.any (isFreeOf x)
theorem prog_ok (X : K.In h) (G : h.Ns mainGlobals mg) (c : He.SaysD fa fn K) (hb : blC fa T = true) (hf : ∀ f, f < T.fns.length → oneC fa fn T D Ns f = true) :
    (∀ x, T.bl.contains x = true → mg x = none) ∧ ∀ f m ps, T.fns[f]? = some (m, ps) → ∃ a fd, FnHave K mg T D f m ps a fd := by
  refine ⟨fun x hx => ?_, fun f m ps hfm => ?_⟩
  · unfold blC at hb
    have := List.all_eq_true.mp hb x (by simpa using hx)
    obtain ⟨q, hq, e⟩ := List.any_eq_true.mp this
    unfold isFreeOf at e
    split at e
    · rename_i y
      rw [decide_eq_true_eq] at e
      subst e
      obtain ⟨i, hi, ei⟩ := List.mem_iff_getElem.mp hq
      exact He.free_ok X G (c.fact i (f := .free x) (by rw [List.getElem?_eq_getElem hi, ei]))
    · cases e
  · have hlt : f < T.fns.length := (List.getElem?_eq_some_iff.mp hfm).1
    have := hf f hlt
    unfold oneC at this
    rw [hfm] at this
    split at this
    · rename_i m' ps' dd d N q e0 e1 e2 e3 e4
      cases e0
      rw [Bool.and_eq_true] at this
      obtain ⟨t1, t2⟩ := this
      unfold isGloOf at t1
      split at t1
      · rename_i y
        rw [decide_eq_true_eq] at t1
        subst t1
        exact have_of X G c e4 e1 e2 t2
      · cases t1
    · cases this
end
end Nd

/-! NdPl: the evaluator's rows, for plain laws. -/
namespace Nd
open PySem
section
variable {α β : Type}
/-- the rest of a piece, behind what it does first (a function of its own: the kernel then compares arguments and does not run them) -/
def seqO (o : Out α) (k : α → List Val → Out β) : Out β := match o with
  | .ok a e => k a e
  | .exc x e => .exc x e
  | .stuck => .stuck
@[simp] theorem seqO_ok (a : α) (e : List Val) (k : α → List Val → Out β) : seqO (.ok a e) k = k a e := Eq.trans rfl rfl
@[simp] theorem seqO_exc (x : Exn) (e : List Val) (k : α → List Val → Out β) : seqO (.exc x e) k = .exc x e := Eq.trans rfl rfl
@[simp] theorem seqO_stuck (k : α → List Val → Out β) : seqO .stuck k = .stuck := Eq.trans rfl rfl
def seqC (o : CRes) (f : Val → List Val → Out β) (g : Exn → List Val → Out β) : Out β := match o with
  | .ret v outs => f v outs
  | .exc x outs => g x outs
  | .stuck => .stuck
@[simp] theorem seqC_ret (v : Val) (e : List Val) (f : Val → List Val → Out β) (g : Exn → List Val → Out β) : seqC (.ret v e) f g = f v e := Eq.trans rfl rfl
@[simp] theorem seqC_exc (v : Exn) (e : List Val) (f : Val → List Val → Out β) (g : Exn → List Val → Out β) : seqC (.exc v e) f g = g v e := Eq.trans rfl rfl
@[simp] theorem seqC_stuck (f : Val → List Val → Out β) (g : Exn → List Val → Out β) : seqC .stuck f g = .stuck := Eq.trans rfl rfl
def seqS (o : Out Fl) (k : List Val → Out Fl) : Out Fl := match o with
  | .ok .nx e => k e
  | .ok f e => .ok f e
  | .exc x e => .exc x e
  | .stuck => .stuck
@[simp] theorem seqS_nx (e : List Val) (k : List Val → Out Fl) : seqS (.ok .nx e) k = k e := Eq.trans rfl rfl
@[simp] theorem seqS_rt (v : Val) (e : List Val) (k : List Val → Out Fl) : seqS (.ok (.rt v) e) k = .ok (.rt v) e := Eq.trans rfl rfl
@[simp] theorem seqS_bk (e : List Val) (k : List Val → Out Fl) : seqS (.ok .bk e) k = .ok .bk e := Eq.trans rfl rfl
@[simp] theorem seqS_ct (e : List Val) (k : List Val → Out Fl) : seqS (.ok .ct e) k = .ok .ct e := Eq.trans rfl rfl
@[simp] theorem seqS_exc (x : Exn) (e : List Val) (k : List Val → Out Fl) : seqS (.exc x e) k = .exc x e := Eq.trans rfl rfl
@[simp] theorem seqS_stuck (k : List Val → Out Fl) : seqS .stuck k = .stuck := Eq.trans rfl rfl
@[simp ↓] theorem bindM_ap (m : M α) (k : α → M β) (e : List Val) : bindM m k e = seqO (m e) k := Eq.trans rfl rfl
@[simp] theorem pureM_ap (a : α) (e : List Val) : pureM a e = .ok a e := Eq.trans rfl rfl
@[simp] theorem liftM_some (a : α) (e : List Val) : liftM (some a) e = .ok a e := Eq.trans rfl rfl
@[simp] theorem liftM_none (e : List Val) : (liftM none e : Out α) = .stuck := Eq.trans rfl rfl
end
@[simp] theorem held_int {i : Int} : held (.int i) = false := Eq.trans rfl rfl
@[simp] theorem held_bl {i : Bool} : held (.bl i) = false := Eq.trans rfl rfl
@[simp] theorem held_str {i : Str} : held (.str i) = false := Eq.trans rfl rfl
@[simp] theorem held_non : held .non = false := Eq.trans rfl rfl
@[simp] theorem held_tup {i : List Val} : held (.tup i) = false := Eq.trans rfl rfl
@[simp] theorem held_ow {i : List Val} : held (.lst .ow i) = true := Eq.trans rfl rfl
@[simp] theorem held_ne {i : List Val} : held (.lst .ne i) = true := Eq.trans rfl rfl
@[simp] theorem held_fz {i : List Val} : held (.lst .fz i) = false := Eq.trans rfl rfl
@[simp] theorem held_sc {i : List Val} : held (.lst .sc i) = false := Eq.trans rfl rfl
@[simp] theorem held_dow {i : List (L2.Key × Val)} : held (.dic .ow i) = true := Eq.trans rfl rfl
@[simp] theorem frz_int {i : Int} : frz (.int i) = some (.int i) := Eq.trans rfl rfl
@[simp] theorem frz_bl {i : Bool} : frz (.bl i) = some (.bl i) := Eq.trans rfl rfl
@[simp] theorem frz_str {i : Str} : frz (.str i) = some (.str i) := Eq.trans rfl rfl
@[simp] theorem frz_non : frz .non = some .non := Eq.trans rfl rfl
@[simp] theorem frz_tup {i : List Val} : frz (.tup i) = some (.tup i) := Eq.trans rfl rfl
@[simp] theorem frz_ow {i : List Val} : frz (.lst .ow i) = some (.lst .fz i) := Eq.trans rfl rfl
@[simp] theorem frz_fz {i : List Val} : frz (.lst .fz i) = some (.lst .fz i) := Eq.trans rfl rfl
@[simp] theorem frz_sc {i : List Val} : frz (.lst .sc i) = some (.lst .sc i) := Eq.trans rfl rfl
@[simp] theorem frz_dow {i : List (L2.Key × Val)} : frz (.dic .ow i) = some (.dic .fz i) := Eq.trans rfl rfl
@[simp] theorem frzs_nil : frzs [] = some [] := Eq.trans rfl rfl
@[simp] theorem frzs_cons {x : Val} {xs : List Val} : frzs (x :: xs) = (match frz x, frzs xs with
    | some y, some ys => some (y :: ys)
    | _, _ => none) := Eq.trans rfl rfl
@[simp] theorem takeS_ap {i : Nat} {e : List Val} : takeS i e = (match e[i]? with
  | none => .stuck
  | some .und => .stuck
  | some x => if held x then .ok (x, .sl i) (e.set i .und) else .ok (x, .no) e) := Eq.trans rfl rfl
@[simp] theorem peekS_ap {i : Nat} {e : List Val} : peekS i e = (match e[i]? with
  | none => .stuck
  | some .und => .stuck
  | some _ => .ok () e) := Eq.trans rfl rfl
@[simp] theorem peekM_ap {f : Mt} {i : Nat} {e : List Val} : peekM f i e = (match e[i]? with
  | none => .stuck
  | some .und => .stuck
  | some x => if mtOk f x then .ok () e else .stuck) := Eq.trans rfl rfl
@[simp] theorem readS_ap {i : Nat} {e : List Val} : readS i e = (match e[i]? with
  | none => .stuck
  | some x => match frz x with
    | none => .stuck
    | some y => .ok y (if held x then e.set i y else e)) := Eq.trans rfl rfl
@[simp] theorem moveS_ap {i : Nat} {e : List Val} : moveS i e = (match e[i]? with
  | none => .stuck
  | some .und => .stuck
  | some x => .ok x (if held x then e.set i .und else e)) := Eq.trans rfl rfl
@[simp] theorem plug_no {x : Val} {e : List Val} : plug .no x e = .ok () e := Eq.trans rfl rfl
@[simp] theorem plug_sl {i : Nat} {x : Val} {e : List Val} : plug (.sl i) x e = .ok () (e.set i x) := Eq.trans rfl rfl
@[simp] theorem plug_it {i n : Nat} {x : Val} {xs e : List Val} : plug (.it i xs n) x e = .ok () (e.set i (.lst .ne (xs.set n x))) := Eq.trans rfl rfl
@[simp] theorem plugs_nil {xs : List Val} : plugs [] xs = pureM () := by cases xs <;> rfl
@[simp] theorem plugs_cons {v x : Val} {k : Tk} {r : List (Val × Tk)} {xs : List Val} : plugs ((v, k) :: r) (x :: xs) = bindM (plug k x) fun _ => plugs r xs := Eq.trans rfl rfl
@[simp] theorem callC_ap {C : Nat → List Val → CRes} {f : Nat} {ps : List (Val × Tk)} {e : List Val} : callC C f ps e = seqC (C f (ps.map (·.1))) (fun v outs => bindM (plugs ps outs) (fun _ => pureM v) e) (fun x outs => bindM (plugs ps outs) (fun _ => fun e' => .exc x e') e) := by
  unfold callC seqC
  rfl
section
variable {C : Nat → List Val → CRes} {G : Nat → Option Val}
@[simp] theorem evE_1 (i) : evE C G (.var i) = (readS i) := Eq.trans rfl rfl
@[simp] theorem evE_2 (i) : evE C G (.mov i) = (moveS i) := Eq.trans rfl rfl
@[simp] theorem evE_3 (i) : evE C G (.int i) = (pureM (.int i)) := Eq.trans rfl rfl
@[simp] theorem evE_4 (b) : evE C G (.bl b) = (pureM (.bl b)) := Eq.trans rfl rfl
@[simp] theorem evE_5 : evE C G .non = (pureM .non) := Eq.trans rfl rfl
@[simp] theorem evE_6 (x) : evE C G (.str x) = (pureM (.str x)) := Eq.trans rfl rfl
@[simp] theorem evE_7 (op) (a) (b) : evE C G (.bin op a b) = (bindM (evA C G a) fun p => bindM (evA C G b) fun q => bindM (liftM (binV op p.1 q.1)) fun r => bindM (plugs [p, q] [p.1, q.1]) fun _ => pureM r) := Eq.trans rfl rfl
@[simp] theorem evE_8 (a) : evE C G (.neg a) = (bindM (evA C G a) fun p => match p.1 with
    | .int i => bindM (plugs [p] [p.1]) fun _ => pureM (.int (-i))
    | _ => fun _ => .stuck) := Eq.trans rfl rfl
@[simp] theorem evE_9 (op) (a) (b) : evE C G (.cmp op a b) = (cmpM op (evA C G a) (evA C G b)) := Eq.trans rfl rfl
@[simp] theorem evE_10 (op) (op') (a) (b) (c) : evE C G (.chain op op' a b c) = (chainM op op' (evA C G a) (evA C G b) (evA C G c)) := Eq.trans rfl rfl
@[simp] theorem evE_11 (a) : evE C G (.notE a) = (bindM (evE C G a) fun x => match x with
    | .bl b => pureM (.bl (!b))
    | _ => fun _ => .stuck) := Eq.trans rfl rfl
@[simp] theorem evE_12 (a) (b) : evE C G (.andE a b) = (bindM (evE C G a) fun x => match x with
    | .bl true => evE C G b
    | .bl false => pureM (.bl false)
    | _ => fun _ => .stuck) := Eq.trans rfl rfl
@[simp] theorem evE_13 (a) (b) : evE C G (.orE a b) = (bindM (evE C G a) fun x => match x with
    | .bl true => pureM (.bl true)
    | .bl false => evE C G b
    | _ => fun _ => .stuck) := Eq.trans rfl rfl
@[simp] theorem evE_14 (c) (a) (b) : evE C G (.ite c a b) = (bindM (evT C G c) fun t => if t then evE C G a else evE C G b) := Eq.trans rfl rfl
@[simp] theorem evE_15 (es) : evE C G (.tup es) = (bindM (evXs C G es) fun xs => bindM (liftM (frzs xs)) fun ys => if ys.length ≤ sizeLine then pureM (.tup ys) else fun _ => .stuck) := Eq.trans rfl rfl
@[simp] theorem evE_16 (m) (es) : evE C G (.lst m es) = (bindM (evXs C G es) fun xs => if xs.length ≤ sizeLine then (match m with
    | .ow => bindM (liftM (frzs xs)) fun ys => pureM (.lst .ow ys)
    | .ne => pureM (.lst .ne xs)
    | _ => fun _ => .stuck) else fun _ => .stuck) := Eq.trans rfl rfl
@[simp] theorem evE_17 (a) (b) : evE C G (.sub a b) = (subM (evA C G a) (evA C G b)) := Eq.trans rfl rfl
@[simp] theorem evE_18 (a) (lo) (hi) : evE C G (.slc a lo hi) = (bindM (evA C G a) fun p => bindM (evO C G lo) fun l => bindM (evO C G hi) fun h => bindM (liftM (slcV p.1 l h)) fun r => bindM (plugs [p] [p.1]) fun _ => pureM r) := Eq.trans rfl rfl
@[simp] theorem evE_19 (f) (as) : evE C G (.bi f as) = (biM f (evAs C G as)) := Eq.trans rfl rfl
@[simp] theorem evE_20 (f) (a) (es) : evE C G (.me f a es) = (bindM (evA C G a) fun p => if mtOk f p.1 then bindM (evXs C G es) fun xs => bindM (liftM (meV f p.1 xs)) fun r => bindM (plug p.2 r.2) fun _ => pureM r.1 else fun _ => .stuck) := Eq.trans rfl rfl
@[simp] theorem evE_21 (i) (b) : evE C G (.subS i b) = (subSM i (evA C G b)) := Eq.trans rfl rfl
@[simp] theorem evE_22 (f) (i) (es) : evE C G (.meS f i es) = (bindM (peekM f i) fun _ => bindM (evXs C G es) fun xs => bindM (takeS i) fun p => bindM (liftM (meV f p.1 xs)) fun r => bindM (plug p.2 r.2) fun _ => pureM r.1) := Eq.trans rfl rfl
@[simp] theorem evE_23 (a) (t) : evE C G (.isi a t) = (isiM (evA C G a) t) := Eq.trans rfl rfl
@[simp] theorem evE_24 (f) (as) : evE C G (.call f as) = (callM C f (evAs C G as)) := Eq.trans rfl rfl
@[simp] theorem evE_25 (f) (n) (es) (ks) (pm) : evE C G (.callK f n es ks pm) = (bindM (evXs C G es) fun xs => bindM (evXs C G ks) fun zs => fun e => if xs.length = n ∧ n + zs.length = pm.length then seqC (C f (pm.map fun i => (xs ++ zs).getD i .und)) (fun v _ => .ok v e) (fun x _ => .exc x e) else .stuck) := Eq.trans rfl rfl
@[simp] theorem evE_26 (a) (b) : evE C G (.dzip a b) = (bindM (evA C G a) fun p => bindM (evA C G b) fun q => bindM (liftM (dzipV p.1 q.1)) fun r => bindM (plugs [p, q] [p.1, q.1]) fun _ => pureM r) := Eq.trans rfl rfl
@[simp] theorem evE_27 (a) : evE C G (.lrev a) = (bindM (evA C G a) fun p => bindM (liftM (lrevV p.1)) fun r => bindM (plugs [p] [p.1]) fun _ => pureM r) := Eq.trans rfl rfl
@[simp] theorem evE_28 (a) : evE C G (.rpr a) = (bindM (evA C G a) fun p => bindM (liftM (rprV p.1)) fun r => bindM (plugs [p] [p.1]) fun _ => pureM r) := Eq.trans rfl rfl
@[simp] theorem evE_29 (n) : evE C G (.gl n) = (liftM (G n)) := Eq.trans rfl rfl
@[simp] theorem evE_30 (t) (a) : evE C G (.rg t a) = (bindM (evE C G a) fun x => liftM (rgV' t (.int 0) x)) := Eq.trans rfl rfl
@[simp] theorem evE_31 (t) (a) (b) : evE C G (.rg2 t a b) = (bindM (evE C G a) fun x => bindM (evE C G b) fun y => liftM (rgV' t x y)) := Eq.trans rfl rfl
@[simp] theorem evE_32 (es) : evE C G (.dct es) = (bindM (evXs C G es) fun xs => liftM (dctV xs)) := Eq.trans rfl rfl
@[simp] theorem evT_35 (a) : evT C G (.notE a) = (bindM (evT C G a) fun b => pureM (!b)) := Eq.trans rfl rfl
@[simp] theorem evT_36 (a) (b) : evT C G (.andE a b) = (bindM (evT C G a) fun t => if t then evT C G b else pureM false) := Eq.trans rfl rfl
@[simp] theorem evT_37 (a) (b) : evT C G (.orE a b) = (bindM (evT C G a) fun t => if t then pureM true else evT C G b) := Eq.trans rfl rfl
@[simp] theorem evT_38 (i) : evT C G (.var i) = (bindM (takeS i) fun p => bindM (liftM (truV p.1)) fun b => bindM (plug p.2 p.1) fun _ => pureM b) := Eq.trans rfl rfl
@[simp] theorem evT_39 (op) (a) (b) : evT C G (.cmp op a b) = (bindM (cmpM op (evA C G a) (evA C G b)) fun x => liftM (truV x)) := Eq.trans rfl rfl
@[simp] theorem evT_40 (op) (op') (a) (b) (c) : evT C G (.chain op op' a b c) = (bindM (chainM op op' (evA C G a) (evA C G b) (evA C G c)) fun x => liftM (truV x)) := Eq.trans rfl rfl
@[simp] theorem evT_41 (a) (b) : evT C G (.sub a b) = (bindM (subM (evA C G a) (evA C G b)) fun x => liftM (truV x)) := Eq.trans rfl rfl
@[simp] theorem evT_42 (i) (b) : evT C G (.subS i b) = (bindM (subSM i (evA C G b)) fun x => liftM (truV x)) := Eq.trans rfl rfl
@[simp] theorem evT_43 (f) (as) : evT C G (.bi f as) = (bindM (biM f (evAs C G as)) fun x => liftM (truV x)) := Eq.trans rfl rfl
@[simp] theorem evT_44 (a) (t) : evT C G (.isi a t) = (bindM (isiM (evA C G a) t) fun x => liftM (truV x)) := Eq.trans rfl rfl
@[simp] theorem evT_45 (f) (as) : evT C G (.call f as) = (bindM (callM C f (evAs C G as)) fun x => liftM (truV x)) := Eq.trans rfl rfl
@[simp] theorem evT_46 (b) : evT C G (.bl b) = (bindM (pureM (.bl b)) fun x => liftM (truV x)) := Eq.trans rfl rfl
@[simp] theorem evO_47 : evO C G .none = (pureM none) := Eq.trans rfl rfl
@[simp] theorem evO_48 (e) : evO C G (.some e) = (bindM (evE C G e) fun x => match x with
    | .int i => pureM (some i)
    | _ => fun _ => .stuck) := Eq.trans rfl rfl
@[simp] theorem evXs_49 : evXs C G .nil = (pureM []) := Eq.trans rfl rfl
@[simp] theorem evXs_50 (e) (es) : evXs C G (.cons e es) = (bindM (evE C G e) fun x => bindM (evXs C G es) fun xs => pureM (x :: xs)) := Eq.trans rfl rfl
@[simp] theorem evA_51 (e) : evA C G (.v e) = (bindM (evE C G e) fun x => pureM (x, .no)) := Eq.trans rfl rfl
@[simp] theorem evA_52 (i) : evA C G (.mv i) = (takeS i) := Eq.trans rfl rfl
@[simp] theorem evA_53 (i) (e) : evA C G (.mx i e) = (bindM (peekS i) fun _ => bindM (evE C G e) fun y => takeI i y) := Eq.trans rfl rfl
@[simp] theorem evAs_54 : evAs C G .nil = (pureM []) := Eq.trans rfl rfl
@[simp] theorem evAs_mv {i : Nat} {as : Ags} : evAs C G (.cons (.mv i) as) = (bindM (peekS i) fun _ => bindM (evAs C G as) fun ps => bindM (takeS i) fun p => pureM (p :: ps)) := Eq.trans rfl rfl
@[simp] theorem evAs_v {a : Ex} {as : Ags} : evAs C G (.cons (.v a) as) = (bindM (evA C G (.v a)) fun p => bindM (evAs C G as) fun ps => pureM (p :: ps)) := Eq.trans rfl rfl
@[simp] theorem evAs_mx {i : Nat} {a : Ex} {as : Ags} : evAs C G (.cons (.mx i a) as) = (bindM (evA C G (.mx i a)) fun p => bindM (evAs C G as) fun ps => pureM (p :: ps)) := Eq.trans rfl rfl
@[simp] theorem evI_56 (a) : evI C G (.ex a) = (bindM (evA C G a) fun p => bindM (liftM (itemsF p.1)) fun xs => pureM (xs, [p])) := Eq.trans rfl rfl
@[simp] theorem evI_57 (a) : evI C G (.rng a) = (bindM (evE C G a) fun x => match x with
    | .int i => if okR i then pureM (rangeL 0 i, []) else fun _ => .stuck
    | _ => fun _ => .stuck) := Eq.trans rfl rfl
@[simp] theorem evI_58 (a) (b) : evI C G (.rng2 a b) = (bindM (evE C G a) fun x => bindM (evE C G b) fun y => match x, y with
    | .int i, .int j => if okR i && okR j then pureM (rangeL i j, []) else fun _ => .stuck
    | _, _ => fun _ => .stuck) := Eq.trans rfl rfl
@[simp] theorem evI_59 (a) : evI C G (.enum a) = (bindM (evA C G a) fun p => bindM (liftM (itemsF p.1)) fun xs => pureM (enumL 0 xs, [p])) := Eq.trans rfl rfl
@[simp] theorem evI_60 (a) (b) : evI C G (.zip a b) = (bindM (evA C G a) fun p => bindM (evA C G b) fun q => bindM (liftM (itemsF p.1)) fun xs => bindM (liftM (itemsF q.1)) fun ys => pureM (zipL xs ys, [p, q])) := Eq.trans rfl rfl
@[simp] theorem evI_61 (a) : evI C G (.rev a) = (bindM (evA C G a) fun p => bindM (liftM (itemsF p.1)) fun xs => pureM (xs.reverse, [p])) := Eq.trans rfl rfl
@[simp] theorem cmpM_ap {op : Cop} {ma mb : M (Val × Tk)} {e : List Val} : cmpM op ma mb e = bindM ma (fun p => bindM mb fun q => bindM (liftM (cmpV op p.1 q.1)) fun r => bindM (plugs [p, q] [p.1, q.1]) fun _ => pureM r) e := Eq.trans rfl rfl
@[simp] theorem subM_ap {ma mb : M (Val × Tk)} {e : List Val} : subM ma mb e = bindM ma (fun p => bindM mb fun q => bindM (liftM (subV p.1 q.1)) fun r => bindM (plugs [p, q] [p.1, q.1]) fun _ => pureM r) e := Eq.trans rfl rfl
@[simp] theorem subSM_ap {i : Nat} {mb : M (Val × Tk)} {e : List Val} : subSM i mb e = bindM (peekS i) (fun _ => bindM mb fun q => bindM (takeS i) fun p => bindM (liftM (subV p.1 q.1)) fun r => bindM (plugs [p, q] [p.1, q.1]) fun _ => pureM r) e := Eq.trans rfl rfl
@[simp] theorem biM_ap {f : Bi} {m : M (List (Val × Tk))} {e : List Val} : biM f m e = bindM m (fun ps => bindM (liftM (biV f (ps.map (·.1)))) fun r => bindM (plugs ps (ps.map (·.1))) fun _ => pureM r) e := Eq.trans rfl rfl
@[simp] theorem isiM_ap {ma : M (Val × Tk)} {t : String} {e : List Val} : isiM ma t e = bindM ma (fun p => bindM (liftM (isiV p.1 t)) fun r => bindM (plugs [p] [p.1]) fun _ => pureM r) e := Eq.trans rfl rfl
@[simp] theorem callM_ap {f : Nat} {m : M (List (Val × Tk))} {e : List Val} : callM C f m e = bindM m (fun ps => callC C f ps) e := Eq.trans rfl rfl
@[simp] theorem evTg_name {ok : Nat → Bool} {i : Nat} {x : Val} {e : List Val} : evTg C G ok (.name i) x e = if ok i then .ok () (e.set i x) else .stuck := Eq.trans rfl rfl
@[simp] theorem evTg_tup {ok : Nat → Bool} {ts : Tgs} {xs : List Val} : evTg C G ok (.tup ts) (.tup xs) = if xs.length = tlen ts then evTgs C G ok ts xs else fun _ => .stuck := Eq.trans rfl rfl
@[simp] theorem evTg_sub {ok : Nat → Bool} {a : Ag} {b : Ex} {x : Val} : evTg C G ok (.sub a b) x = bindM (evA C G a) fun p => bindM (evE C G b) fun y => bindM (liftM (setV p.1 y x)) fun z => plug p.2 z := Eq.trans rfl rfl
@[simp] theorem evTgs_nil {ok : Nat → Bool} : evTgs C G ok .nil [] = pureM () := Eq.trans rfl rfl
@[simp] theorem evTgs_cons {ok : Nat → Bool} {t : Tg} {ts : Tgs} {x : Val} {xs : List Val} : evTgs C G ok (.cons t ts) (x :: xs) = bindM (evTg C G ok t x) fun _ => evTgs C G ok ts xs := Eq.trans rfl rfl
@[simp] theorem evSs_nil {io : List Nat} : evSs C G io .nil = pureM .nx := Eq.trans rfl rfl
@[simp ↓] theorem evSs_cons {io : List Nat} {s : Sm} {ss : Sms} {e : List Val} : evSs C G io (.cons s ss) e = seqS (evS C G io s e) fun e' => evSs C G io ss e' := by
  show bindM (evS C G io s) (fun f => match f with | .nx => evSs C G io ss | f => pureM f) e = _
  rw [bindM_ap]
  cases evS C G io s e with
  | ok f e' => cases f <;> rfl
  | exc x e' => rfl
  | stuck => rfl
@[simp] theorem evS_asg {io : List Nat} {t : Tg} {x : Ex} : evS C G io (.asg t x) = bindM (evE C G x) fun v => bindM (evTg C G (fun i => !io.contains i) t v) fun _ => pureM .nx := Eq.trans rfl rfl
@[simp] theorem evS_par {io is : List Nat} {es : Exs} : evS C G io (.par is es) = parM io is (evXs C G es) := Eq.trans rfl rfl
@[simp] theorem parM_ap {io is : List Nat} {m : M (List Val)} {e : List Val} : parM io is m e = bindM m (fun xs => if is.any (fun i => io.contains i) || !decide (xs.length = is.length) then fun _ => .stuck else fun e => .ok .nx (sets is xs e)) e := Eq.trans rfl rfl
@[simp] theorem evS_expr {io : List Nat} {x : Ex} : evS C G io (.expr x) = bindM (evE C G x) fun _ => pureM .nx := Eq.trans rfl rfl
@[simp] theorem evS_ret {io : List Nat} {x : Ex} : evS C G io (.ret x) = bindM (evE C G x) fun v => pureM (.rt v) := Eq.trans rfl rfl
@[simp] theorem evS_retN {io : List Nat} : evS C G io .retN = pureM (.rt .non) := Eq.trans rfl rfl
@[simp] theorem evS_if {io : List Nat} {c : Ex} {a b : Sms} : evS C G io (.ifS c a b) = bindM (evT C G c) fun t => if t then evSs C G io a else evSs C G io b := Eq.trans rfl rfl
@[simp] theorem evS_brk {io : List Nat} : evS C G io .brk = pureM .bk := Eq.trans rfl rfl
@[simp] theorem evS_cont {io : List Nat} : evS C G io .cont = pureM .ct := Eq.trans rfl rfl
@[simp] theorem evS_pass {io : List Nat} : evS C G io .pass = pureM .nx := Eq.trans rfl rfl
theorem evE_comp {m : Md} {elt : Ex} {t : Tg} {it : Wk} {own : List Nat} : evE C G (.comp m elt t it own) = compM (evI C G it) (turnM (evTg C G (fun i => own.contains i) t) (pureM true) (evE C G elt)) m own := Eq.trans rfl rfl
theorem evE_compI {m : Md} {elt c : Ex} {t : Tg} {it : Wk} {own : List Nat} : evE C G (.compI m elt t it c own) = compM (evI C G it) (turnM (evTg C G (fun i => own.contains i) t) (evT C G c) (evE C G elt)) m own := Eq.trans rfl rfl
theorem evS_for {io : List Nat} {t : Tg} {it : Wk} {b : Sms} : evS C G io (.forS t it b) = bindM (evI C G it) fun q => bindM (forL (fun x => bindM (evTg C G (fun i => !(slotsOf q.2 ++ io).contains i) t x) fun _ => evSs C G (slotsOf q.2 ++ io) b) q.1) (forR q.2) := Eq.trans rfl rfl
theorem evS_whl {io : List Nat} {c : Ex} {b : Sms} : evS C G io (.whl c b) = whlL (evT C G c) (evSs C G io b) fuel := Eq.trans rfl rfl
theorem runN_at {D : List Df} {k f : Nat} {d : Df} {xs : List Val} (h : D[f]? = some d) : runN D G (k + 1) f xs = runD (runN D G k) G d xs := by
  show (match D[f]? with | some d => runD (runN D G k) G d xs | none => .stuck) = _
  rw [h]
end
def seqD (o : Out Fl) (f : List Val → List Val) : CRes := match o with
  | .ok (.rt v) e => .ret v (f e)
  | .ok .nx e => .ret .non (f e)
  | .ok _ _ => .stuck
  | .exc x e => .exc x (f e)
  | .stuck => .stuck
@[simp] theorem seqD_rt (v : Val) (e : List Val) (f : List Val → List Val) : seqD (.ok (.rt v) e) f = .ret v (f e) := Eq.trans rfl rfl
@[simp] theorem seqD_nx (e : List Val) (f : List Val → List Val) : seqD (.ok .nx e) f = .ret .non (f e) := Eq.trans rfl rfl
@[simp] theorem seqD_exc (x : Exn) (e : List Val) (f : List Val → List Val) : seqD (.exc x e) f = .exc x (f e) := Eq.trans rfl rfl
theorem runD_ap {C : Nat → List Val → CRes} {G : Nat → Option Val} {np ns : Nat} {io : List Nat} {b : Sms} {xs : List Val} (h : xs.length = np) : runD C G ⟨np, ns, io, b⟩ xs = seqD (evSs C G io b (xs ++ List.replicate (ns - np) .und)) (outsOf np io) := by
  unfold runD
  rw [if_pos h]
  show (match evSs C G io b (xs ++ List.replicate (ns - np) .und) with
    | .ok (.rt v) e => CRes.ret v (outsOf np io e)
    | .ok .nx e => .ret .non (outsOf np io e)
    | .ok _ _ => .stuck
    | .exc x e => .exc x (outsOf np io e)
    | .stuck => .stuck) = _
  cases evSs C G io b (xs ++ List.replicate (ns - np) .und) with
  | ok f e => cases f <;> rfl
  | exc x e => rfl
  | stuck => rfl
/-! ### values -/
@[simp] theorem intsL_map (l : List Int) : intsL (l.map Val.int) = some l := by
  induction l with
  | nil => rfl
  | cons a l ih => simp [intsL, ih]
@[simp] theorem boolsL_map (l : List Bool) : boolsL (l.map Val.bl) = some l := by
  induction l with
  | nil => rfl
  | cons a l ih => simp [boolsL, ih]
/-! ### loops -/
theorem forL_inv {f : Val → M Fl} (J : Nat → List Val → Prop) : ∀ (xs : List Val) (k : Nat) (e : List Val), J k e → (∀ i x e', xs[i]? = some x → J (k + i) e' → ∃ e3, (f x e' = .ok .nx e3 ∨ f x e' = .ok .ct e3) ∧ J (k + i + 1) e3) → ∃ e3, forL f xs e = .ok .nx e3 ∧ J (k + xs.length) e3
  | [], k, e, h, _ => ⟨e, rfl, h⟩
  | x :: xs, k, e, h, hs => by
    obtain ⟨e3, h1, h2⟩ := hs 0 x e rfl h
    obtain ⟨e4, h3, h4⟩ := forL_inv J xs (k + 1) e3 h2 fun i y e' hy hj => by
      have := hs (i + 1) y e' (by simpa using hy) (by rw [show k + (i + 1) = k + 1 + i by omega]; exact hj)
      rw [show k + (i + 1) + 1 = k + 1 + i + 1 by omega] at this
      exact this
    refine ⟨e4, ?_, by rw [List.length_cons, show k + (xs.length + 1) = k + 1 + xs.length by omega]; exact h4⟩
    show bindM (f x) _ e = _
    rw [bindM_ap]
    rcases h1 with h1 | h1 <;> rw [h1] <;> exact h3
/-- a loop that may be left -/
theorem forL_brk {f : Val → M Fl} (J : Nat → List Val → Prop) (Q : List Val → Prop) : ∀ (xs : List Val) (k : Nat) (e : List Val), J k e → (∀ i x e', xs[i]? = some x → J (k + i) e' → ∃ e3, ((f x e' = .ok .nx e3 ∨ f x e' = .ok .ct e3) ∧ J (k + i + 1) e3) ∨ (f x e' = .ok .bk e3 ∧ Q e3)) → (∀ e', J (k + xs.length) e' → Q e') → ∃ e3, forL f xs e = .ok .nx e3 ∧ Q e3
  | [], k, e, h, _, hq => ⟨e, rfl, hq e h⟩
  | x :: xs, k, e, h, hs, hq => by
    obtain ⟨e3, ⟨h1, h2⟩ | ⟨h1, h2⟩⟩ := hs 0 x e rfl h
    · obtain ⟨e4, h3, h4⟩ := forL_brk J Q xs (k + 1) e3 h2 (fun i y e' hy hj => by
        have := hs (i + 1) y e' (by simpa using hy) (by rw [show k + (i + 1) = k + 1 + i by omega]; exact hj)
        rw [show k + (i + 1) + 1 = k + 1 + i + 1 by omega] at this
        exact this) fun e' hj => hq e' (by rw [List.length_cons, show k + (xs.length + 1) = k + 1 + xs.length by omega]; exact hj)
      refine ⟨e4, ?_, h4⟩
      show bindM (f x) _ e = _
      rw [bindM_ap]
      rcases h1 with h1 | h1 <;> rw [h1] <;> exact h3
    · refine ⟨e3, ?_, h2⟩
      show bindM (f x) _ e = _
      rw [bindM_ap, h1]
      rfl
/-- a new list's item -/
def keepAs (md : Md) (y z : Val) : Prop := (md = .ow ∧ frz y = some z) ∨ (md = .ne ∧ z = y)
theorem compL_inv {f : Val → M (Option Val)} {md : Md} (J : Nat → List Val → List Val → Prop) : ∀ (xs : List Val) (k : Nat) (acc e : List Val), J k acc e →
    (∀ i x acc e', xs[i]? = some x → J (k + i) acc e' → ∃ o e3, f x e' = .ok o e3 ∧ match o with
      | none => J (k + i + 1) acc e3
      | some y => acc.length < sizeLine ∧ ∃ z, keepAs md y z ∧ J (k + i + 1) (acc ++ [z]) e3) → ∃ r e3, compL f md xs acc e = .ok r e3 ∧ J (k + xs.length) r e3
  | [], k, acc, e, h, _ => ⟨acc, e, rfl, h⟩
  | x :: xs, k, acc, e, h, hs => by
    obtain ⟨o, e3, h1, h2⟩ := hs 0 x acc e rfl h
    have next : ∀ acc', J (k + 1) acc' e3 → ∃ r e4, compL f md xs acc' e3 = .ok r e4 ∧ J (k + (x :: xs).length) r e4 := fun acc' hj => by
      obtain ⟨r, e4, h3, h4⟩ := compL_inv J xs (k + 1) acc' e3 hj fun i y acc e' hy hj => by
        have := hs (i + 1) y acc e' (by simpa using hy) (by rw [show k + (i + 1) = k + 1 + i by omega]; exact hj)
        rw [show k + (i + 1) + 1 = k + 1 + i + 1 by omega] at this
        exact this
      exact ⟨r, e4, h3, by rw [List.length_cons, show k + (xs.length + 1) = k + 1 + xs.length by omega]; exact h4⟩
    unfold compL
    rw [bindM_ap, h1]
    cases o with
    | none => exact next acc h2
    | some y =>
      obtain ⟨hl, z, hz, hj⟩ := h2
      obtain ⟨r, e4, h3, h4⟩ := next _ hj
      refine ⟨r, e4, ?_, h4⟩
      simp only [hl, if_true, seqO_ok]
      rcases hz with ⟨rfl, hz⟩ | ⟨rfl, rfl⟩
      · simp only [hz]; exact h3
      · exact h3
theorem wipes_len : ∀ {own : List Nat} {e : List Val}, (wipes own e).length = e.length
  | [], _ => rfl
  | i :: r, e => by show ((wipes r e).set i .und).length = _; rw [List.length_set, wipes_len]
theorem wipes_at : ∀ {own : List Nat} {e : List Val} {j : Nat}, (wipes own e)[j]? = if j ∈ own ∧ j < e.length then some .und else e[j]?
  | [], e, j => by simp [wipes]
  | i :: r, e, j => by
    show ((wipes r e).set i .und)[j]? = _
    by_cases h : i = j
    · subst h
      by_cases hl : i < e.length
      · rw [List.getElem?_set_self (by rw [wipes_len]; exact hl), if_pos ⟨by simp, hl⟩]
      · rw [List.getElem?_eq_none (by simp [wipes_len]; omega), if_neg (fun z => hl z.2), List.getElem?_eq_none (by omega)]
    · rw [List.getElem?_set_ne h, wipes_at]
      have : (j ∈ i :: r) ↔ j ∈ r := by simp [Ne.symm h]
      simp only [this]
theorem restores_at : ∀ {own : List Nat} {e0 e : List Val} {j : Nat}, e.length = e0.length → (restores own (saves own e0) e)[j]? = if j ∈ own then e0[j]? else e[j]?
  | [], _, e, j, _ => by simp [restores]
  | i :: r, e0, e, j, hl => by
    show ((restores r (saves r e0) e).set i (e0.getD i .und))[j]? = _
    by_cases h : i = j
    · subst h
      rw [if_pos (by simp)]
      by_cases hlt : i < e0.length
      · rw [List.getElem?_set_self (by rw [restores_len, hl]; exact hlt), List.getD_eq_getElem?_getD, List.getElem?_eq_getElem hlt]
        rfl
      · rw [List.getElem?_eq_none (by simp [restores_len]; omega), List.getElem?_eq_none (by omega)]
    · rw [List.getElem?_set_ne h, restores_at hl]
      have : (j ∈ i :: r) ↔ j ∈ r := by simp [Ne.symm h]
      simp only [this]
/-- the envs a block sees and leaves: own slots as before -/
theorem wipes_restores {own : List Nat} {e0 e : List Val} (hl : e.length = e0.length) : wipes own (restores own (saves own e0) e) = wipes own e := by
  apply List.ext_getElem?
  intro j
  rw [wipes_at, wipes_at, restores_len]
  by_cases h : j ∈ own ∧ j < e.length
  · rw [if_pos h, if_pos h]
  · rw [if_neg h, if_neg h, restores_at hl]
    by_cases h1 : j ∈ own
    · rw [if_pos h1]
      have : ¬ j < e.length := fun z => h ⟨h1, z⟩
      rw [List.getElem?_eq_none (by omega), List.getElem?_eq_none (by omega)]
    · rw [if_neg h1]
theorem restores_same {own : List Nat} {e : List Val} : restores own (saves own e) e = e := by
  apply List.ext_getElem?
  intro j
  rw [restores_at rfl]
  split <;> rfl
/-- a comprehension: J tells the env with its own slots as they were -/
theorem comp_inv {mI : M (List Val × List (Val × Tk))} {body : Val → M (Option Val)} {md : Md} {own : List Nat} {e e1 : List Val} {q : List Val × List (Val × Tk)} (hI : mI e = .ok q e1) (J : Nat → List Val → List Val → Prop) (h0 : J 0 [] e1) (hl : ∀ i acc e', J i acc e' → e'.length = e1.length)
    (hs : ∀ i x acc e', q.1[i]? = some x → J i acc e' → ∃ o e3, body x (wipes own e') = .ok o e3 ∧ e3.length = e1.length ∧ match o with
      | none => J (i + 1) acc (restores own (saves own e1) e3)
      | some y => acc.length < sizeLine ∧ ∃ z, keepAs md y z ∧ J (i + 1) (acc ++ [z]) (restores own (saves own e1) e3)) :
    ∃ r e3, compM mI body md own e = bindM (plugs q.2 (q.2.map (·.1))) (fun _ => pureM (.lst md r)) e3 ∧ J q.1.length r e3 := by
  obtain ⟨r, e3, h1, h2, h3⟩ := compL_inv (f := fun x => fun e1 => noexc (body x) (wipes own e1)) (md := md) (fun i acc e' => e'.length = e1.length ∧ J i acc (restores own (saves own e1) e')) q.1 0 [] e1 ⟨rfl, by rw [restores_same]; exact h0⟩ fun i x acc e' hx ⟨hel, hj⟩ => by
    rw [Nat.zero_add] at hj ⊢
    obtain ⟨o, e3, q1, q2, q3⟩ := hs i x acc _ hx hj
    rw [wipes_restores hel] at q1
    refine ⟨o, e3, ?_, ?_⟩
    · show noexc (body x) (wipes own e') = _
      unfold noexc
      rw [q1]
    · cases o with
      | none => exact ⟨q2, q3⟩
      | some y =>
        obtain ⟨a1, z, a2, a3⟩ := q3
        exact ⟨a1, z, a2, q2, a3⟩
  rw [Nat.zero_add] at h3
  refine ⟨r, restores own (saves own e1) e3, ?_, h3⟩
  show bindM mI _ e = _
  rw [bindM_ap, hI]
  show bindM (fun e' => compL (fun x => fun e1 => noexc (body x) (wipes own e1)) md q.1 [] e') _ e1 = _
  rw [bindM_ap, h1, seqO_ok]
/-- a comprehension that changes nothing else -/
theorem comp_map {mI : M (List Val × List (Val × Tk))} {body : Val → M (Option Val)} {md : Md} {own : List Nat} {e e1 : List Val} {q : List Val × List (Val × Tk)} (hI : mI e = .ok q e1) (g : Val → Option Val) (hn : q.1.length ≤ sizeLine)
    (hs : ∀ x, x ∈ q.1 → ∃ o e3, body x (wipes own e1) = .ok o e3 ∧ restores own (saves own e1) e3 = e1 ∧ e3.length = e1.length ∧ match o with
      | none => g x = none
      | some y => ∃ z, keepAs md y z ∧ g x = some z) :
    compM mI body md own e = bindM (plugs q.2 (q.2.map (·.1))) (fun _ => pureM (.lst md (q.1.filterMap g))) e1 := by
  obtain ⟨r, e3, h1, h2, h3⟩ := comp_inv (body := body) (md := md) (own := own) hI (fun i acc e' => e' = e1 ∧ acc = (q.1.take i).filterMap g) ⟨rfl, by simp⟩ (fun i acc e' h => by rw [h.1]) fun i x acc e' hx ⟨he, ha⟩ => by
    subst he
    obtain ⟨o, e3, q1, q2, q3, q4⟩ := hs x (List.mem_of_getElem? hx)
    have hi : i < q.1.length := (List.getElem?_eq_some_iff.mp hx).1
    have ht : q.1.take (i + 1) = q.1.take i ++ [x] := by rw [List.take_succ, hx]; rfl
    refine ⟨o, e3, q1, q3, ?_⟩
    cases o with
    | none =>
      refine ⟨q2, ?_⟩
      rw [ht, List.filterMap_append, ← ha]
      simp [q4]
    | some y =>
      obtain ⟨z, a1, a2⟩ := q4
      refine ⟨?_, z, a1, q2, ?_⟩
      · rw [ha]
        have := List.length_filterMap_le g (q.1.take i)
        rw [List.length_take] at this
        omega
      · rw [ht, List.filterMap_append, ← ha]
        simp [a2]
  subst h2
  rw [List.take_length] at h3
  subst h3
  exact h1
end Nd

/-! NdPm: comprehensions, loops, bodies in the form that plain laws use. -/
namespace Nd
open PySem
section
variable {C : Nat → List Val → CRes} {G : Nat → Option Val} {α β σ : Type}
/-- a comprehension that changes nothing else -/
theorem comp_maps {c0 elt : Ex} {t : Tg} {it : Wk} {own : List Nat} {e e1 : List Val} {ps : List (Val × Tk)} (hc : c0 = .comp .ow elt t it own) (l : List α) (f g : α → Val) (hI : evI C G it e = .ok (l.map f, ps) e1) (hn : l.length ≤ sizeLine)
    (hs : ∀ x, x ∈ l → ∃ e3, turnM (evTg C G (fun i => own.contains i) t) (pureM true) (evE C G elt) (f x) (wipes own e1) = .ok (some (g x)) e3 ∧ restores own (saves own e1) e3 = e1 ∧ e3.length = e1.length ∧ frz (g x) = some (g x)) :
    evE C G c0 e = bindM (plugs ps (ps.map (·.1))) (fun _ => pureM (.lst .ow (l.map g))) e1 := by
  rw [hc, evE_comp]
  obtain ⟨r, e3, h1, h2, h3⟩ := comp_inv (body := turnM (evTg C G (fun i => own.contains i) t) (pureM true) (evE C G elt)) (md := .ow) (own := own) hI (fun i acc e' => e' = e1 ∧ acc = (l.take i).map g) ⟨rfl, by simp⟩ (fun i acc e' h => by rw [h.1]) fun i x acc e' hx ⟨he, ha⟩ => by
    subst he
    simp only [List.getElem?_map, Option.map_eq_some_iff] at hx
    obtain ⟨y, hy, rfl⟩ := hx
    obtain ⟨e3, q1, q2, q3, q4⟩ := hs y (List.mem_of_getElem? hy)
    have hi : i < l.length := (List.getElem?_eq_some_iff.mp hy).1
    refine ⟨_, e3, q1, q3, ?_, _, .inl ⟨rfl, q4⟩, q2, ?_⟩
    · rw [ha, List.length_map, List.length_take]; omega
    · rw [List.take_succ, hy, ha]; simp
  rw [h1, h2, h3]
  simp
theorem compI_maps {c0 elt c : Ex} {t : Tg} {it : Wk} {own : List Nat} {e e1 : List Val} {ps : List (Val × Tk)} (hc : c0 = .compI .ow elt t it c own) (l : List α) (f g : α → Val) (p : α → Bool) (hI : evI C G it e = .ok (l.map f, ps) e1) (hn : l.length ≤ sizeLine)
    (hs : ∀ x, x ∈ l → ∃ e3, turnM (evTg C G (fun i => own.contains i) t) (evT C G c) (evE C G elt) (f x) (wipes own e1) = .ok (if p x then some (g x) else none) e3 ∧ restores own (saves own e1) e3 = e1 ∧ e3.length = e1.length ∧ frz (g x) = some (g x)) :
    evE C G c0 e = bindM (plugs ps (ps.map (·.1))) (fun _ => pureM (.lst .ow ((l.filter p).map g))) e1 := by
  rw [hc, evE_compI]
  obtain ⟨r, e3, h1, h2, h3⟩ := comp_inv (body := turnM (evTg C G (fun i => own.contains i) t) (evT C G c) (evE C G elt)) (md := .ow) (own := own) hI (fun i acc e' => e' = e1 ∧ acc = ((l.take i).filter p).map g) ⟨rfl, by simp⟩ (fun i acc e' h => by rw [h.1]) fun i x acc e' hx ⟨he, ha⟩ => by
    subst he
    simp only [List.getElem?_map, Option.map_eq_some_iff] at hx
    obtain ⟨y, hy, rfl⟩ := hx
    obtain ⟨e3, q1, q2, q3, q4⟩ := hs y (List.mem_of_getElem? hy)
    have hi : i < l.length := (List.getElem?_eq_some_iff.mp hy).1
    refine ⟨_, e3, q1, q3, ?_⟩
    cases hp : p y with
    | false =>
      refine ⟨q2, ?_⟩
      rw [List.take_succ, hy, ha]; simp [hp]
    | true =>
      refine ⟨?_, _, .inl ⟨rfl, q4⟩, q2, ?_⟩
      · rw [ha, List.length_map]
        have := List.length_filter_le p (l.take i)
        rw [List.length_take] at this
        omega
      · rw [List.take_succ, hy, ha]; simp [hp]
  rw [h1, h2, h3]
  simp
/-- a comprehension with a state -/
theorem comp_st {c0 elt : Ex} {t : Tg} {it : Wk} {own : List Nat} {e : List Val} {ps : List (Val × Tk)} (hc : c0 = .comp .ow elt t it own) (l : List α) (f : α → Val) (enc : σ → List Val) (s0 : σ) (r : β → Val) (P : β → Prop) (hI : evI C G it e = .ok (l.map f, ps) (enc s0)) (hn : l.length ≤ sizeLine) (henc : ∀ s, (enc s).length = (enc s0).length)
    (hs : ∀ x s, x ∈ l → ∃ y s' e3, turnM (evTg C G (fun i => own.contains i) t) (pureM true) (evE C G elt) (f x) (wipes own (enc s)) = .ok (some (r y)) e3 ∧ restores own (saves own (enc s0)) e3 = enc s' ∧ e3.length = (enc s0).length ∧ frz (r y) = some (r y) ∧ P y) :
    ∃ (ys : List β) (s' : σ), evE C G c0 e = bindM (plugs ps (ps.map (·.1))) (fun _ => pureM (.lst .ow (ys.map r))) (enc s') ∧ ys.length = l.length ∧ ∀ y ∈ ys, P y := by
  rw [hc, evE_comp]
  obtain ⟨v, e3, h1, ys, s', h2, h3, h4, h5⟩ := comp_inv (body := turnM (evTg C G (fun i => own.contains i) t) (pureM true) (evE C G elt)) (md := .ow) (own := own) hI (fun i acc e' => ∃ (ys : List β) (s : σ), e' = enc s ∧ acc = ys.map r ∧ ys.length = i ∧ ∀ y ∈ ys, P y) ⟨[], s0, rfl, rfl, rfl, by simp⟩ (fun i acc e' h => by obtain ⟨_, s, h, _⟩ := h; rw [h, henc]) fun i x acc e' hx ⟨ys, s, he, ha, hl, hp⟩ => by
    subst he
    simp only [List.getElem?_map, Option.map_eq_some_iff] at hx
    obtain ⟨y, hy, rfl⟩ := hx
    obtain ⟨z, s', e3, q1, q2, q3, q4, q5⟩ := hs y s (List.mem_of_getElem? hy)
    have hi : i < l.length := (List.getElem?_eq_some_iff.mp hy).1
    refine ⟨_, e3, q1, q3, ?_, _, .inl ⟨rfl, q4⟩, ys ++ [z], s', q2, ?_, ?_, ?_⟩
    · rw [ha, List.length_map, hl]; omega
    · rw [ha]; simp
    · simp [hl]
    · intro w hw
      rcases List.mem_append.mp hw with hw | hw
      · exact hp w hw
      · rw [List.mem_singleton.mp hw]; exact q5
  refine ⟨ys, s', ?_, ?_, h5⟩
  · rw [h1, h2, h3]
  · rw [h4, List.length_map]
/-- a loop over a list -/
theorem for_inv {s0 : Sm} {io : List Nat} {t : Tg} {it : Wk} {b : Sms} {e e1 : List Val} {ps : List (Val × Tk)} (hc : s0 = .forS t it b) (l : List α) (f : α → Val) (hI : evI C G it e = .ok (l.map f, ps) e1) (J : Nat → List Val → Prop) (h0 : J 0 e1)
    (hs : ∀ i x e', l[i]? = some x → J i e' → ∃ e2 e3, evTg C G (fun i => !(slotsOf ps ++ io).contains i) t (f x) e' = .ok () e2 ∧ evSs C G (slotsOf ps ++ io) b e2 = .ok .nx e3 ∧ J (i + 1) e3) :
    ∃ e3, J l.length e3 ∧ evS C G io s0 e = bindM (plugs ps (ps.map (·.1))) (fun _ => pureM .nx) e3 := by
  rw [hc, evS_for]
  obtain ⟨e3, h1, h2⟩ := forL_inv (f := fun x => bindM (evTg C G (fun i => !(slotsOf ps ++ io).contains i) t x) fun _ => evSs C G (slotsOf ps ++ io) b) J (l.map f) 0 e1 h0 fun i x e' hx hj => by
    simp only [List.getElem?_map, Option.map_eq_some_iff] at hx
    obtain ⟨y, hy, rfl⟩ := hx
    rw [Nat.zero_add] at hj ⊢
    obtain ⟨e2, e3, q1, q2, q3⟩ := hs i y e' hy hj
    refine ⟨e3, .inl ?_, q3⟩
    show bindM _ _ e' = _
    rw [bindM_ap, q1]
    exact q2
  refine ⟨e3, ?_, ?_⟩
  · rw [List.length_map, Nat.zero_add] at h2; exact h2
  · rw [bindM_ap, hI]
    show bindM (forL _ (l.map f)) _ e1 = _
    rw [bindM_ap, h1]
    rfl
/-- a loop that may be left -/
theorem for_brk {s0 : Sm} {io : List Nat} {t : Tg} {it : Wk} {b : Sms} {e e1 : List Val} {ps : List (Val × Tk)} (hc : s0 = .forS t it b) (l : List α) (f : α → Val) (hI : evI C G it e = .ok (l.map f, ps) e1) (J Q : List Val → Prop) (h0 : J e1)
    (hs : ∀ x e', x ∈ l → J e' → ∃ e2 e3, evTg C G (fun i => !(slotsOf ps ++ io).contains i) t (f x) e' = .ok () e2 ∧ ((evSs C G (slotsOf ps ++ io) b e2 = .ok .nx e3 ∧ J e3) ∨ (evSs C G (slotsOf ps ++ io) b e2 = .ok .bk e3 ∧ Q e3))) (hq : ∀ e', J e' → Q e') :
    ∃ e3, Q e3 ∧ evS C G io s0 e = bindM (plugs ps (ps.map (·.1))) (fun _ => pureM .nx) e3 := by
  rw [hc, evS_for]
  obtain ⟨e3, h1, h2⟩ := forL_brk (f := fun x => bindM (evTg C G (fun i => !(slotsOf ps ++ io).contains i) t x) fun _ => evSs C G (slotsOf ps ++ io) b) (fun _ => J) Q (l.map f) 0 e1 h0 (fun i x e' hx hj => by
    obtain ⟨y, hy, rfl⟩ := List.mem_map.mp (List.mem_of_getElem? hx)
    obtain ⟨e2, e3, q1, q2⟩ := hs y e' hy hj
    refine ⟨e3, ?_⟩
    have : (bindM (evTg C G (fun i => !(slotsOf ps ++ io).contains i) t (f y)) fun _ => evSs C G (slotsOf ps ++ io) b) e' = evSs C G (slotsOf ps ++ io) b e2 := by
      rw [bindM_ap, q1, seqO_ok]
    rw [this]
    rcases q2 with ⟨q2, q3⟩ | ⟨q2, q3⟩
    · exact .inl ⟨.inl q2, q3⟩
    · exact .inr ⟨q2, q3⟩) fun e' hj => hq e' hj
  refine ⟨e3, h2, ?_⟩
  rw [bindM_ap, hI]
  show bindM (forL _ (l.map f)) _ e1 = _
  rw [bindM_ap, h1]
  rfl
/-- a body that ends in a return -/
def Ret (C : Nat → List Val → CRes) (G : Nat → Option Val) (io : List Nat) (ss : Sms) (e : List Val) (Q : Val → List Val → Prop) : Prop := ∃ v e', evSs C G io ss e = .ok (.rt v) e' ∧ Q v e'
theorem Ret.step {io : List Nat} {s : Sm} {ss : Sms} {e : List Val} {Q : Val → List Val → Prop} (h : ∃ e', evS C G io s e = .ok .nx e' ∧ Ret C G io ss e' Q) : Ret C G io (.cons s ss) e Q := by
  obtain ⟨e', h1, v, e2, h2, h3⟩ := h
  refine ⟨v, e2, ?_, h3⟩
  rw [evSs_cons, h1]
  exact h2
theorem Ret.last {io : List Nat} {s : Sm} {ss : Sms} {e : List Val} {Q : Val → List Val → Prop} (h : ∃ v e', evS C G io s e = .ok (.rt v) e' ∧ Q v e') : Ret C G io (.cons s ss) e Q := by
  obtain ⟨v, e2, h2, h3⟩ := h
  refine ⟨v, e2, ?_, h3⟩
  rw [evSs_cons, h2, seqS_rt]
/-- a block that goes on -/
def Nxt (C : Nat → List Val → CRes) (G : Nat → Option Val) (io : List Nat) (ss : Sms) (e : List Val) (Q : List Val → Prop) : Prop := ∃ e', evSs C G io ss e = .ok .nx e' ∧ Q e'
theorem Nxt.step {io : List Nat} {s : Sm} {ss : Sms} {e : List Val} {Q : List Val → Prop} (h : ∃ e', evS C G io s e = .ok .nx e' ∧ Nxt C G io ss e' Q) : Nxt C G io (.cons s ss) e Q := by
  obtain ⟨e', h1, e2, h2, h3⟩ := h
  refine ⟨e2, ?_, h3⟩
  rw [evSs_cons, h1]
  exact h2
theorem Nxt.nil {io : List Nat} {e : List Val} {Q : List Val → Prop} (h : Q e) : Nxt C G io .nil e Q := ⟨e, rfl, h⟩
theorem runD_of {d : Df} {xs : List Val} {Q : Val → List Val → Prop} (hl : xs.length = d.np) (h : Ret C G d.io d.body (xs ++ List.replicate (d.ns - d.np) .und) Q) : ∃ v e, runD C G d xs = .ret v (outsOf d.np d.io e) ∧ Q v e := by
  obtain ⟨v, e, h1, h2⟩ := h
  refine ⟨v, e, ?_, h2⟩
  unfold runD
  rw [if_pos hl, h1]
end
@[simp] theorem intsL_maps {α : Type} (f : α → Int) (l : List α) : intsL (l.map fun x => Val.int (f x)) = some (l.map f) := by
  induction l with
  | nil => rfl
  | cons a l ih => simp [intsL, ih]
@[simp] theorem boolsL_maps {α : Type} (f : α → Bool) (l : List α) : boolsL (l.map fun x => Val.bl (f x)) = some (l.map f) := by
  induction l with
  | nil => rfl
  | cons a l ih => simp [boolsL, ih]
@[simp] theorem mtOk_app {m : Md} {xs : List Val} : mtOk .append (.lst m xs) = true := Eq.trans rfl rfl
@[simp] theorem mtOk_pop0 {m : Md} {xs : List Val} : mtOk .pop0 (.lst m xs) = true := Eq.trans rfl rfl
@[simp] theorem mtOk_pop1 {m : Md} {xs : List Val} : mtOk .pop1 (.lst m xs) = true := Eq.trans rfl rfl
@[simp] theorem mtOk_ext {m : Md} {xs : List Val} : mtOk .extend (.lst m xs) = true := Eq.trans rfl rfl
@[simp] theorem mtOk_get {m : Md} {xs : List (L2.Key × Val)} : mtOk .get2 (.dic m xs) = true := Eq.trans rfl rfl
@[simp] theorem meV_append {xs : List Val} {y : Val} : meV .append (.lst .ow xs) [y] = if xs.length < sizeLine then (frz y).map (fun z => (.non, .lst .ow (xs ++ [z]))) else none := by
  simp only [meV]
  cases frz y with
  | none => simp
  | some z => rfl
theorem meV_pop1 {xs : List Val} {i : Int} : meV .pop1 (.lst .ow xs) [.int i] = if -(2 ^ 62) < i ∧ i < 2 ^ 62 then (L2.ixN xs.length i).bind fun k => (xs[k]?).map fun y => (y, .lst .ow (xs.eraseIdx k)) else none := Eq.trans rfl rfl
@[simp] theorem meV_pop0 {xs : List Val} : meV .pop0 (.lst .ow xs) [] = (xs[xs.length - 1]?).map fun y => (y, .lst .ow xs.dropLast) := Eq.trans rfl rfl
@[simp] theorem meV_extend {xs zs : List Val} : meV .extend (.lst .ow xs) [.lst .ow zs] = if xs.length + zs.length ≤ sizeLine then some (.non, .lst .ow (xs ++ zs)) else none := Eq.trans rfl rfl
@[simp] theorem biV_len_t {xs : List Val} : biV .len [.tup xs] = some (.int xs.length) := Eq.trans rfl rfl
@[simp] theorem biV_len_l {m : Md} {xs : List Val} : biV .len [.lst m xs] = some (.int xs.length) := Eq.trans rfl rfl
@[simp] theorem biV_tuple_t {xs : List Val} : biV .tuple [.tup xs] = some (.tup xs) := Eq.trans rfl rfl
@[simp] theorem biV_tuple_o {xs : List Val} : biV .tuple [.lst .ow xs] = some (.tup xs) := Eq.trans rfl rfl
@[simp] theorem biV_list_t {xs : List Val} : biV .list [.tup xs] = some (.lst .ow xs) := Eq.trans rfl rfl
@[simp] theorem biV_list_o {xs : List Val} : biV .list [.lst .ow xs] = some (.lst .ow xs) := Eq.trans rfl rfl
@[simp] theorem truV_bl {b : Bool} : truV (.bl b) = some b := Eq.trans rfl rfl
@[simp] theorem itemsF_t {xs : List Val} : itemsF (.tup xs) = some xs := Eq.trans rfl rfl
@[simp] theorem itemsF_o {xs : List Val} : itemsF (.lst .ow xs) = some xs := Eq.trans rfl rfl
end Nd

namespace K19
open PySem Nd
/-! the defs of the row in the small language (printed by mk.py) -/
/-- majority 0:bits -/
def d0 : Df := ⟨1, 1, [0], (.cons (.ret (.ite (.cmp .gt (.v (.bin .mul (.v (.int 2)) (.v (.bi .sum (.cons (.mv 0) .nil))))) (.v (.bi .len (.cons (.mv 0) .nil)))) (.int 1) (.int 0))) .nil)⟩
def b1_0 : Sms := (.cons (.asg (.name 1) (.bin .add (.v (.bin .mul (.v (.int 2)) (.mv 1))) (.mv 2))) .nil)
def l1_0 : Sm := .forS (.name 2) (.ex (.mv 0)) b1_0
/-- row_place 0:row 1:found 2:bit -/
def d1 : Df := ⟨1, 3, [0], (.cons (.asg (.name 1) (.int 0)) (.cons l1_0 (.cons (.ret (.mov 1)) .nil)))⟩
/-- table_value 0:table 1:row -/
def d2 : Df := ⟨2, 2, [0, 1], (.cons (.ret (.subS 0 (.v (.call 1 (.cons (.mv 1) .nil))))) .nil)⟩
/-- bundle_bit 0:bundle -/
def d3 : Df := ⟨1, 1, [0], (.cons (.ret (.call 0 (.cons (.mv 0) .nil))) .nil)⟩
def c4_0 : Ex := .compI .ow (.var 2) (.tup (.cons (.name 2) (.cons (.name 3) .nil))) (.enum (.mv 0)) (.cmp .ne (.mv 3) (.mv 1)) [2, 3]
/-- offs_of 0:bundle 1:bit 2:p 3:own -/
def d4 : Df := ⟨2, 4, [0, 1], (.cons (.ret (.bi .tuple (.cons (.v c4_0) .nil))) .nil)⟩
def c5_0 : Ex := .comp .ow (.ite (.cmp .inn (.mv 3) (.mv 2)) (.bin .sub (.v (.int 1)) (.mv 1)) (.var 1)) (.name 3) (.rng (.var 0)) [3]
/-- bundle_with 0:n 1:bit 2:offs 3:p -/
def d5 : Df := ⟨3, 4, [0, 1, 2], (.cons (.ret (.bi .tuple (.cons (.v c5_0) .nil))) .nil)⟩
def c6_0 : Ex := .comp .ow (.subS 4 (.mv 3)) (.name 4) (.ex (.mv 2)) [4]
def c6_1 : Ex := .comp .ow (.call 2 (.cons (.mv 1) (.cons (.v (.bi .tuple (.cons (.v c6_0) .nil))) .nil))) (.name 3) (.rng (.var 0)) [3]
/-- gated 0:n 1:table 2:bundles 3:p 4:bundle -/
def d6 : Df := ⟨3, 5, [0, 1, 2], (.cons (.ret (.bi .tuple (.cons (.v c6_1) .nil))) .nil)⟩
def c7_0 : Ex := .comp .ow (.meS .get2 2 (.cons (.var 3) (.cons (.var 4) .nil))) (.tup (.cons (.name 3) (.cons (.name 4) .nil))) (.enum (.mv 0)) [3, 4]
/-- said 0:bundle 1:failures 2:own 3:p 4:bit -/
def d7 : Df := ⟨2, 5, [0, 1], (.cons (.asg (.name 2) (.dzip (.v (.subS 1 (.v (.int 0)))) (.v (.subS 1 (.v (.int 1)))))) (.cons (.ret (.bi .tuple (.cons (.v c7_0) .nil))) .nil))⟩
def c8_0 : Ex := .comp .ow (.subS 1 (.mv 3)) (.name 3) (.ex (.mv 2)) [3]
def c8_1 : Ex := .comp .ow (.call 0 (.cons (.v c8_0) .nil)) (.name 2) (.ex (.mv 0)) [2]
/-- voted 0:votes 1:bundle 2:places 3:p -/
def d8 : Df := ⟨2, 4, [0, 1], (.cons (.ret (.bi .tuple (.cons (.v c8_1) .nil))) .nil)⟩
/-- layer_run 0:votes 1:table 2:bundles 3:gates 4:voters -/
def d9 : Df := ⟨5, 5, [0, 1, 2, 3, 4], (.cons (.ret (.call 7 (.cons (.v (.call 8 (.cons (.mv 0) (.cons (.v (.call 7 (.cons (.v (.call 6 (.cons (.v (.bi .len (.cons (.mv 0) .nil))) (.cons (.mv 1) (.cons (.mv 2) .nil))))) (.cons (.mv 3) .nil)))) .nil)))) (.cons (.mv 4) .nil)))) .nil)⟩
def c10_0 : Ex := .compI .ow (.var 4) (.name 4) (.ex (.mv 3)) (.cmp .inn (.mv 4) (.mv 1)) [4]
def c10_1 : Ex := .compI .ow (.var 2) (.tup (.cons (.name 2) (.cons (.name 3) .nil))) (.enum (.mv 0)) (.cmp .gt (.v (.bin .mul (.v (.int 2)) (.v (.bi .len (.cons (.v c10_0) .nil))))) (.v (.bi .len (.cons (.mv 3) .nil)))) [2, 3]
/-- outputs_off 0:votes 1:offs 2:j 3:places 4:p -/
def d10 : Df := ⟨2, 5, [0, 1], (.cons (.ret (.bi .tuple (.cons (.v c10_1) .nil))) .nil)⟩
def c11_0 : Ex := .comp .ow (.bi .abs (.cons (.mv 3) .nil)) (.name 3) (.ex (.v (.slc (.mv 0) .none (.some (.int 63))))) [3]
def b11_0 : Sms := (.cons (.asg (.name 2) (.bin .mod (.v (.bin .add (.v (.bin .add (.v (.bin .mul (.mv 2) (.v (.int 48271)))) (.v (.bin .mod (.mv 3) (.v (.int 2147483629)))))) (.v (.int 7)))) (.v (.int 2147483647)))) .nil)
def l11_0 : Sm := .forS (.name 3) (.ex (.mv 1)) b11_0
/-- _law_bag 0:script 1:cells 2:mixed 3:cell -/
def d11 : Df := ⟨1, 4, [0], (.cons (.asg (.name 1) c11_0) (.cons (.asg (.name 2) (.bin .add (.v (.int 1919)) (.v (.bi .len (.cons (.mv 1) .nil))))) (.cons l11_0 (.cons (.ret (.lst .ne (.cons (.lrev (.v (.bi .list (.cons (.mv 1) .nil)))) (.cons (.int 0) (.cons (.var 2) .nil))))) .nil))))⟩
def b12_0 : Sms := (.cons (.ifS (.orE (.cmp .gt (.mx 0 (.int 1)) (.v (.int 0))) (.cmp .eq (.mx 0 (.int 0)) (.v (.lst .ow .nil)))) (.cons .brk .nil) .nil) (.cons (.asg (.name 3) (.me .pop0 (.mx 0 (.int 0)) .nil)) (.cons (.asg (.sub (.mv 0) (.int 1)) (.ite (.cmp .gt (.mv 3) (.v (.bin .pow (.v (.int 10)) (.v (.int 9))))) (.var 3) (.int 0))) .nil)))
def l12_0 : Sm := .forS (.name 2) (.rng (.int 64)) b12_0
/-- _law_draw 0:bag 1:below 2:turn 3:cell 4:found -/
def d12 : Df := ⟨2, 5, [0, 1], (.cons l12_0 (.cons (.ifS (.cmp .gt (.mx 0 (.int 1)) (.v (.int 0))) (.cons (.asg (.name 4) (.bin .mod (.mx 0 (.int 1)) (.mv 1))) (.cons (.asg (.sub (.mv 0) (.int 1)) (.bin .fdiv (.mx 0 (.int 1)) (.mv 1))) (.cons (.ret (.mov 4)) .nil))) .nil) (.cons (.asg (.sub (.mv 0) (.int 2)) (.bin .mod (.v (.bin .add (.v (.bin .mul (.mx 0 (.int 2)) (.v (.int 48271)))) (.v (.int 11)))) (.v (.int 2147483647)))) (.cons (.ret (.bin .mod (.v (.bin .fdiv (.v (.bin .mod (.v (.bin .mul (.mx 0 (.int 2)) (.mx 0 (.int 2)))) (.v (.int 2147483629)))) (.v (.int 7)))) (.mv 1))) .nil))))⟩
/-- _law_pick 0:bag 1:some -/
def d13 : Df := ⟨2, 2, [0, 1], (.cons (.ret (.subS 1 (.v (.call 12 (.cons (.mv 0) (.cons (.v (.bi .len (.cons (.mv 1) .nil))) .nil)))))) .nil)⟩
def c14_0 : Ex := .comp .ow (.call 14 (.cons (.mv 2) (.cons (.mv 3) .nil))) (.tup (.cons (.name 2) (.cons (.name 3) .nil))) (.zip (.mv 0) (.mv 1)) [2, 3]
/-- _law_same 0:x 1:due 2:y 3:z -/
def d14 : Df := ⟨2, 4, [0, 1], (.cons (.ifS (.isi (.mv 1) "int") (.cons (.ret (.andE (.isi (.mv 0) "int") (.andE (.notE (.isi (.mv 0) "bool")) (.cmp .eq (.mv 0) (.mv 1))))) .nil) .nil) (.cons (.ifS (.orE (.notE (.isi (.mv 0) "tuple")) (.cmp .ne (.v (.bi .len (.cons (.mv 0) .nil))) (.v (.bi .len (.cons (.mv 1) .nil))))) (.cons (.ret (.bl false)) .nil) .nil) (.cons (.ret (.bi .all (.cons (.v c14_0) .nil))) .nil)))⟩
def c15_0 : Ex := .comp .ow (.call 12 (.cons (.mv 0) (.cons (.v (.int 2)) .nil))) (.name 6) (.rng (.var 1)) [6]
def b15_0 : Sms := (.cons (.asg (.sub (.mv 4) (.ite (.cmp .eq (.mv 2) (.v (.int 3))) (.call 12 (.cons (.mv 0) (.cons (.mv 1) .nil))) (.bin .mod (.v (.bin .mul (.mv 5) (.v (.int 2)))) (.mv 1)))) (.bin .sub (.v (.int 1)) (.mv 3))) .nil)
def l15_0 : Sm := .forS (.name 5) (.rng (.ite (.cmp .eq (.mv 2) (.v (.int 2))) (.bin .add (.v (.bin .fdiv (.mv 1) (.v (.int 2)))) (.v (.call 12 (.cons (.mv 0) (.cons (.v (.int 2)) .nil))))) (.call 12 (.cons (.mv 0) (.cons (.v (.int 3)) .nil))))) b15_0
/-- _law_bits 0:bag 1:many 2:way 3:bit 4:found 5:turn 6:k -/
def d15 : Df := ⟨2, 7, [0, 1], (.cons (.par [2, 3] (.cons (.call 12 (.cons (.mv 0) (.cons (.v (.int 4)) .nil))) (.cons (.call 12 (.cons (.mv 0) (.cons (.v (.int 2)) .nil))) .nil))) (.cons (.ifS (.cmp .lt (.mv 2) (.v (.int 2))) (.cons (.ret (.bi .tuple (.cons (.v c15_0) .nil))) .nil) .nil) (.cons (.asg (.name 4) (.bin .mul (.v (.lst .ow (.cons (.var 3) .nil))) (.mv 1))) (.cons l15_0 (.cons (.ret (.bi .tuple (.cons (.mv 4) .nil))) .nil)))))⟩
def b16_0 : Sms := (.cons (.expr (.meS .append 4 (.cons (.meS .pop1 3 (.cons (.call 12 (.cons (.mv 0) (.cons (.v (.bi .len (.cons (.mv 3) .nil))) .nil))) .nil)) .nil))) .nil)
def l16_0 : Sm := .forS (.name 5) (.rng (.call 12 (.cons (.mv 0) (.cons (.v (.bin .add (.v (.bi .min2 (.cons (.mv 2) (.cons (.mv 1) .nil)))) (.v (.int 1)))) .nil)))) b16_0
/-- _law_some 0:bag 1:n 2:most 3:rest 4:found 5:turn -/
def d16 : Df := ⟨3, 6, [0, 1, 2], (.cons (.ifS (.cmp .eq (.v (.call 12 (.cons (.mv 0) (.cons (.v (.int 9)) .nil)))) (.v (.int 0))) (.cons (.ret (.ite (.cmp .ge (.mv 2) (.mv 1)) (.rg true (.var 1)) (.tup .nil))) .nil) .nil) (.cons (.par [3, 4] (.cons (.rg false (.var 1)) (.cons (.lst .ow .nil) .nil))) (.cons l16_0 (.cons (.ret (.bi .tuple (.cons (.v (.bi .sorted (.cons (.mv 4) .nil))) .nil))) .nil))))⟩
def c17_0 : Ex := .comp .ow (.call 12 (.cons (.mv 0) (.cons (.v (.int 2)) .nil))) (.name 3) (.ex (.mv 2)) [3]
/-- _law_fails 0:bag 1:n 2:places 3:p -/
def d17 : Df := ⟨2, 4, [0, 1], (.cons (.asg (.name 2) (.call 16 (.cons (.mv 0) (.cons (.mv 1) (.cons (.v (.call 13 (.cons (.mv 0) (.cons (.v (.lst .ow (.cons (.int 1) (.cons (.int 2) (.cons (.var 1) (.cons (.var 1) .nil)))))) .nil)))) .nil))))) (.cons (.ret (.tup (.cons (.var 2) (.cons (.bi .tuple (.cons (.v c17_0) .nil)) .nil)))) .nil))⟩
def b18_0 : Sms := (.cons (.expr (.meS .append 4 (.cons (.meS .pop1 3 (.cons (.call 12 (.cons (.mv 0) (.cons (.v (.bi .len (.cons (.mv 3) .nil))) .nil))) .nil)) .nil))) .nil)
def l18_0 : Sm := .forS (.name 5) (.rng (.var 2)) b18_0
/-- _law_vote 0:bag 1:n 2:many 3:rest 4:found 5:turn -/
def d18 : Df := ⟨2, 6, [0, 1], (.cons (.asg (.name 2) (.bi .min2 (.cons (.mv 1) (.cons (.v (.call 13 (.cons (.mv 0) (.cons (.v (.lst .ow (.cons (.int 1) (.cons (.int 3) (.cons (.int 5) (.cons (.int 5) (.cons (.int 3) .nil))))))) .nil)))) .nil)))) (.cons (.par [3, 4] (.cons (.rg false (.var 1)) (.cons (.lst .ow .nil) .nil))) (.cons l18_0 (.cons (.ret (.bi .tuple (.cons (.v (.bi .sorted (.cons (.mv 4) .nil))) .nil))) .nil))))⟩
def c19_0 : Ex := .comp .ow (.call 18 (.cons (.mv 0) (.cons (.mv 1) .nil))) (.name 3) (.rng (.var 1)) [3]
def c19_1 : Ex := .comp .ow (.bin .mod (.v (.bin .add (.mv 3) (.mv 4))) (.mv 1)) (.name 4) (.ex (.mv 2)) [4]
def c19_2 : Ex := .comp .ow (.bi .tuple (.cons (.v (.bi .sorted (.cons (.v c19_1) .nil))) .nil)) (.name 3) (.rng (.var 1)) [3]
/-- _law_votes 0:bag 1:n 2:steps 3:j 4:p -/
def d19 : Df := ⟨2, 5, [0, 1], (.cons (.ifS (.cmp .eq (.v (.call 12 (.cons (.mv 0) (.cons (.v (.int 2)) .nil)))) (.v (.int 0))) (.cons (.ret (.bi .tuple (.cons (.v c19_0) .nil))) .nil) .nil) (.cons (.asg (.name 2) (.call 18 (.cons (.mv 0) (.cons (.mv 1) .nil)))) (.cons (.ret (.bi .tuple (.cons (.v c19_2) .nil))) .nil)))⟩
def c20_0 : Ex := .comp .ow (.call 12 (.cons (.mv 0) (.cons (.v (.int 2)) .nil))) (.name 2) (.rng (.call 13 (.cons (.mv 0) (.cons (.v (.lst .ow (.cons (.int 1) (.cons (.int 2) (.cons (.int 4) (.cons (.int 8) (.cons (.int 8) .nil))))))) .nil)))) [2]
/-- _law_table 0:bag 1:some 2:k -/
def d20 : Df := ⟨1, 3, [0], (.cons (.asg (.name 1) (.lst .ow (.cons (.tup (.cons (.int 0) (.cons (.int 0) (.cons (.int 0) (.cons (.int 1) .nil))))) (.cons (.tup (.cons (.int 0) (.cons (.int 1) (.cons (.int 1) (.cons (.int 1) .nil))))) (.cons (.tup (.cons (.int 0) (.cons (.int 1) (.cons (.int 1) (.cons (.int 0) .nil))))) (.cons (.tup (.cons (.int 1) (.cons (.int 1) (.cons (.int 1) (.cons (.int 0) .nil))))) (.cons (.tup (.cons (.int 0) (.cons (.int 0) (.cons (.int 1) (.cons (.int 0) .nil))))) (.cons (.tup (.cons (.int 1) (.cons (.int 0) .nil))) (.cons (.tup (.cons (.int 0) .nil)) (.cons (.tup (.cons (.int 1) .nil)) (.cons (.tup (.cons (.int 1) (.cons (.int 0) (.cons (.int 0) (.cons (.int 1) .nil))))) (.cons (.tup (.cons (.int 0) (.cons (.int 0) (.cons (.int 0) (.cons (.int 1) (.cons (.int 0) (.cons (.int 1) (.cons (.int 1) (.cons (.int 1) .nil))))))))) (.cons (.tup (.cons (.int 0) (.cons (.int 1) (.cons (.int 0) (.cons (.int 1) (.cons (.int 0) (.cons (.int 0) (.cons (.int 1) (.cons (.int 1) .nil))))))))) (.cons (.tup (.cons (.int 0) (.cons (.int 1) (.cons (.int 1) (.cons (.int 0) (.cons (.int 1) (.cons (.int 0) (.cons (.int 0) (.cons (.int 1) .nil))))))))) .nil)))))))))))))) (.cons (.ifS (.cmp .eq (.v (.call 12 (.cons (.mv 0) (.cons (.v (.int 2)) .nil)))) (.v (.int 0))) (.cons (.ret (.call 13 (.cons (.mv 0) (.cons (.mv 1) .nil)))) .nil) .nil) (.cons (.ret (.bi .tuple (.cons (.v c20_0) .nil))) .nil)))⟩
/-- _law_inputs 0:table -/
def d21 : Df := ⟨1, 1, [0], (.cons (.ret (.sub (.v (.dct (.cons (.int 1) (.cons (.int 0) (.cons (.int 2) (.cons (.int 1) (.cons (.int 4) (.cons (.int 2) (.cons (.int 8) (.cons (.int 3) .nil)))))))))) (.v (.bi .len (.cons (.mv 0) .nil))))) .nil)⟩
/-- _law_most 0:bits -/
def d22 : Df := ⟨1, 1, [0], (.cons (.ret (.ite (.cmp .gt (.v (.bin .mul (.v (.int 2)) (.v (.bi .sum (.cons (.mv 0) .nil))))) (.v (.bi .len (.cons (.mv 0) .nil)))) (.int 1) (.int 0))) .nil)⟩
def c23_0 : Ex := .compI .ow (.var 2) (.tup (.cons (.name 2) (.cons (.name 3) .nil))) (.enum (.mv 0)) (.cmp .ne (.mv 3) (.mv 1)) [2, 3]
/-- _law_offs 0:bundle 1:bit 2:p 3:b -/
def d23 : Df := ⟨2, 4, [0, 1], (.cons (.ret (.bi .tuple (.cons (.v c23_0) .nil))) .nil)⟩
def b24_0 : Sms := (.cons (.asg (.name 5) (.bin .add (.v (.bin .mul (.v (.int 2)) (.mv 5))) (.v (.subS 6 (.mv 4))))) .nil)
def l24_0 : Sm := .forS (.name 6) (.ex (.mv 2)) b24_0
def b24_1 : Sms := (.cons (.asg (.name 5) (.int 0)) (.cons l24_0 (.cons (.expr (.meS .append 3 (.cons (.subS 1 (.mv 5)) .nil))) .nil)))
def l24_1 : Sm := .forS (.name 4) (.rng (.var 0)) b24_1
/-- _law_gated 0:n 1:table 2:bundles 3:found 4:p 5:at 6:bundle -/
def d24 : Df := ⟨3, 7, [0, 1, 2], (.cons (.asg (.name 3) (.lst .ow .nil)) (.cons l24_1 (.cons (.ret (.bi .tuple (.cons (.mv 3) .nil))) .nil)))⟩
def b25_0 : Sms := (.cons (.asg (.sub (.mv 2) (.var 3)) (.var 4)) .nil)
def l25_0 : Sm := .forS (.tup (.cons (.name 3) (.cons (.name 4) .nil))) (.zip (.v (.subS 1 (.v (.int 0)))) (.v (.subS 1 (.v (.int 1))))) b25_0
/-- _law_said 0:bundle 1:fails 2:found 3:p 4:bit -/
def d25 : Df := ⟨2, 5, [0, 1], (.cons (.asg (.name 2) (.bi .list (.cons (.mv 0) .nil))) (.cons l25_0 (.cons (.ret (.bi .tuple (.cons (.mv 2) .nil))) .nil)))⟩
def c26_0 : Ex := .comp .ow (.subS 1 (.mv 3)) (.name 3) (.ex (.mv 2)) [3]
def c26_1 : Ex := .comp .ow (.call 22 (.cons (.v c26_0) .nil)) (.name 2) (.ex (.mv 0)) [2]
/-- _law_voted 0:votes 1:bundle 2:vote 3:p -/
def d26 : Df := ⟨2, 4, [0, 1], (.cons (.ret (.bi .tuple (.cons (.v c26_1) .nil))) .nil)⟩
/-- _law_layer 0:votes 1:table 2:bundles 3:gates 4:voters 5:n -/
def d27 : Df := ⟨5, 6, [0, 1, 2, 3, 4], (.cons (.asg (.name 5) (.bi .len (.cons (.mv 0) .nil))) (.cons (.ret (.call 25 (.cons (.v (.call 26 (.cons (.mv 0) (.cons (.v (.call 25 (.cons (.v (.call 24 (.cons (.mv 5) (.cons (.mv 1) (.cons (.mv 2) .nil))))) (.cons (.mv 3) .nil)))) .nil)))) (.cons (.mv 4) .nil)))) .nil))⟩
def c28_0 : Ex := .compI .ow (.var 5) (.name 5) (.ex (.mv 4)) (.cmp .inn (.mv 5) (.mv 1)) [5]
def c28_1 : Ex := .compI .ow (.var 5) (.name 5) (.ex (.mv 4)) (.cmp .nin (.mv 5) (.mv 1)) [5]
def b28_0 : Sms := (.cons (.ifS (.cmp .gt (.v (.bi .len (.cons (.v c28_0) .nil))) (.v (.bi .len (.cons (.v c28_1) .nil)))) (.cons (.expr (.meS .append 2 (.cons (.var 3) .nil))) .nil) .nil) .nil)
def l28_0 : Sm := .forS (.tup (.cons (.name 3) (.cons (.name 4) .nil))) (.enum (.mv 0)) b28_0
/-- _law_off_outputs 0:votes 1:offs 2:found 3:j 4:vote 5:p -/
def d28 : Df := ⟨2, 6, [0, 1], (.cons (.asg (.name 2) (.lst .ow .nil)) (.cons l28_0 (.cons (.ret (.bi .tuple (.cons (.mv 2) .nil))) .nil)))⟩
def c29_0 : Ex := .compI .ow (.var 14) (.name 14) (.rng (.var 1)) (.cmp .nin (.mv 14) (.mv 8)) [14]
def c29_1 : Ex := .comp .ow (.ite (.cmp .inn (.mv 14) (.mv 10)) (.bin .sub (.v (.int 1)) (.mv 7)) (.var 7)) (.name 14) (.rng (.var 1)) [14]
def b29_0 : Sms := (.cons (.asg (.tup (.cons (.name 6) (.cons (.name 7) .nil))) (.tup (.cons (.call 15 (.cons (.mv 0) (.cons (.mv 1) .nil))) (.cons (.call 12 (.cons (.mv 0) (.cons (.v (.int 2)) .nil))) .nil)))) (.cons (.asg (.name 8) (.call 23 (.cons (.mv 6) (.cons (.mv 7) .nil)))) (.cons (.expr (.meS .append 2 (.cons (.tup (.cons (.int 0) (.cons (.tup (.cons (.var 6) .nil)) (.cons (.ite (.cmp .lt (.v (.bin .mul (.v (.int 2)) (.v (.bi .len (.cons (.v (.call 23 (.cons (.mv 6) (.cons (.v (.int 1)) .nil)))) .nil))))) (.mv 1)) (.int 1) (.int 0)) .nil)))) .nil))) (.cons (.expr (.meS .append 2 (.cons (.tup (.cons (.int 1) (.cons (.tup (.cons (.var 6) (.cons (.var 7) .nil))) (.cons (.var 8) .nil)))) .nil))) (.cons (.expr (.meS .append 2 (.cons (.tup (.cons (.int 1) (.cons (.tup (.cons (.var 6) (.cons (.bin .sub (.v (.int 1)) (.mv 7)) .nil))) (.cons (.bi .tuple (.cons (.v c29_0) .nil)) .nil)))) .nil))) (.cons (.expr (.meS .append 2 (.cons (.tup (.cons (.int 2) (.cons (.tup (.cons (.var 1) (.cons (.var 7) (.cons (.var 8) .nil)))) (.cons (.var 6) .nil)))) .nil))) (.cons (.asg (.name 9) (.call 17 (.cons (.mv 0) (.cons (.mv 1) .nil)))) (.cons (.expr (.meS .append 2 (.cons (.tup (.cons (.int 4) (.cons (.tup (.cons (.var 6) (.cons (.var 9) .nil))) (.cons (.call 25 (.cons (.mv 6) (.cons (.mv 9) .nil))) .nil)))) .nil))) (.cons (.expr (.meS .append 2 (.cons (.tup (.cons (.int 5) (.cons (.tup (.cons (.var 3) (.cons (.var 6) .nil))) (.cons (.call 26 (.cons (.mv 3) (.cons (.mv 6) .nil))) .nil)))) .nil))) (.cons (.asg (.name 10) (.call 16 (.cons (.mv 0) (.cons (.mv 1) (.cons (.mv 1) .nil))))) (.cons (.asg (.name 11) (.bi .tuple (.cons (.v c29_1) .nil))) (.cons (.expr (.meS .append 2 (.cons (.tup (.cons (.int 2) (.cons (.tup (.cons (.var 1) (.cons (.var 7) (.cons (.var 10) .nil)))) (.cons (.var 11) .nil)))) .nil))) (.cons (.expr (.meS .append 2 (.cons (.tup (.cons (.int 0) (.cons (.tup (.cons (.var 11) .nil)) (.cons (.ite (.cmp .lt (.v (.bin .mul (.v (.int 2)) (.v (.bi .len (.cons (.mv 10) .nil))))) (.mv 1)) (.var 7) (.bin .sub (.v (.int 1)) (.mv 7))) .nil)))) .nil))) .nil)))))))))))))
def l29_0 : Sm := .forS (.name 5) (.rng (.int 3)) b29_0
def c29_2 : Ex := .comp .ow (.call 15 (.cons (.mv 0) (.cons (.mv 1) .nil))) (.name 13) (.rng (.call 21 (.cons (.mv 4) .nil))) [13]
/-- _law_part_jobs 0:bag 1:n 2:found 3:votes 4:table 5:turn 6:b 7:bit 8:offs 9:fails 10:some 11:due 12:rows 13:k 14:p -/
def d29 : Df := ⟨2, 15, [0, 1], (.cons (.par [2, 3, 4] (.cons (.lst .ow .nil) (.cons (.call 19 (.cons (.mv 0) (.cons (.mv 1) .nil))) (.cons (.call 20 (.cons (.mv 0) .nil)) .nil)))) (.cons l29_0 (.cons (.asg (.name 12) (.bi .tuple (.cons (.v c29_2) .nil))) (.cons (.expr (.meS .append 2 (.cons (.tup (.cons (.int 3) (.cons (.tup (.cons (.var 1) (.cons (.var 4) (.cons (.var 12) .nil)))) (.cons (.call 24 (.cons (.mv 1) (.cons (.mv 4) (.cons (.mv 12) .nil)))) .nil)))) .nil))) (.cons (.ret (.mov 2)) .nil)))))⟩
def c30_0 : Ex := .comp .ow (.call 12 (.cons (.mv 0) (.cons (.v (.int 2)) .nil))) (.name 18) (.rng (.call 21 (.cons (.mv 4) .nil))) [18]
def c30_1 : Ex := .comp .ow (.call 16 (.cons (.mv 0) (.cons (.mv 1) (.cons (.v (.call 13 (.cons (.mv 0) (.cons (.v (.lst .ow (.cons (.int 1) (.cons (.int 2) (.cons (.var 1) .nil))))) .nil)))) .nil)))) (.name 11) (.ex (.mv 5)) [11]
def c30_2 : Ex := .comp .ow (.ite (.cmp .inn (.mv 19) (.mv 12)) (.bin .sub (.v (.int 1)) (.mv 11)) (.var 11)) (.name 19) (.rng (.var 1)) [19]
def c30_3 : Ex := .comp .ow (.bi .tuple (.cons (.v c30_2) .nil)) (.tup (.cons (.name 11) (.cons (.name 12) .nil))) (.zip (.mv 5) (.mv 6)) [11, 12]
def c30_4 : Ex := .comp .ow (.tup (.cons (.var 11) .nil)) (.name 11) (.ex (.mv 5)) [11]
def c30_5 : Ex := .comp .ow (.cmp .inn (.mv 19) (.mv 12)) (.name 12) (.ex (.mv 6)) [12]
def c30_6 : Ex := .comp .ow (.ite (.bi .any (.cons (.v c30_5) .nil)) (.var 20) (.var 8)) (.tup (.cons (.name 19) (.cons (.name 20) .nil))) (.enum (.mv 9)) [19, 20]
def c30_7 : Ex := .comp .ow (.ite (.cmp .inn (.mv 19) (.mv 12)) (.bin .sub (.v (.int 1)) (.mv 11)) (.var 11)) (.name 19) (.rng (.var 1)) [19]
def c30_8 : Ex := .comp .ow (.ite (.cmp .inn (.mv 21) (.mv 14)) (.bin .sub (.v (.int 1)) (.mv 11)) (.var 11)) (.name 21) (.rng (.var 1)) [21]
def c30_9 : Ex := .comp .ow (.bin .sub (.v (.int 1)) (.mv 20)) (.name 20) (.ex (.mv 13)) [20]
def c30_10 : Ex := .comp .ow (.ite (.cmp .inn (.mv 21) (.mv 14)) (.var 11) (.bin .sub (.v (.int 1)) (.mv 11))) (.name 21) (.rng (.var 1)) [21]
def c30_11 : Ex := .compI .ow (.var 19) (.name 19) (.ex (.mv 12)) (.cmp .nin (.mv 19) (.v (.subS 16 (.v (.int 0))))) [19]
def c30_12 : Ex := .compI .ow (.var 19) (.tup (.cons (.name 19) (.cons (.name 20) .nil))) (.zip (.v (.subS 16 (.v (.int 0)))) (.v (.subS 16 (.v (.int 1))))) (.cmp .ne (.mv 20) (.mv 11)) [19, 20]
def c30_13 : Ex := .comp .ow (.ite (.cmp .inn (.mv 19) (.mv 17)) (.bin .sub (.v (.int 1)) (.mv 11)) (.var 11)) (.name 19) (.rng (.var 1)) [19]
def b30_0 : Sms := (.cons (.asg (.name 12) (.call 16 (.cons (.mv 0) (.cons (.mv 1) (.cons (.mv 1) .nil))))) (.cons (.asg (.name 13) (.bi .tuple (.cons (.v c30_7) .nil))) (.cons (.asg (.name 14) (.call 28 (.cons (.mv 3) (.cons (.mv 12) .nil)))) (.cons (.expr (.meS .append 2 (.cons (.tup (.cons (.int 7) (.cons (.tup (.cons (.var 3) (.cons (.var 12) .nil))) (.cons (.var 14) .nil)))) .nil))) (.cons (.expr (.meS .append 2 (.cons (.tup (.cons (.int 5) (.cons (.tup (.cons (.var 3) (.cons (.var 13) .nil))) (.cons (.bi .tuple (.cons (.v c30_8) .nil)) .nil)))) .nil))) (.cons (.asg (.name 15) (.bi .tuple (.cons (.v c30_9) .nil))) (.cons (.expr (.meS .append 2 (.cons (.tup (.cons (.int 5) (.cons (.tup (.cons (.var 3) (.cons (.var 15) .nil))) (.cons (.bi .tuple (.cons (.v c30_10) .nil)) .nil)))) .nil))) (.cons (.asg (.name 16) (.call 17 (.cons (.mv 0) (.cons (.mv 1) .nil)))) (.cons (.asg (.name 17) (.bin .add (.v c30_11) (.v c30_12))) (.cons (.asg (.name 9) (.bi .tuple (.cons (.v c30_13) .nil))) (.cons (.expr (.meS .append 2 (.cons (.tup (.cons (.int 4) (.cons (.tup (.cons (.var 13) (.cons (.var 16) .nil))) (.cons (.var 9) .nil)))) .nil))) (.cons (.expr (.meS .append 2 (.cons (.tup (.cons (.int 1) (.cons (.tup (.cons (.var 9) (.cons (.var 11) .nil))) (.cons (.bi .tuple (.cons (.v (.bi .sorted (.cons (.mv 17) .nil))) .nil)) .nil)))) .nil))) .nil))))))))))))
def l30_0 : Sm := .forS (.name 11) (.ex (.v (.tup (.cons (.int 0) (.cons (.int 1) .nil))))) b30_0
/-- _law_off_jobs 0:bag 1:n 2:found 3:votes 4:table 5:row 6:lots 7:rows 8:value 9:due 10:offs 11:bit 12:lot 13:b 14:behind 15:turned 16:fails 17:places 18:k 19:p 20:x 21:j -/
def d30 : Df := ⟨2, 22, [0, 1], (.cons (.par [2, 3, 4] (.cons (.lst .ow .nil) (.cons (.call 19 (.cons (.mv 0) (.cons (.mv 1) .nil))) (.cons (.call 20 (.cons (.mv 0) .nil)) .nil)))) (.cons (.asg (.name 5) (.bi .tuple (.cons (.v c30_0) .nil))) (.cons (.asg (.name 6) c30_1) (.cons (.asg (.name 7) (.bi .tuple (.cons (.v c30_3) .nil))) (.cons (.asg (.tup (.cons (.name 8) (.cons (.name 9) .nil))) (.tup (.cons (.sub (.v (.call 24 (.cons (.v (.int 1)) (.cons (.mv 4) (.cons (.v (.bi .tuple (.cons (.v c30_4) .nil))) .nil))))) (.v (.int 0))) (.cons (.call 24 (.cons (.mv 1) (.cons (.mv 4) (.cons (.mv 7) .nil)))) .nil)))) (.cons (.asg (.name 9) (.bi .tuple (.cons (.v c30_6) .nil))) (.cons (.asg (.name 10) (.call 23 (.cons (.mv 9) (.cons (.mv 8) .nil)))) (.cons (.expr (.meS .append 2 (.cons (.tup (.cons (.int 3) (.cons (.tup (.cons (.var 1) (.cons (.var 4) (.cons (.var 7) .nil)))) (.cons (.var 9) .nil)))) .nil))) (.cons (.expr (.meS .append 2 (.cons (.tup (.cons (.int 1) (.cons (.tup (.cons (.var 9) (.cons (.var 8) .nil))) (.cons (.var 10) .nil)))) .nil))) (.cons l30_0 (.cons (.ret (.mov 2)) .nil)))))))))))⟩
def c31_0 : Ex := .comp .ow (.call 12 (.cons (.mv 0) (.cons (.v (.int 2)) .nil))) (.name 6) (.rng (.call 21 (.cons (.mv 2) .nil))) [6]
def c31_1 : Ex := .comp .ow (.call 12 (.cons (.mv 0) (.cons (.v (.bin .add (.v (.bi .len (.cons (.mv 3) .nil))) (.v (.int 2)))) .nil))) (.name 13) (.rng (.var 1)) [13]
def c31_2 : Ex := .comp .ow (.ite (.cmp .eq (.v (.subS 4 (.mv 13))) (.mv 6)) (.bin .sub (.v (.int 1)) (.mv 7)) (.var 7)) (.name 13) (.rng (.var 1)) [13]
def b31_0 : Sms := (.cons (.expr (.meS .append 5 (.cons (.bi .tuple (.cons (.v c31_2) .nil)) .nil))) .nil)
def l31_0 : Sm := .forS (.tup (.cons (.name 6) (.cons (.name 7) .nil))) (.enum (.mv 3)) b31_0
def c31_3 : Ex := .comp .ow (.ite (.cmp .lt (.v (.subS 4 (.mv 13))) (.v (.bi .len (.cons (.mv 3) .nil)))) (.bin .sub (.v (.int 1)) (.mv 8)) (.var 8)) (.name 13) (.rng (.var 1)) [13]
def c31_4 : Ex := .compI .ow (.var 13) (.name 13) (.rng (.var 1)) (.cmp .lt (.v (.subS 4 (.mv 13))) (.v (.bi .len (.cons (.mv 3) .nil)))) [13]
def c31_5 : Ex := .comp .ow (.tup (.cons (.var 13) .nil)) (.name 13) (.rng (.var 1)) [13]
/-- _law_apart_jobs 0:bag 1:n 2:table 3:row 4:owner 5:rows 6:k 7:bit 8:value 9:due 10:offs 11:plain 12:nothing 13:p -/
def d31 : Df := ⟨2, 14, [0, 1], (.cons (.asg (.name 2) (.call 13 (.cons (.mv 0) (.cons (.v (.lst .ow (.cons (.tup (.cons (.int 0) (.cons (.int 1) (.cons (.int 1) (.cons (.int 0) .nil))))) (.cons (.tup (.cons (.int 1) (.cons (.int 0) (.cons (.int 0) (.cons (.int 1) .nil))))) (.cons (.tup (.cons (.int 0) (.cons (.int 1) (.cons (.int 1) (.cons (.int 0) (.cons (.int 1) (.cons (.int 0) (.cons (.int 0) (.cons (.int 1) .nil))))))))) (.cons (.tup (.cons (.int 1) (.cons (.int 0) (.cons (.int 0) (.cons (.int 1) (.cons (.int 0) (.cons (.int 1) (.cons (.int 1) (.cons (.int 0) .nil))))))))) (.cons (.tup (.cons (.int 1) (.cons (.int 0) .nil))) .nil))))))) .nil)))) (.cons (.asg (.name 3) c31_0) (.cons (.asg (.name 4) c31_1) (.cons (.asg (.name 5) (.lst .ow .nil)) (.cons l31_0 (.cons (.asg (.name 8) (.ite (.cmp .eq (.v (.subS 2 (.v (.int 0)))) (.v (.int 0))) (.bin .mod (.v (.bi .sum (.cons (.mv 3) .nil))) (.v (.int 2))) (.bin .sub (.v (.int 1)) (.v (.bin .mod (.v (.bi .sum (.cons (.mv 3) .nil))) (.v (.int 2))))))) (.cons (.asg (.name 9) (.bi .tuple (.cons (.v c31_3) .nil))) (.cons (.asg (.name 10) (.bi .tuple (.cons (.v c31_4) .nil))) (.cons (.asg (.name 11) (.bi .tuple (.cons (.v c31_5) .nil))) (.cons (.asg (.name 12) (.tup (.cons (.tup .nil) (.cons (.tup .nil) .nil)))) (.cons (.ret (.lst .ow (.cons (.tup (.cons (.int 3) (.cons (.tup (.cons (.var 1) (.cons (.var 2) (.cons (.bi .tuple (.cons (.mv 5) .nil)) .nil)))) (.cons (.var 9) .nil)))) (.cons (.tup (.cons (.int 1) (.cons (.tup (.cons (.var 9) (.cons (.var 8) .nil))) (.cons (.var 10) .nil)))) (.cons (.tup (.cons (.int 6) (.cons (.tup (.cons (.var 11) (.cons (.var 2) (.cons (.bi .tuple (.cons (.mv 5) .nil)) (.cons (.var 12) (.cons (.var 12) .nil)))))) (.cons (.var 9) .nil)))) .nil))))) .nil)))))))))))⟩
def c32_0 : Ex := .comp .ow (.call 15 (.cons (.mv 0) (.cons (.mv 1) .nil))) (.name 11) (.rng (.int 3)) [11]
def c32_1 : Ex := .comp .ow (.call 13 (.cons (.mv 0) (.cons (.mv 4) .nil))) (.name 11) (.rng (.call 21 (.cons (.mv 6) .nil))) [11]
def b32_0 : Sms := (.cons (.asg (.name 6) (.call 20 (.cons (.mv 0) .nil))) (.cons (.asg (.name 7) (.bi .tuple (.cons (.v c32_1) .nil))) (.cons (.par [8, 9] (.cons (.call 17 (.cons (.mv 0) (.cons (.mv 1) .nil))) (.cons (.call 17 (.cons (.mv 0) (.cons (.mv 1) .nil))) .nil))) (.cons (.ifS (.cmp .eq (.v (.bin .mod (.mv 5) (.v (.int 3)))) (.v (.int 2))) (.cons (.asg (.name 9) (.tup (.cons (.tup .nil) (.cons (.tup .nil) .nil)))) .nil) .nil) (.cons (.asg (.name 10) (.call 27 (.cons (.mv 2) (.cons (.mv 6) (.cons (.mv 7) (.cons (.mv 8) (.cons (.mv 9) .nil))))))) (.cons (.expr (.meS .append 3 (.cons (.tup (.cons (.int 6) (.cons (.tup (.cons (.var 2) (.cons (.var 6) (.cons (.var 7) (.cons (.var 8) (.cons (.var 9) .nil)))))) (.cons (.var 10) .nil)))) .nil))) (.cons (.expr (.meS .append 3 (.cons (.tup (.cons (.int 0) (.cons (.tup (.cons (.var 10) .nil)) (.cons (.call 22 (.cons (.mv 10) .nil)) .nil)))) .nil))) (.cons (.expr (.meS .append 4 (.cons (.var 10) .nil))) .nil))))))))
def l32_0 : Sm := .forS (.name 5) (.rng (.int 8)) b32_0
/-- _law_layer_jobs 0:bag 1:n 2:votes 3:found 4:ahead 5:turn 6:table 7:rows 8:gates 9:voters 10:due 11:k -/
def d32 : Df := ⟨2, 12, [0, 1], (.cons (.par [2, 3] (.cons (.call 19 (.cons (.mv 0) (.cons (.mv 1) .nil))) (.cons (.lst .ow .nil) .nil))) (.cons (.asg (.name 4) c32_0) (.cons l32_0 (.cons (.ret (.mov 3)) .nil))))⟩
/-- _law_known_jobs 0:one 1:two 2:ring 3:found -/
def d33 : Df := ⟨0, 4, [], (.cons (.asg (.tup (.cons (.name 0) (.cons (.name 1) .nil))) (.tup (.cons (.tup (.cons (.int 1) (.cons (.int 1) (.cons (.int 0) (.cons (.int 1) (.cons (.int 1) .nil)))))) (.cons (.tup (.cons (.int 1) (.cons (.int 0) (.cons (.int 1) (.cons (.int 1) (.cons (.int 1) .nil)))))) .nil)))) (.cons (.asg (.name 2) (.tup (.cons (.tup (.cons (.int 0) (.cons (.int 1) (.cons (.int 3) .nil)))) (.cons (.tup (.cons (.int 1) (.cons (.int 2) (.cons (.int 4) .nil)))) (.cons (.tup (.cons (.int 0) (.cons (.int 2) (.cons (.int 3) .nil)))) (.cons (.tup (.cons (.int 1) (.cons (.int 3) (.cons (.int 4) .nil)))) (.cons (.tup (.cons (.int 0) (.cons (.int 2) (.cons (.int 4) .nil)))) .nil))))))) (.cons (.asg (.name 3) (.lst .ow (.cons (.tup (.cons (.int 6) (.cons (.tup (.cons (.var 2) (.cons (.tup (.cons (.int 0) (.cons (.int 0) (.cons (.int 0) (.cons (.int 1) .nil))))) (.cons (.tup (.cons (.var 0) (.cons (.var 1) .nil))) (.cons (.tup (.cons (.tup (.cons (.int 0) .nil)) (.cons (.tup (.cons (.int 0) .nil)) .nil))) (.cons (.tup (.cons (.tup (.cons (.int 4) .nil)) (.cons (.tup (.cons (.int 0) .nil)) .nil))) .nil)))))) (.cons (.tup (.cons (.int 0) (.cons (.int 0) (.cons (.int 0) (.cons (.int 1) (.cons (.int 0) .nil)))))) .nil)))) .nil))) (.cons (.expr (.meS .append 3 (.cons (.tup (.cons (.int 5) (.cons (.tup (.cons (.var 2) (.cons (.tup (.cons (.int 1) (.cons (.int 0) (.cons (.int 0) (.cons (.int 1) (.cons (.int 1) .nil)))))) .nil))) (.cons (.tup (.cons (.int 1) (.cons (.int 0) (.cons (.int 1) (.cons (.int 1) (.cons (.int 1) .nil)))))) .nil)))) .nil))) (.cons (.expr (.meS .append 3 (.cons (.tup (.cons (.int 4) (.cons (.tup (.cons (.var 0) (.cons (.tup (.cons (.tup (.cons (.int 0) (.cons (.int 2) .nil))) (.cons (.tup (.cons (.int 0) (.cons (.int 1) .nil))) .nil))) .nil))) (.cons (.tup (.cons (.int 0) (.cons (.int 1) (.cons (.int 1) (.cons (.int 1) (.cons (.int 1) .nil)))))) .nil)))) .nil))) (.cons (.expr (.meS .append 3 (.cons (.tup (.cons (.int 2) (.cons (.tup (.cons (.int 5) (.cons (.int 0) (.cons (.tup (.cons (.int 1) (.cons (.int 4) .nil))) .nil)))) (.cons (.tup (.cons (.int 0) (.cons (.int 1) (.cons (.int 0) (.cons (.int 0) (.cons (.int 1) .nil)))))) .nil)))) .nil))) (.cons (.ret (.mov 3)) .nil)))))))⟩
/-- _law_told 0:k 1:a 2:way -/
def d34 : Df := ⟨3, 3, [0, 1, 2], (.cons (.ifS (.cmp .eq (.mv 0) (.v (.int 0))) (.cons (.ret (.ite (.cmp .eq (.mv 2) (.v (.int 0))) (.call 3 (.cons (.v (.subS 1 (.v (.int 0)))) .nil)) (.callK 3 0 .nil (.cons (.subS 1 (.v (.int 0))) .nil) [0]))) .nil) .nil) (.cons (.ifS (.cmp .eq (.mv 0) (.v (.int 1))) (.cons (.ret (.ite (.cmp .eq (.mv 2) (.v (.int 0))) (.call 4 (.cons (.v (.subS 1 (.v (.int 0)))) (.cons (.v (.subS 1 (.v (.int 1)))) .nil))) (.callK 4 0 .nil (.cons (.subS 1 (.v (.int 1))) (.cons (.subS 1 (.v (.int 0))) .nil)) [1, 0]))) .nil) .nil) (.cons (.ifS (.cmp .eq (.mv 0) (.v (.int 2))) (.cons (.ret (.ite (.cmp .eq (.mv 2) (.v (.int 0))) (.call 5 (.cons (.v (.subS 1 (.v (.int 0)))) (.cons (.v (.subS 1 (.v (.int 1)))) (.cons (.v (.subS 1 (.v (.int 2)))) .nil)))) (.callK 5 0 .nil (.cons (.subS 1 (.v (.int 2))) (.cons (.subS 1 (.v (.int 1))) (.cons (.subS 1 (.v (.int 0))) .nil))) [2, 1, 0]))) .nil) .nil) (.cons (.ifS (.cmp .eq (.mv 0) (.v (.int 3))) (.cons (.ret (.ite (.cmp .eq (.mv 2) (.v (.int 0))) (.call 6 (.cons (.v (.subS 1 (.v (.int 0)))) (.cons (.v (.subS 1 (.v (.int 1)))) (.cons (.v (.subS 1 (.v (.int 2)))) .nil)))) (.callK 6 0 .nil (.cons (.subS 1 (.v (.int 2))) (.cons (.subS 1 (.v (.int 1))) (.cons (.subS 1 (.v (.int 0))) .nil))) [2, 1, 0]))) .nil) .nil) (.cons (.ifS (.cmp .eq (.mv 0) (.v (.int 4))) (.cons (.ret (.ite (.cmp .eq (.mv 2) (.v (.int 0))) (.call 7 (.cons (.v (.subS 1 (.v (.int 0)))) (.cons (.v (.subS 1 (.v (.int 1)))) .nil))) (.callK 7 0 .nil (.cons (.subS 1 (.v (.int 1))) (.cons (.subS 1 (.v (.int 0))) .nil)) [1, 0]))) .nil) .nil) (.cons (.ifS (.cmp .eq (.mv 0) (.v (.int 5))) (.cons (.ret (.ite (.cmp .eq (.mv 2) (.v (.int 0))) (.call 8 (.cons (.v (.subS 1 (.v (.int 0)))) (.cons (.v (.subS 1 (.v (.int 1)))) .nil))) (.callK 8 0 .nil (.cons (.subS 1 (.v (.int 1))) (.cons (.subS 1 (.v (.int 0))) .nil)) [1, 0]))) .nil) .nil) (.cons (.ifS (.cmp .eq (.mv 0) (.v (.int 7))) (.cons (.ret (.ite (.cmp .eq (.mv 2) (.v (.int 0))) (.call 10 (.cons (.v (.subS 1 (.v (.int 0)))) (.cons (.v (.subS 1 (.v (.int 1)))) .nil))) (.callK 10 0 .nil (.cons (.subS 1 (.v (.int 1))) (.cons (.subS 1 (.v (.int 0))) .nil)) [1, 0]))) .nil) .nil) (.cons (.ifS (.cmp .eq (.mv 2) (.v (.int 0))) (.cons (.ret (.call 9 (.cons (.v (.subS 1 (.v (.int 0)))) (.cons (.v (.subS 1 (.v (.int 1)))) (.cons (.v (.subS 1 (.v (.int 2)))) (.cons (.v (.subS 1 (.v (.int 3)))) (.cons (.v (.subS 1 (.v (.int 4)))) .nil))))))) .nil) .nil) (.cons (.ret (.callK 9 0 .nil (.cons (.subS 1 (.v (.int 4))) (.cons (.subS 1 (.v (.int 3))) (.cons (.subS 1 (.v (.int 2))) (.cons (.subS 1 (.v (.int 1))) (.cons (.subS 1 (.v (.int 0))) .nil))))) [4, 3, 2, 1, 0])) .nil)))))))))⟩
def b35_0 : Sms := (.cons (.asg (.name 4) (.ite (.cmp .gt (.mv 3) (.v (.int 0))) (.call 13 (.cons (.mv 1) (.cons (.v (.lst .ow (.cons (.int 1) (.cons (.int 3) (.cons (.int 5) (.cons (.int 7) (.cons (.int 9) (.cons (.int 11) (.cons (.int 11) (.cons (.int 11) (.cons (.int 3) .nil))))))))))) .nil))) (.call 13 (.cons (.mv 1) (.cons (.v (.lst .ow (.cons (.int 9) (.cons (.int 11) .nil)))) .nil))))) (.cons (.expr (.meS .extend 2 (.cons (.call 29 (.cons (.mv 1) (.cons (.mv 4) .nil))) .nil))) (.cons (.expr (.meS .extend 2 (.cons (.call 30 (.cons (.mv 1) (.cons (.mv 4) .nil))) .nil))) (.cons (.expr (.meS .extend 2 (.cons (.call 31 (.cons (.mv 1) (.cons (.mv 4) .nil))) .nil))) (.cons (.expr (.meS .extend 2 (.cons (.call 32 (.cons (.mv 1) (.cons (.mv 4) .nil))) .nil))) .nil)))))
def l35_0 : Sm := .forS (.name 3) (.rng (.int 3)) b35_0
def b35_1 : Sms := (.cons (.asg (.name 10) (.rpr (.mv 8))) (.cons (.ifS (.orE (.notE (.call 14 (.cons (.v (.call 34 (.cons (.mv 7) (.cons (.mv 8) (.cons (.v (.bin .mod (.v (.bin .add (.mv 6) (.v (.subS 5 (.mv 7))))) (.v (.int 2)))) .nil))))) (.cons (.mv 9) .nil)))) (.cmp .ne (.v (.rpr (.mv 8))) (.mv 10))) (.cons (.ret (.bl false)) .nil) .nil) (.cons (.asg (.sub (.mv 5) (.var 7)) (.bin .add (.v (.subS 5 (.mv 7))) (.v (.int 1)))) .nil)))
def l35_1 : Sm := .forS (.tup (.cons (.name 7) (.cons (.name 8) (.cons (.name 9) .nil)))) (.ex (.mv 2)) b35_1
/-- law 0:script 1:bag 2:jobs 3:turn 4:n 5:turns 6:begin 7:k 8:a 9:due 10:kept -/
def d35 : Df := ⟨1, 11, [0], (.cons (.par [1, 2] (.cons (.call 11 (.cons (.mv 0) .nil)) (.cons (.call 33 .nil) .nil))) (.cons l35_0 (.cons (.expr (.meS .extend 2 (.cons (.slc (.mv 2) .none (.some (.int 6))) .nil))) (.cons (.par [5, 6] (.cons (.bin .mul (.v (.lst .ow (.cons (.int 0) .nil))) (.v (.int 8))) (.cons (.call 12 (.cons (.mv 1) (.cons (.v (.int 2)) .nil))) .nil))) (.cons l35_1 (.cons (.ret (.bl true)) .nil))))))⟩
def Dp : List Df := [d0, d1, d2, d3, d4, d5, d6, d7, d8, d9, d10, d11, d12, d13, d14, d15, d16, d17, d18, d19, d20, d21, d22, d23, d24, d25, d26, d27, d28, d29, d30, d31, d32, d33, d34, d35]
def Tt : Tab := ⟨([(("majority" : Str), (["bits"] : List Str)), (("row_place" : Str), (["row"] : List Str)), (("table_value" : Str), (["table", "row"] : List Str)), (("bundle_bit" : Str), (["bundle"] : List Str)), (("offs_of" : Str), (["bundle", "bit"] : List Str)), (("bundle_with" : Str), (["n", "bit", "offs"] : List Str)), (("gated" : Str), (["n", "table", "bundles"] : List Str)), (("said" : Str), (["bundle", "failures"] : List Str)), (("voted" : Str), (["votes", "bundle"] : List Str)), (("layer_run" : Str), (["votes", "table", "bundles", "gates", "voters"] : List Str)), (("outputs_off" : Str), (["votes", "offs"] : List Str)), (("_law_bag" : Str), (["script"] : List Str)), (("_law_draw" : Str), (["bag", "below"] : List Str)), (("_law_pick" : Str), (["bag", "some"] : List Str)), (("_law_same" : Str), (["x", "due"] : List Str)), (("_law_bits" : Str), (["bag", "many"] : List Str)), (("_law_some" : Str), (["bag", "n", "most"] : List Str)), (("_law_fails" : Str), (["bag", "n"] : List Str)), (("_law_vote" : Str), (["bag", "n"] : List Str)), (("_law_votes" : Str), (["bag", "n"] : List Str)), (("_law_table" : Str), (["bag"] : List Str)), (("_law_inputs" : Str), (["table"] : List Str)), (("_law_most" : Str), (["bits"] : List Str)), (("_law_offs" : Str), (["bundle", "bit"] : List Str)), (("_law_gated" : Str), (["n", "table", "bundles"] : List Str)), (("_law_said" : Str), (["bundle", "fails"] : List Str)), (("_law_voted" : Str), (["votes", "bundle"] : List Str)), (("_law_layer" : Str), (["votes", "table", "bundles", "gates", "voters"] : List Str)), (("_law_off_outputs" : Str), (["votes", "offs"] : List Str)), (("_law_part_jobs" : Str), (["bag", "n"] : List Str)), (("_law_off_jobs" : Str), (["bag", "n"] : List Str)), (("_law_apart_jobs" : Str), (["bag", "n"] : List Str)), (("_law_layer_jobs" : Str), (["bag", "n"] : List Str)), (("_law_known_jobs" : Str), ([] : List Str)), (("_law_told" : Str), (["k", "a", "way"] : List Str)), (("law" : Str), (["script"] : List Str))] : List (Str × List Str)), (["abs", "all", "any", "bool", "dict", "enumerate", "int", "isinstance", "len", "list", "min", "range", "repr", "reversed", "sorted", "sum", "tuple", "zip"] : List Str)⟩
def Nss : List (List Str) := ([(["bits"] : List Str), (["row", "found", "bit"] : List Str), (["table", "row"] : List Str), (["bundle"] : List Str), (["bundle", "bit", "p", "own"] : List Str), (["n", "bit", "offs", "p"] : List Str), (["n", "table", "bundles", "p", "bundle"] : List Str), (["bundle", "failures", "own", "p", "bit"] : List Str), (["votes", "bundle", "places", "p"] : List Str), (["votes", "table", "bundles", "gates", "voters"] : List Str), (["votes", "offs", "j", "places", "p"] : List Str), (["script", "cells", "mixed", "cell"] : List Str), (["bag", "below", "turn", "cell", "found"] : List Str), (["bag", "some"] : List Str), (["x", "due", "y", "z"] : List Str), (["bag", "many", "way", "bit", "found", "turn", "k"] : List Str), (["bag", "n", "most", "rest", "found", "turn"] : List Str), (["bag", "n", "places", "p"] : List Str), (["bag", "n", "many", "rest", "found", "turn"] : List Str), (["bag", "n", "steps", "j", "p"] : List Str), (["bag", "some", "k"] : List Str), (["table"] : List Str), (["bits"] : List Str), (["bundle", "bit", "p", "b"] : List Str), (["n", "table", "bundles", "found", "p", "at", "bundle"] : List Str), (["bundle", "fails", "found", "p", "bit"] : List Str), (["votes", "bundle", "vote", "p"] : List Str), (["votes", "table", "bundles", "gates", "voters", "n"] : List Str), (["votes", "offs", "found", "j", "vote", "p"] : List Str), (["bag", "n", "found", "votes", "table", "turn", "b", "bit", "offs", "fails", "some", "due", "rows", "k", "p"] : List Str), (["bag", "n", "found", "votes", "table", "row", "lots", "rows", "value", "due", "offs", "bit", "lot", "b", "behind", "turned", "fails", "places", "k", "p", "x", "j"] : List Str), (["bag", "n", "table", "row", "owner", "rows", "k", "bit", "value", "due", "offs", "plain", "nothing", "p"] : List Str), (["bag", "n", "votes", "found", "ahead", "turn", "table", "rows", "gates", "voters", "due", "k"] : List Str), (["one", "two", "ring", "found"] : List Str), (["k", "a", "way"] : List Str), (["script", "bag", "jobs", "turn", "n", "turns", "begin", "k", "a", "due", "kept"] : List Str)] : List (List Str))
end K19

/-! K19s: what the defs of k19 tell, over bits, places, bundles. -/
namespace K19
open PySem Nd
abbrev G0 : Nat → Option Val := fun _ => none
def run (k : Nat) : Nat → List Val → CRes := runN Dp G0 k
theorem run_at {k f : Nat} {d : Df} {xs : List Val} (h : Dp[f]? = some d) : run (k + 1) f xs = runD (run k) G0 d xs := runN_at h
def bI (b : Bool) : Int := if b then 1 else 0
abbrev bV (b : Bool) : Val := .int (bI b)
abbrev nV (n : Nat) : Val := .int n
/-- bits -/
abbrev tB (l : List Bool) : Val := .tup (l.map bV)
/-- places -/
abbrev tN (l : List Nat) : Val := .tup (l.map nV)
abbrev tBB (l : List (List Bool)) : Val := .tup (l.map fun x => tB x)
abbrev tNN (l : List (List Nat)) : Val := .tup (l.map fun x => tN x)
@[simp] theorem bI_true : bI true = 1 := rfl
@[simp] theorem bI_false : bI false = 0 := rfl
@[simp] theorem bI_sub (b : Bool) : 1 - bI b = bI (!b) := by cases b <;> rfl
@[simp] theorem bI_inj (a b : Bool) : bI a = bI b ↔ a = b := by cases a <;> cases b <;> simp [bI]
theorem bI_nat (b : Bool) : bI b = (b.toNat : Int) := by cases b <;> rfl
@[simp] theorem outs1 {a : Val} {r : List Val} : outsOf 1 [0] (a :: r) = [a] := rfl
@[simp] theorem outs2 {a b : Val} {r : List Val} : outsOf 2 [0, 1] (a :: b :: r) = [a, b] := rfl
@[simp] theorem outs3 {a b c : Val} {r : List Val} : outsOf 3 [0, 1, 2] (a :: b :: c :: r) = [a, b, c] := rfl
@[simp] theorem outs5 {a b c d e : Val} {r : List Val} : outsOf 5 [0, 1, 2, 3, 4] (a :: b :: c :: d :: e :: r) = [a, b, c, d, e] := rfl
@[simp] theorem outs0 {r : List Val} : outsOf 0 [] r = [] := rfl
theorem bI_sum (l : List Bool) : (l.map bI).sum = (l.count true : Int) := by
  induction l with
  | nil => rfl
  | cons a l ih => cases a <;> simp [ih, bI] <;> omega
/-! ### readings -/
theorem atI_nat {α : Type} (xs : List α) (p : Nat) : L2.atI xs (p : Int) = xs[p]? := by
  unfold L2.atI L2.ixN
  by_cases h : p < xs.length
  · simp [h]
  · simp [h]
theorem subT {α : Type} (f : α → Val) (l : List α) (p : Nat) (d : α) (h : p < l.length) : subV (.tup (l.map f)) (.int (p : Int)) = some (f (l.getD p d)) := by
  show L2.atI _ _ = _
  rw [atI_nat, List.getElem?_map, List.getElem?_eq_getElem h]
  simp [h]
theorem subO {α : Type} (f : α → Val) (l : List α) (p : Nat) (d : α) (h : p < l.length) : subV (.lst .ow (l.map f)) (.int (p : Int)) = some (f (l.getD p d)) := by
  show L2.atI _ _ = _
  rw [atI_nat, List.getElem?_map, List.getElem?_eq_getElem h]
  simp [h]
theorem inT (p : Nat) (l : List Nat) : inV (nV p) (.tup (l.map nV)) = some (decide (p ∈ l)) := by
  have h1 : (flat (nV p) && (l.map nV).all flat) = true := by simp [flat]
  unfold inV
  simp only [items]
  rw [if_pos h1]
  congr 1
  induction l with
  | nil => rfl
  | cons a l ih =>
    have := ih (by simp [flat])
    simp only [List.map_cons, List.any_cons, this]
    have e : ((a : Int) == (p : Int)) = decide (p = a) := by by_cases h : p = a <;> simp [h]; omega
    simp [fv, L2.eqV, e]
theorem inO (p : Nat) (l : List Nat) : inV (nV p) (.lst .ow (l.map nV)) = some (decide (p ∈ l)) := by
  rw [← inT]
  have h1 : (flat (nV p) && (l.map nV).all flat) = true := by simp [flat]
  unfold inV
  simp only [items]
  rw [if_pos h1, if_pos h1]
theorem rangeL_nat (n : Nat) : rangeL 0 (n : Int) = (List.range n).map nV := by
  simp [rangeL, nV]
theorem enumL_map {α : Type} (f : α → Val) : ∀ (l : List α) (k : Nat), enumL k (l.map f) = (l.zipIdx k).map fun q => .tup [nV q.2, f q.1]
  | [], _ => rfl
  | x :: xs, k => by simp [enumL, enumL_map f xs (k + 1)]
theorem zipL_map {α β : Type} (f : α → Val) (g : β → Val) : ∀ (l : List α) (m : List β), zipL (l.map f) (m.map g) = (l.zip m).map fun q => .tup [f q.1, g q.2]
  | [], _ => by simp [zipL]
  | _ :: _, [] => by simp [zipL]
  | x :: xs, y :: ys => by simp [zipL, zipL_map f g xs ys]
@[simp] theorem okR_small {n : Nat} (h : n ≤ 1000) : okR (n : Int) = true := by
  unfold okR
  rw [decide_eq_true_eq]
  omega
/-! ### the defs asked -/
def maj (l : List Bool) : Bool := decide (l.length < 2 * l.count true)
theorem s0 (k : Nat) (l : List Bool) : run (k + 1) 0 [tB l] = .ret (bV (maj l)) [tB l] := by
  rw [run_at (d := d0) rfl]
  by_cases h : l.length < 2 * l.count true
  · have h' : (l.length : Int) < 2 * (l.count true : Int) := by omega
    simp [d0, runD_ap, biV, itemsF, binV, Nd.binI, small, cmpV, cmpI, truV, bV, bI_sum, maj, h, h']
  · have h' : ¬ (l.length : Int) < 2 * (l.count true : Int) := by omega
    simp [d0, runD_ap, biV, itemsF, binV, Nd.binI, small, cmpV, cmpI, truV, bV, bI_sum, maj, h, h']
theorem s0l (k : Nat) (l : List Bool) : run (k + 1) 0 [.lst .ow (l.map bV)] = .ret (bV (maj l)) [.lst .ow (l.map bV)] := by
  rw [run_at (d := d0) rfl]
  by_cases h : l.length < 2 * l.count true
  · have h' : (l.length : Int) < 2 * (l.count true : Int) := by omega
    simp [d0, runD_ap, biV, itemsF, binV, Nd.binI, small, cmpV, cmpI, truV, bV, bI_sum, maj, h, h']
  · have h' : ¬ (l.length : Int) < 2 * (l.count true : Int) := by omega
    simp [d0, runD_ap, biV, itemsF, binV, Nd.binI, small, cmpV, cmpI, truV, bV, bI_sum, maj, h, h']
theorem s3 (k : Nat) (l : List Bool) : run (k + 2) 3 [tB l] = .ret (bV (maj l)) [tB l] := by
  have := s0 k l
  rw [run_at (d := d3) rfl]
  simp [d3, runD_ap, this]
theorem s22 (k : Nat) (l : List Bool) : run (k + 1) 22 [tB l] = .ret (bV (maj l)) [tB l] := by
  rw [run_at (d := d22) rfl]
  by_cases h : l.length < 2 * l.count true
  · have h' : (l.length : Int) < 2 * (l.count true : Int) := by omega
    simp [d22, runD_ap, biV, itemsF, binV, Nd.binI, small, cmpV, cmpI, truV, bV, bI_sum, maj, h, h']
  · have h' : ¬ (l.length : Int) < 2 * (l.count true : Int) := by omega
    simp [d22, runD_ap, biV, itemsF, binV, Nd.binI, small, cmpV, cmpI, truV, bV, bI_sum, maj, h, h']
theorem s22l (k : Nat) (l : List Bool) : run (k + 1) 22 [.lst .ow (l.map bV)] = .ret (bV (maj l)) [.lst .ow (l.map bV)] := by
  rw [run_at (d := d22) rfl]
  by_cases h : l.length < 2 * l.count true
  · have h' : (l.length : Int) < 2 * (l.count true : Int) := by omega
    simp [d22, runD_ap, biV, itemsF, binV, Nd.binI, small, cmpV, cmpI, truV, bV, bI_sum, maj, h, h']
  · have h' : ¬ (l.length : Int) < 2 * (l.count true : Int) := by omega
    simp [d22, runD_ap, biV, itemsF, binV, Nd.binI, small, cmpV, cmpI, truV, bV, bI_sum, maj, h, h']
/-- the number that a row tells -/
def pl (l : List Bool) : Nat := l.foldl (fun a b => 2 * a + b.toNat) 0
theorem pl_step (a : Nat) (b : Bool) : (2 * (a : Int) + bI b) = ((2 * a + b.toNat : Nat) : Int) := by cases b <;> simp [bI]
theorem pl_take (l : List Bool) (i : Nat) (x : Bool) (h : l[i]? = some x) : pl (l.take (i + 1)) = 2 * pl (l.take i) + x.toNat := by
  rw [List.take_succ, h]
  simp [pl]
theorem s1 (k : Nat) (l : List Bool) : run (k + 1) 1 [tB l] = .ret (nV (pl l)) [tB l] := by
  rw [run_at (d := d1) rfl]
  obtain ⟨e3, ⟨y, rfl⟩, h2⟩ := for_inv (C := run k) (G := G0) (io := [0]) (s0 := l1_0) (e := [tB l, .int 0, .und]) rfl l bV (ps := [(tB l, .no)]) (e1 := [tB l, .int 0, .und]) (by simp [itemsF]) (fun i e' => ∃ y, e' = [tB l, nV (pl (l.take i)), y]) ⟨.und, by simp [pl]⟩ fun i x e' hx ⟨y, he⟩ => by
    subst he
    refine ⟨[tB l, nV (pl (l.take i)), bV x], [tB l, nV (pl (l.take (i + 1))), bV x], by simp [slotsOf], ?_, bV x, rfl⟩
    rw [pl_take l i x hx]
    simp [b1_0, slotsOf, binV, Nd.binI, small, bI_nat]
  simp only [List.take_length] at h2
  simp [d1, runD_ap, h2]
def bAt (r : List Bool) (p : Nat) : Bool := r.getD p false
theorem subB (r : List Bool) (p : Nat) (h : p < r.length) : subV (tB r) (nV p) = some (bV (bAt r p)) := subT bV r p false h
theorem s2 (k : Nat) (t r : List Bool) (h : pl r < t.length) : run (k + 2) 2 [tB t, tB r] = .ret (bV (bAt t (pl r))) [tB t, tB r] := by
  have := s1 k r
  rw [run_at (d := d2) rfl]
  simp [d2, runD_ap, this, subB t (pl r) h]
/-- where a bundle has the other bit -/
def offsF (l : List Bool) (bit : Bool) : List Nat := (l.zipIdx.filter fun q => q.1 != bit).map (·.2)
theorem cmpB (a b : Bool) : cmpV .ne (bV a) (bV b) = some (.bl (a != b)) := by
  cases a <;> cases b <;> rfl
theorem e4 (k : Nat) (l : List Bool) (bit : Bool) (hl : l.length ≤ 1000) : evE (run k) G0 c4_0 [tB l, bV bit, .und, .und] = .ok (.lst .ow ((offsF l bit).map nV)) [tB l, bV bit, .und, .und] := by
  have h := compI_maps (C := run k) (G := G0) (c0 := c4_0) rfl (e := [tB l, bV bit, .und, .und]) (e1 := [tB l, bV bit, .und, .und]) (ps := [(tB l, .no)]) l.zipIdx (fun q => .tup [nV q.2, bV q.1]) (fun q => nV q.2) (fun q => q.1 != bit) (by simp [itemsF, enumL_map]) (by simp [sizeLine]; omega) fun q hq => by
    refine ⟨[tB l, bV bit, nV q.2, bV q.1], ?_⟩
    cases hb : (q.1 != bit) <;> simp [turnM, wipes, tlen, cmpB, hb, truV, restores, saves]
  simp at h
  simpa [offsF, Function.comp_def] using h
theorem s4 (k : Nat) (l : List Bool) (bit : Bool) (hl : l.length ≤ 1000) : run (k + 1) 4 [tB l, bV bit] = .ret (tN (offsF l bit)) [tB l, bV bit] := by
  have := e4 k l bit hl
  rw [run_at (d := d4) rfl]
  simp [d4, runD_ap, this, biV, itemsF]
theorem s23 (k : Nat) (l : List Bool) (bit : Bool) (hl : l.length ≤ 1000) : run (k + 1) 23 [tB l, bV bit] = .ret (tN (offsF l bit)) [tB l, bV bit] := by
  have := e4 k l bit hl
  rw [run_at (d := d23) rfl]
  simp [d23, runD_ap, show c23_0 = c4_0 from rfl, this, biV, itemsF]
/-- the other bit at told places -/
def withF (n : Nat) (bit : Bool) (offs : List Nat) : List Bool := (List.range n).map fun p => if p ∈ offs then !bit else bit
theorem cmpIn (p : Nat) (l : List Nat) : cmpV .inn (nV p) (.tup (l.map nV)) = some (.bl (decide (p ∈ l))) := by
  simp [cmpV, inT]
theorem e5 (k : Nat) (n : Nat) (bit : Bool) (offs : List Nat) (hn : n ≤ 1000) : evE (run k) G0 c5_0 [nV n, bV bit, tN offs, .und] = .ok (.lst .ow ((withF n bit offs).map bV)) [nV n, bV bit, tN offs, .und] := by
  have h := comp_maps (C := run k) (G := G0) (c0 := c5_0) rfl (e := [nV n, bV bit, tN offs, .und]) (e1 := [nV n, bV bit, tN offs, .und]) (ps := []) (List.range n) nV (fun p => bV (if p ∈ offs then !bit else bit)) (by simp [rangeL_nat, okR_small hn]) (by simp [sizeLine]; omega) fun q hq => by
    refine ⟨[nV n, bV bit, tN offs, nV q], ?_⟩
    by_cases hb : q ∈ offs <;> simp [turnM, wipes, cmpIn, hb, truV, restores, saves, binV, Nd.binI]
  simp at h
  simpa [withF, Function.comp_def] using h
theorem s5 (k : Nat) (n : Nat) (bit : Bool) (offs : List Nat) (hn : n ≤ 1000) : run (k + 1) 5 [nV n, bV bit, tN offs] = .ret (tB (withF n bit offs)) [nV n, bV bit, tN offs] := by
  have := e5 k n bit offs hn
  rw [run_at (d := d5) rfl]
  simp [d5, runD_ap, this, biV, itemsF]
/-! gated, said, voted .. -/
def gatedF (n : Nat) (t : List Bool) (rows : List (List Bool)) : List Bool := (List.range n).map fun p => bAt t (pl (rows.map fun r => bAt r p))
theorem pl_lt' (l : List Bool) : ∀ a m : Nat, a < m → l.foldl (fun a b => 2 * a + b.toNat) a < m * 2 ^ l.length := by
  induction l with
  | nil => intro a m h; simpa using h
  | cons x l ih =>
    intro a m h
    have hx : x.toNat ≤ 1 := by cases x <;> decide
    have := ih (2 * a + x.toNat) (2 * m) (by omega)
    simp only [List.foldl_cons, List.length_cons]
    rw [Nat.pow_succ]
    rw [show m * (2 ^ l.length * 2) = 2 * m * 2 ^ l.length by rw [Nat.mul_comm 2 m, Nat.mul_assoc m 2, Nat.mul_comm 2]]
    exact this
theorem pl_lt (l : List Bool) : pl l < 2 ^ l.length := by
  have := pl_lt' l 0 1 (by decide)
  simpa [pl] using this
theorem e6_0 (k n p : Nat) (t : List Bool) (rows : List (List Bool)) (hr : rows.length ≤ 1000) (h : ∀ r ∈ rows, p < r.length) : evE (run k) G0 c6_0 [nV n, tB t, tBB rows, nV p, .und] = .ok (.lst .ow ((rows.map fun r => bAt r p).map bV)) [nV n, tB t, tBB rows, nV p, .und] := by
  have h := comp_maps (C := run k) (G := G0) (c0 := c6_0) (e := [nV n, tB t, tBB rows, nV p, .und]) rfl (e1 := [nV n, tB t, tBB rows, nV p, .und]) (ps := [(tBB rows, .no)]) rows (fun x => tB x) (fun r => bV (bAt r p)) (by simp [itemsF]) (by simp [sizeLine]; omega) fun q hq => by
    refine ⟨[nV n, tB t, tBB rows, nV p, tB q], ?_⟩
    simp [turnM, wipes, subB q p (h q hq), restores, saves]
  simp at h
  simpa [Function.comp_def] using h
theorem e6_1 (k n : Nat) (t : List Bool) (rows : List (List Bool)) (hn : n ≤ 1000) (hr : rows.length ≤ 1000) (h : ∀ r ∈ rows, n ≤ r.length) (ht : 2 ^ rows.length ≤ t.length) : evE (run (k + 2)) G0 c6_1 [nV n, tB t, tBB rows, .und, .und] = .ok (.lst .ow ((gatedF n t rows).map bV)) [nV n, tB t, tBB rows, .und, .und] := by
  have h := comp_maps (C := run (k + 2)) (G := G0) (c0 := c6_1) (e := [nV n, tB t, tBB rows, .und, .und]) rfl (e1 := [nV n, tB t, tBB rows, .und, .und]) (ps := []) (List.range n) nV (fun p => bV (bAt t (pl (rows.map fun r => bAt r p)))) (by simp [rangeL_nat, okR_small hn]) (by simp [sizeLine]; omega) fun q hq => by
    refine ⟨[nV n, tB t, tBB rows, nV q, .und], ?_⟩
    have hq' : q < n := by simpa using hq
    have h1 := e6_0 (k + 2) n q t rows hr fun r hr' => Nat.lt_of_lt_of_le hq' (h r hr')
    have h2 := s2 k t (rows.map fun r => bAt r q) (Nat.lt_of_lt_of_le (pl_lt _) (by simpa using ht))
    simp only [tB, List.map_map, Function.comp_def] at h1 h2
    simp [turnM, wipes, h1, h2, restores, saves, biV, itemsF]
  simp at h
  simpa [gatedF, Function.comp_def] using h
theorem s6 (k n : Nat) (t : List Bool) (rows : List (List Bool)) (hn : n ≤ 1000) (hr : rows.length ≤ 1000) (h : ∀ r ∈ rows, n ≤ r.length) (ht : 2 ^ rows.length ≤ t.length) : run (k + 3) 6 [nV n, tB t, tBB rows] = .ret (tB (gatedF n t rows)) [nV n, tB t, tBB rows] := by
  have := e6_1 k n t rows hn hr h ht
  rw [run_at (d := d6) rfl]
  simp [d6, runD_ap, this, biV, itemsF]
/-- the last bit told for a place -/
def sf (prs : List (Nat × Bool)) (p : Nat) (d : Bool) : Bool := prs.foldl (fun a q => if q.1 = p then q.2 else a) d
def saidF (b : List Bool) (prs : List (Nat × Bool)) : List Bool := b.zipIdx.map fun q => sf prs q.2 q.1
abbrev fV (prs : List (Nat × Bool)) : Val := .tup [tN (prs.map (·.1)), tB (prs.map (·.2))]
def lkK (kvs : List (L2.Key × Val)) (q : L2.Key) : Option Val := (kvs.find? fun kv => decide (kv.1 = q)).map (·.2)
theorem lk_cons (a : L2.Key × Val) (l : List (L2.Key × Val)) (q : L2.Key) : lkK (a :: l) q = if a.1 = q then some a.2 else lkK l q := by
  unfold lkK
  by_cases h : a.1 = q <;> simp [List.find?_cons, h]
theorem lk_app (l : List (L2.Key × Val)) (k q : L2.Key) (x : Val) (h : ∀ kv ∈ l, ¬ kv.1 = k) : lkK (l ++ [(k, x)]) q = if k = q then some x else lkK l q := by
  induction l with
  | nil => rw [List.nil_append, lk_cons]
  | cons a l ih =>
    have := ih fun kv hkv => h kv (List.mem_cons_of_mem _ hkv)
    have ha := h a (List.mem_cons_self)
    rw [List.cons_append, lk_cons, lk_cons, this]
    by_cases haq : a.1 = q
    · have : ¬ k = q := fun e => ha (haq.trans e.symm)
      simp [haq, this]
    · simp [haq]
theorem lk_up (l : List (L2.Key × Val)) (k q : L2.Key) (x : Val) : lkK (l.map fun kv => if kv.1 = k then (k, x) else kv) q = if k = q then (if (l.any fun kv => decide (kv.1 = k)) = true then some x else none) else lkK l q := by
  induction l with
  | nil => by_cases h : k = q <;> simp [h, lkK]
  | cons a l ih =>
    rw [List.map_cons, lk_cons, lk_cons, ih]
    by_cases ha : a.1 = k
    · by_cases hk : k = q
      · simp [ha, hk]
      · have : ¬ a.1 = q := fun e => hk (ha ▸ e)
        simp [ha, hk]
    · by_cases hk : k = q
      · subst hk
        rw [if_neg ha, List.any_cons, decide_eq_false ha, Bool.false_or, if_pos rfl, if_neg ha, if_pos rfl]
      · simp [ha, hk]
theorem lk_put (kvs : List (L2.Key × Val)) (k q : L2.Key) (x : Val) : lkK (putL kvs k x) q = if k = q then some x else lkK kvs q := by
  unfold putL
  split
  · rename_i h
    rw [lk_up, if_pos h]
  · rename_i h
    exact lk_app kvs k q x fun kv hkv e => h (List.any_eq_true.mpr ⟨kv, hkv, by simpa using e⟩)
theorem lk_merge (q : L2.Key) : ∀ (prs kvs : List (L2.Key × Val)), lkK (mergeL kvs prs) q = prs.foldl (fun a r => if r.1 = q then some r.2 else a) (lkK kvs q)
  | [], _ => rfl
  | (k, x) :: r, kvs => by
    show lkK (mergeL (putL kvs k x) r) q = _
    rw [lk_merge q r, lk_put]
    rfl
theorem get2_lk {m : Md} {kvs : List (L2.Key × Val)} {k d : Val} {q : L2.Key} (hk : key k = some q) (hh : ∀ v, lkK kvs q = some v → held v = false) : meV .get2 (.dic m kvs) [k, d] = some ((lkK kvs q).getD d, .dic m kvs) := by
  unfold lkK at hh ⊢
  simp only [meV, hk]
  cases h : kvs.find? (fun kv => decide (kv.1 = q)) with
  | none => rfl
  | some kv =>
    have := hh kv.2 (by rw [h]; rfl)
    simp [this]
def dictOf (prs : List (Nat × Bool)) : List (L2.Key × Val) := mergeL [] (prs.map fun q => (.inl (q.1 : Int), bV q.2))
theorem lk_dict (prs : List (Nat × Bool)) (p : Nat) (d : Bool) : (∀ v, lkK (dictOf prs) (.inl (p : Int)) = some v → held v = false) ∧ (lkK (dictOf prs) (.inl (p : Int))).getD (bV d) = bV (sf prs p d) := by
  unfold dictOf
  rw [lk_merge]
  have main : ∀ (l : List (Nat × Bool)) (a : Option Bool), ∃ b : Option Bool, (l.map fun q => ((.inl (q.1 : Int) : L2.Key), bV q.2)).foldl (fun a r => if r.1 = (.inl (p : Int) : L2.Key) then some r.2 else a) (a.map bV) = b.map bV ∧ b.getD d = sf l p (a.getD d) := by
    intro l
    induction l with
    | nil => intro a; exact ⟨a, rfl, rfl⟩
    | cons x l ih =>
      intro a
      by_cases h : x.1 = p
      · obtain ⟨b, h1, h2⟩ := ih (some x.2)
        refine ⟨b, ?_, ?_⟩
        · simpa [h] using h1
        · simpa [sf, h] using h2
      · obtain ⟨b, h1, h2⟩ := ih a
        have h' : ¬ (x.1 : Int) = (p : Int) := by omega
        refine ⟨b, ?_, ?_⟩
        · simpa [h, h'] using h1
        · simpa [sf, h] using h2
  obtain ⟨b, h1, h2⟩ := main prs none
  have h1' : (prs.map fun q => ((.inl (q.1 : Int) : L2.Key), bV q.2)).foldl (fun a r => if r.1 = (.inl (p : Int) : L2.Key) then some r.2 else a) (lkK [] (.inl (p : Int))) = b.map bV := h1
  rw [h1']
  constructor
  · intro v hv
    cases b with
    | none => cases hv
    | some b => cases hv; rfl
  · cases b with
    | none => simpa using congrArg bV h2
    | some b => simpa using congrArg bV h2
theorem pairsK_nb : ∀ (l : List (Nat × Bool)), pairsK (l.map fun q => .tup [nV q.1, bV q.2]) = some (l.map fun q => (.inl (q.1 : Int), bV q.2))
  | [] => rfl
  | x :: l => by simp [pairsK, pairsK_nb l, key]
theorem zip_map12 : ∀ (l : List (Nat × Bool)), (l.map (·.1)).zip (l.map (·.2)) = l
  | [] => rfl
  | x :: l => by simp [zip_map12 l]
theorem dzip_nb (prs : List (Nat × Bool)) (h : prs.length ≤ 1000) : dzipV (tN (prs.map (·.1))) (tB (prs.map (·.2))) = some (.dic .ow (dictOf prs)) := by
  have h1 : zipL ((prs.map (·.1)).map nV) ((prs.map (·.2)).map bV) = prs.map fun q => .tup [nV q.1, bV q.2] := by
    rw [zipL_map, zip_map12]
  unfold dzipV
  simp only [itemsF]
  rw [h1, pairsK_nb]
  simp only []
  rw [if_pos (by simp; omega)]
  rfl
theorem sub01 (a b : Val) : subV (.tup [a, b]) (.int 0) = some a ∧ subV (.tup [a, b]) (.int 1) = some b := ⟨rfl, rfl⟩
theorem e7 (k : Nat) (b : List Bool) (prs : List (Nat × Bool)) (hb : b.length ≤ 1000) : evE (run k) G0 c7_0 [tB b, fV prs, .dic .ow (dictOf prs), .und, .und] = .ok (.lst .ow ((saidF b prs).map bV)) [tB b, fV prs, .dic .ow (dictOf prs), .und, .und] := by
  have h := comp_maps (C := run k) (G := G0) (c0 := c7_0) (e := [tB b, fV prs, .dic .ow (dictOf prs), .und, .und]) rfl (e1 := [tB b, fV prs, .dic .ow (dictOf prs), .und, .und]) (ps := [(tB b, .no)]) b.zipIdx (fun q => .tup [nV q.2, bV q.1]) (fun q => bV (sf prs q.2 q.1)) (by simp [itemsF, enumL_map]) (by simp [sizeLine]; omega) fun q hq => by
    refine ⟨[tB b, fV prs, .dic .ow (dictOf prs), nV q.2, bV q.1], ?_⟩
    obtain ⟨h1, h2⟩ := lk_dict prs q.2 q.1
    have h3 : meV .get2 (.dic .ow (dictOf prs)) [nV q.2, bV q.1] = some (bV (sf prs q.2 q.1), .dic .ow (dictOf prs)) := by
      rw [get2_lk (q := .inl (q.2 : Int)) rfl h1, h2]
    simp [turnM, wipes, tlen, mtOk, h3, restores, saves]
  simp at h
  simpa [saidF, Function.comp_def] using h
theorem s7 (k : Nat) (b : List Bool) (prs : List (Nat × Bool)) (hb : b.length ≤ 1000) (hp : prs.length ≤ 1000) : run (k + 1) 7 [tB b, fV prs] = .ret (tB (saidF b prs)) [tB b, fV prs] := by
  have := e7 k b prs hb
  have h1 := dzip_nb prs hp
  have h2 := (sub01 (tN (prs.map (·.1))) (tB (prs.map (·.2)))).1
  have h3 := (sub01 (tN (prs.map (·.1))) (tB (prs.map (·.2)))).2
  rw [run_at (d := d7) rfl]
  simp [d7, runD_ap, this, h1, h2, h3, biV, itemsF]
/-- what votes read -/
def gth (b : List Bool) (v : List Nat) : List Bool := v.map fun p => bAt b p
def votedF (votes : List (List Nat)) (b : List Bool) : List Bool := votes.map fun v => maj (gth b v)
theorem e8_0 (k : Nat) (votes : List (List Nat)) (b : List Bool) (v : List Nat) (hv : v.length ≤ 1000) (h : ∀ p ∈ v, p < b.length) : evE (run k) G0 c8_0 [tNN votes, tB b, tN v, .und] = .ok (.lst .ow ((gth b v).map bV)) [tNN votes, tB b, tN v, .und] := by
  have h := comp_maps (C := run k) (G := G0) (c0 := c8_0) (e := [tNN votes, tB b, tN v, .und]) rfl (e1 := [tNN votes, tB b, tN v, .und]) (ps := [(tN v, .no)]) v nV (fun p => bV (bAt b p)) (by simp [itemsF]) (by simp [sizeLine]; omega) fun q hq => by
    refine ⟨[tNN votes, tB b, tN v, nV q], ?_⟩
    simp [turnM, wipes, subB b q (h q hq), restores, saves]
  simp at h
  simpa [gth, Function.comp_def] using h
theorem e8_1 (k : Nat) (votes : List (List Nat)) (b : List Bool) (hl : votes.length ≤ 1000) (hv : ∀ v ∈ votes, v.length ≤ 1000 ∧ ∀ p ∈ v, p < b.length) : evE (run (k + 1)) G0 c8_1 [tNN votes, tB b, .und, .und] = .ok (.lst .ow ((votedF votes b).map bV)) [tNN votes, tB b, .und, .und] := by
  have h := comp_maps (C := run (k + 1)) (G := G0) (c0 := c8_1) (e := [tNN votes, tB b, .und, .und]) rfl (e1 := [tNN votes, tB b, .und, .und]) (ps := [(tNN votes, .no)]) votes (fun x => tN x) (fun v => bV (maj (gth b v))) (by simp [itemsF]) (by simp [sizeLine]; omega) fun q hq => by
    refine ⟨[tNN votes, tB b, tN q, .und], ?_⟩
    obtain ⟨a1, a2⟩ := hv q hq
    have h1 := e8_0 (k + 1) votes b q a1 a2
    have h2 := s0l k (gth b q)
    simp [turnM, wipes, h1, h2, restores, saves]
  simp at h
  simpa [votedF, Function.comp_def] using h
theorem s8 (k : Nat) (votes : List (List Nat)) (b : List Bool) (hl : votes.length ≤ 1000) (hv : ∀ v ∈ votes, v.length ≤ 1000 ∧ ∀ p ∈ v, p < b.length) : run (k + 2) 8 [tNN votes, tB b] = .ret (tB (votedF votes b)) [tNN votes, tB b] := by
  have := e8_1 k votes b hl hv
  rw [run_at (d := d8) rfl]
  simp [d8, runD_ap, this, biV, itemsF]
theorem gatedF_len (n : Nat) (t : List Bool) (rows : List (List Bool)) : (gatedF n t rows).length = n := by simp [gatedF]
theorem saidF_len (b : List Bool) (prs : List (Nat × Bool)) : (saidF b prs).length = b.length := by simp [saidF]
theorem votedF_len (v : List (List Nat)) (b : List Bool) : (votedF v b).length = v.length := by simp [votedF]
def layerF (votes : List (List Nat)) (t : List Bool) (rows : List (List Bool)) (g v : List (Nat × Bool)) : List Bool := saidF (votedF votes (saidF (gatedF votes.length t rows) g)) v
/-- votes of n, places below n -/
def VotesOk (n : Nat) (votes : List (List Nat)) : Prop := votes.length = n ∧ ∀ v ∈ votes, v.length ≤ 1000 ∧ ∀ p ∈ v, p < n
theorem s9 (k : Nat) (votes : List (List Nat)) (t : List Bool) (rows : List (List Bool)) (g v : List (Nat × Bool)) (hn : votes.length ≤ 1000) (hr : rows.length ≤ 1000) (h : ∀ r ∈ rows, votes.length ≤ r.length) (ht : 2 ^ rows.length ≤ t.length) (hg : g.length ≤ 1000) (hv : v.length ≤ 1000) (ho : VotesOk votes.length votes) : run (k + 4) 9 [tNN votes, tB t, tBB rows, fV g, fV v] = .ret (tB (layerF votes t rows g v)) [tNN votes, tB t, tBB rows, fV g, fV v] := by
  have h1 := s6 k votes.length t rows hn hr h ht
  have h2 := s7 (k + 2) (gatedF votes.length t rows) g (by rw [gatedF_len]; exact hn) hg
  have h3 := s8 (k + 1) votes (saidF (gatedF votes.length t rows) g) hn fun w hw => by
    rw [saidF_len, gatedF_len]
    exact ho.2 w hw
  have h4 := s7 (k + 2) (votedF votes (saidF (gatedF votes.length t rows) g)) v (by rw [votedF_len]; exact hn) hv
  rw [run_at (d := d9) rfl]
  simp [d9, runD_ap, biV, h1, h2, h3, h4, layerF]
/-- outputs that read more of offs than of others -/
def outsF (votes : List (List Nat)) (offs : List Nat) : List Nat := (votes.zipIdx.filter fun q => decide (q.1.length < 2 * (q.1.filter fun p => decide (p ∈ offs)).length)).map (·.2)
theorem e10_0 (k : Nat) (a : Val) (offs : List Nat) (v : List Nat) (j : Nat) (hv : v.length ≤ 1000) : evE (run k) G0 c10_0 [a, tN offs, nV j, tN v, .und] = .ok (.lst .ow ((v.filter fun p => decide (p ∈ offs)).map nV)) [a, tN offs, nV j, tN v, .und] := by
  have h := compI_maps (C := run k) (G := G0) (c0 := c10_0) (e := [a, tN offs, nV j, tN v, .und]) rfl (e1 := [a, tN offs, nV j, tN v, .und]) (ps := [(tN v, .no)]) v nV nV (fun p => decide (p ∈ offs)) (by simp [itemsF]) (by simp [sizeLine]; omega) fun q hq => by
    refine ⟨[a, tN offs, nV j, tN v, nV q], ?_⟩
    by_cases hb : q ∈ offs <;> simp [turnM, wipes, cmpIn, hb, truV, restores, saves]
  simpa using h
theorem e10_1 (k : Nat) (votes : List (List Nat)) (offs : List Nat) (hl : votes.length ≤ 1000) (hv : ∀ v ∈ votes, v.length ≤ 1000) : evE (run k) G0 c10_1 [tNN votes, tN offs, .und, .und, .und] = .ok (.lst .ow ((outsF votes offs).map nV)) [tNN votes, tN offs, .und, .und, .und] := by
  have h := compI_maps (C := run k) (G := G0) (c0 := c10_1) (e := [tNN votes, tN offs, .und, .und, .und]) rfl (e1 := [tNN votes, tN offs, .und, .und, .und]) (ps := [(tNN votes, .no)]) votes.zipIdx (fun q => .tup [nV q.2, tN q.1]) (fun q => nV q.2) (fun q => decide (q.1.length < 2 * (q.1.filter fun p => decide (p ∈ offs)).length)) (by simp [itemsF, enumL_map]) (by simp [sizeLine]; omega) fun q hq => by
    refine ⟨[tNN votes, tN offs, nV q.2, tN q.1, .und], ?_⟩
    have h1 := e10_0 k (tNN votes) offs q.1 q.2 (hv _ (List.fst_mem_of_mem_zipIdx hq))
    by_cases hb : q.1.length < 2 * (q.1.filter fun p => decide (p ∈ offs)).length
    · have hb' : (q.1.length : Int) < 2 * ((q.1.filter fun p => decide (p ∈ offs)).length : Int) := by omega
      simp [turnM, wipes, tlen, h1, biV, binV, Nd.binI, small, cmpV, cmpI, hb, hb', truV, restores, saves]
    · have hb' : ¬ (q.1.length : Int) < 2 * ((q.1.filter fun p => decide (p ∈ offs)).length : Int) := by omega
      simp [turnM, wipes, tlen, h1, biV, binV, Nd.binI, small, cmpV, cmpI, hb, hb', truV, restores, saves]
  simp at h
  simpa [outsF, Function.comp_def] using h
theorem s10 (k : Nat) (votes : List (List Nat)) (offs : List Nat) (hl : votes.length ≤ 1000) (hv : ∀ v ∈ votes, v.length ≤ 1000) : run (k + 1) 10 [tNN votes, tN offs] = .ret (tN (outsF votes offs)) [tNN votes, tN offs] := by
  have := e10_1 k votes offs hl hv
  rw [run_at (d := d10) rfl]
  simp [d10, runD_ap, this, biV, itemsF]
/-! the law's own -/
theorem el24_0 (k n p : Nat) (t : List Bool) (rows : List (List Bool)) (acc y : Val) (h : ∀ r ∈ rows, p < r.length) : ∃ z, evS (run k) G0 [0, 1, 2] K19.l24_0 [nV n, tB t, tBB rows, acc, nV p, .int 0, y] = .ok .nx [nV n, tB t, tBB rows, acc, nV p, nV (pl (rows.map fun r => bAt r p)), z] := by
  obtain ⟨e3, ⟨z, rfl⟩, h2⟩ := for_inv (C := run k) (G := G0) (io := [0, 1, 2]) (s0 := K19.l24_0) (e := [nV n, tB t, tBB rows, acc, nV p, .int 0, y]) rfl rows (fun x => tB x) (ps := [(tBB rows, .no)]) (e1 := [nV n, tB t, tBB rows, acc, nV p, .int 0, y]) (by simp [itemsF]) (fun i e' => ∃ z, e' = [nV n, tB t, tBB rows, acc, nV p, nV (pl ((rows.map fun r => bAt r p).take i)), z]) ⟨y, by simp [pl]⟩ fun i x e' hx ⟨y, he⟩ => by
    subst he
    refine ⟨[nV n, tB t, tBB rows, acc, nV p, nV (pl ((rows.map fun r => bAt r p).take i)), tB x], [nV n, tB t, tBB rows, acc, nV p, nV (pl ((rows.map fun r => bAt r p).take (i + 1))), tB x], by simp [slotsOf], ?_, tB x, rfl⟩
    rw [pl_take (rows.map fun r => bAt r p) i (bAt x p) (by simp [hx])]
    simp [b24_0, slotsOf, binV, Nd.binI, small, subB x p (h x (List.mem_of_getElem? hx)), bI_nat]
  refine ⟨z, ?_⟩
  rw [h2, List.take_of_length_le (by simp)]
  simp
theorem s24 (k n : Nat) (t : List Bool) (rows : List (List Bool)) (hn : n ≤ 1000) (h : ∀ r ∈ rows, n ≤ r.length) (ht : 2 ^ rows.length ≤ t.length) : run (k + 1) 24 [nV n, tB t, tBB rows] = .ret (tB (gatedF n t rows)) [nV n, tB t, tBB rows] := by
  rw [run_at (d := d24) rfl]
  obtain ⟨e3, ⟨x, y, z, rfl⟩, h2⟩ := for_inv (C := run k) (G := G0) (io := [0, 1, 2]) (s0 := l24_1) (e := [nV n, tB t, tBB rows, .lst .ow [], .und, .und, .und]) rfl (List.range n) nV (ps := []) (e1 := [nV n, tB t, tBB rows, .lst .ow [], .und, .und, .und]) (by simp [rangeL_nat, okR_small hn]) (fun i e' => ∃ x y z, e' = [nV n, tB t, tBB rows, .lst .ow (((gatedF n t rows).take i).map bV), x, y, z]) ⟨.und, .und, .und, by simp⟩ fun i p e' hx ⟨x, y, z, he⟩ => by
    subst he
    have hi : i < n := by simpa using (List.getElem?_eq_some_iff.mp hx).1
    have hp : p = i := by simpa [hi] using hx.symm
    subst hp
    obtain ⟨w, h1⟩ := el24_0 k n p t rows (.lst .ow (((gatedF n t rows).take p).map bV)) z fun r hr => Nat.lt_of_lt_of_le hi (h r hr)
    refine ⟨[nV n, tB t, tBB rows, .lst .ow (((gatedF n t rows).take p).map bV), nV p, y, z], [nV n, tB t, tBB rows, .lst .ow (((gatedF n t rows).take (p + 1)).map bV), nV p, nV (pl (rows.map fun r => bAt r p)), w], by simp [slotsOf], ?_, _, _, _, rfl⟩
    have h3 := subB t (pl (rows.map fun r => bAt r p)) (Nat.lt_of_lt_of_le (pl_lt _) (by simpa using ht))
    have h4 : (gatedF n t rows).take (p + 1) = (gatedF n t rows).take p ++ [bAt t (pl (rows.map fun r => bAt r p))] := by
      rw [List.take_succ]; simp [gatedF, hi]
    have h5 : min p (gatedF n t rows).length < sizeLine := by
      rw [gatedF_len]; simp [sizeLine]; omega
    rw [h4]
    rw [← List.length_take] at h5
    generalize (gatedF n t rows).take p = acc at h1 h5
    simp [b24_1, slotsOf, h1, h3, h5]
  simp only [List.length_range] at h2
  rw [List.take_of_length_le (by simp [gatedF])] at h2
  simp [d24, runD_ap, h2, biV, itemsF, sizeLine]
/-- places among those below n -/
theorem setF {l : List Bool} {p : Nat} {x : Bool} (h : p < l.length) : setV (.lst .ow (l.map bV)) (nV p) (bV x) = some (.lst .ow ((l.set p x).map bV)) := by
  have h1 : L2.ixN (l.map bV).length (p : Int) = some p := by
    unfold L2.ixN
    simp; omega
  unfold setV
  simp only [frz_int]
  rw [h1, List.map_set]
def setsF (b : List Bool) (prs : List (Nat × Bool)) : List Bool := prs.foldl (fun a q => a.set q.1 q.2) b
theorem setsF_len (prs : List (Nat × Bool)) : ∀ b, (setsF b prs).length = b.length := by
  induction prs with
  | nil => intro b; rfl
  | cons x l ih => intro b; show (setsF (b.set x.1 x.2) l).length = _; rw [ih, List.length_set]
theorem setsF_eq (prs : List (Nat × Bool)) : ∀ b, setsF b prs = saidF b prs := by
  induction prs with
  | nil => intro b; apply List.ext_getElem?; intro i; simp [setsF, saidF, sf]
  | cons x l ih =>
    intro b
    show setsF (b.set x.1 x.2) l = _
    rw [ih]
    apply List.ext_getElem?
    intro i
    simp only [saidF, List.getElem?_map, List.getElem?_zipIdx, List.getElem?_set, Option.map_map]
    by_cases h : x.1 = i
    · subst h
      by_cases hl : x.1 < b.length
      · simp [hl, sf]
      · simp [hl]
    · simp only [h, if_false, Function.comp_def]
      cases hb : b[i]? with
      | none => rfl
      | some v => simp [sf, h]
end K19

/-! K19t: the law's own defs. -/
namespace K19
open PySem Nd
theorem e25 (k : Nat) (b : List Bool) (prs : List (Nat × Bool)) (h : ∀ q ∈ prs, q.1 < b.length) : ∃ x y, evS (run k) G0 [0, 1] l25_0 [tB b, fV prs, .lst .ow (b.map bV), .und, .und] = .ok .nx [tB b, fV prs, .lst .ow ((saidF b prs).map bV), x, y] := by
  have h2 := (sub01 (tN (prs.map (·.1))) (tB (prs.map (·.2)))).1
  have h3 := (sub01 (tN (prs.map (·.1))) (tB (prs.map (·.2)))).2
  obtain ⟨e3, ⟨x, y, rfl⟩, h4⟩ := for_inv (C := run k) (G := G0) (io := [0, 1]) (s0 := l25_0) (e := [tB b, fV prs, .lst .ow (b.map bV), .und, .und]) rfl prs (fun q => .tup [nV q.1, bV q.2]) (ps := [(tN (prs.map (·.1)), .no), (tB (prs.map (·.2)), .no)]) (e1 := [tB b, fV prs, .lst .ow (b.map bV), .und, .und]) (by
      have h5 : zipL ((prs.map (·.1)).map nV) ((prs.map (·.2)).map bV) = prs.map fun q => .tup [nV q.1, bV q.2] := by rw [zipL_map, zip_map12]
      simp only [List.map_map] at h5
      simp [h2, h3, itemsF, h5]) (fun i e' => ∃ x y, e' = [tB b, fV prs, .lst .ow ((setsF b (prs.take i)).map bV), x, y]) ⟨.und, .und, by simp [setsF]⟩ fun i q e' hx ⟨x, y, he⟩ => by
    subst he
    refine ⟨[tB b, fV prs, .lst .ow ((setsF b (prs.take i)).map bV), nV q.1, bV q.2], [tB b, fV prs, .lst .ow ((setsF b (prs.take (i + 1))).map bV), nV q.1, bV q.2], by simp [slotsOf, tlen], ?_, _, _, rfl⟩
    have e1 : setsF b (prs.take (i + 1)) = (setsF b (prs.take i)).set q.1 q.2 := by
      rw [List.take_succ, hx]; simp [setsF]
    have e2 := setF (l := setsF b (prs.take i)) (p := q.1) (x := q.2) (by rw [setsF_len]; exact h q (List.mem_of_getElem? hx))
    rw [e1]
    generalize setsF b (prs.take i) = acc at e2
    simp [b25_0, slotsOf, e2]
  rw [List.take_length, setsF_eq] at h4
  exact ⟨x, y, by rw [h4]; simp⟩
theorem s25 (k : Nat) (b : List Bool) (prs : List (Nat × Bool)) (h : ∀ q ∈ prs, q.1 < b.length) : run (k + 1) 25 [tB b, fV prs] = .ret (tB (saidF b prs)) [tB b, fV prs] := by
  obtain ⟨x, y, h1⟩ := e25 k b prs h
  rw [run_at (d := d25) rfl]
  simp [d25, runD_ap, h1, biV, itemsF]
theorem e26_1 (k : Nat) (votes : List (List Nat)) (b : List Bool) (hl : votes.length ≤ 1000) (hv : ∀ v ∈ votes, v.length ≤ 1000 ∧ ∀ p ∈ v, p < b.length) : evE (run (k + 1)) G0 c26_1 [tNN votes, tB b, .und, .und] = .ok (.lst .ow ((votedF votes b).map bV)) [tNN votes, tB b, .und, .und] := by
  have h := comp_maps (C := run (k + 1)) (G := G0) (c0 := c26_1) (e := [tNN votes, tB b, .und, .und]) rfl (e1 := [tNN votes, tB b, .und, .und]) (ps := [(tNN votes, .no)]) votes (fun x => tN x) (fun v => bV (maj (gth b v))) (by simp [itemsF]) (by simp [sizeLine]; omega) fun q hq => by
    refine ⟨[tNN votes, tB b, tN q, .und], ?_⟩
    obtain ⟨a1, a2⟩ := hv q hq
    have h1 := e8_0 (k + 1) votes b q a1 a2
    have h2 := s22l k (gth b q)
    simp [turnM, wipes, show c26_0 = c8_0 from rfl, h1, h2, restores, saves]
  simp at h
  simpa [votedF, Function.comp_def] using h
theorem s26 (k : Nat) (votes : List (List Nat)) (b : List Bool) (hl : votes.length ≤ 1000) (hv : ∀ v ∈ votes, v.length ≤ 1000 ∧ ∀ p ∈ v, p < b.length) : run (k + 2) 26 [tNN votes, tB b] = .ret (tB (votedF votes b)) [tNN votes, tB b] := by
  have := e26_1 k votes b hl hv
  rw [run_at (d := d26) rfl]
  simp [d26, runD_ap, this, biV, itemsF]
/-- failures of n -/
def FailOk (n : Nat) (prs : List (Nat × Bool)) : Prop := prs.length ≤ 1000 ∧ (∀ q ∈ prs, q.1 < n) ∧ (prs.map (·.1)).Pairwise (· < ·)
theorem s27 (k : Nat) (votes : List (List Nat)) (t : List Bool) (rows : List (List Bool)) (g v : List (Nat × Bool)) (hn : votes.length ≤ 1000) (h : ∀ r ∈ rows, votes.length ≤ r.length) (ht : 2 ^ rows.length ≤ t.length) (hg : FailOk votes.length g) (hv : FailOk votes.length v) (ho : VotesOk votes.length votes) : run (k + 3) 27 [tNN votes, tB t, tBB rows, fV g, fV v] = .ret (tB (layerF votes t rows g v)) [tNN votes, tB t, tBB rows, fV g, fV v] := by
  have h1 := s24 (k + 1) votes.length t rows hn h ht
  have h2 := s25 (k + 1) (gatedF votes.length t rows) g (by rw [gatedF_len]; exact hg.2.1)
  have h3 := s26 k votes (saidF (gatedF votes.length t rows) g) hn fun w hw => by
    rw [saidF_len, gatedF_len]
    exact ho.2 w hw
  have h4 := s25 (k + 1) (votedF votes (saidF (gatedF votes.length t rows) g)) v (by rw [votedF_len]; exact hv.2.1)
  rw [run_at (d := d27) rfl]
  simp [d27, runD_ap, biV, h1, h2, h3, h4, layerF]
theorem cmpNin (p : Nat) (l : List Nat) : cmpV .nin (nV p) (.tup (l.map nV)) = some (.bl (!decide (p ∈ l))) := by
  simp [cmpV, inT]
theorem cmpInO (p : Nat) (l : List Nat) : cmpV .inn (nV p) (.lst .ow (l.map nV)) = some (.bl (decide (p ∈ l))) := by
  simp [cmpV, inO]
theorem e28_0 (k : Nat) (a f : Val) (offs : List Nat) (v : List Nat) (j : Nat) (hv : v.length ≤ 1000) : evE (run k) G0 c28_0 [a, tN offs, f, nV j, tN v, .und] = .ok (.lst .ow ((v.filter fun p => decide (p ∈ offs)).map nV)) [a, tN offs, f, nV j, tN v, .und] := by
  have h := compI_maps (C := run k) (G := G0) (c0 := c28_0) (e := [a, tN offs, f, nV j, tN v, .und]) rfl (e1 := [a, tN offs, f, nV j, tN v, .und]) (ps := [(tN v, .no)]) v nV nV (fun p => decide (p ∈ offs)) (by simp [itemsF]) (by simp [sizeLine]; omega) fun q hq => by
    refine ⟨[a, tN offs, f, nV j, tN v, nV q], ?_⟩
    by_cases hb : q ∈ offs <;> simp [turnM, wipes, cmpIn, hb, truV, restores, saves]
  simpa using h
theorem e28_1 (k : Nat) (a f : Val) (offs : List Nat) (v : List Nat) (j : Nat) (hv : v.length ≤ 1000) : evE (run k) G0 c28_1 [a, tN offs, f, nV j, tN v, .und] = .ok (.lst .ow ((v.filter fun p => !decide (p ∈ offs)).map nV)) [a, tN offs, f, nV j, tN v, .und] := by
  have h := compI_maps (C := run k) (G := G0) (c0 := c28_1) (e := [a, tN offs, f, nV j, tN v, .und]) rfl (e1 := [a, tN offs, f, nV j, tN v, .und]) (ps := [(tN v, .no)]) v nV nV (fun p => !decide (p ∈ offs)) (by simp [itemsF]) (by simp [sizeLine]; omega) fun q hq => by
    refine ⟨[a, tN offs, f, nV j, tN v, nV q], ?_⟩
    by_cases hb : q ∈ offs <;> simp [turnM, wipes, cmpNin, hb, truV, restores, saves]
  simpa using h
theorem filt_two (v : List Nat) (p : Nat → Bool) : (v.filter p).length + (v.filter fun x => !p x).length = v.length := by
  induction v with
  | nil => rfl
  | cons a l ih => cases h : p a <;> simp [h] <;> omega
theorem outs_take (votes : List (List Nat)) (offs : List Nat) (i : Nat) (v : List Nat) (h : votes[i]? = some v) : outsF (votes.take (i + 1)) offs = outsF (votes.take i) offs ++ if v.length < 2 * (v.filter fun p => decide (p ∈ offs)).length then [i] else [] := by
  have hi : i < votes.length := (List.getElem?_eq_some_iff.mp h).1
  unfold outsF
  rw [List.take_succ, h]
  simp only [Option.toList_some, List.zipIdx_append, List.filter_append, List.map_append, List.zipIdx_cons, List.zipIdx_nil, List.length_take, Nat.min_eq_left (Nat.le_of_lt hi), Nat.zero_add]
  by_cases hc : v.length < 2 * (v.filter fun p => decide (p ∈ offs)).length <;> simp [hc]
theorem s28 (k : Nat) (votes : List (List Nat)) (offs : List Nat) (hl : votes.length ≤ 1000) (hv : ∀ v ∈ votes, v.length ≤ 1000) : run (k + 1) 28 [tNN votes, tN offs] = .ret (tN (outsF votes offs)) [tNN votes, tN offs] := by
  rw [run_at (d := d28) rfl]
  obtain ⟨e3, ⟨x, y, rfl⟩, h2⟩ := for_inv (C := run k) (G := G0) (io := [0, 1]) (s0 := l28_0) (e := [tNN votes, tN offs, .lst .ow [], .und, .und, .und]) rfl votes.zipIdx (fun q => .tup [nV q.2, tN q.1]) (ps := [(tNN votes, .no)]) (e1 := [tNN votes, tN offs, .lst .ow [], .und, .und, .und]) (by simp [itemsF, enumL_map]) (fun i e' => ∃ x y, e' = [tNN votes, tN offs, .lst .ow ((outsF (votes.take i) offs).map nV), x, y, .und]) ⟨.und, .und, by simp [outsF]⟩ fun i q e' hx ⟨x, y, he⟩ => by
    subst he
    simp only [List.getElem?_zipIdx, Option.map_eq_some_iff] at hx
    obtain ⟨v, hv', rfl⟩ := hx
    have hvl := hv v (List.mem_of_getElem? hv')
    have hi : i < votes.length := (List.getElem?_eq_some_iff.mp hv').1
    have hlen : (outsF (votes.take i) offs).length < sizeLine := by
      have h1 : (outsF (votes.take i) offs).length ≤ (votes.take i).zipIdx.length := by
        unfold outsF; rw [List.length_map]; exact List.length_filter_le _ _
      simp at h1
      simp only [sizeLine]; omega
    have hO := outs_take votes offs i v hv'
    generalize outsF (votes.take i) offs = acc at *
    have h0 := e28_0 k (tNN votes) (.lst .ow (acc.map nV)) offs v i hvl
    have h1 := e28_1 k (tNN votes) (.lst .ow (acc.map nV)) offs v i hvl
    have h2 := filt_two v fun p => decide (p ∈ offs)
    refine ⟨[tNN votes, tN offs, .lst .ow (acc.map nV), nV i, tN v, .und], [tNN votes, tN offs, .lst .ow ((outsF (votes.take (i + 1)) offs).map nV), nV i, tN v, .und], by simp [slotsOf, tlen], ?_, _, _, rfl⟩
    rw [hO]
    by_cases hc : v.length < 2 * (v.filter fun p => decide (p ∈ offs)).length
    · have hc' : ((v.filter fun p => !decide (p ∈ offs)).length : Int) < ((v.filter fun p => decide (p ∈ offs)).length : Int) := by omega
      rw [if_pos hc]
      simp [b28_0, slotsOf, h0, h1, biV, cmpV, cmpI, truV, hc', hlen]
    · have hc' : ¬ ((v.filter fun p => !decide (p ∈ offs)).length : Int) < ((v.filter fun p => decide (p ∈ offs)).length : Int) := by omega
      rw [if_neg hc]
      simp [b28_0, slotsOf, h0, h1, biV, cmpV, cmpI, truV, hc', hlen]
  rw [List.length_zipIdx, List.take_length] at h2
  simp [d28, runD_ap, h2, biV, itemsF, sizeLine]
end K19

/-! K19u: what the law draws. -/
namespace K19
open PySem Nd
structure Bag where
  cells : List Nat
  dig : Nat
  mix : Nat
abbrev bagV (b : Bag) : Val := .lst .ne [.lst .ow (b.cells.map nV), nV b.dig, nV b.mix]
theorem tk0 (b : Bag) (r : List Val) : takeI 0 (.int 0) (bagV b :: r) = .ok (.lst .ow (b.cells.map nV), .it 0 [.lst .ow (b.cells.map nV), nV b.dig, nV b.mix] 0) (.und :: r) := Eq.trans rfl rfl
theorem tk1 (b : Bag) (r : List Val) : takeI 0 (.int 1) (bagV b :: r) = .ok (nV b.dig, .no) (bagV b :: r) := Eq.trans rfl rfl
theorem tk2 (b : Bag) (r : List Val) : takeI 0 (.int 2) (bagV b :: r) = .ok (nV b.mix, .no) (bagV b :: r) := Eq.trans rfl rfl
theorem st1 (c d m x : Val) (h : frz x = some x) : setV (.lst .ne [c, d, m]) (.int 1) x = some (.lst .ne [c, x, m]) := Eq.trans rfl rfl
theorem st2 (c d m x : Val) (h : frz x = some x) : setV (.lst .ne [c, d, m]) (.int 2) x = some (.lst .ne [c, d, x]) := Eq.trans rfl rfl
theorem eqNil (l : List Nat) : cmpV .eq (.lst .ow (l.map nV)) (.lst .ow []) = some (.bl (decide (l = []))) := by
  have hd : ∀ l : List Nat, datas (l.map nV) = some (l.map fun n : Nat => PyData.int (n : Int)) := by
    intro l
    induction l with
    | nil => rfl
    | cons a l ih => simp [datas, data, ih]
  have hc : ∀ l : List Nat, PyData.canLayAll0 (l.map fun n : Nat => PyData.int (n : Int)) = true := by
    intro l
    induction l with
    | nil => rfl
    | cons a l ih => simpa [PyData.canLayAll0, PyData.canLay0] using ih
  have hp : ∀ l : List Nat, PyData.depthAll (l.map fun n : Nat => PyData.int (n : Int)) = 0 := by
    intro l
    induction l with
    | nil => rfl
    | cons a l ih => simpa [PyData.depthAll, PyData.depth] using ih
  have hs : SeqAt.shaped (.list (l.map fun n : Nat => PyData.int (n : Int))) = true := by
    simp [SeqAt.shaped, PyData.canLay0, hc, PyData.depth, hp]
  have hs0 : SeqAt.shaped (.list []) = true := by decide
  show (eqV _ _).map Val.bl = _
  have : eqV (.lst .ow (l.map nV)) (.lst .ow []) = some (decide (l = [])) := by
    unfold eqV
    simp only [data, hd, datas, Option.map_some, hs, hs0, Bool.and_self, if_true]
    cases l <;> simp [PyData.eqv, PyData.eqvAll]
  rw [this]; rfl
@[simp] theorem small_mod (a : Int) : small (a % 2147483647) = true := by
  unfold small
  rw [decide_eq_true_eq]
  omega
theorem s12 (k : Nat) (b : Bag) (M : Int) (h0 : 0 < M) (hm : M < 1073741824) : ∃ (r : Nat) (b' : Bag), run (k + 1) 12 [bagV b, .int M] = .ret (nV r) [bagV b', .int M] ∧ (r : Int) < M := by
  obtain ⟨m, rfl⟩ := Int.eq_ofNat_of_zero_le (Int.le_of_lt h0)
  have h0' : 0 < m := by omega
  rw [run_at (d := d12) rfl]
  obtain ⟨e3, ⟨b, x, y, rfl⟩, h2⟩ := for_brk (C := run k) (G := G0) (io := [0, 1]) (s0 := l12_0) (e := [bagV b, nV m, .und, .und, .und]) rfl (List.range 64) nV (ps := []) (e1 := [bagV b, nV m, .und, .und, .und]) (by
      have := rangeL_nat 64
      simp at this
      simp [this, okR]) (fun e' => ∃ b x y, e' = [bagV b, nV m, x, y, .und]) (fun e' => ∃ b x y, e' = [bagV b, nV m, x, y, .und]) ⟨b, .und, .und, rfl⟩ (fun p e' hx ⟨b, x, y, he⟩ => by
    subst he
    refine ⟨[bagV b, nV m, nV p, y, .und], ?_⟩
    by_cases h1 : 0 < b.dig
    · exact ⟨[bagV b, nV m, nV p, y, .und], by simp [slotsOf], .inr ⟨by simp [b12_0, slotsOf, tk1, cmpV, cmpI, truV, h1], b, _, _, rfl⟩⟩
    · by_cases h3 : b.cells = []
      · have e1 : cmpV .eq (.lst .ow (b.cells.map nV)) (.lst .ow []) = some (.bl true) := by rw [eqNil]; simp [h3]
        have e3 : cmpV .gt (nV b.dig) (.int 0) = some (.bl false) := by simp [cmpV, cmpI, h1]
        exact ⟨[bagV b, nV m, nV p, y, .und], by simp [slotsOf], .inr ⟨by simp [b12_0, slotsOf, tk1, tk0, truV, e1, e3], b, _, _, rfl⟩⟩
      · obtain ⟨c, hc⟩ : ∃ c, b.cells[b.cells.length - 1]? = some c := ⟨b.cells[b.cells.length - 1]'(by have := List.length_pos_iff.mpr h3; omega), List.getElem?_eq_getElem _⟩
        have e1 : cmpV .eq (.lst .ow (b.cells.map nV)) (.lst .ow []) = some (.bl false) := by rw [eqNil]; simp [h3]
        by_cases h4 : 1000000000 < c
        · have h4' : (1000000000 : Int) < (c : Int) := by omega
          refine ⟨[bagV ⟨b.cells.dropLast, c, b.mix⟩, nV m, nV p, nV c, .und], by simp [slotsOf], .inl ⟨?_, _, _, _, rfl⟩⟩
          have e2 : cmpV .gt (nV c) (.int 1000000000) = some (.bl true) := by simp [cmpV, cmpI, h4']
          have e3 : cmpV .gt (nV b.dig) (.int 0) = some (.bl false) := by simp [cmpV, cmpI, h1]
          simp [b12_0, slotsOf, tk1, tk0, e1, e2, e3, truV, hc, binV, Nd.binI, st1, List.map_dropLast]
        · have h4' : ¬ (1000000000 : Int) < (c : Int) := by omega
          refine ⟨[bagV ⟨b.cells.dropLast, 0, b.mix⟩, nV m, nV p, nV c, .und], by simp [slotsOf], .inl ⟨?_, _, _, _, rfl⟩⟩
          have e2 : cmpV .gt (nV c) (.int 1000000000) = some (.bl false) := by simp [cmpV, cmpI, h4']
          have e3 : cmpV .gt (nV b.dig) (.int 0) = some (.bl false) := by simp [cmpV, cmpI, h1]
          simp [b12_0, slotsOf, tk1, tk0, e1, e2, e3, truV, hc, binV, Nd.binI, st1, List.map_dropLast]) fun e' h => h
  by_cases h1 : 0 < b.dig
  · have e3 : cmpV .gt (nV b.dig) (.int 0) = some (.bl true) := by simp [cmpV, cmpI, h1]
    have e4 : Nd.binI .mod (b.dig : Int) (m : Int) = some ((b.dig % m : Nat) : Int) := by simp [Nd.binI, h0']
    have e5 : Nd.binI .fdiv (b.dig : Int) (m : Int) = some ((b.dig / m : Nat) : Int) := by simp [Nd.binI, h0']; omega
    refine ⟨b.dig % m, ⟨b.cells, b.dig / m, b.mix⟩, ?_, by have := Nat.mod_lt b.dig h0'; omega⟩
    generalize b.dig % m = u at *
    generalize b.dig / m = v at *
    simp [d12, runD_ap, h2, tk1, e3, truV, binV, e4, e5, st1]
  · have e3 : cmpV .gt (nV b.dig) (.int 0) = some (.bl false) := by simp [cmpV, cmpI, h1]
    have q1 : Nd.binI .mul (b.mix : Int) 48271 = some ((b.mix * 48271 : Nat) : Int) := by simp [Nd.binI, small]
    have q2 : Nd.binI .add ((b.mix * 48271 : Nat) : Int) 11 = some ((b.mix * 48271 + 11 : Nat) : Int) := by simp [Nd.binI]
    have q3 : Nd.binI .mod ((b.mix * 48271 + 11 : Nat) : Int) 2147483647 = some (((b.mix * 48271 + 11) % 2147483647 : Nat) : Int) := by simp [Nd.binI]
    generalize hw : (b.mix * 48271 + 11) % 2147483647 = w at q3
    have hw' : w < 2147483647 := by rw [← hw]; exact Nat.mod_lt _ (by decide)
    have hsm : small (w : Int) = true := by unfold small; rw [decide_eq_true_eq]; omega
    have q4 : Nd.binI .mul (w : Int) (w : Int) = some ((w * w : Nat) : Int) := by simp [Nd.binI, hsm]
    have q5 : Nd.binI .mod ((w * w : Nat) : Int) 2147483629 = some ((w * w % 2147483629 : Nat) : Int) := by simp [Nd.binI]
    have q6 : Nd.binI .fdiv ((w * w % 2147483629 : Nat) : Int) 7 = some ((w * w % 2147483629 / 7 : Nat) : Int) := by simp [Nd.binI]
    have q7 : Nd.binI .mod ((w * w % 2147483629 / 7 : Nat) : Int) (m : Int) = some ((w * w % 2147483629 / 7 % m : Nat) : Int) := by simp [Nd.binI, h0']
    refine ⟨w * w % 2147483629 / 7 % m, ⟨b.cells, b.dig, w⟩, ?_, by have := Nat.mod_lt (w * w % 2147483629 / 7) h0'; omega⟩
    generalize b.mix * 48271 + 11 = v1 at *
    generalize b.mix * 48271 = v0 at *
    generalize w * w % 2147483629 / 7 % m = v4 at *
    generalize w * w % 2147483629 / 7 = v3 at *
    generalize w * w % 2147483629 = v2 at *
    generalize w * w = v5 at *
    simp [d12, runD_ap, h2, tk1, tk2, e3, truV, binV, q1, q2, q3, q4, q5, q6, q7, st2]
    have t2 := tk2 ⟨b.cells, b.dig, w⟩ [nV m, x, y, .und]
    simp at t2
    simp [t2, binV, q4, q5, q6, q7]
end K19

/-! K19v: what the law draws: bits, places, votes, tables. -/
namespace K19
open PySem Nd
/-! sorting -/
def insN (i : Nat) : List Nat → List Nat
  | [] => [i]
  | j :: r => if i ≤ j then i :: j :: r else j :: insN i r
def sortN : List Nat → List Nat
  | [] => []
  | i :: r => insN i (sortN r)
theorem insI_cast (i : Nat) (l : List Nat) : insertI (i : Int) (l.map fun n : Nat => (n : Int)) = (insN i l).map fun n : Nat => (n : Int) := by
  induction l with
  | nil => rfl
  | cons a l ih =>
    by_cases h : i ≤ a
    · have h' : (i : Int) ≤ (a : Int) := by omega
      simp [insertI, insN, h, h']
    · have h' : ¬ (i : Int) ≤ (a : Int) := by omega
      simp [insertI, insN, h, h', ih]
theorem sortI_cast (l : List Nat) : sortI (l.map fun n : Nat => (n : Int)) = (sortN l).map fun n : Nat => (n : Int) := by
  induction l with
  | nil => rfl
  | cons a l ih => simp [sortI, sortN, ih, insI_cast]
theorem sortV (l : List Nat) : biV .sorted [.lst .ow (l.map nV)] = some (.lst .ow ((sortN l).map nV)) := by
  show (intsL (l.map nV)).map _ = _
  rw [intsL_maps, Option.map_some, sortI_cast, List.map_map]
  rfl
theorem insN_perm (i : Nat) (l : List Nat) : (insN i l).Perm (i :: l) := by
  induction l with
  | nil => exact List.Perm.refl _
  | cons a l ih =>
    unfold insN
    split
    · exact List.Perm.refl _
    · exact (List.Perm.cons a ih).trans (List.Perm.swap i a l)
theorem sortN_perm (l : List Nat) : (sortN l).Perm l := by
  induction l with
  | nil => exact List.Perm.refl _
  | cons a l ih => exact (insN_perm a (sortN l)).trans (List.Perm.cons a ih)
theorem insN_sorted (i : Nat) (l : List Nat) (h : l.Pairwise (· ≤ ·)) : (insN i l).Pairwise (· ≤ ·) := by
  induction l with
  | nil => simp [insN]
  | cons a l ih =>
    rw [List.pairwise_cons] at h
    unfold insN
    split
    · rename_i hi
      rw [List.pairwise_cons, List.pairwise_cons]
      refine ⟨fun x hx => ?_, h⟩
      rcases List.mem_cons.mp hx with rfl | hx
      · exact hi
      · exact Nat.le_trans hi (h.1 x hx)
    · rename_i hi
      rw [List.pairwise_cons]
      refine ⟨fun x hx => ?_, ih h.2⟩
      rcases List.mem_cons.mp ((insN_perm i l).mem_iff.mp hx) with rfl | hx
      · omega
      · exact h.1 x hx
theorem sortN_sorted (l : List Nat) : (sortN l).Pairwise (· ≤ ·) := by
  induction l with
  | nil => simp [sortN]
  | cons a l ih => exact insN_sorted a _ ih
/-- ascending places below n -/
def Asc (n : Nat) (l : List Nat) : Prop := l.Pairwise (· < ·) ∧ ∀ p ∈ l, p < n
theorem asc_sort (n : Nat) (l r : List Nat) (h : (l ++ r).Perm (List.range n)) : Asc n (sortN l) := by
  have h1 : (l ++ r).Nodup := h.symm.nodup List.nodup_range
  have h2 : l.Nodup := (List.nodup_append.mp h1).1
  have h3 : (sortN l).Nodup := (sortN_perm l).symm.nodup h2
  refine ⟨?_, fun p hp => ?_⟩
  · have := (sortN_sorted l).and h3
    exact this.imp fun ⟨a, b⟩ => Nat.lt_of_le_of_ne a b
  · have : p ∈ l ++ r := List.mem_append_left _ ((sortN_perm l).mem_iff.mp hp)
    simpa using h.mem_iff.mp this
theorem Asc.len {n : Nat} {l : List Nat} (h : Asc n l) : l.length ≤ n := by
  have h1 : l.Nodup := h.1.imp fun h => Nat.ne_of_lt h
  have := List.Nodup.length_le_of_subset h1 (l₂ := List.range n) fun p hp => by simpa using h.2 p hp
  simpa using this
theorem asc_range (n : Nat) : Asc n (List.range n) := ⟨List.pairwise_lt_range, fun p h => by simpa using h⟩
/-! picks -/
theorem eraseMap {α β : Type} (f : α → β) : ∀ (l : List α) (i : Nat), (l.map f).eraseIdx i = (l.eraseIdx i).map f
  | [], _ => by simp
  | a :: l, 0 => by simp
  | a :: l, i + 1 => by simp [eraseMap f l i]
theorem erasePerm : ∀ (l : List Nat) (i : Nat), i < l.length → (l.getD i 0 :: l.eraseIdx i).Perm l
  | a :: l, 0, _ => by simp
  | a :: l, i + 1, h => by
    have := erasePerm l i (by simpa using h)
    simp only [List.getD_cons_succ, List.eraseIdx_cons_succ]
    exact (List.Perm.swap _ _ _).trans (List.Perm.cons a this)
theorem pop1N (l : List Nat) (i : Nat) (h : i < l.length) (hl : l.length ≤ 1000) : meV .pop1 (.lst .ow (l.map nV)) [nV i] = some (nV (l.getD i 0), .lst .ow ((l.eraseIdx i).map nV)) := by
  have h1 : L2.ixN (l.map nV).length (i : Int) = some i := by
    unfold L2.ixN
    simp; omega
  rw [meV_pop1, if_pos (by omega), h1]
  simp [h, eraseMap]
theorem s12b (k : Nat) (b : Bag) : ∃ (x : Bool) (b' : Bag), run (k + 1) 12 [bagV b, .int 2] = .ret (bV x) [bagV b', .int 2] := by
  obtain ⟨r, b', h1, h2⟩ := s12 k b 2 (by decide) (by decide)
  have : r = 0 ∨ r = 1 := by omega
  rcases this with rfl | rfl
  · exact ⟨false, b', h1⟩
  · exact ⟨true, b', h1⟩
theorem s13 (k : Nat) (b : Bag) (xs : List Val) (h : xs ≠ []) (hl : xs.length ≤ 1000) : ∃ x ∈ xs, ∃ b', run (k + 2) 13 [bagV b, .lst .ow xs] = .ret x [bagV b', .lst .ow xs] := by
  have hp := List.length_pos_iff.mpr h
  obtain ⟨r, b', h1, h2⟩ := s12 k b xs.length (by omega) (by omega)
  have hr : r < xs.length := by omega
  refine ⟨xs[r], List.getElem_mem hr, b', ?_⟩
  have h3 : subV (.lst .ow xs) (nV r) = some xs[r] := by
    show L2.atI _ _ = _
    rw [atI_nat, List.getElem?_eq_getElem hr]
  rw [run_at (d := d13) rfl]
  simp [d13, runD_ap, biV, h1, h3]
theorem e15_0 (k n : Nat) (b : Bag) (w t : Val) (hn : n ≤ 1000) : ∃ (l : List Bool) (b' : Bag), evE (run (k + 1)) G0 c15_0 [bagV b, nV n, w, t, .und, .und, .und] = .ok (.lst .ow (l.map bV)) [bagV b', nV n, w, t, .und, .und, .und] ∧ l.length = n := by
  obtain ⟨l, b', h1, h2, _⟩ := comp_st (C := run (k + 1)) (G := G0) (c0 := c15_0) (e := [bagV b, nV n, w, t, .und, .und, .und]) rfl (ps := []) (List.range n) nV (fun b => [bagV b, nV n, w, t, .und, .und, .und]) b bV (fun _ => True) (by simp [rangeL_nat, okR_small hn]) (by simp [sizeLine]; omega) (fun _ => rfl) fun x b hx => by
    obtain ⟨y, b', h1⟩ := s12b k b
    refine ⟨y, b', [bagV b', nV n, w, t, .und, .und, nV x], ?_⟩
    simp [turnM, wipes, h1, restores, saves]
  exact ⟨l, b', by rw [h1]; simp, by simpa using h2⟩
theorem e15_1 (k n way : Nat) (b : Bag) (t : Bool) (hn : n ≤ 1000) (h0 : 0 < n) : ∃ (l : List Bool) (b' : Bag) (y : Val), evS (run (k + 1)) G0 [0, 1] l15_0 [bagV b, nV n, nV way, bV t, .lst .ow ((List.replicate n t).map bV), .und, .und] = .ok .nx [bagV b', nV n, nV way, bV t, .lst .ow (l.map bV), y, .und] ∧ l.length = n := by
  have hI : ∃ (c : Nat) (b' : Bag), evI (run (k + 1)) G0 (.rng (.ite (.cmp .eq (.mv 2) (.v (.int 2))) (.bin .add (.v (.bin .fdiv (.mv 1) (.v (.int 2)))) (.v (.call 12 (.cons (.mv 0) (.cons (.v (.int 2)) .nil))))) (.call 12 (.cons (.mv 0) (.cons (.v (.int 3)) .nil))))) [bagV b, nV n, nV way, bV t, .lst .ow ((List.replicate n t).map bV), .und, .und] = .ok ((List.range c).map nV, []) [bagV b', nV n, nV way, bV t, .lst .ow ((List.replicate n t).map bV), .und, .und] := by
    generalize (List.replicate n t).map bV = L
    by_cases hw : way = 2
    · obtain ⟨x, b', h1⟩ := s12b k b
      refine ⟨n / 2 + x.toNat, b', ?_⟩
      have e1 : cmpV .eq (nV way) (.int 2) = some (.bl true) := by simp [cmpV, eqV, hw]
      have e2 : Nd.binI .fdiv (n : Int) 2 = some ((n / 2 : Nat) : Int) := by simp [Nd.binI]
      have e3 : Nd.binI .add ((n / 2 : Nat) : Int) (bI x) = some ((n / 2 + x.toNat : Nat) : Int) := by simp [Nd.binI, bI_nat]
      have hc : n / 2 + x.toNat ≤ 1000 := by cases x <;> simp <;> omega
      generalize n / 2 = u at *
      generalize u + x.toNat = c at *
      simp [e1, truV, binV, e2, e3, h1, rangeL_nat, okR_small hc]
    · obtain ⟨r, b', h1, h2⟩ := s12 k b 3 (by decide) (by decide)
      have e1 : cmpV .eq (nV way) (.int 2) = some (.bl false) := by
        have : ¬ (way : Int) = 2 := by omega
        simp [cmpV, eqV, this]
      refine ⟨r, b', ?_⟩
      simp [e1, truV, h1, rangeL_nat, okR_small (show r ≤ 1000 by omega)]
  obtain ⟨c, b1, hI⟩ := hI
  obtain ⟨e3, ⟨b', l, y, rfl, hl⟩, h4⟩ := for_inv (C := run (k + 1)) (G := G0) (io := [0, 1]) (s0 := l15_0) rfl (List.range c) nV hI (fun i e' => ∃ (b' : Bag) (l : List Bool) (y : Val), e' = [bagV b', nV n, nV way, bV t, .lst .ow (l.map bV), y, .und] ∧ l.length = n) ⟨b1, _, _, rfl, by simp⟩ fun i p e' hx ⟨b', l, y, he, hl⟩ => by
    subst he
    have hidx : ∃ (q : Nat) (b2 : Bag), evE (run (k + 1)) G0 (.ite (.cmp .eq (.mv 2) (.v (.int 3))) (.call 12 (.cons (.mv 0) (.cons (.mv 1) .nil))) (.bin .mod (.v (.bin .mul (.mv 5) (.v (.int 2)))) (.mv 1))) [bagV b', nV n, nV way, bV t, .und, nV p, .und] = .ok (nV q) [bagV b2, nV n, nV way, bV t, .und, nV p, .und] ∧ q < n := by
      by_cases hw : way = 3
      · obtain ⟨r, b2, h1, h2⟩ := s12 k b' n (by omega) (by omega)
        have e1 : cmpV .eq (nV way) (.int 3) = some (.bl true) := by simp [cmpV, eqV, hw]
        exact ⟨r, b2, by simp [e1, truV, h1], by omega⟩
      · have e1 : cmpV .eq (nV way) (.int 3) = some (.bl false) := by
          have : ¬ (way : Int) = 3 := by omega
          simp [cmpV, eqV, this]
        have e2 : Nd.binI .mul (p : Int) 2 = some ((p * 2 : Nat) : Int) := by simp [Nd.binI, small]
        have e3 : Nd.binI .mod ((p * 2 : Nat) : Int) (n : Int) = some ((p * 2 % n : Nat) : Int) := by simp [Nd.binI, h0]
        have e4 : p * 2 % n < n := Nat.mod_lt _ h0
        refine ⟨p * 2 % n, b', ?_, e4⟩
        generalize p * 2 % n = q at *
        generalize p * 2 = u at *
        simp [e1, truV, binV, e2, e3]
    obtain ⟨q, b2, h1, h2⟩ := hidx
    refine ⟨[bagV b', nV n, nV way, bV t, .lst .ow (l.map bV), nV p, .und], [bagV b2, nV n, nV way, bV t, .lst .ow ((l.set q (!t)).map bV), nV p, .und], by simp [slotsOf], ?_, _, _, _, rfl, by simpa using hl⟩
    have h3 := setF (l := l) (p := q) (x := !t) (by omega)
    simp [b15_0, slotsOf, binV, Nd.binI, -evE_14, h1, h3]
  exact ⟨l, b', y, by rw [h4]; simp, hl⟩
end K19

/-! K19w: what the law draws, on. -/
namespace K19
open PySem Nd
theorem cmpEqN (a b : Nat) : cmpV .eq (nV a) (nV b) = some (.bl (decide (a = b))) := by
  have : ((a : Int) = (b : Int)) ↔ a = b := by omega
  simp [cmpV, eqV, this]
theorem cmpEq0 (a : Nat) : cmpV .eq (nV a) (.int 0) = some (.bl (decide (a = 0))) := by
  simp [cmpV, eqV]
theorem cmpGeN (a b : Nat) : cmpV .ge (nV a) (nV b) = some (.bl (decide (b ≤ a))) := by
  simp [cmpV, cmpI]
theorem rgT (t : Bool) (n : Nat) (hn : n ≤ 1000) : rgV' t (.int 0) (nV n) = some (if t then tN (List.range n) else .lst .ow ((List.range n).map nV)) := by
  have h0 : okR 0 = true := by decide
  have h1 : ((n : Int) - 0 ≤ 16777216) := by omega
  simp only [rgV']
  rw [h0, okR_small hn, decide_eq_true h1, rangeL_nat]
  rfl
theorem s15 (k n : Nat) (b : Bag) (hn : n ≤ 1000) (h0 : 0 < n) : ∃ (l : List Bool) (b' : Bag), run (k + 2) 15 [bagV b, nV n] = .ret (tB l) [bagV b', nV n] ∧ l.length = n := by
  obtain ⟨way, b1, h1, hw⟩ := s12 k b 4 (by decide) (by decide)
  obtain ⟨t, b2, h2⟩ := s12b k b1
  rw [run_at (d := d15) rfl]
  by_cases hlt : way < 2
  · have e1 : cmpV .lt (nV way) (.int 2) = some (.bl true) := by
      have : (way : Int) < 2 := by omega
      simp [cmpV, cmpI, this]
    obtain ⟨l, b3, h3, hl⟩ := e15_0 k n b2 (nV way) (bV t) hn
    refine ⟨l, b3, ?_, hl⟩
    simp [d15, runD_ap, h1, h2, sets, e1, truV, h3, biV, itemsF]
  · have e1 : cmpV .lt (nV way) (.int 2) = some (.bl false) := by
      have : ¬ (way : Int) < 2 := by omega
      simp [cmpV, cmpI, this]
    obtain ⟨l, b3, y, h3, hl⟩ := e15_1 k n way b2 t hn h0
    refine ⟨l, b3, ?_, hl⟩
    have e2 : binV .mul (.lst .ow [bV t]) (nV n) = some (.lst .ow ((List.replicate n t).map bV)) := by
      have h4 : (n : Int) < 2 ^ 62 ∧ -(2 ^ 62) < (n : Int) ∧ [bV t].length * (n : Int).toNat ≤ sizeLine := by
        refine ⟨by omega, by omega, ?_⟩
        simp [sizeLine]; omega
      simp only [binV]
      rw [if_pos h4]
      simp [List.map_replicate]
    generalize (List.replicate n t).map bV = L at *
    simp [d15, runD_ap, h1, h2, sets, e1, e2, h3, sizeLine]
/-- n places, one after another taken out of the rest -/
theorem loopPop {io : List Nat} {s0 : Sm} {it : Wk} {b : Sms} (k n c : Nat) (x : Val) (b0 : Bag) (e : List Val) (hs0 : s0 = .forS (.name 5) it b) (hb : b = b16_0) (hio : io = [0, 1] ∨ io = [0, 1, 2]) (h5 : (io.contains 5) = false) (hI : evI (run (k + 1)) G0 it e = .ok ((List.range c).map nV, []) [bagV b0, nV n, x, .lst .ow ((List.range n).map nV), .lst .ow [], .und]) (hx : x ≠ .und) (hcn : c ≤ n) (hn : n ≤ 1000) :
    ∃ (b' : Bag) (found rest : List Nat) (y : Val), evS (run (k + 1)) G0 io s0 e = .ok .nx [bagV b', nV n, x, .lst .ow (rest.map nV), .lst .ow (found.map nV), y] ∧ (found ++ rest).Perm (List.range n) ∧ found.length = c := by
  obtain ⟨e3, ⟨b', found, rest, y, rfl, hp, hl⟩, h4⟩ := for_inv (C := run (k + 1)) (G := G0) (io := io) (s0 := s0) hs0 (List.range c) nV hI (fun i e' => ∃ (b' : Bag) (found rest : List Nat) (y : Val), e' = [bagV b', nV n, x, .lst .ow (rest.map nV), .lst .ow (found.map nV), y] ∧ (found ++ rest).Perm (List.range n) ∧ found.length = i) ⟨b0, [], List.range n, .und, by simp, by simp, rfl⟩ fun i p e' hx' ⟨b', found, rest, y, he, hp, hl⟩ => by
    subst he
    have hi : i < c := by simpa using (List.getElem?_eq_some_iff.mp hx').1
    have hlen := hp.length_eq
    simp at hlen
    obtain ⟨r, b2, h1, h2⟩ := s12 k b' rest.length (by omega) (by omega)
    have hr : r < rest.length := by omega
    have h3 := pop1N rest r hr (by omega)
    have hfl : found.length < sizeLine := by simp [sizeLine]; omega
    refine ⟨[bagV b', nV n, x, .lst .ow (rest.map nV), .lst .ow (found.map nV), nV p], [bagV b2, nV n, x, .lst .ow ((rest.eraseIdx r).map nV), .lst .ow ((found ++ [rest.getD r 0]).map nV), nV p], by simp only [evTg_name, slotsOf, List.filterMap_nil, List.nil_append, h5]; rfl, ?_, b2, _, _, _, rfl, ?_, by simp [hl]⟩
    · generalize rest.eraseIdx r = rest' at *
      generalize rest.getD r 0 = z at *
      subst hb
      rcases hio with rfl | rfl <;> simp [b16_0, slotsOf, biV, h1, h3, hfl]
    · refine List.Perm.trans ?_ hp
      rw [List.append_assoc]
      exact List.Perm.append_left found (erasePerm rest r hr)
  exact ⟨b', found, rest, y, by rw [h4]; simp, hp, by simpa using hl⟩
theorem s16 (k n most : Nat) (b : Bag) (hn : n ≤ 1000) : ∃ (l : List Nat) (b' : Bag), run (k + 2) 16 [bagV b, nV n, nV most] = .ret (tN l) [bagV b', nV n, nV most] ∧ Asc n l := by
  obtain ⟨r, b1, h1, hr⟩ := s12 k b 9 (by decide) (by decide)
  rw [run_at (d := d16) rfl]
  by_cases h0 : r = 0
  · by_cases hm : n ≤ most
    · refine ⟨List.range n, b1, ?_, asc_range n⟩
      have e2 := rgT true n hn
      simp [d16, runD_ap, h1, cmpEq0, h0, truV, cmpGeN, hm, e2]
    · refine ⟨[], b1, ?_, by simp [Asc]⟩
      simp [d16, runD_ap, h1, cmpEq0, h0, truV, cmpGeN, hm]
  · obtain ⟨c, b2, h2, hc⟩ := s12 k b1 ((min most n : Nat) + 1 : Int) (by omega) (by omega)
    have e2 := rgT false n hn
    have hI : evI (run (k + 1)) G0 (.rng (.call 12 (.cons (.mv 0) (.cons (.v (.bin .add (.v (.bi .min2 (.cons (.mv 2) (.cons (.mv 1) .nil)))) (.v (.int 1)))) .nil)))) [bagV b1, nV n, nV most, .lst .ow ((List.range n).map nV), .lst .ow [], .und] = .ok ((List.range c).map nV, []) [bagV b2, nV n, nV most, .lst .ow ((List.range n).map nV), .lst .ow [], .und] := by
      have e3 : biV .min2 [nV most, nV n] = some (nV (min most n)) := by
        show some (Val.int (if (n : Int) < (most : Int) then (n : Int) else (most : Int))) = _
        by_cases h : (n : Int) < (most : Int)
        · rw [if_pos h, show min most n = n by omega]
        · rw [if_neg h, show min most n = most by omega]
      have e4 : binV .add (nV (min most n)) (.int 1) = some (.int ((min most n : Nat) + 1 : Int)) := rfl
      have hc' : c ≤ 1000 := by omega
      generalize (List.range n).map nV = L
      generalize hv : ((min most n : Nat) + 1 : Int) = M at *
      generalize min most n = w at *
      simp [e3, e4, h2, rangeL_nat, okR_small hc']
    obtain ⟨b3, found, rest, y, h3, hp, hl⟩ := loopPop (s0 := l16_0) (io := [0, 1, 2]) k n c (nV most) b2 _ rfl rfl (.inr rfl) rfl hI (by simp) (by omega) hn
    refine ⟨sortN found, b3, ?_, asc_sort n found rest hp⟩
    have e5 := sortV found
    generalize (List.range n).map nV = L at *
    simp [d16, runD_ap, h1, cmpEq0, h0, truV, e2, sets, h3, e5, sizeLine]
end K19

/-! K19x: failures, votes, tables drawn. -/
namespace K19
open PySem Nd
theorem e17_0 (k n : Nat) (b : Bag) (ps : List Nat) (hl : ps.length ≤ 1000) : ∃ (l : List Bool) (b' : Bag), evE (run (k + 1)) G0 c17_0 [bagV b, nV n, tN ps, .und] = .ok (.lst .ow (l.map bV)) [bagV b', nV n, tN ps, .und] ∧ l.length = ps.length := by
  obtain ⟨l, b', h1, h2, _⟩ := comp_st (C := run (k + 1)) (G := G0) (c0 := c17_0) (e := [bagV b, nV n, tN ps, .und]) rfl (ps := [(tN ps, .no)]) ps nV (fun b => [bagV b, nV n, tN ps, .und]) b bV (fun _ => True) (by simp) (by simp [sizeLine]; omega) (fun _ => rfl) fun x b hx => by
    obtain ⟨y, b', h1⟩ := s12b k b
    refine ⟨y, b', [bagV b', nV n, tN ps, nV x], ?_⟩
    simp [turnM, wipes, h1, restores, saves]
  exact ⟨l, b', by rw [h1]; simp, h2⟩
theorem s17 (k n : Nat) (b : Bag) (hn : n ≤ 1000) : ∃ (prs : List (Nat × Bool)) (b' : Bag), run (k + 3) 17 [bagV b, nV n] = .ret (fV prs) [bagV b', nV n] ∧ FailOk n prs := by
  obtain ⟨x, hx, b1, h1⟩ := s13 k b [.int 1, .int 2, nV n, nV n] (by simp) (by simp)
  have hm : ∃ m : Nat, x = nV m := by
    simp only [List.mem_cons, List.not_mem_nil, or_false] at hx
    rcases hx with rfl | rfl | rfl | rfl
    · exact ⟨1, rfl⟩
    · exact ⟨2, rfl⟩
    · exact ⟨n, rfl⟩
    · exact ⟨n, rfl⟩
  obtain ⟨m, rfl⟩ := hm
  obtain ⟨ps, b2, h2, ha⟩ := s16 k n m b1 hn
  have hpl := ha.len
  obtain ⟨l, b3, h3, hl⟩ := e17_0 (k + 1) n b2 ps (by omega)
  have e1 : (ps.zip l).map (·.1) = ps := List.map_fst_zip (by omega)
  have e2 : (ps.zip l).map (·.2) = l := List.map_snd_zip (by omega)
  refine ⟨ps.zip l, b3, ?_, ?_, ?_, ?_⟩
  · show _ = CRes.ret (.tup [tN ((ps.zip l).map (·.1)), tB ((ps.zip l).map (·.2))]) _
    rw [e1, e2, run_at (d := d17) rfl]
    simp [d17, runD_ap, h1, h2, h3, sizeLine]
  · rw [List.length_zip]; omega
  · intro q hq
    exact ha.2 _ (List.of_mem_zip hq).1
  · rw [e1]; exact ha.1
/-- a vote of n: an odd number of places -/
def VoteOk (n : Nat) (v : List Nat) : Prop := v.length % 2 = 1 ∧ v.length ≤ n ∧ ∀ p ∈ v, p < n
theorem s18 (k n : Nat) (b : Bag) (hn : n ≤ 1000) (ho : n % 2 = 1) : ∃ (v : List Nat) (b' : Bag), run (k + 3) 18 [bagV b, nV n] = .ret (tN v) [bagV b', nV n] ∧ VoteOk n v := by
  obtain ⟨x, hx, b1, h1⟩ := s13 k b [.int 1, .int 3, .int 5, .int 5, .int 3] (by simp) (by simp)
  have hm : ∃ m : Nat, x = nV m ∧ m % 2 = 1 := by
    simp only [List.mem_cons, List.not_mem_nil, or_false] at hx
    rcases hx with rfl | rfl | rfl | rfl | rfl
    · exact ⟨1, rfl, rfl⟩
    · exact ⟨3, rfl, rfl⟩
    · exact ⟨5, rfl, rfl⟩
    · exact ⟨5, rfl, rfl⟩
    · exact ⟨3, rfl, rfl⟩
  obtain ⟨m, rfl, hmo⟩ := hm
  have e3 : biV .min2 [nV n, nV m] = some (nV (min n m)) := by
    show some (Val.int (if (m : Int) < (n : Int) then (m : Int) else (n : Int))) = _
    by_cases h : (m : Int) < (n : Int)
    · rw [if_pos h, show min n m = m by omega]
    · rw [if_neg h, show min n m = n by omega]
  have hw : min n m ≤ n ∧ min n m % 2 = 1 := by
    constructor
    · omega
    · by_cases h : n ≤ m
      · rw [Nat.min_eq_left h]; exact ho
      · rw [Nat.min_eq_right (by omega)]; exact hmo
  generalize min n m = w at *
  have e2 := rgT false n hn
  have hI : evI (run (k + 2)) G0 (.rng (.var 2)) [bagV b1, nV n, nV w, .lst .ow ((List.range n).map nV), .lst .ow [], .und] = .ok ((List.range w).map nV, []) [bagV b1, nV n, nV w, .lst .ow ((List.range n).map nV), .lst .ow [], .und] := by
    have hc' : w ≤ 1000 := by omega
    generalize (List.range n).map nV = L
    simp [rangeL_nat, okR_small hc']
  obtain ⟨b3, found, rest, y, h3, hp, hl⟩ := loopPop (s0 := l18_0) (io := [0, 1]) (k + 1) n w (nV w) b1 _ rfl rfl (.inl rfl) rfl hI (by simp) hw.1 hn
  have hA := asc_sort n found rest hp
  have hlen : (sortN found).length = w := by rw [(sortN_perm found).length_eq, hl]
  refine ⟨sortN found, b3, ?_, by rw [hlen]; exact hw.2, by rw [hlen]; omega, hA.2⟩
  have e5 := sortV found
  rw [run_at (d := d18) rfl]
  generalize (List.range n).map nV = L at *
  simp [d18, runD_ap, h1, e3, e2, sets, h3, e5, sizeLine]
theorem e19_0 (k n : Nat) (b : Bag) (hn : n ≤ 1000) (ho : n % 2 = 1) : ∃ (vs : List (List Nat)) (b' : Bag), evE (run (k + 3)) G0 c19_0 [bagV b, nV n, .und, .und, .und] = .ok (.lst .ow (vs.map fun v => tN v)) [bagV b', nV n, .und, .und, .und] ∧ vs.length = n ∧ ∀ v ∈ vs, VoteOk n v := by
  obtain ⟨l, b', h1, h2, h3⟩ := comp_st (C := run (k + 3)) (G := G0) (c0 := c19_0) (e := [bagV b, nV n, .und, .und, .und]) rfl (ps := []) (List.range n) nV (fun b => [bagV b, nV n, .und, .und, .und]) b (fun v => tN v) (fun v => VoteOk n v) (by simp [rangeL_nat, okR_small hn]) (by simp [sizeLine]; omega) (fun _ => rfl) fun x b hx => by
    obtain ⟨y, b', h1, h2⟩ := s18 k n b hn ho
    refine ⟨y, b', [bagV b', nV n, .und, nV x, .und], ?_⟩
    simp [turnM, wipes, h1, restores, saves, h2]
  exact ⟨l, b', by rw [h1]; simp, by simpa using h2, h3⟩
theorem e19_1 (k n : Nat) (b : Bag) (v : List Nat) (j : Nat) (h0 : 0 < n) (hl : v.length ≤ 1000) : evE (run k) G0 c19_1 [bagV b, nV n, tN v, nV j, .und] = .ok (.lst .ow ((v.map fun p => (j + p) % n).map nV)) [bagV b, nV n, tN v, nV j, .und] := by
  have h := comp_maps (C := run k) (G := G0) (c0 := c19_1) (e := [bagV b, nV n, tN v, nV j, .und]) rfl (e1 := [bagV b, nV n, tN v, nV j, .und]) (ps := [(tN v, .no)]) v nV (fun p => nV ((j + p) % n)) (by simp) (by simp [sizeLine]; omega) fun q hq => by
    refine ⟨[bagV b, nV n, tN v, nV j, nV q], ?_⟩
    have e2 : Nd.binI .add (j : Int) (q : Int) = some ((j + q : Nat) : Int) := by simp [Nd.binI]
    have e3 : Nd.binI .mod ((j + q : Nat) : Int) (n : Int) = some (((j + q) % n : Nat) : Int) := by simp [Nd.binI, h0]
    generalize (j + q) % n = u at *
    generalize j + q = w at *
    simp [turnM, wipes, binV, e2, e3, restores, saves]
  simp at h
  simpa [Function.comp_def] using h
theorem e19_2 (k n : Nat) (b : Bag) (v : List Nat) (hn : n ≤ 1000) (h0 : 0 < n) (hv : VoteOk n v) : ∃ vs : List (List Nat), evE (run k) G0 c19_2 [bagV b, nV n, tN v, .und, .und] = .ok (.lst .ow (vs.map fun v => tN v)) [bagV b, nV n, tN v, .und, .und] ∧ vs.length = n ∧ ∀ v ∈ vs, VoteOk n v := by
  have h := comp_maps (C := run k) (G := G0) (c0 := c19_2) (e := [bagV b, nV n, tN v, .und, .und]) rfl (e1 := [bagV b, nV n, tN v, .und, .und]) (ps := []) (List.range n) nV (fun j => tN (sortN (v.map fun p => (j + p) % n))) (by simp [rangeL_nat, okR_small hn]) (by simp [sizeLine]; omega) fun q hq => by
    refine ⟨[bagV b, nV n, tN v, nV q, .und], ?_⟩
    have h1 := e19_1 k n b v q h0 (Nat.le_trans hv.2.1 hn)
    have h2 := sortV (v.map fun p => (q + p) % n)
    generalize (v.map fun p => (q + p) % n) = u at *
    simp [turnM, wipes, h1, h2, restores, saves]
  refine ⟨(List.range n).map fun j => sortN (v.map fun p => (j + p) % n), ?_, by simp, ?_⟩
  · simp only [List.map_map]
    simp at h
    simpa [Function.comp_def] using h
  · intro w hw
    obtain ⟨j, _, rfl⟩ := List.mem_map.mp hw
    have hp := sortN_perm (v.map fun p => (j + p) % n)
    have hl : (sortN (v.map fun p => (j + p) % n)).length = v.length := by rw [hp.length_eq, List.length_map]
    refine ⟨by rw [hl]; exact hv.1, by rw [hl]; exact hv.2.1, fun p hp' => ?_⟩
    obtain ⟨q, _, rfl⟩ := List.mem_map.mp (hp.mem_iff.mp hp')
    exact Nat.mod_lt _ h0
def VsOk (n : Nat) (vs : List (List Nat)) : Prop := vs.length = n ∧ ∀ v ∈ vs, VoteOk n v
theorem s19 (k n : Nat) (b : Bag) (hn : n ≤ 1000) (ho : n % 2 = 1) : ∃ (vs : List (List Nat)) (b' : Bag), run (k + 4) 19 [bagV b, nV n] = .ret (tNN vs) [bagV b', nV n] ∧ VsOk n vs := by
  obtain ⟨x, b1, h1⟩ := s12b (k + 2) b
  cases x with
  | false =>
    obtain ⟨vs, b2, h2, h3⟩ := e19_0 k n b1 hn ho
    have e1 : cmpV .eq (.int 0) (.int 0) = some (.bl true) := rfl
    refine ⟨vs, b2, ?_, h3⟩
    rw [run_at (d := d19) rfl]
    replace h1 : run (k + 3) 12 [bagV b, .int 2] = .ret (.int 0) [bagV b1, .int 2] := h1
    simp [d19, runD_ap, h1, e1, h2]
  | true =>
    obtain ⟨v, b2, h2, h3⟩ := s18 k n b1 hn ho
    obtain ⟨vs, h4, h5⟩ := e19_2 (k + 3) n b2 v hn (by omega) h3
    have e1 : cmpV .eq (.int 1) (.int 0) = some (.bl false) := rfl
    refine ⟨vs, b2, ?_, h5⟩
    rw [run_at (d := d19) rfl]
    replace h1 : run (k + 3) 12 [bagV b, .int 2] = .ret (.int 1) [bagV b1, .int 2] := h1
    simp [d19, runD_ap, h1, e1, h2, h4]
/-- a table of so many inputs -/
def TabOk (i : Nat) (t : List Bool) : Prop := i ≤ 3 ∧ t.length = 2 ^ i
theorem s21 (k i : Nat) (t : List Bool) (h : TabOk i t) : run (k + 1) 21 [tB t] = .ret (nV i) [tB t] := by
  obtain ⟨hi, ht⟩ := h
  have hd : dctV [.int 1, .int 0, .int 2, .int 1, .int 4, .int 2, .int 8, .int 3] = some (.dic .ow [(.inl 1, .int 0), (.inl 2, .int 1), (.inl 4, .int 2), (.inl 8, .int 3)]) := by rfl
  have hs : subV (.dic .ow [(.inl 1, .int 0), (.inl 2, .int 1), (.inl 4, .int 2), (.inl 8, .int 3)]) (.int (t.length : Int)) = some (nV i) := by
    rw [ht]
    have : i = 0 ∨ i = 1 ∨ i = 2 ∨ i = 3 := by omega
    rcases this with rfl | rfl | rfl | rfl <;> rfl
  rw [run_at (d := d21) rfl]
  simp [d21, runD_ap, hd, hs]
def tabs : List (List Bool) := [[false, false, false, true], [false, true, true, true], [false, true, true, false], [true, true, true, false], [false, false, true, false], [true, false], [false], [true], [true, false, false, true], [false, false, false, true, false, true, true, true], [false, true, false, true, false, false, true, true], [false, true, true, false, true, false, false, true]]
theorem tabs_ok : ∀ t ∈ tabs, ∃ i, TabOk i t := by
  intro t ht
  have : (tabs.all fun t => t.length == 1 || t.length == 2 || t.length == 4 || t.length == 8) = true := by decide
  have := List.all_eq_true.mp this t ht
  simp only [Bool.or_eq_true, beq_iff_eq] at this
  rcases this with ((h | h) | h) | h
  · exact ⟨0, by decide, h⟩
  · exact ⟨1, by decide, h⟩
  · exact ⟨2, by decide, h⟩
  · exact ⟨3, by decide, h⟩
theorem e20_0 (k : Nat) (b : Bag) (x : Val) : ∃ (l : List Bool) (b' : Bag), evE (run (k + 2)) G0 c20_0 [bagV b, x, .und] = .ok (.lst .ow (l.map bV)) [bagV b', x, .und] ∧ ∃ i, TabOk i l := by
  obtain ⟨y, hy, b1, h1⟩ := s13 k b [.int 1, .int 2, .int 4, .int 8, .int 8] (by simp) (by simp)
  have hm : ∃ i : Nat, i ≤ 3 ∧ y = nV (2 ^ i) := by
    simp only [List.mem_cons, List.not_mem_nil, or_false] at hy
    rcases hy with rfl | rfl | rfl | rfl | rfl
    · exact ⟨0, by decide, rfl⟩
    · exact ⟨1, by decide, rfl⟩
    · exact ⟨2, by decide, rfl⟩
    · exact ⟨3, by decide, rfl⟩
    · exact ⟨3, by decide, rfl⟩
  obtain ⟨i, hi, rfl⟩ := hm
  have hw : 2 ^ i ≤ 1000 := Nat.le_trans (Nat.pow_le_pow_right (by decide) hi) (by decide)
  generalize hg : 2 ^ i = w at *
  obtain ⟨l, b', h1, h2, _⟩ := comp_st (C := run (k + 2)) (G := G0) (c0 := c20_0) (e := [bagV b, x, .und]) rfl (ps := []) (List.range w) nV (fun b => [bagV b, x, .und]) b1 bV (fun _ => True) (by simp [h1, rangeL_nat, okR_small hw, sizeLine]) (by simp [sizeLine]; omega) (fun _ => rfl) fun z b hz => by
    obtain ⟨y, b', h1⟩ := s12b (k + 1) b
    refine ⟨y, b', [bagV b', x, nV z], ?_⟩
    simp [turnM, wipes, h1, restores, saves]
  exact ⟨l, b', by rw [h1]; simp, i, hi, by simpa [hg] using h2⟩
theorem s20 (k : Nat) (b : Bag) : ∃ (t : List Bool) (b' : Bag), run (k + 3) 20 [bagV b] = .ret (tB t) [bagV b'] ∧ ∃ i, TabOk i t := by
  obtain ⟨x, b1, h1⟩ := s12b (k + 1) b
  have hL : (tabs.map fun t => tB t) = [.tup [.int 0, .int 0, .int 0, .int 1], .tup [.int 0, .int 1, .int 1, .int 1], .tup [.int 0, .int 1, .int 1, .int 0], .tup [.int 1, .int 1, .int 1, .int 0], .tup [.int 0, .int 0, .int 1, .int 0], .tup [.int 1, .int 0], .tup [.int 0], .tup [.int 1], .tup [.int 1, .int 0, .int 0, .int 1], .tup [.int 0, .int 0, .int 0, .int 1, .int 0, .int 1, .int 1, .int 1], .tup [.int 0, .int 1, .int 0, .int 1, .int 0, .int 0, .int 1, .int 1], .tup [.int 0, .int 1, .int 1, .int 0, .int 1, .int 0, .int 0, .int 1]] := rfl
  rw [run_at (d := d20) rfl]
  cases x with
  | false =>
    obtain ⟨y, hy, b2, h2⟩ := s13 k b1 (tabs.map fun t => tB t) (by simp [tabs]) (by simp [tabs])
    obtain ⟨t, ht, rfl⟩ := List.mem_map.mp hy
    refine ⟨t, b2, ?_, tabs_ok t ht⟩
    have e1 : cmpV .eq (.int 0) (.int 0) = some (.bl true) := rfl
    rw [hL] at h2
    replace h1 : run (k + 2) 12 [bagV b, .int 2] = .ret (.int 0) [bagV b1, .int 2] := h1
    simp [d20, runD_ap, h1, e1, h2, sizeLine]
  | true =>
    obtain ⟨l, b2, h2, h3⟩ := e20_0 k b1 (.lst .ow (tabs.map fun t => tB t))
    refine ⟨l, b2, ?_, h3⟩
    have e1 : cmpV .eq (.int 1) (.int 0) = some (.bl false) := rfl
    rw [hL] at h2
    replace h1 : run (k + 2) 12 [bagV b, .int 2] = .ret (.int 1) [bagV b1, .int 2] := h1
    simp [d20, runD_ap, h1, e1, h2, sizeLine]
end K19

/-! K19y: jobs. -/
namespace K19
open PySem Nd
theorem subN (xs : List Val) (i : Nat) : subV (.tup xs) (.int (i : Int)) = xs[i]? := by
  show L2.atI xs (i : Int) = _
  rw [atI_nat]
@[simp] theorem sub_t0 (a : Val) (r : List Val) : subV (.tup (a :: r)) (.int 0) = some a := subN (a :: r) 0
@[simp] theorem sub_t1 (a b : Val) (r : List Val) : subV (.tup (a :: b :: r)) (.int 1) = some b := subN (a :: b :: r) 1
@[simp] theorem sub_t2 (a b c : Val) (r : List Val) : subV (.tup (a :: b :: c :: r)) (.int 2) = some c := subN (a :: b :: c :: r) 2
@[simp] theorem sub_t3 (a b c d : Val) (r : List Val) : subV (.tup (a :: b :: c :: d :: r)) (.int 3) = some d := subN (a :: b :: c :: d :: r) 3
@[simp] theorem sub_t4 (a b c d e : Val) (r : List Val) : subV (.tup (a :: b :: c :: d :: e :: r)) (.int 4) = some e := subN (a :: b :: c :: d :: e :: r) 4
theorem cmpEqI (a b : Int) : cmpV .eq (.int a) (.int b) = some (.bl (decide (a = b))) := rfl
/-! same -/
theorem s14i (k : Nat) (i : Int) : run (k + 1) 14 [.int i, .int i] = .ret (.bl true) [.int i, .int i] := by
  rw [run_at (d := d14) rfl]
  simp [d14, runD_ap, isiV, cmpEqI]
theorem e14_0 (k : Nat) (l : List Int) (hl : l.length ≤ 1000) : evE (run (k + 1)) G0 c14_0 [.tup (l.map .int), .tup (l.map .int), .und, .und] = .ok (.lst .ow (l.map fun _ => .bl true)) [.tup (l.map .int), .tup (l.map .int), .und, .und] := by
  have h := comp_maps (C := run (k + 1)) (G := G0) (c0 := c14_0) (e := [.tup (l.map .int), .tup (l.map .int), .und, .und]) rfl (e1 := [.tup (l.map .int), .tup (l.map .int), .und, .und]) (ps := [(.tup (l.map .int), .no), (.tup (l.map .int), .no)]) (l.zip l) (fun q => .tup [.int q.1, .int q.2]) (fun q => .bl true) (by simp [zipL_map]) (by simp [sizeLine]; omega) fun q hq => by
    refine ⟨[.tup (l.map .int), .tup (l.map .int), .int q.1, .int q.2], ?_⟩
    have e : q.1 = q.2 := by
      obtain ⟨i, hi, he⟩ := List.mem_iff_getElem.mp hq
      rw [List.getElem_zip] at he
      rw [← he]
    have h1 := s14i k q.2
    simp [turnM, wipes, tlen, e, h1, restores, saves]
  have e2 : ((l.zip l).map fun q => Val.bl true) = l.map fun _ => .bl true := by
    apply List.ext_getElem
    · simp
    · intro i h1 h2; simp
  rw [e2] at h
  rw [h]
  simp
theorem s14t (k : Nat) (l : List Int) (hl : l.length ≤ 1000) : run (k + 2) 14 [.tup (l.map .int), .tup (l.map .int)] = .ret (.bl true) [.tup (l.map .int), .tup (l.map .int)] := by
  have h := e14_0 k l hl
  have e1 : biV .all [.lst .ow (l.map fun _ => Val.bl true)] = some (.bl true) := by
    show (boolsL _).map _ = _
    rw [boolsL_maps]
    simp
  have e2 : cmpV .ne (.int (l.length : Int)) (.int (l.length : Int)) = some (.bl false) := by
    simp [cmpV, eqV]
  rw [run_at (d := d14) rfl]
  simp [d14, runD_ap, isiV, e2, h, e1]
/-- a plain value whose repr is told: how deep, how long at most -/
def Shw (x : Val) (D n : Nat) : Prop := ∃ d, data x = some d ∧ d.showable = true ∧ d.hasDict = false ∧ d.depth ≤ D ∧ d.shown.length ≤ n
theorem shw_nat (p : Nat) (h : p < 12) : Shw (nV p) 0 4 := by
  refine ⟨.int p, rfl, ?_, rfl, Nat.le_refl _, ?_⟩
  · have : ∀ p : Nat, p < 12 → (PyData.int (p : Int)).showable = true := by decide +kernel
    exact this p h
  · have : ∀ p : Nat, p < 12 → (PyData.int (p : Int)).shown.length ≤ 4 := by decide +kernel
    exact this p h
theorem datas_of {xs : List Val} {D n : Nat} (h : ∀ x ∈ xs, Shw x D n) : ∃ ds, datas xs = some ds ∧ ds.length = xs.length ∧ PyData.showableAll ds = true ∧ PyData.hasDictAll ds = false ∧ PyData.depthAll ds ≤ D ∧ ∀ t ∈ PyData.shownAll ds, t.length ≤ n := by
  induction xs with
  | nil => exact ⟨[], rfl, rfl, rfl, rfl, Nat.zero_le _, by simp [PyData.shownAll]⟩
  | cons a l ih =>
    obtain ⟨ds, h1, h2, h3, h4, h5, h6⟩ := ih fun x hx => h x (List.mem_cons_of_mem _ hx)
    obtain ⟨d, g1, g2, g3, g4, g5⟩ := h a List.mem_cons_self
    refine ⟨d :: ds, by simp [datas, g1, h1], by simp [h2], by simp [PyData.showableAll, g2, h3], by simp [PyData.hasDictAll, g3, h4], ?_, ?_⟩
    · simp only [PyData.depthAll]; omega
    · intro t ht
      rcases List.mem_cons.mp (show t ∈ d.shown :: PyData.shownAll ds from ht) with rfl | ht
      · exact g5
      · exact h6 t ht
theorem shownAll_len : ∀ ds : List PyData, (PyData.shownAll ds).length = ds.length
  | [] => rfl
  | d :: ds => by simp [PyData.shownAll, shownAll_len ds]
theorem piled_le (n : Nat) : ∀ ts : List Str, (∀ t ∈ ts, t.length ≤ n) → piled ts ≤ ts.length * (n + 2)
  | [], _ => by simp [piled]
  | t :: ts, h => by
    have h1 := piled_le n ts fun x hx => h x (List.mem_cons_of_mem _ hx)
    have h2 := h t List.mem_cons_self
    rw [List.length_cons, Nat.add_mul]
    rw [piled_cons]
    omega
theorem shw_tup {xs : List Val} {D n : Nat} (h : ∀ x ∈ xs, Shw x D n) : Shw (.tup xs) (D + 1) (xs.length * (n + 2) + 3) := by
  obtain ⟨ds, h1, h2, h3, h4, h5, h6⟩ := datas_of h
  refine ⟨.tuple ds, by simp [data, h1], by simpa [PyData.showable] using h3, by simpa [PyData.hasDict] using h4, by simp only [PyData.depth]; omega, ?_⟩
  have hp := piled_le n _ h6
  rw [shownAll_len, h2] at hp
  show (tupleText (PyData.shownAll ds)).length ≤ _
  unfold tupleText
  rw [PySem.Str.length_append, PySem.Str.length_append]
  have hj : (Str.join ", " (PyData.shownAll ds)).length ≤ piled (PyData.shownAll ds) := by
    by_cases h0 : PyData.shownAll ds = []
    · rw [h0]; exact Nat.zero_le _
    · have := join_length_add _ h0; omega
  have ho : (("(" : Str)).length = 1 := by decide
  have hc : (((if (PyData.shownAll ds).length == 1 then ",)" else ")" : String) : Str)).length ≤ 2 := by
    split <;> decide
  omega
theorem rpr_of {xs : List Val} {D n : Nat} (h : Shw (.tup xs) D n) (hD : D ≤ 60) (hn : n ≤ sizeLine) : ∃ s, rprV (.tup xs) = some (.str s) := by
  obtain ⟨d, h1, h2, h3, h4, h5⟩ := h
  have hd : PyProof.Rows.isDisplay d = true := by
    simp only [data, Option.map_eq_some_iff] at h1
    obtain ⟨ds, _, rfl⟩ := h1
    rfl
  have h4' : d.depth ≤ 60 := Nat.le_trans h4 hD
  have h5' : d.shown.length ≤ sizeLine := Nat.le_trans h5 hn
  refine ⟨d.shown, ?_⟩
  unfold rprV
  rw [h1]
  simp only [rprD]
  rw [if_pos (by simp [hd, h2, h3, h4', h5'])]
  rfl
end K19

/-! K19z: good jobs. -/
namespace K19
open PySem Nd
def Due (d : Val) : Prop := (∃ i, d = .int i) ∨ ∃ l : List Int, d = .tup (l.map .int) ∧ l.length ≤ 1000
theorem due_b (b : Bool) : Due (bV b) := .inl ⟨_, rfl⟩
theorem due_B (b : List Bool) (h : b.length ≤ 1000) : Due (tB b) := .inr ⟨b.map bI, by simp [Function.comp_def], by simpa using h⟩
theorem due_N (b : List Nat) (h : b.length ≤ 1000) : Due (tN b) := .inr ⟨b.map fun n : Nat => (n : Int), by simp [Function.comp_def], by simpa using h⟩
theorem due_same {d : Val} (h : Due d) (k : Nat) : run (k + 2) 14 [d, d] = .ret (.bl true) [d, d] := by
  rcases h with ⟨i, rfl⟩ | ⟨l, rfl, h⟩
  · exact s14i (k + 1) i
  · exact s14t k l h
def Good (j : Val) : Prop := ∃ (kk : Nat) (as : List Val) (due : Val), j = .tup [nV kk, .tup as, due] ∧ kk < 8 ∧ (∀ k way, way < 2 → run (k + 6) 34 [nV kk, .tup as, nV way] = .ret due [nV kk, .tup as, nV way]) ∧ Due due ∧ ∃ s, rprV (.tup as) = some (.str s)
theorem Shw.mono {x : Val} {D n D' n' : Nat} (h : Shw x D n) (hD : D ≤ D') (hn : n ≤ n') : Shw x D' n' := by
  obtain ⟨d, h1, h2, h3, h4, h5⟩ := h
  exact ⟨d, h1, h2, h3, Nat.le_trans h4 hD, Nat.le_trans h5 hn⟩
theorem shw_b (b : Bool) : Shw (bV b) 0 4 := by
  cases b
  · exact shw_nat 0 (by decide)
  · exact shw_nat 1 (by decide)
theorem shw_B (b : List Bool) (h : b.length ≤ 12) : Shw (tB b) 1 100 := by
  refine (shw_tup (D := 0) (n := 4) fun x hx => ?_).mono (Nat.le_refl _) (by simp; omega)
  obtain ⟨y, _, rfl⟩ := List.mem_map.mp hx
  exact shw_b y
theorem shw_N (l : List Nat) (h : l.length ≤ 12) (hp : ∀ p ∈ l, p < 12) : Shw (tN l) 1 100 := by
  refine (shw_tup (D := 0) (n := 4) fun x hx => ?_).mono (Nat.le_refl _) (by simp; omega)
  obtain ⟨y, hy, rfl⟩ := List.mem_map.mp hx
  exact shw_nat y (hp y hy)
theorem shw_BB (b : List (List Bool)) (h : b.length ≤ 12) (hp : ∀ r ∈ b, r.length ≤ 12) : Shw (tBB b) 2 2000 := by
  refine (shw_tup (D := 1) (n := 100) fun x hx => ?_).mono (Nat.le_refl _) (by simp; omega)
  obtain ⟨y, hy, rfl⟩ := List.mem_map.mp hx
  exact shw_B y (hp y hy)
theorem shw_NN (b : List (List Nat)) (h : b.length ≤ 12) (hp : ∀ r ∈ b, r.length ≤ 12 ∧ ∀ p ∈ r, p < 12) : Shw (tNN b) 2 2000 := by
  refine (shw_tup (D := 1) (n := 100) fun x hx => ?_).mono (Nat.le_refl _) (by simp; omega)
  obtain ⟨y, hy, rfl⟩ := List.mem_map.mp hx
  exact shw_N y (hp y hy).1 (hp y hy).2
theorem FailOk.len {n : Nat} {prs : List (Nat × Bool)} (h : FailOk n prs) : prs.length ≤ n := by
  have : Asc n (prs.map (·.1)) := ⟨h.2.2, fun p hp => by obtain ⟨q, hq, rfl⟩ := List.mem_map.mp hp; exact h.2.1 q hq⟩
  simpa using this.len
theorem shw_F (prs : List (Nat × Bool)) (n : Nat) (hn : n ≤ 12) (h : FailOk n prs) : Shw (fV prs) 2 2000 := by
  have hl := h.len
  refine (shw_tup (D := 1) (n := 100) fun x hx => ?_).mono (Nat.le_refl _) (by simp)
  simp only [List.mem_cons, List.not_mem_nil, or_false] at hx
  rcases hx with rfl | rfl
  · refine shw_N _ (by simp; omega) fun p hp => ?_
    obtain ⟨q, hq, rfl⟩ := List.mem_map.mp hp
    have := h.2.1 q hq
    omega
  · exact shw_B _ (by simp; omega)
theorem rpr_as {as : List Val} (h : ∀ x ∈ as, Shw x 2 2000) (hl : as.length ≤ 5) : ∃ s, rprV (.tup as) = some (.str s) := by
  refine rpr_of (shw_tup h) (by decide) ?_
  have : as.length * (2000 + 2) ≤ 5 * 2002 := Nat.mul_le_mul_right _ hl
  simp only [sizeLine]; omega
theorem way2 {P : Nat → Prop} (h0 : P 0) (h1 : P 1) : ∀ way, way < 2 → P way := by
  intro way h
  have : way = 0 ∨ way = 1 := by omega
  rcases this with rfl | rfl
  · exact h0
  · exact h1
theorem j0 (b : List Bool) (hb : b.length ≤ 12) : Good (.tup [.int 0, .tup [tB b], bV (maj b)]) := by
  refine ⟨0, [tB b], bV (maj b), rfl, by decide, fun k => way2 ?_ ?_, due_b _, rpr_as (by
    intro x hx
    simp only [List.mem_cons, List.not_mem_nil, or_false] at hx
    subst hx
    exact (shw_B b hb).mono (by decide) (by decide)) (by simp)⟩
  all_goals
    have h : run (k + 5) 3 [tB b] = _ := s3 (k + 3) b
    rw [run_at (d := d34) rfl]
  · show runD (run (k + 5)) G0 d34 [.int 0, .tup [tB b], .int 0] = .ret _ [.int 0, .tup [tB b], .int 0]
    simp [d34, runD_ap, cmpEqI, h]
  · show runD (run (k + 5)) G0 d34 [.int 0, .tup [tB b], .int 1] = .ret _ [.int 0, .tup [tB b], .int 1]
    simp [d34, runD_ap, cmpEqI, h]
theorem offs_le (b : List Bool) (bit : Bool) : (offsF b bit).length ≤ b.length := by
  unfold offsF
  rw [List.length_map]
  exact Nat.le_trans (List.length_filter_le _ _) (by simp)
theorem j1 (b : List Bool) (bit : Bool) (hb : b.length ≤ 12) : Good (.tup [.int 1, .tup [tB b, bV bit], tN (offsF b bit)]) := by
  refine ⟨1, [tB b, bV bit], _, rfl, by decide, fun k => way2 ?_ ?_, due_N _ (Nat.le_trans (offs_le b bit) (by omega)), rpr_as (by
    intro x hx
    simp only [List.mem_cons, List.not_mem_nil, or_false] at hx
    rcases hx with rfl | rfl
    · exact (shw_B b hb).mono (by decide) (by decide)
    · exact (shw_b bit).mono (by decide) (by decide)) (by simp)⟩
  all_goals
    have h : run (k + 5) 4 [tB b, bV bit] = _ := s4 (k + 4) b bit (by omega)
    rw [run_at (d := d34) rfl]
  · show runD (run (k + 5)) G0 d34 [.int 1, .tup [tB b, bV bit], .int 0] = .ret _ [.int 1, .tup [tB b, bV bit], .int 0]
    simp [d34, runD_ap, cmpEqI, h]
  · show runD (run (k + 5)) G0 d34 [.int 1, .tup [tB b, bV bit], .int 1] = .ret _ [.int 1, .tup [tB b, bV bit], .int 1]
    simp [d34, runD_ap, cmpEqI, h]
theorem j2 (n : Nat) (bit : Bool) (offs : List Nat) (hn : n ≤ 11) (hl : offs.length ≤ 12) (ho : ∀ p ∈ offs, p < 12) : Good (.tup [.int 2, .tup [nV n, bV bit, tN offs], tB (withF n bit offs)]) := by
  refine ⟨2, [nV n, bV bit, tN offs], _, rfl, by decide, fun k => way2 ?_ ?_, due_B _ (by simp [withF]; omega), rpr_as (by
    intro x hx
    simp only [List.mem_cons, List.not_mem_nil, or_false] at hx
    rcases hx with rfl | rfl | rfl
    · exact (shw_nat n (by omega)).mono (by decide) (by decide)
    · exact (shw_b bit).mono (by decide) (by decide)
    · exact (shw_N offs hl ho).mono (by decide) (by decide)) (by simp)⟩
  all_goals
    have h : run (k + 5) 5 [nV n, bV bit, tN offs] = _ := s5 (k + 4) n bit offs (by omega)
    rw [run_at (d := d34) rfl]
  · show runD (run (k + 5)) G0 d34 [.int 2, .tup [nV n, bV bit, tN offs], .int 0] = .ret _ [.int 2, .tup [nV n, bV bit, tN offs], .int 0]
    simp [d34, runD_ap, cmpEqI, h]
  · show runD (run (k + 5)) G0 d34 [.int 2, .tup [nV n, bV bit, tN offs], .int 1] = .ret _ [.int 2, .tup [nV n, bV bit, tN offs], .int 1]
    simp [d34, runD_ap, cmpEqI, h]
theorem pow_le8 {i : Nat} (h : i ≤ 3) : 2 ^ i ≤ 8 := Nat.le_trans (Nat.pow_le_pow_right (by decide) h) (by decide)
theorem j3 (n i : Nat) (t : List Bool) (rows : List (List Bool)) (hn : n ≤ 11) (ht : TabOk i t) (hi : rows.length = i) (hr : ∀ r ∈ rows, r.length = n) : Good (.tup [.int 3, .tup [nV n, tB t, tBB rows], tB (gatedF n t rows)]) := by
  have h8 := pow_le8 ht.1
  have h2 := ht.2
  have h1 := ht.1
  refine ⟨3, [nV n, tB t, tBB rows], _, rfl, by decide, fun k => way2 ?_ ?_, due_B _ (by rw [gatedF_len]; omega), rpr_as (by
    intro x hx
    simp only [List.mem_cons, List.not_mem_nil, or_false] at hx
    rcases hx with rfl | rfl | rfl
    · exact (shw_nat n (by omega)).mono (by decide) (by decide)
    · exact (shw_B t (by omega)).mono (by decide) (by decide)
    · exact shw_BB rows (by omega) fun r hr' => by rw [hr r hr']; omega) (by simp)⟩
  all_goals
    have h : run (k + 5) 6 [nV n, tB t, tBB rows] = _ := s6 (k + 2) n t rows (by omega) (by omega) (fun r hr' => by rw [hr r hr']; exact Nat.le_refl _) (by rw [hi, h2]; exact Nat.le_refl _)
    rw [run_at (d := d34) rfl]
  · show runD (run (k + 5)) G0 d34 [.int 3, .tup [nV n, tB t, tBB rows], .int 0] = .ret _ [.int 3, .tup [nV n, tB t, tBB rows], .int 0]
    simp [d34, runD_ap, cmpEqI, h]
  · show runD (run (k + 5)) G0 d34 [.int 3, .tup [nV n, tB t, tBB rows], .int 1] = .ret _ [.int 3, .tup [nV n, tB t, tBB rows], .int 1]
    simp [d34, runD_ap, cmpEqI, h]
theorem j4 (n : Nat) (b : List Bool) (prs : List (Nat × Bool)) (hn : n ≤ 11) (hb : b.length = n) (hp : FailOk n prs) : Good (.tup [.int 4, .tup [tB b, fV prs], tB (saidF b prs)]) := by
  refine ⟨4, [tB b, fV prs], _, rfl, by decide, fun k => way2 ?_ ?_, due_B _ (by rw [saidF_len]; omega), rpr_as (by
    intro x hx
    simp only [List.mem_cons, List.not_mem_nil, or_false] at hx
    rcases hx with rfl | rfl
    · exact (shw_B b (by omega)).mono (by decide) (by decide)
    · exact shw_F prs n (by omega) hp) (by simp)⟩
  all_goals
    have h : run (k + 5) 7 [tB b, fV prs] = _ := s7 (k + 4) b prs (by omega) hp.1
    rw [run_at (d := d34) rfl]
    generalize fV prs = F at *
  · show runD (run (k + 5)) G0 d34 [.int 4, .tup [tB b, F], .int 0] = .ret _ [.int 4, .tup [tB b, F], .int 0]
    simp [d34, runD_ap, cmpEqI, h]
  · show runD (run (k + 5)) G0 d34 [.int 4, .tup [tB b, F], .int 1] = .ret _ [.int 4, .tup [tB b, F], .int 1]
    simp [d34, runD_ap, cmpEqI, h]
end K19

/-! K19q: good jobs, on; plain facts. -/
namespace K19
open PySem Nd
theorem VsOk.votes {n : Nat} {vs : List (List Nat)} (hn : n ≤ 11) (h : VsOk n vs) : VotesOk vs.length vs := by
  refine ⟨rfl, fun v hv => ?_⟩
  obtain ⟨_, h2, h3⟩ := h.2 v hv
  rw [h.1]
  exact ⟨by omega, h3⟩
theorem VsOk.shw {n : Nat} {vs : List (List Nat)} (hn : n ≤ 11) (h : VsOk n vs) : Shw (tNN vs) 2 2000 := by
  refine shw_NN vs (by rw [h.1]; omega) fun v hv => ?_
  obtain ⟨_, h2, h3⟩ := h.2 v hv
  exact ⟨by omega, fun p hp => by have := h3 p hp; omega⟩
theorem j5 (n : Nat) (vs : List (List Nat)) (b : List Bool) (hn : n ≤ 11) (hv : VsOk n vs) (hb : b.length = n) : Good (.tup [.int 5, .tup [tNN vs, tB b], tB (votedF vs b)]) := by
  have hl := hv.1
  refine ⟨5, [tNN vs, tB b], _, rfl, by decide, fun k => way2 ?_ ?_, due_B _ (by rw [votedF_len]; omega), rpr_as (by
    intro x hx
    simp only [List.mem_cons, List.not_mem_nil, or_false] at hx
    rcases hx with rfl | rfl
    · exact hv.shw hn
    · exact (shw_B b (by omega)).mono (by decide) (by decide)) (by simp)⟩
  all_goals
    have h : run (k + 5) 8 [tNN vs, tB b] = _ := s8 (k + 3) vs b (by omega) fun v hv' => by
      obtain ⟨_, h2, h3⟩ := hv.2 v hv'
      exact ⟨by omega, fun p hp => by rw [hb]; exact h3 p hp⟩
    rw [run_at (d := d34) rfl]
  · show runD (run (k + 5)) G0 d34 [.int 5, .tup [tNN vs, tB b], .int 0] = .ret _ [.int 5, .tup [tNN vs, tB b], .int 0]
    simp [d34, runD_ap, cmpEqI, h]
  · show runD (run (k + 5)) G0 d34 [.int 5, .tup [tNN vs, tB b], .int 1] = .ret _ [.int 5, .tup [tNN vs, tB b], .int 1]
    simp [d34, runD_ap, cmpEqI, h]
theorem j7 (n : Nat) (vs : List (List Nat)) (offs : List Nat) (hn : n ≤ 11) (hv : VsOk n vs) (ho : Asc n offs) : Good (.tup [.int 7, .tup [tNN vs, tN offs], tN (outsF vs offs)]) := by
  have hl := hv.1
  have hol := ho.len
  refine ⟨7, [tNN vs, tN offs], _, rfl, by decide, fun k => way2 ?_ ?_, due_N _ (by
    unfold outsF
    rw [List.length_map]
    refine Nat.le_trans (List.length_filter_le _ _) ?_
    simp; omega), rpr_as (by
    intro x hx
    simp only [List.mem_cons, List.not_mem_nil, or_false] at hx
    rcases hx with rfl | rfl
    · exact hv.shw hn
    · exact (shw_N offs (by omega) fun p hp => by have := ho.2 p hp; omega).mono (by decide) (by decide)) (by simp)⟩
  all_goals
    have h : run (k + 5) 10 [tNN vs, tN offs] = _ := s10 (k + 4) vs offs (by omega) fun v hv' => by
      obtain ⟨_, h2, h3⟩ := hv.2 v hv'
      omega
    rw [run_at (d := d34) rfl]
  · show runD (run (k + 5)) G0 d34 [.int 7, .tup [tNN vs, tN offs], .int 0] = .ret _ [.int 7, .tup [tNN vs, tN offs], .int 0]
    simp [d34, runD_ap, cmpEqI, h]
  · show runD (run (k + 5)) G0 d34 [.int 7, .tup [tNN vs, tN offs], .int 1] = .ret _ [.int 7, .tup [tNN vs, tN offs], .int 1]
    simp [d34, runD_ap, cmpEqI, h]
theorem layerF_len (vs : List (List Nat)) (t : List Bool) (rows : List (List Bool)) (g v : List (Nat × Bool)) : (layerF vs t rows g v).length = vs.length := by
  simp [layerF, saidF_len, votedF_len]
theorem j6 (n i : Nat) (vs : List (List Nat)) (t : List Bool) (rows : List (List Bool)) (g v : List (Nat × Bool)) (hn : n ≤ 11) (hv : VsOk n vs) (ht : TabOk i t) (hi : rows.length = i) (hr : ∀ r ∈ rows, r.length = n) (hg : FailOk n g) (hw : FailOk n v) : Good (.tup [.int 6, .tup [tNN vs, tB t, tBB rows, fV g, fV v], tB (layerF vs t rows g v)]) := by
  have hl := hv.1
  have h8 := pow_le8 ht.1
  have h2 := ht.2
  have h1 := ht.1
  refine ⟨6, [tNN vs, tB t, tBB rows, fV g, fV v], _, rfl, by decide, fun k => way2 ?_ ?_, due_B _ (by rw [layerF_len]; omega), rpr_as (by
    intro x hx
    simp only [List.mem_cons, List.not_mem_nil, or_false] at hx
    rcases hx with rfl | rfl | rfl | rfl | rfl
    · exact hv.shw hn
    · exact (shw_B t (by omega)).mono (by decide) (by decide)
    · exact shw_BB rows (by omega) fun r hr' => by rw [hr r hr']; omega
    · exact shw_F g n (by omega) hg
    · exact shw_F v n (by omega) hw) (by simp)⟩
  all_goals
    have h : run (k + 5) 9 [tNN vs, tB t, tBB rows, fV g, fV v] = _ := s9 (k + 1) vs t rows g v (by omega) (by omega) (fun r hr' => by rw [hr r hr', hl]; exact Nat.le_refl _) (by rw [hi, h2]; exact Nat.le_refl _) hg.1 hw.1 (hv.votes hn)
    rw [run_at (d := d34) rfl]
    generalize fV g = F at *
    generalize fV v = F' at *
  · show runD (run (k + 5)) G0 d34 [.int 6, .tup [tNN vs, tB t, tBB rows, F, F'], .int 0] = .ret _ [.int 6, .tup [tNN vs, tB t, tBB rows, F, F'], .int 0]
    simp [d34, runD_ap, cmpEqI, h]
  · show runD (run (k + 5)) G0 d34 [.int 6, .tup [tNN vs, tB t, tBB rows, F, F'], .int 1] = .ret _ [.int 6, .tup [tNN vs, tB t, tBB rows, F, F'], .int 1]
    simp [d34, runD_ap, cmpEqI, h]
/-! plain facts -/
theorem sorted_eq : ∀ (l m : List Nat), l.Pairwise (· < ·) → m.Pairwise (· < ·) → (∀ x, x ∈ l ↔ x ∈ m) → l = m
  | [], [], _, _, _ => rfl
  | [], b :: m, _, _, h => by have := (h b).mpr List.mem_cons_self; cases this
  | a :: l, [], _, _, h => by have := (h a).mp List.mem_cons_self; cases this
  | a :: l, b :: m, hl, hm, h => by
    rw [List.pairwise_cons] at hl hm
    have hab : a = b := by
      have h1 := (h a).mp List.mem_cons_self
      have h2 := (h b).mpr List.mem_cons_self
      rcases List.mem_cons.mp h1 with h1 | h1
      · exact h1
      · rcases List.mem_cons.mp h2 with h2 | h2
        · exact h2.symm
        · have := hl.1 b h2
          have := hm.1 a h1
          omega
    subst hab
    rw [sorted_eq l m hl.2 hm.2 fun x => ?_]
    constructor
    · intro hx
      rcases List.mem_cons.mp ((h x).mp (List.mem_cons_of_mem _ hx)) with e | e
      · have := hl.1 x hx; omega
      · exact e
    · intro hx
      rcases List.mem_cons.mp ((h x).mpr (List.mem_cons_of_mem _ hx)) with e | e
      · have := hm.1 x hx; omega
      · exact e
theorem range_filter (n : Nat) (l : List Nat) (h : Asc n l) : (List.range n).filter (fun p => decide (p ∈ l)) = l := by
  refine sorted_eq _ _ (List.Pairwise.filter _ List.pairwise_lt_range) h.1 fun x => ?_
  simp only [List.mem_filter, List.mem_range, decide_eq_true_eq]
  exact ⟨fun h => h.2, fun hx => ⟨h.2 x hx, hx⟩⟩
theorem sort_nodup (l : List Nat) (h : l.Nodup) : (sortN l).Pairwise (· < ·) := by
  have h3 : (sortN l).Nodup := (sortN_perm l).symm.nodup h
  exact ((sortN_sorted l).and h3).imp fun ⟨a, b⟩ => Nat.lt_of_le_of_ne a b
theorem range_filter' (n : Nat) (l : List Nat) (h : l.Nodup) (hl : ∀ p ∈ l, p < n) : (List.range n).filter (fun p => decide (p ∈ l)) = sortN l := by
  refine sorted_eq _ _ (List.Pairwise.filter _ List.pairwise_lt_range) (sort_nodup l h) fun x => ?_
  simp only [List.mem_filter, List.mem_range, decide_eq_true_eq, (sortN_perm l).mem_iff]
  exact ⟨fun h => h.2, fun hx => ⟨hl x hx, hx⟩⟩
theorem offs_range (l : List Bool) (bit : Bool) : offsF l bit = (List.range l.length).filter fun p => bAt l p != bit := by
  unfold offsF
  have : ∀ (l : List Bool) (k : Nat) (f : Nat → Bool), (∀ i, i < l.length → f (k + i) = l.getD i false) → ((l.zipIdx k).filter fun q => q.1 != bit).map (·.2) = ((List.range' k l.length).filter fun p => f p != bit) := by
    intro l
    induction l with
    | nil => intro k f _; rfl
    | cons a l ih =>
      intro k f h
      have h0 : f k = a := by have := h 0 (by simp); simpa using this
      have h1 := ih (k + 1) f fun i hi => by
        have := h (i + 1) (by simpa using hi)
        rw [show k + 1 + i = k + (i + 1) by omega, this]; simp
      simp only [List.zipIdx_cons, List.length_cons, List.range'_succ, List.filter_cons, h0]
      by_cases hb : (a != bit) = true
      · simp only [hb, if_true, List.map_cons, h1]
      · rw [if_neg hb, if_neg hb]; exact h1
  rw [this l 0 (bAt l) fun i hi => by simp [bAt], List.range_eq_range']
theorem withF_at (n : Nat) (bit : Bool) (l : List Nat) (p : Nat) (h : p < n) : bAt (withF n bit l) p = if p ∈ l then !bit else bit := by
  simp [bAt, withF, h]
theorem withF_len (n : Nat) (bit : Bool) (l : List Nat) : (withF n bit l).length = n := by simp [withF]
theorem ext_b (l m : List Bool) (h : l.length = m.length) (hp : ∀ p, p < l.length → bAt l p = bAt m p) : l = m := by
  apply List.ext_getElem h
  intro i h1 h2
  have := hp i h1
  simpa [bAt, h1, h2] using this
theorem offs_with (n : Nat) (bit : Bool) (l : List Nat) : offsF (withF n bit l) bit = (List.range n).filter fun p => decide (p ∈ l) := by
  rw [offs_range, withF_len]
  apply List.filter_congr
  intro p hp
  rw [withF_at n bit l p (by simpa using hp)]
  by_cases h : p ∈ l <;> cases bit <;> simp [h]
theorem with_offs (l : List Bool) (bit : Bool) : withF l.length bit (offsF l bit) = l := by
  refine ext_b _ _ (withF_len _ _ _) fun p hp => ?_
  rw [withF_len] at hp
  rw [withF_at _ _ _ _ hp, offs_range]
  by_cases h : bAt l p = bit
  · simp [h]
  · have : p ∈ (List.range l.length).filter fun p => bAt l p != bit := by simp [hp, h]
    rw [if_pos this]
    revert h
    cases bAt l p <;> cases bit <;> simp
theorem offs_not (l : List Bool) (bit : Bool) : offsF l (!bit) = (List.range l.length).filter fun p => !decide (p ∈ offsF l bit) := by
  rw [offs_range]
  apply List.filter_congr
  intro p hp
  have hp' : p < l.length := by simpa using hp
  have : p ∈ offsF l bit ↔ bAt l p ≠ bit := by rw [offs_range]; simp [hp']
  by_cases h : bAt l p = bit
  · have h2 : ¬ p ∈ offsF l bit := fun e => (this.mp e) h
    simp [h2, h]
  · have h2 := this.mpr h
    simp [h2]
    revert h
    cases bAt l p <;> cases bit <;> simp
theorem count_off (l : List Bool) (bit : Bool) : l.count (!bit) = (offsF l bit).length := by
  unfold offsF
  rw [List.length_map]
  have : ∀ (l : List Bool) (k : Nat), l.count (!bit) = ((l.zipIdx k).filter fun q => q.1 != bit).length := by
    intro l
    induction l with
    | nil => intro k; rfl
    | cons a l ih =>
      intro k
      rw [List.zipIdx_cons, List.filter_cons, List.count_cons, ih (k + 1)]
      cases a <;> cases bit <;> simp
  exact this l 0
theorem count_two (l : List Bool) : l.count true + l.count false = l.length := by
  induction l with
  | nil => rfl
  | cons a l ih => cases a <;> simp <;> omega
theorem maj_offs (b : List Bool) : maj b = decide (2 * (offsF b true).length < b.length) := by
  have h1 := count_off b true
  have h2 := count_two b
  simp only [Bool.not_true] at h1
  unfold maj
  congr 1
  simp only [eq_iff_iff]
  omega
theorem maj_with (n : Nat) (bit : Bool) (l : List Nat) (h : Asc n l) (ho : n % 2 = 1) : maj (withF n bit l) = if 2 * l.length < n then bit else !bit := by
  have h1 := count_off (withF n bit l) bit
  rw [offs_with, range_filter n l h] at h1
  have h2 := count_two (withF n bit l)
  rw [withF_len] at h2
  unfold maj
  rw [withF_len]
  cases bit with
  | false =>
    simp only [Bool.not_false] at h1
    by_cases hc : 2 * l.length < n
    · rw [if_pos hc, decide_eq_false (by omega)]
    · rw [if_neg hc, decide_eq_true (by omega)]; rfl
  | true =>
    simp only [Bool.not_true] at h1
    by_cases hc : 2 * l.length < n
    · rw [if_pos hc, decide_eq_true (by omega)]
    · rw [if_neg hc, decide_eq_false (by omega)]; rfl
end K19

/-! K19r: plain facts, on. -/
namespace K19
open PySem Nd
theorem maj_odd (m : List Bool) (bit : Bool) (h : m.length % 2 = 1) : maj m = if m.length < 2 * m.count (!bit) then !bit else bit := by
  have h2 := count_two m
  unfold maj
  cases bit with
  | false => 
    simp only [Bool.not_false]
    by_cases hc : m.length < 2 * m.count true
    · rw [if_pos hc, decide_eq_true hc]
    · rw [if_neg hc, decide_eq_false hc]
  | true =>
    simp only [Bool.not_true]
    by_cases hc : m.length < 2 * m.count false
    · rw [if_pos hc, decide_eq_false (by omega)]
    · rw [if_neg hc, decide_eq_true (by omega)]
theorem gth_with (n : Nat) (bit : Bool) (lot v : List Nat) (hv : ∀ p ∈ v, p < n) : (gth (withF n bit lot) v).count (!bit) = (v.filter fun p => decide (p ∈ lot)).length := by
  induction v with
  | nil => rfl
  | cons a l ih =>
    have h1 := ih fun p hp => hv p (List.mem_cons_of_mem _ hp)
    have h2 := withF_at n bit lot a (hv a List.mem_cons_self)
    show (bAt (withF n bit lot) a :: gth (withF n bit lot) l).count (!bit) = _
    rw [List.count_cons, h1, h2]
    by_cases h : a ∈ lot <;> cases bit <;> simp [h]
theorem mem_outs (vs : List (List Nat)) (lot : List Nat) (j : Nat) (v : List Nat) (h : vs[j]? = some v) : j ∈ outsF vs lot ↔ v.length < 2 * (v.filter fun p => decide (p ∈ lot)).length := by
  unfold outsF
  simp only [List.mem_map, List.mem_filter, List.mem_zipIdx_iff_getElem?, decide_eq_true_eq]
  constructor
  · rintro ⟨q, ⟨hq, hd⟩, rfl⟩
    rw [h] at hq
    cases hq
    exact hd
  · intro hd
    exact ⟨(v, j), ⟨h, hd⟩, rfl⟩
theorem voted_with (n : Nat) (bit : Bool) (vs : List (List Nat)) (lot : List Nat) (hv : VsOk n vs) : votedF vs (withF n bit lot) = withF n bit (outsF vs lot) := by
  refine ext_b _ _ (by rw [votedF_len, withF_len, hv.1]) fun j hj => ?_
  rw [votedF_len, hv.1] at hj
  rw [withF_at _ _ _ _ hj]
  have hj' : j < vs.length := by rw [hv.1]; exact hj
  obtain ⟨h1, h2, h3⟩ := hv.2 vs[j] (List.getElem_mem hj')
  have e1 : bAt (votedF vs (withF n bit lot)) j = maj (gth (withF n bit lot) vs[j]) := by simp [bAt, votedF, hj']
  have hl : (gth (withF n bit lot) vs[j]).length = vs[j].length := by simp [gth]
  rw [e1, maj_odd _ bit (by rw [hl]; exact h1), gth_with n bit lot _ h3, hl]
  have := mem_outs vs lot j vs[j] (List.getElem?_eq_getElem hj')
  by_cases hc : j ∈ outsF vs lot
  · rw [if_pos (this.mp hc), if_pos hc]
  · rw [if_neg (fun e => hc (this.mpr e)), if_neg hc]
theorem not_with (n : Nat) (bit : Bool) (lot : List Nat) : (withF n bit lot).map (!·) = withF n (!bit) lot := by
  unfold withF
  rw [List.map_map]
  apply List.map_congr_left
  intro p _
  by_cases h : p ∈ lot <;> simp [h]
theorem sf_not (p : Nat) (d : Bool) : ∀ prs : List (Nat × Bool), p ∉ prs.map (·.1) → sf prs p d = d := by
  intro prs
  induction prs generalizing d with
  | nil => intro _; rfl
  | cons a l ih =>
    intro h
    simp only [List.map_cons, List.mem_cons, not_or] at h
    show sf l p (if a.1 = p then a.2 else d) = d
    rw [if_neg (fun e => h.1 e.symm)]
    exact ih d h.2
theorem sf_mem (p : Nat) (x : Bool) : ∀ (prs : List (Nat × Bool)) (d : Bool), (prs.map (·.1)).Pairwise (· < ·) → (p, x) ∈ prs → sf prs p d = x := by
  intro prs
  induction prs with
  | nil => intro d _ h; cases h
  | cons a l ih =>
    intro d hp h
    rw [List.map_cons, List.pairwise_cons] at hp
    show sf l p (if a.1 = p then a.2 else d) = x
    rcases List.mem_cons.mp h with rfl | h
    · rw [if_pos rfl]
      refine sf_not p x l fun e => ?_
      have := hp.1 p e
      exact Nat.lt_irrefl _ this
    · exact ih _ hp.2 h
def placesF (bit : Bool) (lot : List Nat) (prs : List (Nat × Bool)) : List Nat := (lot.filter fun p => !decide (p ∈ prs.map (·.1))) ++ (prs.filter fun q => q.2 != bit).map (·.1)
theorem saidF_at (b : List Bool) (prs : List (Nat × Bool)) (p : Nat) (h : p < b.length) : bAt (saidF b prs) p = sf prs p (bAt b p) := by
  simp [bAt, saidF, h]
theorem said_with (n : Nat) (bit : Bool) (lot : List Nat) (prs : List (Nat × Bool)) (hp : FailOk n prs) : saidF (withF n bit lot) prs = withF n bit (placesF bit lot prs) := by
  refine ext_b _ _ (by rw [saidF_len, withF_len, withF_len]) fun p hpn => ?_
  rw [saidF_len, withF_len] at hpn
  rw [saidF_at _ _ _ (by rw [withF_len]; exact hpn), withF_at _ _ _ _ hpn, withF_at _ _ _ _ hpn]
  have hm : p ∈ placesF bit lot prs ↔ (p ∈ lot ∧ p ∉ prs.map (·.1)) ∨ ∃ x, (p, x) ∈ prs ∧ x ≠ bit := by
    unfold placesF
    simp only [List.mem_append, List.mem_filter, Bool.not_eq_true', decide_eq_false_iff_not, List.mem_map, bne_iff_ne]
    constructor
    · rintro (h | ⟨q, ⟨h1, h2⟩, rfl⟩)
      · exact .inl h
      · exact .inr ⟨q.2, h1, h2⟩
    · rintro (h | ⟨x, h1, h2⟩)
      · exact .inl h
      · exact .inr ⟨(p, x), ⟨h1, h2⟩, rfl⟩
  by_cases h : p ∈ prs.map (·.1)
  · obtain ⟨⟨p', x⟩, hq, rfl⟩ := List.mem_map.mp h
    rw [sf_mem p' x prs _ hp.2.2 hq]
    by_cases hx : x = bit
    · have : ¬ p' ∈ placesF bit lot prs := by
        rw [hm]
        rintro (⟨_, h2⟩ | ⟨y, h1, h2⟩)
        · exact h2 h
        · have h3 := sf_mem p' x prs true hp.2.2 hq
          have h4 := sf_mem p' y prs true hp.2.2 h1
          rw [h3] at h4
          exact h2 (h4.symm.trans hx)
      rw [if_neg this, hx]
    · rw [if_pos (hm.mpr (.inr ⟨x, hq, hx⟩))]
      revert hx
      cases x <;> cases bit <;> simp
  · rw [sf_not p _ prs h]
    have : p ∈ placesF bit lot prs ↔ p ∈ lot := by
      rw [hm]
      constructor
      · rintro (h1 | ⟨x, h1, _⟩)
        · exact h1.1
        · exact absurd (List.mem_map.mpr ⟨(p, x), h1, rfl⟩) h
      · intro h1
        exact .inl ⟨h1, h⟩
    by_cases hl : p ∈ lot
    · rw [if_pos hl, if_pos (this.mpr hl)]
    · rw [if_neg hl, if_neg (fun e => hl (this.mp e))]
theorem places_ok (n : Nat) (bit : Bool) (lot : List Nat) (prs : List (Nat × Bool)) (hl : Asc n lot) (hp : FailOk n prs) : (placesF bit lot prs).Nodup ∧ ∀ p ∈ placesF bit lot prs, p < n := by
  constructor
  · unfold placesF
    rw [List.nodup_append]
    refine ⟨(hl.1.imp fun h => Nat.ne_of_lt h).filter _, ?_, ?_⟩
    · have h1 : (prs.map (·.1)).Nodup := hp.2.2.imp fun h => Nat.ne_of_lt h
      exact h1.sublist ((List.filter_sublist).map _)
    · intro a ha b hb e
      subst e
      simp only [List.mem_filter, Bool.not_eq_true', decide_eq_false_iff_not] at ha
      obtain ⟨q, hq, rfl⟩ := List.mem_map.mp hb
      exact ha.2 (List.mem_map.mpr ⟨q, (List.mem_filter.mp hq).1, rfl⟩)
  · intro p h
    rcases List.mem_append.mp h with h | h
    · exact hl.2 p (List.mem_filter.mp h).1
    · obtain ⟨q, hq, rfl⟩ := List.mem_map.mp h
      exact hp.2.1 q (List.mem_filter.mp hq).1
theorem offs_places (n : Nat) (bit : Bool) (lot : List Nat) (prs : List (Nat × Bool)) (hl : Asc n lot) (hp : FailOk n prs) : offsF (withF n bit (placesF bit lot prs)) bit = sortN (placesF bit lot prs) := by
  obtain ⟨h1, h2⟩ := places_ok n bit lot prs hl hp
  rw [offs_with, range_filter' n _ h1 h2]
theorem gated_at (n : Nat) (t : List Bool) (rows : List (List Bool)) (p : Nat) (h : p < n) : bAt (gatedF n t rows) p = bAt t (pl (rows.map fun r => bAt r p)) := by
  simp [bAt, gatedF, h]
/-- rows of one bit each, but at their lots -/
def rowsF (n : Nat) (row : List Bool) (lots : List (List Nat)) : List (List Bool) := (row.zip lots).map fun q => withF n q.1 q.2
theorem gated_lots (n : Nat) (t row : List Bool) (lots : List (List Nat)) (h : row.length = lots.length) (p : Nat) (hp : p < n) (hl : ∀ lot ∈ lots, ¬ p ∈ lot) : bAt (gatedF n t (rowsF n row lots)) p = bAt t (pl row) := by
  rw [gated_at _ _ _ _ hp]
  have : (rowsF n row lots).map (fun r => bAt r p) = row := by
    unfold rowsF
    rw [List.map_map]
    conv => rhs; rw [← List.map_fst_zip (l₁ := row) (l₂ := lots) (Nat.le_of_eq h)]
    apply List.map_congr_left
    intro q hq
    show bAt (withF n q.1 q.2) p = q.1
    rw [withF_at _ _ _ _ hp, if_neg (hl q.2 (List.of_mem_zip hq).2)]
  rw [this]
theorem gated_one (t row : List Bool) : gatedF 1 t (row.map fun x => [x]) = [bAt t (pl row)] := by
  have : (row.map fun x => [x]).map (fun r => bAt r 0) = row := by
    rw [List.map_map]
    conv => rhs; rw [← List.map_id row]
    apply List.map_congr_left
    intro q _
    rfl
  simp only [gatedF, List.range_one, List.map_cons, List.map_nil, this]
/-! bundles apart -/
def tabs5 : List (List Bool) := [[false, true, true, false], [true, false, false, true], [false, true, true, false, true, false, false, true], [true, false, false, true, false, true, true, false], [true, false]]
def turnF (row : List Bool) (o : Nat) : List Bool := row.zipIdx.map fun q => if o = q.2 then !q.1 else q.1
def parF (t row : List Bool) : Bool := if bAt t 0 = false then decide (row.count true % 2 = 1) else !decide (row.count true % 2 = 1)
theorem apart (t : List Bool) (ht : t ∈ tabs5) (i : Nat) (h : TabOk i t) (row : List Bool) (hr : row.length = i) (o : Nat) (ho : o < i + 2) : bAt t (pl (turnF row o)) = if o < i then !parF t row else parF t row := by
  have h1 : ∀ a : Bool, ∀ o < 3, bAt [true, false] (pl (turnF [a] o)) = if o < 1 then !parF [true, false] [a] else parF [true, false] [a] := by decide
  have h2 : ∀ a b : Bool, ∀ o < 4, bAt [false, true, true, false] (pl (turnF [a, b] o)) = if o < 2 then !parF [false, true, true, false] [a, b] else parF [false, true, true, false] [a, b] := by decide
  have h3 : ∀ a b : Bool, ∀ o < 4, bAt [true, false, false, true] (pl (turnF [a, b] o)) = if o < 2 then !parF [true, false, false, true] [a, b] else parF [true, false, false, true] [a, b] := by decide
  have h4 : ∀ a b c : Bool, ∀ o < 5, bAt [false, true, true, false, true, false, false, true] (pl (turnF [a, b, c] o)) = if o < 3 then !parF [false, true, true, false, true, false, false, true] [a, b, c] else parF [false, true, true, false, true, false, false, true] [a, b, c] := by decide
  have h5 : ∀ a b c : Bool, ∀ o < 5, bAt [true, false, false, true, false, true, true, false] (pl (turnF [a, b, c] o)) = if o < 3 then !parF [true, false, false, true, false, true, true, false] [a, b, c] else parF [true, false, false, true, false, true, true, false] [a, b, c] := by decide
  obtain ⟨hi, hl⟩ := h
  have hi' : i = 0 ∨ i = 1 ∨ i = 2 ∨ i = 3 := by omega
  simp only [tabs5, List.mem_cons, List.not_mem_nil, or_false] at ht
  rcases ht with rfl | rfl | rfl | rfl | rfl <;> rcases hi' with rfl | rfl | rfl | rfl <;> try (simp at hl; done)
  · match row, hr with | [a, b], _ => exact h2 a b o ho
  · match row, hr with | [a, b], _ => exact h3 a b o ho
  · match row, hr with | [a, b, c], _ => exact h4 a b c o ho
  · match row, hr with | [a, b, c], _ => exact h5 a b c o ho
  · match row, hr with | [a], _ => exact h1 a o ho
/-- the rows whose bits are turned where they own a place -/
def ownRows (row : List Bool) (owner : List Nat) : List (List Bool) := row.zipIdx.map fun q => owner.map fun o => if o = q.2 then !q.1 else q.1
theorem own_at (row : List Bool) (owner : List Nat) (p : Nat) (hp : p < owner.length) : (ownRows row owner).map (fun r => bAt r p) = turnF row (owner.getD p 0) := by
  unfold ownRows turnF
  rw [List.map_map]
  apply List.map_congr_left
  intro q _
  simp [bAt, hp]
def dueF (t row : List Bool) (owner : List Nat) : List Bool := owner.map fun o => if o < row.length then !parF t row else parF t row
theorem apart_gated (t : List Bool) (ht : t ∈ tabs5) (i : Nat) (h : TabOk i t) (row : List Bool) (hr : row.length = i) (owner : List Nat) (ho : ∀ o ∈ owner, o < i + 2) : gatedF owner.length t (ownRows row owner) = dueF t row owner := by
  refine ext_b _ _ (by rw [gatedF_len]; simp [dueF]) fun p hp => ?_
  rw [gatedF_len] at hp
  rw [gated_at _ _ _ _ hp, own_at _ _ _ hp, apart t ht i h row hr _ (by
    have : owner.getD p 0 = owner[p] := by simp [hp]
    rw [this]; exact ho _ (List.getElem_mem hp))]
  simp [bAt, dueF, hp, hr]
theorem apart_offs (t row : List Bool) (owner : List Nat) : offsF (dueF t row owner) (parF t row) = (List.range owner.length).filter fun p => decide (owner.getD p 0 < row.length) := by
  rw [offs_range]
  have : (dueF t row owner).length = owner.length := by simp [dueF]
  rw [this]
  apply List.filter_congr
  intro p hp
  have hp' : p < owner.length := by simpa using hp
  have e : bAt (dueF t row owner) p = if owner.getD p 0 < row.length then !parF t row else parF t row := by simp [bAt, dueF, hp']
  rw [e]
  by_cases hc : owner.getD p 0 < row.length
  · rw [if_pos hc, decide_eq_true hc]; cases parF t row <;> rfl
  · rw [if_neg hc, decide_eq_false hc]; cases parF t row <;> rfl
def plainF (n : Nat) : List (List Nat) := (List.range n).map fun p => [p]
theorem plain_ok (n : Nat) (h : 0 < n) : VsOk n (plainF n) := by
  refine ⟨by simp [plainF], fun v hv => ?_⟩
  obtain ⟨p, hp, rfl⟩ := List.mem_map.mp hv
  have : p < n := by simpa using hp
  exact ⟨rfl, by simp; omega, by simpa using this⟩
theorem saidF_nil (b : List Bool) : saidF b [] = b := by
  refine ext_b _ _ (saidF_len _ _) fun p hp => ?_
  rw [saidF_len] at hp
  rw [saidF_at _ _ _ hp]
  rfl
theorem voted_plain (b : List Bool) : votedF (plainF b.length) b = b := by
  refine ext_b _ _ (by rw [votedF_len]; simp [plainF]) fun p hp => ?_
  have hp' : p < b.length := by rw [votedF_len] at hp; simpa [plainF] using hp
  have e : bAt (votedF (plainF b.length) b) p = maj [bAt b p] := by simp [bAt, votedF, plainF, hp', gth]
  rw [e]
  cases bAt b p <;> rfl
theorem apart_layer (t : List Bool) (ht : t ∈ tabs5) (i : Nat) (h : TabOk i t) (row : List Bool) (hr : row.length = i) (owner : List Nat) (ho : ∀ o ∈ owner, o < i + 2) : layerF (plainF owner.length) t (ownRows row owner) [] [] = dueF t row owner := by
  have hg := apart_gated t ht i h row hr owner ho
  have hl : (plainF owner.length).length = owner.length := by simp [plainF]
  unfold layerF
  rw [hl, hg, saidF_nil, saidF_nil]
  have : owner.length = (dueF t row owner).length := by simp [dueF]
  rw [this]
  exact voted_plain _
end K19

/-! K19j: the jobs that the law makes: each def by itself. -/
namespace K19
open PySem Nd
theorem e29_0 (k n : Nat) (offs : List Nat) (hn : n ≤ 1000) (a0 a2 a3 a4 a5 a6 a7 a9 a10 a11 a12 a13 : Val) : evE (run k) G0 c29_0 [a0, nV n, a2, a3, a4, a5, a6, a7, tN offs, a9, a10, a11, a12, a13, .und] = .ok (.lst .ow (((List.range n).filter fun p => !decide (p ∈ offs)).map nV)) [a0, nV n, a2, a3, a4, a5, a6, a7, tN offs, a9, a10, a11, a12, a13, .und] := by
  have h := compI_maps (C := run k) (G := G0) (c0 := c29_0) (e := [a0, nV n, a2, a3, a4, a5, a6, a7, tN offs, a9, a10, a11, a12, a13, .und]) rfl (e1 := [a0, nV n, a2, a3, a4, a5, a6, a7, tN offs, a9, a10, a11, a12, a13, .und]) (ps := []) (List.range n) nV nV (fun p => !decide (p ∈ offs)) (by simp [rangeL_nat, okR_small hn]) (by simp [sizeLine]; omega) fun q hq => by
    refine ⟨[a0, nV n, a2, a3, a4, a5, a6, a7, tN offs, a9, a10, a11, a12, a13, nV q], ?_⟩
    by_cases hb : q ∈ offs <;> simp [turnM, wipes, cmpNin, hb, restores, saves]
  simpa using h
theorem e29_1 (k n : Nat) (bit : Bool) (offs : List Nat) (hn : n ≤ 1000) (a0 a2 a3 a4 a5 a6 a8 a9 a11 a12 a13 : Val) : evE (run k) G0 c29_1 [a0, nV n, a2, a3, a4, a5, a6, bV bit, a8, a9, tN offs, a11, a12, a13, .und] = .ok (.lst .ow ((withF n bit offs).map bV)) [a0, nV n, a2, a3, a4, a5, a6, bV bit, a8, a9, tN offs, a11, a12, a13, .und] := by
  have h := comp_maps (C := run k) (G := G0) (c0 := c29_1) (e := [a0, nV n, a2, a3, a4, a5, a6, bV bit, a8, a9, tN offs, a11, a12, a13, .und]) rfl (e1 := [a0, nV n, a2, a3, a4, a5, a6, bV bit, a8, a9, tN offs, a11, a12, a13, .und]) (ps := []) (List.range n) nV (fun p => bV (if p ∈ offs then !bit else bit)) (by simp [rangeL_nat, okR_small hn]) (by simp [sizeLine]; omega) fun q hq => by
    refine ⟨[a0, nV n, a2, a3, a4, a5, a6, bV bit, a8, a9, tN offs, a11, a12, a13, nV q], ?_⟩
    by_cases hb : q ∈ offs <;> simp [turnM, wipes, cmpIn, hb, restores, saves, binV, Nd.binI]
  simp at h
  simpa [withF, Function.comp_def] using h
theorem e29_2 (k n i : Nat) (b : Bag) (t : List Bool) (ht : TabOk i t) (hn : n ≤ 1000) (h0 : 0 < n) (a2 a3 a5 a6 a7 a8 a9 a10 a11 a12 a14 : Val) : ∃ (rows : List (List Bool)) (b' : Bag), evE (run (k + 2)) G0 c29_2 [bagV b, nV n, a2, a3, tB t, a5, a6, a7, a8, a9, a10, a11, a12, .und, a14] = .ok (.lst .ow (rows.map fun r => tB r)) [bagV b', nV n, a2, a3, tB t, a5, a6, a7, a8, a9, a10, a11, a12, .und, a14] ∧ rows.length = i ∧ ∀ r ∈ rows, r.length = n := by
  have h21 := s21 (k + 1) i t ht
  obtain ⟨l, b', h1, h2, h3⟩ := comp_st (C := run (k + 2)) (G := G0) (c0 := c29_2) (e := [bagV b, nV n, a2, a3, tB t, a5, a6, a7, a8, a9, a10, a11, a12, .und, a14]) rfl (ps := []) (List.range i) nV (fun b => [bagV b, nV n, a2, a3, tB t, a5, a6, a7, a8, a9, a10, a11, a12, .und, a14]) b (fun r => tB r) (fun r => r.length = n) (by simp [h21, rangeL_nat, okR_small (show i ≤ 1000 by have := ht.1; omega)]) (by have := ht.1; simp [sizeLine]; omega) (fun _ => rfl) fun z b hz => by
    obtain ⟨y, b', h1, h2⟩ := s15 k n b hn h0
    refine ⟨y, b', [bagV b', nV n, a2, a3, tB t, a5, a6, a7, a8, a9, a10, a11, a12, nV z, a14], ?_⟩
    simp [turnM, wipes, h1, restores, saves, h2]
  exact ⟨l, b', by rw [h1]; simp, by simpa using h2, h3⟩
theorem bI_if (c : Prop) [Decidable c] (x y : Bool) : bV (if c then x else y) = if c then bV x else bV y := by split <;> rfl
def AllGood (js : List Val) (m : Nat) : Prop := (∀ j ∈ js, Good j) ∧ js.length ≤ m
theorem AllGood.snoc {js : List Val} {m : Nat} {j : Val} (h : AllGood js m) (hj : Good j) : AllGood (js ++ [j]) (m + 1) := by
  refine ⟨fun x hx => ?_, by simp; exact h.2⟩
  rcases List.mem_append.mp hx with hx | hx
  · exact h.1 x hx
  · rw [List.mem_singleton.mp hx]; exact hj
theorem AllGood.app {js ks : List Val} {m m' : Nat} (h : AllGood js m) (h' : AllGood ks m') : AllGood (js ++ ks) (m + m') := by
  refine ⟨fun x hx => ?_, by simp; have := h.2; have := h'.2; omega⟩
  rcases List.mem_append.mp hx with hx | hx
  · exact h.1 x hx
  · exact h'.1 x hx
theorem AllGood.mono {js : List Val} {m m' : Nat} (h : AllGood js m) (hm : m ≤ m') : AllGood js m' := ⟨h.1, Nat.le_trans h.2 hm⟩
theorem AllGood.lt {js : List Val} {m : Nat} (h : AllGood js m) (hm : m < 16777216) : js.length < sizeLine := by
  have := h.2; simp only [sizeLine]; omega
/-- a job is put to the others -/
theorem Nxt.app {C : Nat → List Val → CRes} {G : Nat → Option Val} {io : List Nat} {i : Nat} {E : Ex} {ss : Sms} {e : List Val} {Q : List Val → Prop} {js : List Val} {m : Nat} (j : Val) (he : e[i]? = some (.lst .ow js)) (hE : evE C G E e = .ok j e) (hf : frz j = some j) (hj : AllGood js m) (hg : Good j) (hm : m < 100000) (k : ∀ js', AllGood js' (m + 1) → Nxt C G io ss (e.set i (.lst .ow js')) Q) : Nxt C G io (.cons (.expr (.meS .append i (.cons E .nil))) ss) e Q := by
  have h0 := hj.lt (by omega)
  refine Nxt.step ⟨e.set i (.lst .ow (js ++ [j])), ?_, k _ (hj.snoc hg)⟩
  have hi : i < e.length := (List.getElem?_eq_some_iff.mp he).1
  simp [he, hE, hf, h0]
theorem Ret.app {C : Nat → List Val → CRes} {G : Nat → Option Val} {io : List Nat} {i : Nat} {E : Ex} {ss : Sms} {e : List Val} {Q : Val → List Val → Prop} {js : List Val} {m : Nat} (j : Val) (he : e[i]? = some (.lst .ow js)) (hE : evE C G E e = .ok j e) (hf : frz j = some j) (hj : AllGood js m) (hg : Good j) (hm : m < 100000) (k : ∀ js', AllGood js' (m + 1) → Ret C G io ss (e.set i (.lst .ow js')) Q) : Ret C G io (.cons (.expr (.meS .append i (.cons E .nil))) ss) e Q := by
  have h0 := hj.lt (by omega)
  refine Ret.step ⟨e.set i (.lst .ow (js ++ [j])), ?_, k _ (hj.snoc hg)⟩
  have hi : i < e.length := (List.getElem?_eq_some_iff.mp he).1
  simp [he, hE, hf, h0]
theorem offs_asc (l : List Bool) (bit : Bool) : Asc l.length (offsF l bit) := by
  rw [offs_range]
  refine ⟨List.Pairwise.filter _ List.pairwise_lt_range, fun p hp => ?_⟩
  simpa using (List.mem_filter.mp hp).1
/-- one turn -/
theorem b29 (k n : Nat) (vs : List (List Nat)) (t : List Bool) (b : Bag) (js : List Val) (m : Nat) (hm : m ≤ 10000) (hn : n ≤ 11) (ho : n % 2 = 1) (hv : VsOk n vs) (hj : AllGood js m) (x5 x6 x7 x8 x9 x10 x11 : Val) :
    Nxt (run (k + 4)) G0 [0, 1] b29_0 [bagV b, nV n, .lst .ow js, tNN vs, tB t, x5, x6, x7, x8, x9, x10, x11, .und, .und, .und] fun e => ∃ b' js' y6 y7 y8 y9 y10 y11, e = [bagV b', nV n, .lst .ow js', tNN vs, tB t, x5, y6, y7, y8, y9, y10, y11, .und, .und, .und] ∧ AllGood js' (m + 8) := by
  obtain ⟨l, b1, h1, hl⟩ := s15 (k + 2) n b (by omega) (by omega)
  obtain ⟨bit, b2, h2⟩ := s12b (k + 3) b1
  have h3 : run (k + 4) 23 [tB l, bV bit] = _ := s23 (k + 3) l bit (by omega)
  have h4 : run (k + 4) 23 [tB l, .int 1] = _ := s23 (k + 3) l true (by omega)
  obtain ⟨prs, b3, h5, hf⟩ := s17 (k + 1) n b2 (by omega)
  have h6 : run (k + 4) 25 [tB l, fV prs] = _ := s25 (k + 3) l prs (by rw [hl]; exact hf.2.1)
  have hvl := hv.1
  have h7 : run (k + 4) 26 [tNN vs, tB l] = _ := s26 (k + 2) vs l (by omega) fun v hv' => by
    obtain ⟨_, q2, q3⟩ := hv.2 v hv'
    exact ⟨by omega, fun p hp => by rw [hl]; exact q3 p hp⟩
  obtain ⟨some, b4, h8, hs⟩ := s16 (k + 2) n n b3 (by omega)
  have hoa := offs_asc l bit
  rw [hl] at hoa
  have hol := hoa.len
  have hsl := hs.len
  -- the jobs
  have g1 := j0 l (by omega)
  rw [maj_offs, hl] at g1
  have g2 := j1 l bit (by omega)
  have g3 := j1 l (!bit) (by omega)
  rw [offs_not, hl] at g3
  have g4 := j2 n bit (offsF l bit) hn (by omega) fun p hp => by have := hoa.2 p hp; omega
  have e4 : withF n bit (offsF l bit) = l := by have := with_offs l bit; rw [hl] at this; exact this
  rw [e4] at g4
  have g5 := j4 n l prs hn hl hf
  have g6 := j5 n vs l hn hv hl
  have g7 := j2 n bit some hn (by omega) fun p hp => by have := hs.2 p hp; omega
  have g8 := j0 (withF n bit some) (by rw [withF_len]; omega)
  rw [maj_with n bit some hs ho] at g8
  unfold b29_0
  refine Nxt.step ⟨[bagV b2, nV n, .lst .ow js, tNN vs, tB t, x5, tB l, bV bit, x8, x9, x10, x11, .und, .und, .und], by simp [h1, h2, tlen, sizeLine], ?_⟩
  refine Nxt.step ⟨[bagV b2, nV n, .lst .ow js, tNN vs, tB t, x5, tB l, bV bit, tN (offsF l bit), x9, x10, x11, .und, .und, .und], by simp [h3], ?_⟩
  refine Nxt.app _ (by simp) ?_ rfl hj g1 (by omega) fun js1 hj1 => ?_
  · by_cases hc : 2 * (offsF l true).length < n
    · have hc' : 2 * ((offsF l true).length : Int) < (n : Int) := by omega
      simp [h4, binV, Nd.binI, small, cmpV, cmpI, hc', hc, sizeLine]
    · have hc' : ¬ 2 * ((offsF l true).length : Int) < (n : Int) := by omega
      simp [h4, binV, Nd.binI, small, cmpV, cmpI, hc', hc, sizeLine]
  simp only [List.set_cons_zero, List.set_cons_succ]
  refine Nxt.app _ (by simp) (by simp [sizeLine]) rfl hj1 g2 (by omega) fun js2 hj2 => ?_
  simp only [List.set_cons_zero, List.set_cons_succ]
  refine Nxt.app _ (by simp) (by
    have := e29_0 (k + 4) n (offsF l bit) (by omega) (bagV b2) (.lst .ow js2) (tNN vs) (tB t) x5 (tB l) (bV bit) x9 x10 x11 .und .und
    simp [binV, Nd.binI, this, sizeLine]) rfl hj2 g3 (by omega) fun js3 hj3 => ?_
  simp only [List.set_cons_zero, List.set_cons_succ]
  refine Nxt.app _ (by simp) (by simp [sizeLine]) rfl hj3 g4 (by omega) fun js4 hj4 => ?_
  simp only [List.set_cons_zero, List.set_cons_succ]
  refine Nxt.step ⟨[bagV b3, nV n, .lst .ow js4, tNN vs, tB t, x5, tB l, bV bit, tN (offsF l bit), fV prs, x10, x11, .und, .und, .und], by simp [h5], ?_⟩
  generalize hF : fV prs = F at *
  obtain ⟨fl, rfl⟩ : ∃ fl, F = .tup fl := ⟨_, hF.symm⟩
  refine Nxt.app _ (by simp) (by simp [h6, sizeLine]) rfl hj4 g5 (by omega) fun js5 hj5 => ?_
  simp only [List.set_cons_zero, List.set_cons_succ]
  refine Nxt.app _ (by simp) (by simp [h7, sizeLine]) rfl hj5 g6 (by omega) fun js6 hj6 => ?_
  simp only [List.set_cons_zero, List.set_cons_succ]
  refine Nxt.step ⟨[bagV b4, nV n, .lst .ow js6, tNN vs, tB t, x5, tB l, bV bit, tN (offsF l bit), .tup fl, tN some, x11, .und, .und, .und], by simp [h8], ?_⟩
  refine Nxt.step ⟨[bagV b4, nV n, .lst .ow js6, tNN vs, tB t, x5, tB l, bV bit, tN (offsF l bit), .tup fl, tN some, tB (withF n bit some), .und, .und, .und], by
    have := e29_1 (k + 4) n bit some (by omega) (bagV b4) (.lst .ow js6) (tNN vs) (tB t) x5 (tB l) (tN (offsF l bit)) (.tup fl) x11 .und .und
    simp [this], ?_⟩
  refine Nxt.app _ (by simp) (by simp [sizeLine]) rfl hj6 g7 (by omega) fun js7 hj7 => ?_
  simp only [List.set_cons_zero, List.set_cons_succ]
  refine Nxt.app _ (by simp) ?_ rfl hj7 g8 (by omega) fun js8 hj8 => ?_
  · by_cases hc : 2 * some.length < n
    · have hc' : 2 * (some.length : Int) < (n : Int) := by omega
      simp [binV, Nd.binI, small, cmpV, cmpI, hc', hc, sizeLine]
    · have hc' : ¬ 2 * (some.length : Int) < (n : Int) := by omega
      simp [binV, Nd.binI, small, cmpV, cmpI, hc', hc, sizeLine]
  simp only [List.set_cons_zero, List.set_cons_succ]
  exact Nxt.nil ⟨b4, js8, _, _, _, _, _, _, rfl, hj8⟩
theorem s29 (k n : Nat) (b : Bag) (hn : n ≤ 11) (ho : n % 2 = 1) : ∃ js b', run (k + 5) 29 [bagV b, nV n] = .ret (.lst .ow js) [bagV b', nV n] ∧ AllGood js 25 := by
  obtain ⟨vs, b1, h1, hv⟩ := s19 k n b (by omega) ho
  obtain ⟨t, b2, h2, i, ht⟩ := s20 (k + 1) b1
  obtain ⟨e3, ⟨b3, js, y5, y6, y7, y8, y9, y10, y11, rfl, hj⟩, h4⟩ := for_inv (C := run (k + 4)) (G := G0) (io := [0, 1]) (s0 := l29_0) (e := [bagV b2, nV n, .lst .ow [], tNN vs, tB t, .und, .und, .und, .und, .und, .und, .und, .und, .und, .und]) rfl (List.range 3) nV (ps := []) (e1 := [bagV b2, nV n, .lst .ow [], tNN vs, tB t, .und, .und, .und, .und, .und, .und, .und, .und, .und, .und]) (by
      have := rangeL_nat 3
      simp at this
      simp [this, okR]) (fun i e' => ∃ b js y5 y6 y7 y8 y9 y10 y11, e' = [bagV b, nV n, .lst .ow js, tNN vs, tB t, y5, y6, y7, y8, y9, y10, y11, .und, .und, .und] ∧ AllGood js (8 * i)) ⟨b2, [], _, _, _, _, _, _, _, rfl, by simp [AllGood]⟩ fun i p e' hx ⟨b, js, y5, y6, y7, y8, y9, y10, y11, he, hj⟩ => by
    subst he
    have hi : i < 3 := by simpa using (List.getElem?_eq_some_iff.mp hx).1
    obtain ⟨e3, h5, b', js', z6, z7, z8, z9, z10, z11, rfl, hj'⟩ := b29 k n vs t b js (8 * i) (by omega) hn ho hv hj (nV p) y6 y7 y8 y9 y10 y11
    exact ⟨[bagV b, nV n, .lst .ow js, tNN vs, tB t, nV p, y6, y7, y8, y9, y10, y11, .und, .und, .und], _, by simp [slotsOf], h5, b', js', _, _, _, _, _, _, _, rfl, hj'⟩
  simp only [plugs_nil, List.map_nil] at h4
  obtain ⟨rows, b4, h5, hr1, hr2⟩ := e29_2 (k + 2) n i b3 t ht (by omega) (by omega) (.lst .ow js) (tNN vs) y5 y6 y7 y8 y9 y10 y11 .und .und
  have h6 : run (k + 4) 24 [nV n, tB t, tBB rows] = _ := s24 (k + 3) n t rows (by omega) (fun r hr => by rw [hr2 r hr]; exact Nat.le_refl _) (by rw [hr1, ht.2]; exact Nat.le_refl _)
  have g := j3 n i t rows hn ht hr1 hr2
  have hj' : AllGood js 24 := hj.mono (by simp)
  have z : js.length < 16777216 := hj'.lt (by omega)
  refine ⟨js ++ [.tup [.int 3, .tup [nV n, tB t, tBB rows], tB (gatedF n t rows)]], b4, ?_, hj'.snoc g⟩
  rw [run_at (d := d29) rfl]
  generalize hVS : tNN vs = VS at *
  obtain ⟨fl, rfl⟩ : ∃ fl, VS = .tup fl := ⟨_, hVS.symm⟩
  simp [d29, runD_ap, h1, h2, sets, h4, h5, h6, z, sizeLine]
end K19

/-! K19k: the jobs that the law makes: offs. -/
namespace K19
open PySem Nd
/-! slots: 0 bag 1 n 2 found 3 votes 4 table 5 row 6 lots 7 rows 8 value 9 due 10 offs 11 bit 12 lot 13 b 14 behind 15 turned 16 fails 17 places 18 k 19 p 20 x 21 j -/
theorem e30_0 (k i : Nat) (b : Bag) (t : List Bool) (ht : TabOk i t) (a1 a2 a3 a5 a6 a7 a8 a9 a10 a11 a12 a13 a14 a15 a16 a17 a19 a20 a21 : Val) : ∃ (row : List Bool) (b' : Bag), evE (run (k + 1)) G0 c30_0 [bagV b, a1, a2, a3, tB t, a5, a6, a7, a8, a9, a10, a11, a12, a13, a14, a15, a16, a17, .und, a19, a20, a21] = .ok (.lst .ow (row.map bV)) [bagV b', a1, a2, a3, tB t, a5, a6, a7, a8, a9, a10, a11, a12, a13, a14, a15, a16, a17, .und, a19, a20, a21] ∧ row.length = i := by
  have h21 := s21 k i t ht
  obtain ⟨l, b', h1, h2, h3⟩ := comp_st (C := run (k + 1)) (G := G0) (c0 := c30_0) (e := [bagV b, a1, a2, a3, tB t, a5, a6, a7, a8, a9, a10, a11, a12, a13, a14, a15, a16, a17, .und, a19, a20, a21]) rfl (ps := []) (List.range i) nV (fun b => [bagV b, a1, a2, a3, tB t, a5, a6, a7, a8, a9, a10, a11, a12, a13, a14, a15, a16, a17, .und, a19, a20, a21]) b bV (fun r => True) (by simp [h21, rangeL_nat, okR_small (show i ≤ 1000 by have := ht.1; omega)]) (by have := ht.1; simp [sizeLine]; omega) (fun _ => rfl) fun z b hz => by
    obtain ⟨y, b', h1⟩ := s12b k b
    refine ⟨y, b', [bagV b', a1, a2, a3, tB t, a5, a6, a7, a8, a9, a10, a11, a12, a13, a14, a15, a16, a17, nV z, a19, a20, a21], ?_⟩
    simp [turnM, wipes, h1, restores, saves]
  exact ⟨l, b', by rw [h1]; simp, by simpa using h2⟩
theorem e30_1 (k n : Nat) (b : Bag) (row : List Bool) (hr : row.length ≤ 1000) (hn : n ≤ 1000) (a2 a3 a4 a6 a7 a8 a9 a10 a12 a13 a14 a15 a16 a17 a18 a19 a20 a21 : Val) : ∃ (lots : List (List Nat)) (b' : Bag), evE (run (k + 2)) G0 c30_1 [bagV b, nV n, a2, a3, a4, tB row, a6, a7, a8, a9, a10, .und, a12, a13, a14, a15, a16, a17, a18, a19, a20, a21] = .ok (.lst .ow (lots.map fun l => tN l)) [bagV b', nV n, a2, a3, a4, tB row, a6, a7, a8, a9, a10, .und, a12, a13, a14, a15, a16, a17, a18, a19, a20, a21] ∧ lots.length = row.length ∧ ∀ l ∈ lots, Asc n l := by
  obtain ⟨l, b', h1, h2, h3⟩ := comp_st (C := run (k + 2)) (G := G0) (c0 := c30_1) (e := [bagV b, nV n, a2, a3, a4, tB row, a6, a7, a8, a9, a10, .und, a12, a13, a14, a15, a16, a17, a18, a19, a20, a21]) rfl (ps := [(tB row, .no)]) row bV (fun b => [bagV b, nV n, a2, a3, a4, tB row, a6, a7, a8, a9, a10, .und, a12, a13, a14, a15, a16, a17, a18, a19, a20, a21]) b (fun l => tN l) (fun l => Asc n l) (by simp) (by simp [sizeLine]; omega) (fun _ => rfl) fun z b hz => by
    obtain ⟨x, hx, b1, h1⟩ := s13 k b [.int 1, .int 2, nV n] (by simp) (by simp)
    have hm : ∃ m : Nat, x = nV m := by
      simp only [List.mem_cons, List.not_mem_nil, or_false] at hx
      rcases hx with rfl | rfl | rfl
      · exact ⟨1, rfl⟩
      · exact ⟨2, rfl⟩
      · exact ⟨n, rfl⟩
    obtain ⟨m, rfl⟩ := hm
    obtain ⟨ps, b2, h2, ha⟩ := s16 k n m b1 hn
    refine ⟨ps, b2, [bagV b2, nV n, a2, a3, a4, tB row, a6, a7, a8, a9, a10, bV z, a12, a13, a14, a15, a16, a17, a18, a19, a20, a21], ?_⟩
    simp [turnM, wipes, h1, h2, restores, saves, sizeLine, ha]
  exact ⟨l, b', by rw [h1]; simp, by simpa using h2, h3⟩
theorem e30_2 (k n : Nat) (bit : Bool) (lot : List Nat) (hn : n ≤ 1000) (a0 a2 a3 a4 a5 a6 a7 a8 a9 a10 a13 a14 a15 a16 a17 a18 a20 a21 : Val) : evE (run k) G0 c30_2 [a0, nV n, a2, a3, a4, a5, a6, a7, a8, a9, a10, bV bit, tN lot, a13, a14, a15, a16, a17, a18, .und, a20, a21] = .ok (.lst .ow ((withF n bit lot).map bV)) [a0, nV n, a2, a3, a4, a5, a6, a7, a8, a9, a10, bV bit, tN lot, a13, a14, a15, a16, a17, a18, .und, a20, a21] := by
  have h := comp_maps (C := run k) (G := G0) (c0 := c30_2) (e := [a0, nV n, a2, a3, a4, a5, a6, a7, a8, a9, a10, bV bit, tN lot, a13, a14, a15, a16, a17, a18, .und, a20, a21]) rfl (e1 := [a0, nV n, a2, a3, a4, a5, a6, a7, a8, a9, a10, bV bit, tN lot, a13, a14, a15, a16, a17, a18, .und, a20, a21]) (ps := []) (List.range n) nV (fun p => bV (if p ∈ lot then !bit else bit)) (by simp [rangeL_nat, okR_small hn]) (by simp [sizeLine]; omega) fun q hq => by
    refine ⟨[a0, nV n, a2, a3, a4, a5, a6, a7, a8, a9, a10, bV bit, tN lot, a13, a14, a15, a16, a17, a18, nV q, a20, a21], ?_⟩
    by_cases hb : q ∈ lot <;> simp [turnM, wipes, cmpIn, hb, restores, saves, binV, Nd.binI]
  simp at h
  simpa [withF, Function.comp_def] using h
theorem e30_3 (k n : Nat) (row : List Bool) (lots : List (List Nat)) (hn : n ≤ 1000) (hr : row.length ≤ 1000) (a0 a2 a3 a4 a7 a8 a9 a10 a13 a14 a15 a16 a17 a18 a20 a21 : Val) : evE (run k) G0 c30_3 [a0, nV n, a2, a3, a4, tB row, .lst .ow (lots.map fun l => tN l), a7, a8, a9, a10, .und, .und, a13, a14, a15, a16, a17, a18, .und, a20, a21] = .ok (.lst .ow ((rowsF n row lots).map fun r => tB r)) [a0, nV n, a2, a3, a4, tB row, .lst .ow (lots.map fun l => tN l), a7, a8, a9, a10, .und, .und, a13, a14, a15, a16, a17, a18, .und, a20, a21] := by
  have h := comp_maps (C := run k) (G := G0) (c0 := c30_3) (e := [a0, nV n, a2, a3, a4, tB row, .lst .ow (lots.map fun l => tN l), a7, a8, a9, a10, .und, .und, a13, a14, a15, a16, a17, a18, .und, a20, a21]) rfl (e1 := [a0, nV n, a2, a3, a4, tB row, .und, a7, a8, a9, a10, .und, .und, a13, a14, a15, a16, a17, a18, .und, a20, a21]) (ps := [(tB row, .no), (.lst .ow (lots.map fun l => tN l), .sl 6)]) (row.zip lots) (fun q => .tup [bV q.1, tN q.2]) (fun q => tB (withF n q.1 q.2)) (by simp [zipL_map]) (by simp [sizeLine]; omega) fun q hq => by
    refine ⟨[a0, nV n, a2, a3, a4, tB row, .und, a7, a8, a9, a10, bV q.1, tN q.2, a13, a14, a15, a16, a17, a18, .und, a20, a21], ?_⟩
    have := e30_2 k n q.1 q.2 hn a0 a2 a3 a4 (tB row) .und a7 a8 a9 a10 a13 a14 a15 a16 a17 a18 a20 a21
    simp [turnM, wipes, tlen, this, restores, saves]
  simp at h
  simpa [rowsF, Function.comp_def] using h
theorem e30_4 (k : Nat) (row : List Bool) (hr : row.length ≤ 1000) (a0 a1 a2 a3 a4 a6 a7 a8 a9 a10 a12 a13 a14 a15 a16 a17 a18 a19 a20 a21 : Val) : evE (run k) G0 c30_4 [a0, a1, a2, a3, a4, tB row, a6, a7, a8, a9, a10, .und, a12, a13, a14, a15, a16, a17, a18, a19, a20, a21] = .ok (.lst .ow ((row.map fun x => [x]).map fun r => tB r)) [a0, a1, a2, a3, a4, tB row, a6, a7, a8, a9, a10, .und, a12, a13, a14, a15, a16, a17, a18, a19, a20, a21] := by
  have h := comp_maps (C := run k) (G := G0) (c0 := c30_4) (e := [a0, a1, a2, a3, a4, tB row, a6, a7, a8, a9, a10, .und, a12, a13, a14, a15, a16, a17, a18, a19, a20, a21]) rfl (e1 := [a0, a1, a2, a3, a4, tB row, a6, a7, a8, a9, a10, .und, a12, a13, a14, a15, a16, a17, a18, a19, a20, a21]) (ps := [(tB row, .no)]) row bV (fun q => tB [q]) (by simp) (by simp [sizeLine]; omega) fun q hq => by
    refine ⟨[a0, a1, a2, a3, a4, tB row, a6, a7, a8, a9, a10, bV q, a12, a13, a14, a15, a16, a17, a18, a19, a20, a21], ?_⟩
    simp [turnM, wipes, restores, saves, sizeLine]
  simp at h
  simpa [Function.comp_def] using h
theorem e30_5 (k p : Nat) (lots : List (List Nat)) (hr : lots.length ≤ 1000) (a0 a1 a2 a3 a4 a5 a7 a8 a9 a10 a11 a13 a14 a15 a16 a17 a18 a20 a21 : Val) : evE (run k) G0 c30_5 [a0, a1, a2, a3, a4, a5, .lst .ow (lots.map fun l => tN l), a7, a8, a9, a10, a11, .und, a13, a14, a15, a16, a17, a18, nV p, a20, a21] = .ok (.lst .ow (lots.map fun l => .bl (decide (p ∈ l)))) [a0, a1, a2, a3, a4, a5, .lst .ow (lots.map fun l => tN l), a7, a8, a9, a10, a11, .und, a13, a14, a15, a16, a17, a18, nV p, a20, a21] := by
  have h := comp_maps (C := run k) (G := G0) (c0 := c30_5) (e := [a0, a1, a2, a3, a4, a5, .lst .ow (lots.map fun l => tN l), a7, a8, a9, a10, a11, .und, a13, a14, a15, a16, a17, a18, nV p, a20, a21]) rfl (e1 := [a0, a1, a2, a3, a4, a5, .und, a7, a8, a9, a10, a11, .und, a13, a14, a15, a16, a17, a18, nV p, a20, a21]) (ps := [(.lst .ow (lots.map fun l => tN l), .sl 6)]) lots (fun l => tN l) (fun l => .bl (decide (p ∈ l))) (by simp) (by simp [sizeLine]; omega) fun q hq => by
    refine ⟨[a0, a1, a2, a3, a4, a5, .und, a7, a8, a9, a10, a11, tN q, a13, a14, a15, a16, a17, a18, nV p, a20, a21], ?_⟩
    simp [turnM, wipes, restores, saves, cmpIn]
  simpa using h
/-- value but where some lot has the place -/
def lotsDue (due : List Bool) (value : Bool) (lots : List (List Nat)) : List Bool := due.zipIdx.map fun q => if lots.any (fun l => decide (q.2 ∈ l)) then q.1 else value
theorem e30_6 (k : Nat) (lots : List (List Nat)) (value : Bool) (due : List Bool) (hr : lots.length ≤ 1000) (hd : due.length ≤ 1000) (a0 a1 a2 a3 a4 a5 a7 a10 a11 a13 a14 a15 a16 a17 a18 a21 : Val) : evE (run k) G0 c30_6 [a0, a1, a2, a3, a4, a5, .lst .ow (lots.map fun l => tN l), a7, bV value, tB due, a10, a11, .und, a13, a14, a15, a16, a17, a18, .und, .und, a21] = .ok (.lst .ow ((lotsDue due value lots).map bV)) [a0, a1, a2, a3, a4, a5, .lst .ow (lots.map fun l => tN l), a7, bV value, tB due, a10, a11, .und, a13, a14, a15, a16, a17, a18, .und, .und, a21] := by
  have h := comp_maps (C := run k) (G := G0) (c0 := c30_6) (e := [a0, a1, a2, a3, a4, a5, .lst .ow (lots.map fun l => tN l), a7, bV value, tB due, a10, a11, .und, a13, a14, a15, a16, a17, a18, .und, .und, a21]) rfl (e1 := [a0, a1, a2, a3, a4, a5, .lst .ow (lots.map fun l => tN l), a7, bV value, tB due, a10, a11, .und, a13, a14, a15, a16, a17, a18, .und, .und, a21]) (ps := [(tB due, .no)]) due.zipIdx (fun q => .tup [nV q.2, bV q.1]) (fun q => bV (if lots.any (fun l => decide (q.2 ∈ l)) then q.1 else value)) (by simp [enumL_map]) (by simp [sizeLine]; omega) fun q hq => by
    refine ⟨[a0, a1, a2, a3, a4, a5, .lst .ow (lots.map fun l => tN l), a7, bV value, tB due, a10, a11, .und, a13, a14, a15, a16, a17, a18, nV q.2, bV q.1, a21], ?_⟩
    have h1 := e30_5 k q.2 lots hr a0 a1 a2 a3 a4 a5 a7 (bV value) (tB due) a10 a11 a13 a14 a15 a16 a17 a18 (bV q.1) a21
    have h2 : biV .any [.lst .ow (lots.map fun l => .bl (decide (q.2 ∈ l)))] = some (.bl (lots.any fun l => decide (q.2 ∈ l))) := by
      show (boolsL _).map _ = _
      rw [boolsL_maps]
      simp [List.any_map, Function.comp_def]
    generalize (lots.map fun l => Val.bl (decide (q.2 ∈ l))) = L at h1 h2
    generalize hb : (lots.any fun l => decide (q.2 ∈ l)) = c at *
    cases c <;> simp [turnM, wipes, tlen, h1, h2, restores, saves]
  simp at h
  simpa [lotsDue, Function.comp_def] using h
theorem e30_8 (k n : Nat) (bit : Bool) (lot : List Nat) (hn : n ≤ 1000) (a0 a2 a3 a4 a5 a6 a7 a8 a9 a10 a12 a13 a15 a16 a17 a18 a19 a20 : Val) : evE (run k) G0 c30_8 [a0, nV n, a2, a3, a4, a5, a6, a7, a8, a9, a10, bV bit, a12, a13, tN lot, a15, a16, a17, a18, a19, a20, .und] = .ok (.lst .ow ((withF n bit lot).map bV)) [a0, nV n, a2, a3, a4, a5, a6, a7, a8, a9, a10, bV bit, a12, a13, tN lot, a15, a16, a17, a18, a19, a20, .und] := by
  have h := comp_maps (C := run k) (G := G0) (c0 := c30_8) (e := [a0, nV n, a2, a3, a4, a5, a6, a7, a8, a9, a10, bV bit, a12, a13, tN lot, a15, a16, a17, a18, a19, a20, .und]) rfl (e1 := [a0, nV n, a2, a3, a4, a5, a6, a7, a8, a9, a10, bV bit, a12, a13, tN lot, a15, a16, a17, a18, a19, a20, .und]) (ps := []) (List.range n) nV (fun p => bV (if p ∈ lot then !bit else bit)) (by simp [rangeL_nat, okR_small hn]) (by simp [sizeLine]; omega) fun q hq => by
    refine ⟨[a0, nV n, a2, a3, a4, a5, a6, a7, a8, a9, a10, bV bit, a12, a13, tN lot, a15, a16, a17, a18, a19, a20, nV q], ?_⟩
    by_cases hb : q ∈ lot <;> simp [turnM, wipes, cmpIn, hb, restores, saves, binV, Nd.binI]
  simp at h
  simpa [withF, Function.comp_def] using h
theorem e30_9 (k : Nat) (b : List Bool) (hr : b.length ≤ 1000) (a0 a1 a2 a3 a4 a5 a6 a7 a8 a9 a10 a11 a12 a14 a15 a16 a17 a18 a19 a21 : Val) : evE (run k) G0 c30_9 [a0, a1, a2, a3, a4, a5, a6, a7, a8, a9, a10, a11, a12, tB b, a14, a15, a16, a17, a18, a19, .und, a21] = .ok (.lst .ow ((b.map (!·)).map bV)) [a0, a1, a2, a3, a4, a5, a6, a7, a8, a9, a10, a11, a12, tB b, a14, a15, a16, a17, a18, a19, .und, a21] := by
  have h := comp_maps (C := run k) (G := G0) (c0 := c30_9) (e := [a0, a1, a2, a3, a4, a5, a6, a7, a8, a9, a10, a11, a12, tB b, a14, a15, a16, a17, a18, a19, .und, a21]) rfl (e1 := [a0, a1, a2, a3, a4, a5, a6, a7, a8, a9, a10, a11, a12, tB b, a14, a15, a16, a17, a18, a19, .und, a21]) (ps := [(tB b, .no)]) b bV (fun x => bV (!x)) (by simp) (by simp [sizeLine]; omega) fun q hq => by
    refine ⟨[a0, a1, a2, a3, a4, a5, a6, a7, a8, a9, a10, a11, a12, tB b, a14, a15, a16, a17, a18, a19, bV q, a21], ?_⟩
    simp [turnM, wipes, restores, saves, binV, Nd.binI]
  simp at h
  simpa [Function.comp_def] using h
theorem e30_10 (k n : Nat) (bit : Bool) (lot : List Nat) (hn : n ≤ 1000) (a0 a2 a3 a4 a5 a6 a7 a8 a9 a10 a12 a13 a15 a16 a17 a18 a19 a20 : Val) : evE (run k) G0 c30_10 [a0, nV n, a2, a3, a4, a5, a6, a7, a8, a9, a10, bV bit, a12, a13, tN lot, a15, a16, a17, a18, a19, a20, .und] = .ok (.lst .ow ((withF n (!bit) lot).map bV)) [a0, nV n, a2, a3, a4, a5, a6, a7, a8, a9, a10, bV bit, a12, a13, tN lot, a15, a16, a17, a18, a19, a20, .und] := by
  have h := comp_maps (C := run k) (G := G0) (c0 := c30_10) (e := [a0, nV n, a2, a3, a4, a5, a6, a7, a8, a9, a10, bV bit, a12, a13, tN lot, a15, a16, a17, a18, a19, a20, .und]) rfl (e1 := [a0, nV n, a2, a3, a4, a5, a6, a7, a8, a9, a10, bV bit, a12, a13, tN lot, a15, a16, a17, a18, a19, a20, .und]) (ps := []) (List.range n) nV (fun p => bV (if p ∈ lot then bit else !bit)) (by simp [rangeL_nat, okR_small hn]) (by simp [sizeLine]; omega) fun q hq => by
    refine ⟨[a0, nV n, a2, a3, a4, a5, a6, a7, a8, a9, a10, bV bit, a12, a13, tN lot, a15, a16, a17, a18, a19, a20, nV q], ?_⟩
    by_cases hb : q ∈ lot <;> simp [turnM, wipes, cmpIn, hb, restores, saves, binV, Nd.binI]
  simp at h
  simpa [withF, Function.comp_def] using h
end K19

/-! K19m: the jobs of offs, on. -/
namespace K19
open PySem Nd
theorem cmpNinN (p : Nat) (l : List Nat) : cmpV .nin (nV p) (tN l) = some (.bl (!decide (p ∈ l))) := cmpNin p l
theorem e30_11' (k : Nat) (lot ks : List Nat) (w : Val) (hl : lot.length ≤ 1000) (a0 a1 a2 a3 a4 a5 a6 a7 a8 a9 a10 a11 a13 a14 a15 a17 a18 a20 a21 : Val) : evE (run k) G0 c30_11 [a0, a1, a2, a3, a4, a5, a6, a7, a8, a9, a10, a11, tN lot, a13, a14, a15, .tup [tN ks, w], a17, a18, .und, a20, a21] = .ok (.lst .ow ((lot.filter fun p => !decide (p ∈ ks)).map nV)) [a0, a1, a2, a3, a4, a5, a6, a7, a8, a9, a10, a11, tN lot, a13, a14, a15, .tup [tN ks, w], a17, a18, .und, a20, a21] := by
  have h := compI_maps (C := run k) (G := G0) (c0 := c30_11) (e := [a0, a1, a2, a3, a4, a5, a6, a7, a8, a9, a10, a11, tN lot, a13, a14, a15, .tup [tN ks, w], a17, a18, .und, a20, a21]) rfl (e1 := [a0, a1, a2, a3, a4, a5, a6, a7, a8, a9, a10, a11, tN lot, a13, a14, a15, .tup [tN ks, w], a17, a18, .und, a20, a21]) (ps := [(tN lot, .no)]) lot nV nV (fun p => !decide (p ∈ ks)) (by simp) (by simp [sizeLine]; omega) fun q hq => by
    refine ⟨[a0, a1, a2, a3, a4, a5, a6, a7, a8, a9, a10, a11, tN lot, a13, a14, a15, .tup [tN ks, w], a17, a18, nV q, a20, a21], ?_⟩
    by_cases hb : q ∈ ks <;> simp [turnM, wipes, cmpNin, hb, restores, saves]
  rw [h]
  simp
theorem e30_11 (k : Nat) (lot : List Nat) (prs : List (Nat × Bool)) (hl : lot.length ≤ 1000) (a0 a1 a2 a3 a4 a5 a6 a7 a8 a9 a10 a11 a13 a14 a15 a17 a18 a20 a21 : Val) : evE (run k) G0 c30_11 [a0, a1, a2, a3, a4, a5, a6, a7, a8, a9, a10, a11, tN lot, a13, a14, a15, fV prs, a17, a18, .und, a20, a21] = .ok (.lst .ow ((lot.filter fun p => !decide (p ∈ prs.map (·.1))).map nV)) [a0, a1, a2, a3, a4, a5, a6, a7, a8, a9, a10, a11, tN lot, a13, a14, a15, fV prs, a17, a18, .und, a20, a21] :=
  e30_11' k lot (prs.map (·.1)) (tB (prs.map (·.2))) hl a0 a1 a2 a3 a4 a5 a6 a7 a8 a9 a10 a11 a13 a14 a15 a17 a18 a20 a21
theorem e30_12' (k : Nat) (bit : Bool) (prs : List (Nat × Bool)) (ks : List Nat) (vs : List Bool) (hz : zipL (ks.map nV) (vs.map bV) = prs.map fun q => .tup [nV q.1, bV q.2]) (hl : prs.length ≤ 1000) (a0 a1 a2 a3 a4 a5 a6 a7 a8 a9 a10 a12 a13 a14 a15 a17 a18 a21 : Val) : evE (run k) G0 c30_12 [a0, a1, a2, a3, a4, a5, a6, a7, a8, a9, a10, bV bit, a12, a13, a14, a15, .tup [tN ks, tB vs], a17, a18, .und, .und, a21] = .ok (.lst .ow (((prs.filter fun q => q.2 != bit).map (·.1)).map nV)) [a0, a1, a2, a3, a4, a5, a6, a7, a8, a9, a10, bV bit, a12, a13, a14, a15, .tup [tN ks, tB vs], a17, a18, .und, .und, a21] := by
  have h := compI_maps (C := run k) (G := G0) (c0 := c30_12) (e := [a0, a1, a2, a3, a4, a5, a6, a7, a8, a9, a10, bV bit, a12, a13, a14, a15, .tup [tN ks, tB vs], a17, a18, .und, .und, a21]) rfl (e1 := [a0, a1, a2, a3, a4, a5, a6, a7, a8, a9, a10, bV bit, a12, a13, a14, a15, .tup [tN ks, tB vs], a17, a18, .und, .und, a21]) (ps := [(tN ks, .no), (tB vs, .no)]) prs (fun q => .tup [nV q.1, bV q.2]) (fun q => nV q.1) (fun q => q.2 != bit) (by simp [hz]) (by simp [sizeLine]; omega) fun q hq => by
    refine ⟨[a0, a1, a2, a3, a4, a5, a6, a7, a8, a9, a10, bV bit, a12, a13, a14, a15, .tup [tN ks, tB vs], a17, a18, nV q.1, bV q.2, a21], ?_⟩
    cases hb : (q.2 != bit) <;> simp [turnM, wipes, tlen, cmpB, hb, restores, saves]
  rw [h]
  simp [Function.comp_def]
theorem e30_12 (k : Nat) (bit : Bool) (prs : List (Nat × Bool)) (hl : prs.length ≤ 1000) (a0 a1 a2 a3 a4 a5 a6 a7 a8 a9 a10 a12 a13 a14 a15 a17 a18 a21 : Val) : evE (run k) G0 c30_12 [a0, a1, a2, a3, a4, a5, a6, a7, a8, a9, a10, bV bit, a12, a13, a14, a15, fV prs, a17, a18, .und, .und, a21] = .ok (.lst .ow (((prs.filter fun q => q.2 != bit).map (·.1)).map nV)) [a0, a1, a2, a3, a4, a5, a6, a7, a8, a9, a10, bV bit, a12, a13, a14, a15, fV prs, a17, a18, .und, .und, a21] :=
  e30_12' k bit prs (prs.map (·.1)) (prs.map (·.2)) (by rw [zipL_map, zip_map12]) hl a0 a1 a2 a3 a4 a5 a6 a7 a8 a9 a10 a12 a13 a14 a15 a17 a18 a21
theorem e30_13 (k n : Nat) (bit : Bool) (lot : List Nat) (hn : n ≤ 1000) (a0 a2 a3 a4 a5 a6 a7 a8 a9 a10 a12 a13 a14 a15 a16 a18 a20 a21 : Val) : evE (run k) G0 c30_13 [a0, nV n, a2, a3, a4, a5, a6, a7, a8, a9, a10, bV bit, a12, a13, a14, a15, a16, .lst .ow (lot.map nV), a18, .und, a20, a21] = .ok (.lst .ow ((withF n bit lot).map bV)) [a0, nV n, a2, a3, a4, a5, a6, a7, a8, a9, a10, bV bit, a12, a13, a14, a15, a16, .lst .ow (lot.map nV), a18, .und, a20, a21] := by
  have h := comp_maps (C := run k) (G := G0) (c0 := c30_13) (e := [a0, nV n, a2, a3, a4, a5, a6, a7, a8, a9, a10, bV bit, a12, a13, a14, a15, a16, .lst .ow (lot.map nV), a18, .und, a20, a21]) rfl (e1 := [a0, nV n, a2, a3, a4, a5, a6, a7, a8, a9, a10, bV bit, a12, a13, a14, a15, a16, .lst .ow (lot.map nV), a18, .und, a20, a21]) (ps := []) (List.range n) nV (fun p => bV (if p ∈ lot then !bit else bit)) (by simp [rangeL_nat, okR_small hn]) (by simp [sizeLine]; omega) fun q hq => by
    refine ⟨[a0, nV n, a2, a3, a4, a5, a6, a7, a8, a9, a10, bV bit, a12, a13, a14, a15, a16, .lst .ow (lot.map nV), a18, nV q, a20, a21], ?_⟩
    by_cases hb : q ∈ lot <;> simp [turnM, wipes, cmpInO, hb, restores, saves, binV, Nd.binI]
  simp at h
  simpa [withF, Function.comp_def] using h
theorem outs_asc (n : Nat) (vs : List (List Nat)) (lot : List Nat) (h : vs.length = n) : Asc n (outsF vs lot) := by
  have h1 : ∀ (l : List (List Nat)) (k : Nat), (((l.zipIdx k).filter fun q => decide (q.1.length < 2 * (q.1.filter fun p => decide (p ∈ lot)).length)).map (·.2)).Pairwise (· < ·) := by
    intro l k
    have : ((l.zipIdx k).map (·.2)).Pairwise (· < ·) := by
      rw [List.zipIdx_map_snd]
      exact List.pairwise_lt_range'
    exact this.sublist ((List.filter_sublist).map _)
  refine ⟨h1 vs 0, fun p hp => ?_⟩
  unfold outsF at hp
  obtain ⟨q, hq, rfl⟩ := List.mem_map.mp hp
  have := List.snd_lt_of_mem_zipIdx (List.mem_filter.mp hq).1
  omega
/-- one bit's turn -/
theorem b30 (k n : Nat) (vs : List (List Nat)) (bit : Bool) (b : Bag) (js : List Val) (m : Nat) (hm : m ≤ 10000) (hn : n ≤ 11) (ho : n % 2 = 1) (hv : VsOk n vs) (hj : AllGood js m) (x4 x5 x6 x7 x8 x9 x10 x12 x13 x14 x15 x16 x17 : Val) :
    Nxt (run (k + 4)) G0 [0, 1] b30_0 [bagV b, nV n, .lst .ow js, tNN vs, x4, x5, x6, x7, x8, x9, x10, bV bit, x12, x13, x14, x15, x16, x17, .und, .und, .und, .und] fun e => ∃ b' js' y9 y12 y13 y14 y15 y16 y17, e = [bagV b', nV n, .lst .ow js', tNN vs, x4, x5, x6, x7, x8, y9, x10, bV bit, y12, y13, y14, y15, y16, y17, .und, .und, .und, .und] ∧ AllGood js' (m + 5) := by
  obtain ⟨lot, b1, h1, ha⟩ := s16 (k + 2) n n b (by omega)
  have hal := ha.len
  have hvl := hv.1
  have h2 : run (k + 4) 28 [tNN vs, tN lot] = _ := s28 (k + 3) vs lot (by omega) fun v hv' => by
    obtain ⟨_, q2, q3⟩ := hv.2 v hv'
    omega
  obtain ⟨prs, b3, h3, hf⟩ := s17 (k + 1) n b1 (by omega)
  have hfl := hf.len
  have hpo := places_ok n bit lot prs ha hf
  have g1 := j7 n vs lot hn hv ha
  have g2 := j5 n vs (withF n bit lot) hn hv (withF_len _ _ _)
  rw [voted_with n bit vs lot hv] at g2
  have g3 := j5 n vs (withF n (!bit) lot) hn hv (withF_len _ _ _)
  rw [voted_with n (!bit) vs lot hv] at g3
  have g4 := j4 n (withF n bit lot) prs hn (withF_len _ _ _) hf
  rw [said_with n bit lot prs hf] at g4
  have g5 := j1 (withF n bit (placesF bit lot prs)) bit (by rw [withF_len]; omega)
  rw [offs_places n bit lot prs ha hf] at g5
  have eb := e30_2 (k + 4) n bit lot (by omega) (bagV b1) (.lst .ow js) (tNN vs) x4 x5 x6 x7 x8 x9 x10 x13 x14 x15 x16 x17 .und .und .und
  unfold b30_0
  refine Nxt.step ⟨[bagV b1, nV n, .lst .ow js, tNN vs, x4, x5, x6, x7, x8, x9, x10, bV bit, tN lot, x13, x14, x15, x16, x17, .und, .und, .und, .und], by simp [h1], ?_⟩
  refine Nxt.step ⟨[bagV b1, nV n, .lst .ow js, tNN vs, x4, x5, x6, x7, x8, x9, x10, bV bit, tN lot, tB (withF n bit lot), x14, x15, x16, x17, .und, .und, .und, .und], by simp [show c30_7 = c30_2 from rfl, eb], ?_⟩
  clear eb
  refine Nxt.step ⟨[bagV b1, nV n, .lst .ow js, tNN vs, x4, x5, x6, x7, x8, x9, x10, bV bit, tN lot, tB (withF n bit lot), tN (outsF vs lot), x15, x16, x17, .und, .und, .und, .und], by simp [h2], ?_⟩
  refine Nxt.app _ (by simp) (by simp [sizeLine]) rfl hj g1 (by omega) fun js1 hj1 => ?_
  simp only [List.set_cons_zero, List.set_cons_succ]
  refine Nxt.app _ (by simp) (by
    have := e30_8 (k + 4) n bit (outsF vs lot) (by omega) (bagV b1) (.lst .ow js1) (tNN vs) x4 x5 x6 x7 x8 x9 x10 (tN lot) (tB (withF n bit lot)) x15 x16 x17 .und .und .und
    simp [this, sizeLine]) rfl hj1 g2 (by omega) fun js2 hj2 => ?_
  simp only [List.set_cons_zero, List.set_cons_succ]
  refine Nxt.step ⟨[bagV b1, nV n, .lst .ow js2, tNN vs, x4, x5, x6, x7, x8, x9, x10, bV bit, tN lot, tB (withF n bit lot), tN (outsF vs lot), tB (withF n (!bit) lot), x16, x17, .und, .und, .und, .und], by
    have := e30_9 (k + 4) (withF n bit lot) (by rw [withF_len]; omega) (bagV b1) (nV n) (.lst .ow js2) (tNN vs) x4 x5 x6 x7 x8 x9 x10 (bV bit) (tN lot) (tN (outsF vs lot)) x15 x16 x17 .und .und .und
    rw [not_with] at this
    simp [this], ?_⟩
  refine Nxt.app _ (by simp) (by
    have := e30_10 (k + 4) n bit (outsF vs lot) (by omega) (bagV b1) (.lst .ow js2) (tNN vs) x4 x5 x6 x7 x8 x9 x10 (tN lot) (tB (withF n bit lot)) (tB (withF n (!bit) lot)) x16 x17 .und .und .und
    simp [this, sizeLine]) rfl hj2 g3 (by omega) fun js3 hj3 => ?_
  simp only [List.set_cons_zero, List.set_cons_succ]
  have e11 := e30_11 (k + 4) lot prs (by omega) (bagV b3) (nV n) (.lst .ow js3) (tNN vs) x4 x5 x6 x7 x8 x9 x10 (bV bit) (tB (withF n bit lot)) (tN (outsF vs lot)) (tB (withF n (!bit) lot)) x17 .und .und .und
  have e12 := e30_12 (k + 4) bit prs (by omega) (bagV b3) (nV n) (.lst .ow js3) (tNN vs) x4 x5 x6 x7 x8 x9 x10 (tN lot) (tB (withF n bit lot)) (tN (outsF vs lot)) (tB (withF n (!bit) lot)) x17 .und .und
  have hpl : (placesF bit lot prs).length ≤ 22 := by
    unfold placesF
    rw [List.length_append, List.length_map]
    have q1 := List.length_filter_le (fun p => !decide (p ∈ prs.map (·.1))) lot
    have q2 := List.length_filter_le (fun q : Nat × Bool => q.2 != bit) prs
    omega
  have eadd : binV .add (.lst .ow ((lot.filter fun p => !decide (p ∈ prs.map (·.1))).map nV)) (.lst .ow (((prs.filter fun q => q.2 != bit).map (·.1)).map nV)) = some (.lst .ow ((placesF bit lot prs).map nV)) := by
    unfold placesF at hpl ⊢
    rw [List.map_append]
    simp only [binV]
    rw [if_pos]
    simp only [List.length_append, List.length_map] at hpl ⊢
    simp only [sizeLine]; omega
  generalize ((lot.filter fun p => !decide (p ∈ prs.map (·.1))).map nV) = L1 at *
  generalize (((prs.filter fun q => q.2 != bit).map (·.1)).map nV) = L2 at *
  generalize placesF bit lot prs = pp at *
  generalize hF : fV prs = F at *
  obtain ⟨fl, rfl⟩ : ∃ fl, F = .tup fl := ⟨_, hF.symm⟩
  refine Nxt.step ⟨[bagV b3, nV n, .lst .ow js3, tNN vs, x4, x5, x6, x7, x8, x9, x10, bV bit, tN lot, tB (withF n bit lot), tN (outsF vs lot), tB (withF n (!bit) lot), .tup fl, x17, .und, .und, .und, .und], by simp [h3], ?_⟩
  refine Nxt.step ⟨[bagV b3, nV n, .lst .ow js3, tNN vs, x4, x5, x6, x7, x8, x9, x10, bV bit, tN lot, tB (withF n bit lot), tN (outsF vs lot), tB (withF n (!bit) lot), .tup fl, .lst .ow (pp.map nV), .und, .und, .und, .und], by simp [e11, e12, eadd], ?_⟩
  refine Nxt.step ⟨[bagV b3, nV n, .lst .ow js3, tNN vs, x4, x5, x6, x7, x8, tB (withF n bit pp), x10, bV bit, tN lot, tB (withF n bit lot), tN (outsF vs lot), tB (withF n (!bit) lot), .tup fl, .lst .ow (pp.map nV), .und, .und, .und, .und], by
    have := e30_13 (k + 4) n bit pp (by omega) (bagV b3) (.lst .ow js3) (tNN vs) x4 x5 x6 x7 x8 x9 x10 (tN lot) (tB (withF n bit lot)) (tN (outsF vs lot)) (tB (withF n (!bit) lot)) (.tup fl) .und .und .und
    simp [this], ?_⟩
  refine Nxt.app _ (by simp) (by simp [sizeLine]) rfl hj3 g4 (by omega) fun js4 hj4 => ?_
  simp only [List.set_cons_zero, List.set_cons_succ]
  refine Nxt.app _ (by simp) (by
    have := sortV pp
    simp [this, sizeLine]) rfl hj4 g5 (by omega) fun js5 hj5 => ?_
  simp only [List.set_cons_zero, List.set_cons_succ]
  exact Nxt.nil ⟨b3, js5, _, _, _, _, _, _, _, rfl, hj5⟩
theorem lotsDue_same (n i : Nat) (t row : List Bool) (lots : List (List Nat)) (h : row.length = lots.length) : lotsDue (gatedF n t (rowsF n row lots)) (bAt t (pl row)) lots = gatedF n t (rowsF n row lots) := by
  refine ext_b _ _ (by simp [lotsDue]) fun p hp => ?_
  have hp' : p < n := by simpa [lotsDue, gatedF_len] using hp
  have e : bAt (lotsDue (gatedF n t (rowsF n row lots)) (bAt t (pl row)) lots) p = if lots.any (fun l => decide (p ∈ l)) then bAt (gatedF n t (rowsF n row lots)) p else bAt t (pl row) := by
    simp [bAt, lotsDue, gatedF, hp']
  rw [e]
  by_cases hc : lots.any (fun l => decide (p ∈ l)) = true
  · rw [if_pos hc]
  · rw [if_neg hc, gated_lots n t row lots h p hp']
    intro lot hl hpl
    exact hc (List.any_eq_true.mpr ⟨lot, hl, by simpa using hpl⟩)
theorem s30 (k n : Nat) (b : Bag) (hn : n ≤ 11) (ho : n % 2 = 1) : ∃ js b', run (k + 5) 30 [bagV b, nV n] = .ret (.lst .ow js) [bagV b', nV n] ∧ AllGood js 12 := by
  obtain ⟨vs, b1, h1, hv⟩ := s19 k n b (by omega) ho
  obtain ⟨t, b2, h2, i, ht⟩ := s20 (k + 1) b1
  have hi3 := ht.1
  obtain ⟨row, b3, h3, hr⟩ := e30_0 (k + 3) i b2 t ht (nV n) (.lst .ow []) (tNN vs) .und .und .und .und .und .und .und .und .und .und .und .und .und .und .und .und
  obtain ⟨lots, b4, h4, hl1, hl2⟩ := e30_1 (k + 2) n b3 row (by omega) (by omega) (.lst .ow []) (tNN vs) (tB t) .und .und .und .und .und .und .und .und .und .und .und .und .und .und .und
  have h5 := e30_3 (k + 4) n row lots (by omega) (by omega) (bagV b4) (.lst .ow []) (tNN vs) (tB t) .und .und .und .und .und .und .und .und .und .und .und .und
  have hrl : (rowsF n row lots).length = i := by simp [rowsF, hl1, hr]
  have hrr : ∀ r ∈ rowsF n row lots, r.length = n := by
    intro r hr'
    obtain ⟨q, _, rfl⟩ := List.mem_map.mp hr'
    exact withF_len _ _ _
  have h6 := e30_4 (k + 4) row (by omega) (bagV b4) (nV n) (.lst .ow []) (tNN vs) (tB t) (.lst .ow (lots.map fun l => tN l)) (tBB (rowsF n row lots)) .und .und .und .und .und .und .und .und .und .und .und .und .und
  have h7 : run (k + 4) 24 [.int 1, tB t, tBB (row.map fun x => [x])] = _ := s24 (k + 3) 1 t (row.map fun x => [x]) (by omega) (fun r hr' => by obtain ⟨x, _, rfl⟩ := List.mem_map.mp hr'; exact Nat.le_refl _) (by rw [List.length_map, hr, ht.2]; exact Nat.le_refl _)
  rw [gated_one] at h7
  have h8 : run (k + 4) 24 [nV n, tB t, tBB (rowsF n row lots)] = _ := s24 (k + 3) n t (rowsF n row lots) (by omega) (fun r hr' => by rw [hrr r hr']; exact Nat.le_refl _) (by rw [hrl, ht.2]; exact Nat.le_refl _)
  have h9 := e30_6 (k + 4) lots (bAt t (pl row)) (gatedF n t (rowsF n row lots)) (by omega) (by rw [gatedF_len]; omega) (bagV b4) (nV n) (.lst .ow []) (tNN vs) (tB t) (tB row) (tBB (rowsF n row lots)) .und .und .und .und .und .und .und .und .und
  rw [lotsDue_same n i t row lots (by omega)] at h9
  have h10 : run (k + 4) 23 [tB (gatedF n t (rowsF n row lots)), bV (bAt t (pl row))] = _ := s23 (k + 3) (gatedF n t (rowsF n row lots)) (bAt t (pl row)) (by rw [gatedF_len]; omega)
  have g1 := j3 n i t (rowsF n row lots) hn ht hrl hrr
  have g2 := j1 (gatedF n t (rowsF n row lots)) (bAt t (pl row)) (by rw [gatedF_len]; omega)
  have hj0 : AllGood ([] : List Val) 0 := by simp [AllGood]
  have main : Ret (run (k + 4)) G0 [0, 1] d30.body [bagV b, nV n, .und, .und, .und, .und, .und, .und, .und, .und, .und, .und, .und, .und, .und, .und, .und, .und, .und, .und, .und, .und] fun v e => ∃ js b', v = .lst .ow js ∧ AllGood js 12 ∧ outsOf 2 [0, 1] e = [bagV b', nV n] := by
    unfold d30
    simp only []
    refine Ret.step ⟨[bagV b2, nV n, .lst .ow [], tNN vs, tB t, .und, .und, .und, .und, .und, .und, .und, .und, .und, .und, .und, .und, .und, .und, .und, .und, .und], by simp [h1, h2, sets, sizeLine], ?_⟩
    refine Ret.step ⟨[bagV b3, nV n, .lst .ow [], tNN vs, tB t, tB row, .und, .und, .und, .und, .und, .und, .und, .und, .und, .und, .und, .und, .und, .und, .und, .und], by simp [h3], ?_⟩
    refine Ret.step ⟨[bagV b4, nV n, .lst .ow [], tNN vs, tB t, tB row, .lst .ow (lots.map fun l => tN l), .und, .und, .und, .und, .und, .und, .und, .und, .und, .und, .und, .und, .und, .und, .und], by simp [h4], ?_⟩
    generalize (lots.map fun l => tN l) = LT at *
    generalize hR : rowsF n row lots = R at *
    generalize hG : gatedF n t R = GT at *
    generalize bAt t (pl row) = VL at *
    replace h7 : run (k + 4) 24 [.int 1, tB t, tBB (row.map fun x => [x])] = .ret (.tup [bV VL]) [.int 1, tB t, tBB (row.map fun x => [x])] := h7
    refine Ret.step ⟨[bagV b4, nV n, .lst .ow [], tNN vs, tB t, tB row, .lst .ow LT, tBB R, .und, .und, .und, .und, .und, .und, .und, .und, .und, .und, .und, .und, .und, .und], by simp [h5], ?_⟩
    generalize (row.map fun x => [x]) = RX at *
    refine Ret.step ⟨[bagV b4, nV n, .lst .ow [], tNN vs, tB t, tB row, .lst .ow LT, tBB R, bV VL, tB GT, .und, .und, .und, .und, .und, .und, .und, .und, .und, .und, .und, .und], by simp [h6, h7, h8, tlen, sizeLine], ?_⟩
    refine Ret.step ⟨[bagV b4, nV n, .lst .ow [], tNN vs, tB t, tB row, .lst .ow LT, tBB R, bV VL, tB GT, .und, .und, .und, .und, .und, .und, .und, .und, .und, .und, .und, .und], by simp [h9], ?_⟩
    refine Ret.step ⟨[bagV b4, nV n, .lst .ow [], tNN vs, tB t, tB row, .lst .ow LT, tBB R, bV VL, tB GT, tN (offsF GT VL), .und, .und, .und, .und, .und, .und, .und, .und, .und, .und, .und], by simp [h10], ?_⟩
    refine Ret.app _ (by simp) (by simp [sizeLine]) rfl hj0 g1 (by omega) fun js1 hj1 => ?_
    simp only [List.set_cons_zero, List.set_cons_succ]
    refine Ret.app _ (by simp) (by simp [sizeLine]) rfl hj1 g2 (by omega) fun js2 hj2 => ?_
    simp only [List.set_cons_zero, List.set_cons_succ]
    obtain ⟨e3, ⟨b5, js, y9, y11, y12, y13, y14, y15, y16, y17, rfl, hj⟩, hL⟩ := for_inv (C := run (k + 4)) (G := G0) (io := [0, 1]) (s0 := l30_0) (e := [bagV b4, nV n, .lst .ow js2, tNN vs, tB t, tB row, .lst .ow LT, tBB R, bV VL, tB GT, tN (offsF GT VL), .und, .und, .und, .und, .und, .und, .und, .und, .und, .und, .und]) rfl [false, true] bV (ps := [(.tup [.int 0, .int 1], .no)]) (e1 := [bagV b4, nV n, .lst .ow js2, tNN vs, tB t, tB row, .lst .ow LT, tBB R, bV VL, tB GT, tN (offsF GT VL), .und, .und, .und, .und, .und, .und, .und, .und, .und, .und, .und]) (by simp [sizeLine]) (fun i e' => ∃ b js y9 y11 y12 y13 y14 y15 y16 y17, e' = [bagV b, nV n, .lst .ow js, tNN vs, tB t, tB row, .lst .ow LT, tBB R, bV VL, y9, tN (offsF GT VL), y11, y12, y13, y14, y15, y16, y17, .und, .und, .und, .und] ∧ AllGood js (2 + 5 * i)) ⟨b4, js2, _, _, _, _, _, _, _, _, rfl, hj2⟩ fun i p e' hx ⟨b, js, y9, y11, y12, y13, y14, y15, y16, y17, he, hj⟩ => by
      subst he
      have hi : i < 2 := by simpa using (List.getElem?_eq_some_iff.mp hx).1
      obtain ⟨e3, h5, b', js', z9, z12, z13, z14, z15, z16, z17, rfl, hj'⟩ := b30 k n vs p b js (2 + 5 * i) (by omega) hn ho hv hj (tB t) (tB row) (.lst .ow LT) (tBB R) (bV VL) y9 (tN (offsF GT VL)) y12 y13 y14 y15 y16 y17
      exact ⟨[bagV b, nV n, .lst .ow js, tNN vs, tB t, tB row, .lst .ow LT, tBB R, bV VL, y9, tN (offsF GT VL), bV p, y12, y13, y14, y15, y16, y17, .und, .und, .und, .und], _, by simp [slotsOf], h5, b', js', _, _, _, _, _, _, _, _, rfl, hj'⟩
    refine Ret.step ⟨_, by rw [hL]; simp; rfl, ?_⟩
    refine Ret.last ⟨.lst .ow js, [bagV b5, nV n, .und, tNN vs, tB t, tB row, .lst .ow LT, tBB R, bV VL, y9, tN (offsF GT VL), y11, y12, y13, y14, y15, y16, y17, .und, .und, .und, .und], by simp, js, b5, rfl, hj, rfl⟩
  obtain ⟨v, e, h, js, b', rfl, hj, ho'⟩ := runD_of (d := d30) (xs := [bagV b, nV n]) rfl main
  exact ⟨js, b', by rw [run_at (d := d30) rfl, h, show d30.np = 2 from rfl, show d30.io = [0, 1] from rfl, ho'], hj⟩
end K19

/-! K19n: the jobs of bundles apart, of layers. -/
namespace K19
open PySem Nd
theorem tabs5_ok : ∀ t ∈ tabs5, ∃ i, TabOk i t := by
  intro t ht
  simp only [tabs5, List.mem_cons, List.not_mem_nil, or_false] at ht
  rcases ht with rfl | rfl | rfl | rfl | rfl
  · exact ⟨2, by decide, rfl⟩
  · exact ⟨2, by decide, rfl⟩
  · exact ⟨3, by decide, rfl⟩
  · exact ⟨3, by decide, rfl⟩
  · exact ⟨1, by decide, rfl⟩
theorem e31_0 (k i : Nat) (b : Bag) (t : List Bool) (ht : TabOk i t) (a1 a3 a4 a5 a7 a8 a9 a10 a11 a12 a13 : Val) : ∃ (row : List Bool) (b' : Bag), evE (run (k + 1)) G0 c31_0 [bagV b, a1, tB t, a3, a4, a5, .und, a7, a8, a9, a10, a11, a12, a13] = .ok (.lst .ow (row.map bV)) [bagV b', a1, tB t, a3, a4, a5, .und, a7, a8, a9, a10, a11, a12, a13] ∧ row.length = i := by
  have h21 := s21 k i t ht
  obtain ⟨l, b', h1, h2, h3⟩ := comp_st (C := run (k + 1)) (G := G0) (c0 := c31_0) (e := [bagV b, a1, tB t, a3, a4, a5, .und, a7, a8, a9, a10, a11, a12, a13]) rfl (ps := []) (List.range i) nV (fun b => [bagV b, a1, tB t, a3, a4, a5, .und, a7, a8, a9, a10, a11, a12, a13]) b bV (fun r => True) (by simp [h21, rangeL_nat, okR_small (show i ≤ 1000 by have := ht.1; omega)]) (by have := ht.1; simp [sizeLine]; omega) (fun _ => rfl) fun z b hz => by
    obtain ⟨y, b', h1⟩ := s12b k b
    refine ⟨y, b', [bagV b', a1, tB t, a3, a4, a5, nV z, a7, a8, a9, a10, a11, a12, a13], ?_⟩
    simp [turnM, wipes, h1, restores, saves]
  exact ⟨l, b', by rw [h1]; simp, by simpa using h2⟩
theorem e31_1 (k n : Nat) (b : Bag) (row : List Bool) (hr : row.length ≤ 3) (hn : n ≤ 1000) (a2 a4 a5 a6 a7 a8 a9 a10 a11 a12 : Val) : ∃ (owner : List Nat) (b' : Bag), evE (run (k + 1)) G0 c31_1 [bagV b, nV n, a2, .lst .ow (row.map bV), a4, a5, a6, a7, a8, a9, a10, a11, a12, .und] = .ok (.lst .ow (owner.map nV)) [bagV b', nV n, a2, .lst .ow (row.map bV), a4, a5, a6, a7, a8, a9, a10, a11, a12, .und] ∧ owner.length = n ∧ ∀ o ∈ owner, o < row.length + 2 := by
  obtain ⟨l, b', h1, h2, h3⟩ := comp_st (C := run (k + 1)) (G := G0) (c0 := c31_1) (e := [bagV b, nV n, a2, .lst .ow (row.map bV), a4, a5, a6, a7, a8, a9, a10, a11, a12, .und]) rfl (ps := []) (List.range n) nV (fun b => [bagV b, nV n, a2, .lst .ow (row.map bV), a4, a5, a6, a7, a8, a9, a10, a11, a12, .und]) b nV (fun o => o < row.length + 2) (by simp [rangeL_nat, okR_small hn]) (by simp [sizeLine]; omega) (fun _ => rfl) fun z b hz => by
    obtain ⟨r, b', h1, h2⟩ := s12 k b ((row.length : Int) + 2) (by omega) (by omega)
    refine ⟨r, b', [bagV b', nV n, a2, .lst .ow (row.map bV), a4, a5, a6, a7, a8, a9, a10, a11, a12, nV z], ?_⟩
    simp [turnM, wipes, h1, binV, Nd.binI, restores, saves]
    omega
  exact ⟨l, b', by rw [h1]; simp, by simpa using h2, h3⟩
theorem range_own {α : Type} (owner : List Nat) (g : Nat → α) : (List.range owner.length).map (fun p => g (owner.getD p 0)) = owner.map g := by
  apply List.ext_getElem
  · simp
  · intro i h1 h2
    simp at h1
    simp [h1]
theorem e31_2 (k n q : Nat) (bit : Bool) (owner : List Nat) (hn : n ≤ 1000) (ho : owner.length = n) (a0 a2 a3 a5 a8 a9 a10 a11 a12 : Val) : evE (run k) G0 c31_2 [a0, nV n, a2, a3, .lst .ow (owner.map nV), a5, nV q, bV bit, a8, a9, a10, a11, a12, .und] = .ok (.lst .ow ((owner.map fun o => if o = q then !bit else bit).map bV)) [a0, nV n, a2, a3, .lst .ow (owner.map nV), a5, nV q, bV bit, a8, a9, a10, a11, a12, .und] := by
  have h := comp_maps (C := run k) (G := G0) (c0 := c31_2) (e := [a0, nV n, a2, a3, .lst .ow (owner.map nV), a5, nV q, bV bit, a8, a9, a10, a11, a12, .und]) rfl (e1 := [a0, nV n, a2, a3, .lst .ow (owner.map nV), a5, nV q, bV bit, a8, a9, a10, a11, a12, .und]) (ps := []) (List.range n) nV (fun p => bV (if owner.getD p 0 = q then !bit else bit)) (by simp [rangeL_nat, okR_small hn]) (by simp [sizeLine]; omega) fun p hp => by
    refine ⟨[a0, nV n, a2, a3, .lst .ow (owner.map nV), a5, nV q, bV bit, a8, a9, a10, a11, a12, nV p], ?_⟩
    have h1 := subO nV owner p 0 (by rw [ho]; simpa using hp)
    generalize owner.getD p 0 = o at *
    by_cases hb : o = q <;> simp [turnM, wipes, h1, cmpEqN, hb, restores, saves, binV, Nd.binI]
  rw [h]
  have := range_own owner fun o => bV (if o = q then !bit else bit)
  rw [ho] at this
  simp only [plugs_nil, List.map_nil, List.map_map]
  rw [this]
  rfl
theorem e31_3 (k n : Nat) (v : Bool) (row : List Bool) (owner : List Nat) (hn : n ≤ 1000) (ho : owner.length = n) (a0 a2 a5 a6 a7 a9 a10 a11 a12 : Val) : evE (run k) G0 c31_3 [a0, nV n, a2, .lst .ow (row.map bV), .lst .ow (owner.map nV), a5, a6, a7, bV v, a9, a10, a11, a12, .und] = .ok (.lst .ow ((owner.map fun o => if o < row.length then !v else v).map bV)) [a0, nV n, a2, .lst .ow (row.map bV), .lst .ow (owner.map nV), a5, a6, a7, bV v, a9, a10, a11, a12, .und] := by
  have h := comp_maps (C := run k) (G := G0) (c0 := c31_3) (e := [a0, nV n, a2, .lst .ow (row.map bV), .lst .ow (owner.map nV), a5, a6, a7, bV v, a9, a10, a11, a12, .und]) rfl (e1 := [a0, nV n, a2, .lst .ow (row.map bV), .lst .ow (owner.map nV), a5, a6, a7, bV v, a9, a10, a11, a12, .und]) (ps := []) (List.range n) nV (fun p => bV (if owner.getD p 0 < row.length then !v else v)) (by simp [rangeL_nat, okR_small hn]) (by simp [sizeLine]; omega) fun p hp => by
    refine ⟨[a0, nV n, a2, .lst .ow (row.map bV), .lst .ow (owner.map nV), a5, a6, a7, bV v, a9, a10, a11, a12, nV p], ?_⟩
    have h1 := subO nV owner p 0 (by rw [ho]; simpa using hp)
    generalize owner.getD p 0 = o at *
    by_cases hb : o < row.length <;> simp [turnM, wipes, h1, cmpV, cmpI, hb, restores, saves, binV, Nd.binI]
  rw [h]
  have := range_own owner fun o => bV (if o < row.length then !v else v)
  rw [ho] at this
  simp only [plugs_nil, List.map_nil, List.map_map]
  rw [this]
  rfl
theorem e31_4 (k n : Nat) (row : List Bool) (owner : List Nat) (hn : n ≤ 1000) (ho : owner.length = n) (a0 a2 a5 a6 a7 a8 a9 a10 a11 a12 : Val) : evE (run k) G0 c31_4 [a0, nV n, a2, .lst .ow (row.map bV), .lst .ow (owner.map nV), a5, a6, a7, a8, a9, a10, a11, a12, .und] = .ok (.lst .ow (((List.range n).filter fun p => decide (owner.getD p 0 < row.length)).map nV)) [a0, nV n, a2, .lst .ow (row.map bV), .lst .ow (owner.map nV), a5, a6, a7, a8, a9, a10, a11, a12, .und] := by
  have h := compI_maps (C := run k) (G := G0) (c0 := c31_4) (e := [a0, nV n, a2, .lst .ow (row.map bV), .lst .ow (owner.map nV), a5, a6, a7, a8, a9, a10, a11, a12, .und]) rfl (e1 := [a0, nV n, a2, .lst .ow (row.map bV), .lst .ow (owner.map nV), a5, a6, a7, a8, a9, a10, a11, a12, .und]) (ps := []) (List.range n) nV nV (fun p => decide (owner.getD p 0 < row.length)) (by simp [rangeL_nat, okR_small hn]) (by simp [sizeLine]; omega) fun p hp => by
    refine ⟨[a0, nV n, a2, .lst .ow (row.map bV), .lst .ow (owner.map nV), a5, a6, a7, a8, a9, a10, a11, a12, nV p], ?_⟩
    have h1 := subO nV owner p 0 (by rw [ho]; simpa using hp)
    generalize owner.getD p 0 = o at *
    by_cases hb : o < row.length <;> simp [turnM, wipes, h1, cmpV, cmpI, hb, restores, saves]
  rw [h]
  simp
theorem e31_5 (k n : Nat) (hn : n ≤ 1000) (a0 a2 a3 a4 a5 a6 a7 a8 a9 a10 a11 a12 : Val) : evE (run k) G0 c31_5 [a0, nV n, a2, a3, a4, a5, a6, a7, a8, a9, a10, a11, a12, .und] = .ok (.lst .ow ((plainF n).map fun v => tN v)) [a0, nV n, a2, a3, a4, a5, a6, a7, a8, a9, a10, a11, a12, .und] := by
  have h := comp_maps (C := run k) (G := G0) (c0 := c31_5) (e := [a0, nV n, a2, a3, a4, a5, a6, a7, a8, a9, a10, a11, a12, .und]) rfl (e1 := [a0, nV n, a2, a3, a4, a5, a6, a7, a8, a9, a10, a11, a12, .und]) (ps := []) (List.range n) nV (fun p => tN [p]) (by simp [rangeL_nat, okR_small hn]) (by simp [sizeLine]; omega) fun p hp => by
    refine ⟨[a0, nV n, a2, a3, a4, a5, a6, a7, a8, a9, a10, a11, a12, nV p], ?_⟩
    simp [turnM, wipes, restores, saves, sizeLine]
  rw [h]
  simp [plainF, Function.comp_def]
theorem own_take (row : List Bool) (owner : List Nat) (i : Nat) (x : Bool) (h : row[i]? = some x) : (ownRows row owner).take (i + 1) = (ownRows row owner).take i ++ [owner.map fun o => if o = i then !x else x] := by
  rw [List.take_succ]
  simp [ownRows, h]
theorem l31 (k n : Nat) (row : List Bool) (owner : List Nat) (hn : n ≤ 1000) (hr : row.length ≤ 3) (ho : owner.length = n) (a0 a2 a8 a9 a10 a11 a12 : Val) : ∃ y6 y7, evS (run k) G0 [0, 1] l31_0 [a0, nV n, a2, .lst .ow (row.map bV), .lst .ow (owner.map nV), .lst .ow [], .und, .und, a8, a9, a10, a11, a12, .und] = .ok .nx [a0, nV n, a2, .lst .ow (row.map bV), .lst .ow (owner.map nV), .lst .ow ((ownRows row owner).map fun r => tB r), y6, y7, a8, a9, a10, a11, a12, .und] := by
  obtain ⟨e3, ⟨y6, y7, rfl⟩, h⟩ := for_inv (C := run k) (G := G0) (io := [0, 1]) (s0 := l31_0) (e := [a0, nV n, a2, .lst .ow (row.map bV), .lst .ow (owner.map nV), .lst .ow [], .und, .und, a8, a9, a10, a11, a12, .und]) rfl row.zipIdx (fun q => .tup [nV q.2, bV q.1]) (ps := [(.lst .ow (row.map bV), .sl 3)]) (e1 := [a0, nV n, a2, .und, .lst .ow (owner.map nV), .lst .ow [], .und, .und, a8, a9, a10, a11, a12, .und]) (by simp [enumL_map]) (fun i e' => ∃ y6 y7, e' = [a0, nV n, a2, .und, .lst .ow (owner.map nV), .lst .ow (((ownRows row owner).take i).map fun r => tB r), y6, y7, a8, a9, a10, a11, a12, .und]) ⟨.und, .und, by simp⟩ fun i q e' hx ⟨y6, y7, he⟩ => by
    subst he
    simp only [List.getElem?_zipIdx, Option.map_eq_some_iff] at hx
    obtain ⟨x, hx, rfl⟩ := hx
    have hi : i < row.length := (List.getElem?_eq_some_iff.mp hx).1
    have hlen : ((ownRows row owner).take i).length < 16777216 := by simp [ownRows]; omega
    refine ⟨[a0, nV n, a2, .und, .lst .ow (owner.map nV), .lst .ow (((ownRows row owner).take i).map fun r => tB r), nV i, bV x, a8, a9, a10, a11, a12, .und], [a0, nV n, a2, .und, .lst .ow (owner.map nV), .lst .ow (((ownRows row owner).take (i + 1)).map fun r => tB r), nV i, bV x, a8, a9, a10, a11, a12, .und], by simp [slotsOf, tlen], ?_, _, _, rfl⟩
    rw [own_take row owner i x hx]
    generalize (ownRows row owner).take i = acc at *
    have h1 := e31_2 k n i x owner hn ho a0 a2 .und (.lst .ow (acc.map fun r => tB r)) a8 a9 a10 a11 a12
    generalize (owner.map fun o => if o = i then !x else x) = z at *
    simp [b31_0, slotsOf, h1, hlen, sizeLine]
  refine ⟨y6, y7, ?_⟩
  rw [h, List.take_of_length_le (by simp [ownRows])]
  simp
theorem s31 (k n : Nat) (b : Bag) (hn : n ≤ 11) (h0 : 0 < n) : ∃ js b', run (k + 5) 31 [bagV b, nV n] = .ret (.lst .ow js) [bagV b', nV n] ∧ AllGood js 3 := by
  obtain ⟨y, hy, b1, h1⟩ := s13 (k + 2) b (tabs5.map fun t => tB t) (by simp [tabs5]) (by simp [tabs5])
  obtain ⟨t, ht, rfl⟩ := List.mem_map.mp hy
  have hL : (tabs5.map fun t => tB t) = [.tup [.int 0, .int 1, .int 1, .int 0], .tup [.int 1, .int 0, .int 0, .int 1], .tup [.int 0, .int 1, .int 1, .int 0, .int 1, .int 0, .int 0, .int 1], .tup [.int 1, .int 0, .int 0, .int 1, .int 0, .int 1, .int 1, .int 0], .tup [.int 1, .int 0]] := rfl
  rw [hL] at h1
  obtain ⟨i, hti⟩ := tabs5_ok t ht
  have hi := hti.1
  obtain ⟨row, b2, h2, hr⟩ := e31_0 (k + 3) i b1 t hti (nV n) .und .und .und .und .und .und .und .und .und .und
  obtain ⟨owner, b3, h3, ho, hob⟩ := e31_1 (k + 3) n b2 row (by omega) (by omega) (tB t) .und .und .und .und .und .und .und .und .und
  obtain ⟨y6, y7, h4⟩ := l31 (k + 4) n row owner (by omega) (by omega) ho (bagV b3) (tB t) .und .und .und .und .und
  have hsum : biV .sum [.lst .ow (row.map bV)] = some (.int (row.count true : Int)) := by
    show (intsL _).map _ = _
    rw [intsL_maps, Option.map_some, bI_sum]
  have h5 : evE (run (k + 4)) G0 (.ite (.cmp .eq (.v (.subS 2 (.v (.int 0)))) (.v (.int 0))) (.bin .mod (.v (.bi .sum (.cons (.mv 3) .nil))) (.v (.int 2))) (.bin .sub (.v (.int 1)) (.v (.bin .mod (.v (.bi .sum (.cons (.mv 3) .nil))) (.v (.int 2)))))) [bagV b3, nV n, tB t, .lst .ow (row.map bV), .lst .ow (owner.map nV), .lst .ow ((ownRows row owner).map fun r => tB r), y6, y7, .und, .und, .und, .und, .und, .und] = .ok (bV (parF t row)) [bagV b3, nV n, tB t, .lst .ow (row.map bV), .lst .ow (owner.map nV), .lst .ow ((ownRows row owner).map fun r => tB r), y6, y7, .und, .und, .und, .und, .und, .und] := by
    have e0 : subV (tB t) (.int 0) = some (bV (bAt t 0)) := subB t 0 (by rw [hti.2]; exact Nat.pos_of_ne_zero (by simp))
    have e1 : Nd.binI .mod (row.count true : Int) 2 = some (bI (decide (row.count true % 2 = 1))) := by
      have : row.count true % 2 = 0 ∨ row.count true % 2 = 1 := by omega
      rcases this with h | h
      · have h' : ((row.count true : Int)) % 2 = 0 := by omega
        simp [Nd.binI, h, h']
      · have h' : ((row.count true : Int)) % 2 = 1 := by omega
        simp [Nd.binI, h, h']
    unfold parF
    generalize decide (row.count true % 2 = 1) = c at *
    generalize (row.count true : Int) = z at *
    generalize ((ownRows row owner).map fun r => tB r) = RW at *
    generalize owner.map nV = OW at *
    generalize row.map bV = RR at *
    cases hb : bAt t 0
    · rw [hb] at e0
      have e0' : subV (tB t) (.int 0) = some (.int 0) := e0
      simp [e0', cmpEqI, hsum, binV, e1]
    · rw [hb] at e0
      have e0' : subV (tB t) (.int 0) = some (.int 1) := e0
      have e2 : Nd.binI .sub 1 (bI c) = some (bI (!c)) := by simp [Nd.binI]
      simp [e0', cmpEqI, hsum, binV, e1, e2]
  have h6 := e31_3 (k + 4) n (parF t row) row owner (by omega) ho (bagV b3) (tB t) (.lst .ow ((ownRows row owner).map fun r => tB r)) y6 y7 .und .und .und .und
  have hd : (owner.map fun o => if o < row.length then !parF t row else parF t row) = dueF t row owner := rfl
  rw [hd] at h6
  have h7 := e31_4 (k + 4) n row owner (by omega) ho (bagV b3) (tB t) (.lst .ow ((ownRows row owner).map fun r => tB r)) y6 y7 (bV (parF t row)) (tB (dueF t row owner)) .und .und .und
  have hao := apart_offs t row owner
  rw [ho] at hao
  rw [← hao] at h7
  have h8 := e31_5 (k + 4) n (by omega) (bagV b3) (tB t) (.lst .ow (row.map bV)) (.lst .ow (owner.map nV)) (.lst .ow ((ownRows row owner).map fun r => tB r)) y6 y7 (bV (parF t row)) (tB (dueF t row owner)) (tN (offsF (dueF t row owner) (parF t row))) .und .und
  have hob' : ∀ o ∈ owner, o < i + 2 := by rw [← hr]; exact hob
  have hrl : (ownRows row owner).length = i := by simp [ownRows, hr]
  have hrr : ∀ r ∈ ownRows row owner, r.length = n := by
    intro r hr'
    obtain ⟨q, _, rfl⟩ := List.mem_map.mp hr'
    rw [List.length_map, ho]
  have hdl : (dueF t row owner).length = n := by simp [dueF, ho]
  have g1 := j3 n i t (ownRows row owner) hn hti hrl hrr
  have ag := apart_gated t ht i hti row hr owner hob'
  rw [ho] at ag
  rw [ag] at g1
  have g2 := j1 (dueF t row owner) (parF t row) (by omega)
  have hF : FailOk n [] := ⟨by simp, by simp, by simp⟩
  have g3 := j6 n i (plainF n) t (ownRows row owner) [] [] hn (plain_ok n h0) hti hrl hrr hF hF
  have al := apart_layer t ht i hti row hr owner hob'
  rw [ho] at al
  rw [al] at g3
  have hN : fV [] = .tup [.tup [], .tup []] := rfl
  rw [hN] at g3
  have main : Ret (run (k + 4)) G0 [0, 1] d31.body [bagV b, nV n, .und, .und, .und, .und, .und, .und, .und, .und, .und, .und, .und, .und] fun v e => ∃ js b', v = .lst .ow js ∧ AllGood js 3 ∧ outsOf 2 [0, 1] e = [bagV b', nV n] := by
    unfold d31
    simp only []
    refine Ret.step ⟨[bagV b1, nV n, tB t, .und, .und, .und, .und, .und, .und, .und, .und, .und, .und, .und], by simp [h1, sizeLine], ?_⟩
    clear h1
    refine Ret.step ⟨[bagV b2, nV n, tB t, .lst .ow (row.map bV), .und, .und, .und, .und, .und, .und, .und, .und, .und, .und], by simp [h2], ?_⟩
    refine Ret.step ⟨[bagV b3, nV n, tB t, .lst .ow (row.map bV), .lst .ow (owner.map nV), .und, .und, .und, .und, .und, .und, .und, .und, .und], by simp [h3], ?_⟩
    generalize ownRows row owner = R at *
    generalize dueF t row owner = DU at *
    generalize parF t row = VL at *
    generalize offsF DU VL = OF at *
    generalize owner.map nV = OW at *
    generalize row.map bV = RR at *
    generalize plainF n = PL at *
    refine Ret.step ⟨[bagV b3, nV n, tB t, .lst .ow RR, .lst .ow OW, .lst .ow [], .und, .und, .und, .und, .und, .und, .und, .und], by simp [sizeLine], ?_⟩
    refine Ret.step ⟨[bagV b3, nV n, tB t, .lst .ow RR, .lst .ow OW, .lst .ow (R.map fun r => tB r), y6, y7, .und, .und, .und, .und, .und, .und], h4, ?_⟩
    refine Ret.step ⟨[bagV b3, nV n, tB t, .lst .ow RR, .lst .ow OW, .lst .ow (R.map fun r => tB r), y6, y7, bV VL, .und, .und, .und, .und, .und], by simp [-evE_14, h5], ?_⟩
    refine Ret.step ⟨[bagV b3, nV n, tB t, .lst .ow RR, .lst .ow OW, .lst .ow (R.map fun r => tB r), y6, y7, bV VL, tB DU, .und, .und, .und, .und], by simp [h6], ?_⟩
    refine Ret.step ⟨[bagV b3, nV n, tB t, .lst .ow RR, .lst .ow OW, .lst .ow (R.map fun r => tB r), y6, y7, bV VL, tB DU, tN OF, .und, .und, .und], by simp [h7], ?_⟩
    refine Ret.step ⟨[bagV b3, nV n, tB t, .lst .ow RR, .lst .ow OW, .lst .ow (R.map fun r => tB r), y6, y7, bV VL, tB DU, tN OF, tNN PL, .und, .und], by simp [h8], ?_⟩
    refine Ret.step ⟨[bagV b3, nV n, tB t, .lst .ow RR, .lst .ow OW, .lst .ow (R.map fun r => tB r), y6, y7, bV VL, tB DU, tN OF, tNN PL, .tup [.tup [], .tup []], .und], by simp [sizeLine], ?_⟩
    refine Ret.last ⟨.lst .ow [.tup [.int 3, .tup [nV n, tB t, tBB R], tB DU], .tup [.int 1, .tup [tB DU, bV VL], tN OF], .tup [.int 6, .tup [tNN PL, tB t, tBB R, .tup [.tup [], .tup []], .tup [.tup [], .tup []]], tB DU]], [bagV b3, nV n, tB t, .lst .ow RR, .lst .ow OW, .lst .ow (R.map fun r => tB r), y6, y7, bV VL, tB DU, tN OF, tNN PL, .tup [.tup [], .tup []], .und], by simp [sizeLine], _, b3, rfl, ?_, rfl⟩
    refine ⟨fun j hj => ?_, by simp⟩
    simp only [List.mem_cons, List.not_mem_nil, or_false] at hj
    rcases hj with rfl | rfl | rfl
    · exact g1
    · exact g2
    · exact g3
  obtain ⟨v, e, h, js, b', rfl, hj, ho'⟩ := runD_of (d := d31) (xs := [bagV b, nV n]) rfl main
  exact ⟨js, b', by rw [run_at (d := d31) rfl, h, show d31.np = 2 from rfl, show d31.io = [0, 1] from rfl, ho'], hj⟩
end K19

/-! K19o: the jobs of layers, the document's own, the bag. -/
namespace K19
open PySem Nd
theorem e32_0 (k n : Nat) (b : Bag) (hn : n ≤ 1000) (h0 : 0 < n) (a2 a3 a4 a5 a6 a7 a8 a9 a10 : Val) : ∃ (rows : List (List Bool)) (b' : Bag), evE (run (k + 2)) G0 c32_0 [bagV b, nV n, a2, a3, a4, a5, a6, a7, a8, a9, a10, .und] = .ok (.lst .ow (rows.map fun r => tB r)) [bagV b', nV n, a2, a3, a4, a5, a6, a7, a8, a9, a10, .und] ∧ rows.length = 3 ∧ ∀ r ∈ rows, r.length = n := by
  obtain ⟨l, b', h1, h2, h3⟩ := comp_st (C := run (k + 2)) (G := G0) (c0 := c32_0) (e := [bagV b, nV n, a2, a3, a4, a5, a6, a7, a8, a9, a10, .und]) rfl (ps := []) (List.range 3) nV (fun b => [bagV b, nV n, a2, a3, a4, a5, a6, a7, a8, a9, a10, .und]) b (fun r => tB r) (fun r => r.length = n) (by
      have := rangeL_nat 3
      simp at this
      simp [this, okR]) (by simp [sizeLine]) (fun _ => rfl) fun z b hz => by
    obtain ⟨y, b', h1, h2⟩ := s15 k n b hn h0
    refine ⟨y, b', [bagV b', nV n, a2, a3, a4, a5, a6, a7, a8, a9, a10, nV z], ?_⟩
    simp [turnM, wipes, h1, restores, saves, h2]
  exact ⟨l, b', by rw [h1]; simp, by simpa using h2, h3⟩
theorem e32_1 (k n i : Nat) (b : Bag) (t : List Bool) (ht : TabOk i t) (ahead : List (List Bool)) (ha : ahead ≠ []) (hl : ahead.length ≤ 1000) (hr : ∀ r ∈ ahead, r.length = n) (a1 a2 a3 a5 a7 a8 a9 a10 : Val) : ∃ (rows : List (List Bool)) (b' : Bag), evE (run (k + 2)) G0 c32_1 [bagV b, a1, a2, a3, .lst .ow (ahead.map fun r => tB r), a5, tB t, a7, a8, a9, a10, .und] = .ok (.lst .ow (rows.map fun r => tB r)) [bagV b', a1, a2, a3, .lst .ow (ahead.map fun r => tB r), a5, tB t, a7, a8, a9, a10, .und] ∧ rows.length = i ∧ ∀ r ∈ rows, r.length = n := by
  have h21 := s21 (k + 1) i t ht
  obtain ⟨l, b', h1, h2, h3⟩ := comp_st (C := run (k + 2)) (G := G0) (c0 := c32_1) (e := [bagV b, a1, a2, a3, .lst .ow (ahead.map fun r => tB r), a5, tB t, a7, a8, a9, a10, .und]) rfl (ps := []) (List.range i) nV (fun b => [bagV b, a1, a2, a3, .lst .ow (ahead.map fun r => tB r), a5, tB t, a7, a8, a9, a10, .und]) b (fun r => tB r) (fun r => r.length = n) (by simp [h21, rangeL_nat, okR_small (show i ≤ 1000 by have := ht.1; omega)]) (by have := ht.1; simp [sizeLine]; omega) (fun _ => rfl) fun z b hz => by
    obtain ⟨y, hy, b', h1⟩ := s13 k b (ahead.map fun r => tB r) (by simpa using ha) (by simpa using hl)
    obtain ⟨r, hr', rfl⟩ := List.mem_map.mp hy
    refine ⟨r, b', [bagV b', a1, a2, a3, .lst .ow (ahead.map fun r => tB r), a5, tB t, a7, a8, a9, a10, nV z], ?_⟩
    generalize (ahead.map fun r => tB r) = A at *
    simp [turnM, wipes, h1, restores, saves, hr r hr']
  exact ⟨l, b', by rw [h1]; simp, by simpa using h2, h3⟩
theorem b32 (k n : Nat) (vs : List (List Nat)) (turn : Nat) (b : Bag) (js : List Val) (ahead : List (List Bool)) (m : Nat) (hm : m ≤ 10000) (hn : n ≤ 11) (h0 : 0 < n) (hv : VsOk n vs) (hj : AllGood js m) (ha : ahead ≠ []) (hl : ahead.length ≤ 100) (hr : ∀ r ∈ ahead, r.length = n) (x6 x7 x8 x9 x10 : Val) :
    Nxt (run (k + 4)) G0 [0, 1] b32_0 [bagV b, nV n, tNN vs, .lst .ow js, .lst .ow (ahead.map fun r => tB r), nV turn, x6, x7, x8, x9, x10, .und] fun e => ∃ b' js' due y6 y7 y8 y9 y10, e = [bagV b', nV n, tNN vs, .lst .ow js', .lst .ow ((ahead ++ [due]).map fun r => tB r), nV turn, y6, y7, y8, y9, y10, .und] ∧ AllGood js' (m + 2) ∧ due.length = n := by
  obtain ⟨t, b1, h1, i, ht⟩ := s20 (k + 1) b
  obtain ⟨rows, b2, h2, hr1, hr2⟩ := e32_1 (k + 2) n i b1 t ht ahead ha (by omega) hr (nV n) (tNN vs) (.lst .ow js) (nV turn) x7 x8 x9 x10
  obtain ⟨g, b3, h3, hg⟩ := s17 (k + 1) n b2 (by omega)
  obtain ⟨v, b4, h4, hw⟩ := s17 (k + 1) n b3 (by omega)
  have hvl := hv.1
  have hF : FailOk n [] := ⟨by simp, by simp, by simp⟩
  have hmod : Nd.binI .mod (turn : Int) 3 = some ((turn % 3 : Nat) : Int) := by simp [Nd.binI]
  -- the voters' failures in this turn
  obtain ⟨w, hw', hif⟩ : ∃ w, FailOk n w ∧ evS (run (k + 4)) G0 [0, 1] (.ifS (.cmp .eq (.v (.bin .mod (.mv 5) (.v (.int 3)))) (.v (.int 2))) (.cons (.asg (.name 9) (.tup (.cons (.tup .nil) (.cons (.tup .nil) .nil)))) .nil) .nil) [bagV b4, nV n, tNN vs, .lst .ow js, .lst .ow (ahead.map fun r => tB r), nV turn, tB t, tBB rows, fV g, fV v, x10, .und] = .ok .nx [bagV b4, nV n, tNN vs, .lst .ow js, .lst .ow (ahead.map fun r => tB r), nV turn, tB t, tBB rows, fV g, fV w, x10, .und] := by
    generalize (ahead.map fun r => tB r) = A at *
    by_cases hc : turn % 3 = 2
    · refine ⟨[], hF, ?_⟩
      have hN : fV [] = .tup [.tup [], .tup []] := rfl
      rw [hN]
      simp [binV, hmod, cmpEqI, hc, sizeLine]
    · refine ⟨v, hw, ?_⟩
      have hc' : ¬ ((turn % 3 : Nat) : Int) = 2 := by omega
      generalize ((turn % 3 : Nat) : Int) = z at *
      simp [binV, hmod, cmpEqI, hc']
  have h5 : run (k + 4) 27 [tNN vs, tB t, tBB rows, fV g, fV w] = _ := s27 (k + 1) vs t rows g w (by omega) (fun r hr' => by rw [hr2 r hr', hvl]; exact Nat.le_refl _) (by rw [hr1, ht.2]; exact Nat.le_refl _) (by rw [hvl]; exact hg) (by rw [hvl]; exact hw') (hv.votes hn)
  have h6 : run (k + 4) 22 [tB (layerF vs t rows g w)] = _ := s22 (k + 3) (layerF vs t rows g w)
  have g1 := j6 n i vs t rows g w hn hv ht hr1 hr2 hg hw'
  have hdl : (layerF vs t rows g w).length = n := by rw [layerF_len, hvl]
  have g2 := j0 (layerF vs t rows g w) (by omega)
  generalize layerF vs t rows g w = due at *
  have hal : (ahead.map fun r => tB r).length < 16777216 := by rw [List.length_map]; omega
  have hap : ((ahead ++ [due]).map fun r => tB r) = (ahead.map fun r => tB r) ++ [tB due] := by simp
  unfold b32_0
  refine Nxt.step ⟨[bagV b1, nV n, tNN vs, .lst .ow js, .lst .ow (ahead.map fun r => tB r), nV turn, tB t, x7, x8, x9, x10, .und], by simp [h1], ?_⟩
  refine Nxt.step ⟨[bagV b2, nV n, tNN vs, .lst .ow js, .lst .ow (ahead.map fun r => tB r), nV turn, tB t, tBB rows, x8, x9, x10, .und], by
    generalize (ahead.map fun r => tB r) = A at *
    simp [h2], ?_⟩
  refine Nxt.step ⟨[bagV b4, nV n, tNN vs, .lst .ow js, .lst .ow (ahead.map fun r => tB r), nV turn, tB t, tBB rows, fV g, fV v, x10, .und], by
    generalize (ahead.map fun r => tB r) = A at *
    simp [h3, h4, sets], ?_⟩
  refine Nxt.step ⟨_, hif, ?_⟩
  clear hif
  generalize hG : fV g = F at *
  obtain ⟨fl, rfl⟩ : ∃ fl, F = .tup fl := ⟨_, hG.symm⟩
  generalize hW : fV w = F' at *
  obtain ⟨fl', rfl⟩ : ∃ fl, F' = .tup fl := ⟨_, hW.symm⟩
  generalize (ahead.map fun r => tB r) = A at *
  refine Nxt.step ⟨[bagV b4, nV n, tNN vs, .lst .ow js, .lst .ow A, nV turn, tB t, tBB rows, .tup fl, .tup fl', tB due, .und], by simp [h5], ?_⟩
  refine Nxt.app _ (by simp) (by simp [sizeLine]) rfl hj g1 (by omega) fun js1 hj1 => ?_
  simp only [List.set_cons_zero, List.set_cons_succ]
  refine Nxt.app _ (by simp) (by simp [h6, sizeLine]) rfl hj1 g2 (by omega) fun js2 hj2 => ?_
  simp only [List.set_cons_zero, List.set_cons_succ]
  refine Nxt.step ⟨[bagV b4, nV n, tNN vs, .lst .ow js2, .lst .ow (A ++ [tB due]), nV turn, tB t, tBB rows, .tup fl, .tup fl', tB due, .und], by simp [hal, sizeLine], ?_⟩
  exact Nxt.nil ⟨b4, js2, due, _, _, _, _, _, by rw [hap], hj2, hdl⟩
theorem s32 (k n : Nat) (b : Bag) (hn : n ≤ 11) (ho : n % 2 = 1) : ∃ js b', run (k + 5) 32 [bagV b, nV n] = .ret (.lst .ow js) [bagV b', nV n] ∧ AllGood js 16 := by
  obtain ⟨vs, b1, h1, hv⟩ := s19 k n b (by omega) ho
  obtain ⟨ahead, b2, h2, hl, hr⟩ := e32_0 (k + 2) n b1 (by omega) (by omega) (tNN vs) (.lst .ow []) .und .und .und .und .und .und .und
  obtain ⟨e3, ⟨b3, js, ahead', y5, y6, y7, y8, y9, y10, rfl, hj, hl', hr'⟩, h3⟩ := for_inv (C := run (k + 4)) (G := G0) (io := [0, 1]) (s0 := l32_0) (e := [bagV b2, nV n, tNN vs, .lst .ow [], .lst .ow (ahead.map fun r => tB r), .und, .und, .und, .und, .und, .und, .und]) rfl (List.range 8) nV (ps := []) (e1 := [bagV b2, nV n, tNN vs, .lst .ow [], .lst .ow (ahead.map fun r => tB r), .und, .und, .und, .und, .und, .und, .und]) (by
      have := rangeL_nat 8
      simp at this
      simp [this, okR]) (fun i e' => ∃ b js ahead y5 y6 y7 y8 y9 y10, e' = [bagV b, nV n, tNN vs, .lst .ow js, .lst .ow (ahead.map fun r => tB r), y5, y6, y7, y8, y9, y10, .und] ∧ AllGood js (2 * i) ∧ ahead.length = 3 + i ∧ ∀ r ∈ ahead, r.length = n) ⟨b2, [], ahead, _, _, _, _, _, _, rfl, by simp [AllGood], by omega, hr⟩ fun i p e' hx ⟨b, js, ahead, y5, y6, y7, y8, y9, y10, he, hj, hl, hr⟩ => by
    subst he
    have hi : i < 8 := by simpa using (List.getElem?_eq_some_iff.mp hx).1
    obtain ⟨e3, h5, b', js', due, z6, z7, z8, z9, z10, rfl, hj', hd⟩ := b32 k n vs p b js ahead (2 * i) (by omega) hn (by omega) hv hj (by intro e; rw [e] at hl; simp at hl; omega) (by omega) hr y6 y7 y8 y9 y10
    refine ⟨[bagV b, nV n, tNN vs, .lst .ow js, .lst .ow (ahead.map fun r => tB r), nV p, y6, y7, y8, y9, y10, .und], _, by simp [slotsOf], h5, b', js', ahead ++ [due], _, _, _, _, _, _, rfl, hj', by simp; omega, fun r hr'' => ?_⟩
    rcases List.mem_append.mp hr'' with h | h
    · exact hr r h
    · rw [List.mem_singleton.mp h]; exact hd
  refine ⟨js, b3, ?_, hj⟩
  rw [run_at (d := d32) rfl]
  generalize (ahead.map fun r => tB r) = A at *
  generalize (ahead'.map fun r => tB r) = A' at *
  generalize hVS : tNN vs = VS at *
  obtain ⟨fl, rfl⟩ : ∃ fl, VS = .tup fl := ⟨_, hVS.symm⟩
  simp [d32, runD_ap, h1, sets, h2, h3, sizeLine]
/-! the document's own -/
def ring : List (List Nat) := [[0, 1, 3], [1, 2, 4], [0, 2, 3], [1, 3, 4], [0, 2, 4]]
theorem ring_ok : VsOk 5 ring := by
  refine ⟨rfl, ?_⟩
  have : ∀ v ∈ ring, v.length % 2 = 1 ∧ v.length ≤ 5 ∧ ∀ p ∈ v, p < 5 := by decide
  exact this
abbrev vR : Val := .tup [.tup [.int 0, .int 1, .int 3], .tup [.int 1, .int 2, .int 4], .tup [.int 0, .int 2, .int 3], .tup [.int 1, .int 3, .int 4], .tup [.int 0, .int 2, .int 4]]
abbrev vOne : Val := .tup [.int 1, .int 1, .int 0, .int 1, .int 1]
abbrev vTwo : Val := .tup [.int 1, .int 0, .int 1, .int 1, .int 1]
theorem s33 (k : Nat) : ∃ js, run (k + 1) 33 [] = .ret (.lst .ow js) [] ∧ AllGood js 4 := by
  have hF1 : FailOk 5 [(0, false)] := ⟨by simp, by simp, by simp⟩
  have hF2 : FailOk 5 [(4, false)] := ⟨by simp, by simp, by simp⟩
  have hF3 : FailOk 5 [(0, false), (2, true)] := ⟨by simp, by simp, by simp⟩
  have g1 := j6 5 2 ring [false, false, false, true] [[true, true, false, true, true], [true, false, true, true, true]] [(0, false)] [(4, false)] (by decide) ring_ok ⟨by decide, rfl⟩ rfl (by decide) hF1 hF2
  rw [show layerF ring [false, false, false, true] [[true, true, false, true, true], [true, false, true, true, true]] [(0, false)] [(4, false)] = [false, false, false, true, false] by decide] at g1
  have g2 := j5 5 ring [true, false, false, true, true] (by decide) ring_ok rfl
  rw [show votedF ring [true, false, false, true, true] = [true, false, true, true, true] by decide] at g2
  have g3 := j4 5 [true, true, false, true, true] [(0, false), (2, true)] (by decide) rfl hF3
  rw [show saidF [true, true, false, true, true] [(0, false), (2, true)] = [false, true, true, true, true] by decide] at g3
  have g4 := j2 5 false [1, 4] (by decide) (by decide) (by decide)
  rw [show withF 5 false [1, 4] = [false, true, false, false, true] by decide] at g4
  refine ⟨[.tup [.int 6, .tup [vR, .tup [.int 0, .int 0, .int 0, .int 1], .tup [vOne, vTwo], .tup [.tup [.int 0], .tup [.int 0]], .tup [.tup [.int 4], .tup [.int 0]]], .tup [.int 0, .int 0, .int 0, .int 1, .int 0]], .tup [.int 5, .tup [vR, .tup [.int 1, .int 0, .int 0, .int 1, .int 1]], .tup [.int 1, .int 0, .int 1, .int 1, .int 1]], .tup [.int 4, .tup [vOne, .tup [.tup [.int 0, .int 2], .tup [.int 0, .int 1]]], .tup [.int 0, .int 1, .int 1, .int 1, .int 1]], .tup [.int 2, .tup [.int 5, .int 0, .tup [.int 1, .int 4]], .tup [.int 0, .int 1, .int 0, .int 0, .int 1]]], ?_, ?_, by simp⟩
  · rw [run_at (d := d33) rfl]
    simp [d33, runD_ap, sizeLine, tlen]
  · intro j hj
    simp only [List.mem_cons, List.not_mem_nil, or_false] at hj
    rcases hj with rfl | rfl | rfl | rfl
    · exact g1
    · exact g2
    · exact g3
    · exact g4
end K19

/-! K19l: the plain law. -/
namespace K19
open PySem Nd
theorem e11_0 (k : Nat) (ns : List Int) (hl : ns.length ≤ 63) : ∃ cells : List Nat, evE (run k) G0 c11_0 [.lst .sc (ns.map .int), .und, .und, .und] = .ok (.lst .ow (cells.map nV)) [.lst .sc (ns.map .int), .und, .und, .und] ∧ cells.length ≤ 63 := by
  obtain ⟨ms, hms, hml⟩ : ∃ ms : List Int, slcV (.lst .sc (ns.map .int)) none (some 63) = some (.lst .ow (ms.map .int)) ∧ ms.length ≤ 63 := by
    refine ⟨(ns.drop (HT.sIx ns.length 0 none)).take (HT.sIx ns.length ns.length (some 63) - HT.sIx ns.length 0 none), ?_, ?_⟩
    · show some (Val.lst .ow (cutL (ns.map .int) none (some 63))) = _
      unfold cutL
      rw [List.length_map, ← List.map_drop, ← List.map_take]
    · have := List.length_take_le (HT.sIx ns.length ns.length (some 63) - HT.sIx ns.length 0 none) (ns.drop (HT.sIx ns.length 0 none))
      rw [List.length_take, List.length_drop]
      omega
  have h := comp_maps (C := run k) (G := G0) (c0 := c11_0) (e := [.lst .sc (ns.map .int), .und, .und, .und]) rfl (e1 := [.lst .sc (ns.map .int), .und, .und, .und]) (ps := [(.lst .ow (ms.map .int), .no)]) ms Val.int (fun i => nV i.natAbs) (by simp [hms]) (by simp [sizeLine]; omega) fun q hq => by
    refine ⟨[.lst .sc (ns.map .int), .und, .und, .int q], ?_⟩
    have : biV .abs [.int q] = some (nV q.natAbs) := by
      show some (Val.int (if q < 0 then -q else q)) = _
      by_cases hq : q < 0
      · rw [if_pos hq, show -q = (q.natAbs : Int) by omega]
      · rw [if_neg hq, show q = (q.natAbs : Int) by omega]; rfl
    simp [turnM, wipes, this, restores, saves]
  refine ⟨ms.map Int.natAbs, ?_, by simpa using hml⟩
  rw [h]
  simp [Function.comp_def]
theorem s11 (k : Nat) (ns : List Int) (hl : ns.length ≤ 63) : ∃ b, run (k + 1) 11 [.lst .sc (ns.map .int)] = .ret (bagV b) [.lst .sc (ns.map .int)] := by
  obtain ⟨cells, h1, hc⟩ := e11_0 k ns hl
  obtain ⟨e3, ⟨m, y, rfl⟩, h2⟩ := for_inv (C := run k) (G := G0) (io := [0]) (s0 := l11_0) (e := [.lst .sc (ns.map .int), .lst .ow (cells.map nV), .int (1919 + (cells.length : Int)), .und]) rfl cells nV (ps := [(.lst .ow (cells.map nV), .sl 1)]) (e1 := [.lst .sc (ns.map .int), .und, .int (1919 + (cells.length : Int)), .und]) (by simp) (fun i e' => ∃ (m : Nat) (y : Val), e' = [.lst .sc (ns.map .int), .und, nV m, y]) ⟨1919 + cells.length, .und, by simp⟩ fun i c e' hx ⟨m, y, he⟩ => by
    subst he
    obtain ⟨v0, q1⟩ : ∃ v : Nat, Nd.binI .mul (m : Int) 48271 = some (v : Int) := ⟨m * 48271, by simp [Nd.binI, small]⟩
    obtain ⟨v1, q2⟩ : ∃ v : Nat, Nd.binI .mod (c : Int) 2147483629 = some (v : Int) := ⟨c % 2147483629, by simp [Nd.binI]⟩
    obtain ⟨v2, q3⟩ : ∃ v : Nat, Nd.binI .add (v0 : Int) (v1 : Int) = some (v : Int) := ⟨v0 + v1, by simp [Nd.binI]⟩
    obtain ⟨v3, q4⟩ : ∃ v : Nat, Nd.binI .add (v2 : Int) 7 = some (v : Int) := ⟨v2 + 7, by simp [Nd.binI]⟩
    obtain ⟨v4, q5⟩ : ∃ v : Nat, Nd.binI .mod (v3 : Int) 2147483647 = some (v : Int) := ⟨v3 % 2147483647, by simp [Nd.binI]⟩
    refine ⟨[.lst .sc (ns.map .int), .und, nV m, nV c], [.lst .sc (ns.map .int), .und, nV v4, nV c], by simp [slotsOf], ?_, _, _, rfl⟩
    simp [b11_0, slotsOf, binV, q1, q2, q3, q4, q5]
  refine ⟨⟨cells.reverse, 0, m⟩, ?_⟩
  have e1 : lrevV (.lst .ow (cells.map nV)) = some (.lst .ow (cells.reverse.map nV)) := by
    show some (Val.lst .ow (cells.map nV).reverse) = _
    rw [List.map_reverse]
  rw [run_at (d := d11) rfl]
  have hA : (cells.map nV).length = cells.length := List.length_map _
  generalize cells.map nV = A at *
  generalize ns.map Val.int = S at *
  simp [d11, runD_ap, h1, binV, Nd.binI, hA, h2, e1, sizeLine]
theorem ext_ow (js ks : List Val) (h : js.length + ks.length ≤ 100000) : meV .extend (.lst .ow js) [.lst .ow ks] = some (.non, .lst .ow (js ++ ks)) := by
  rw [meV_extend, if_pos (by simp only [sizeLine]; omega)]
/-- one turn of the law's first loop -/
theorem b35_0' (k : Nat) (S : List Val) (b : Bag) (js : List Val) (turn m : Nat) (hm : m ≤ 10000) (hj : AllGood js m) (x4 : Val) :
    Nxt (run (k + 6)) G0 [0] b35_0 [.lst .sc S, bagV b, .lst .ow js, nV turn, x4, .und, .und, .und, .und, .und, .und] fun e => ∃ b' js' y4, e = [.lst .sc S, bagV b', .lst .ow js', nV turn, y4, .und, .und, .und, .und, .und, .und] ∧ AllGood js' (m + 56) := by
  obtain ⟨n, b1, hn, ho, h1⟩ : ∃ (n : Nat) (b1 : Bag), n ≤ 11 ∧ n % 2 = 1 ∧ evE (run (k + 6)) G0 (.ite (.cmp .gt (.mv 3) (.v (.int 0))) (.call 13 (.cons (.mv 1) (.cons (.v (.lst .ow (.cons (.int 1) (.cons (.int 3) (.cons (.int 5) (.cons (.int 7) (.cons (.int 9) (.cons (.int 11) (.cons (.int 11) (.cons (.int 11) (.cons (.int 3) .nil))))))))))) .nil))) (.call 13 (.cons (.mv 1) (.cons (.v (.lst .ow (.cons (.int 9) (.cons (.int 11) .nil)))) .nil)))) [.lst .sc S, bagV b, .lst .ow js, nV turn, x4, .und, .und, .und, .und, .und, .und] = .ok (nV n) [.lst .sc S, bagV b1, .lst .ow js, nV turn, x4, .und, .und, .und, .und, .und, .und] := by
    by_cases hc : 0 < turn
    · obtain ⟨x, hx, b1, h1⟩ := s13 (k + 4) b [.int 1, .int 3, .int 5, .int 7, .int 9, .int 11, .int 11, .int 11, .int 3] (by simp) (by simp)
      have hm : ∃ n : Nat, x = nV n ∧ n ≤ 11 ∧ n % 2 = 1 := by
        simp only [List.mem_cons, List.not_mem_nil, or_false] at hx
        rcases hx with rfl | rfl | rfl | rfl | rfl | rfl | rfl | rfl | rfl
        · exact ⟨1, rfl, by decide, rfl⟩
        · exact ⟨3, rfl, by decide, rfl⟩
        · exact ⟨5, rfl, by decide, rfl⟩
        · exact ⟨7, rfl, by decide, rfl⟩
        · exact ⟨9, rfl, by decide, rfl⟩
        · exact ⟨11, rfl, by decide, rfl⟩
        · exact ⟨11, rfl, by decide, rfl⟩
        · exact ⟨11, rfl, by decide, rfl⟩
        · exact ⟨3, rfl, by decide, rfl⟩
      obtain ⟨n, rfl, hn, ho⟩ := hm
      have e3 : cmpV .gt (nV turn) (.int 0) = some (.bl true) := by simp [cmpV, cmpI, hc]
      exact ⟨n, b1, hn, ho, by simp [e3, h1, sizeLine]⟩
    · obtain ⟨x, hx, b1, h1⟩ := s13 (k + 4) b [.int 9, .int 11] (by simp) (by simp)
      have hm : ∃ n : Nat, x = nV n ∧ n ≤ 11 ∧ n % 2 = 1 := by
        simp only [List.mem_cons, List.not_mem_nil, or_false] at hx
        rcases hx with rfl | rfl
        · exact ⟨9, rfl, by decide, rfl⟩
        · exact ⟨11, rfl, by decide, rfl⟩
      obtain ⟨n, rfl, hn, ho⟩ := hm
      have e3 : cmpV .gt (nV turn) (.int 0) = some (.bl false) := by simp [cmpV, cmpI, hc]
      exact ⟨n, b1, hn, ho, by simp [e3, h1, sizeLine]⟩
  obtain ⟨j1, b2, h2, g1⟩ := s29 (k + 1) n b1 hn ho
  obtain ⟨j2, b3, h3, g2⟩ := s30 (k + 1) n b2 hn ho
  obtain ⟨j3, b4, h4, g3⟩ := s31 (k + 1) n b3 hn (by omega)
  obtain ⟨j4, b5, h5, g4⟩ := s32 (k + 1) n b4 hn ho
  have q1 := hj.app g1
  have q2 := q1.app g2
  have q3 := q2.app g3
  have q4 := q3.app g4
  have z1 := ext_ow js j1 (by have := hj.2; have := g1.2; omega)
  have z2 := ext_ow (js ++ j1) j2 (by have := q1.2; have := g2.2; omega)
  have z3 := ext_ow (js ++ j1 ++ j2) j3 (by have := q2.2; have := g3.2; omega)
  have z4 := ext_ow (js ++ j1 ++ j2 ++ j3) j4 (by have := q3.2; have := g4.2; omega)
  generalize js ++ j1 ++ j2 ++ j3 ++ j4 = J4 at *
  generalize js ++ j1 ++ j2 ++ j3 = J3 at *
  generalize js ++ j1 ++ j2 = J2 at *
  generalize js ++ j1 = J1 at *
  unfold b35_0
  refine Nxt.step ⟨[.lst .sc S, bagV b1, .lst .ow js, nV turn, nV n, .und, .und, .und, .und, .und, .und], by simp [-evE_14, h1], ?_⟩
  refine Nxt.step ⟨[.lst .sc S, bagV b2, .lst .ow J1, nV turn, nV n, .und, .und, .und, .und, .und, .und], by simp [h2, z1, -meV_extend], ?_⟩
  refine Nxt.step ⟨[.lst .sc S, bagV b3, .lst .ow J2, nV turn, nV n, .und, .und, .und, .und, .und, .und], by simp [h3, z2, -meV_extend], ?_⟩
  refine Nxt.step ⟨[.lst .sc S, bagV b4, .lst .ow J3, nV turn, nV n, .und, .und, .und, .und, .und, .und], by simp [h4, z3, -meV_extend], ?_⟩
  refine Nxt.step ⟨[.lst .sc S, bagV b5, .lst .ow J4, nV turn, nV n, .und, .und, .und, .und, .und, .und], by simp [h5, z4, -meV_extend], ?_⟩
  exact Nxt.nil ⟨b5, J4, _, rfl, q4.mono (by omega)⟩
/-- one job is asked -/
theorem b35_1' (k : Nat) (S : List Val) (bag : Val) (ts : List Nat) (begin_ : Nat) (j : Val) (hj : Good j) (ht : ts.length = 8) (x3 x4 x7 x8 x9 x10 : Val) : ∃ e2 ts' y7 y8 y9 y10, evTg (run (k + 6)) G0 (fun i => !([2, 0] : List Nat).contains i) (.tup (.cons (.name 7) (.cons (.name 8) (.cons (.name 9) .nil)))) j [.lst .sc S, bag, .und, x3, x4, .lst .ow (ts.map nV), nV begin_, x7, x8, x9, x10] = .ok () e2 ∧ evSs (run (k + 6)) G0 [2, 0] b35_1 e2 = .ok .nx [.lst .sc S, bag, .und, x3, x4, .lst .ow (List.map nV ts'), nV begin_, y7, y8, y9, y10] ∧ ts'.length = 8 := by
  obtain ⟨kk, as, due, rfl, hk, hg, hd, s, hs⟩ := hj
  have hsame := due_same hd (k + 4)
  have hsub := subO nV ts kk 0 (by omega)
  generalize hu : ts.getD kk 0 = u at hsub
  have e1 : Nd.binI .add (begin_ : Int) (u : Int) = some ((begin_ + u : Nat) : Int) := by simp [Nd.binI]
  have e2 : Nd.binI .mod ((begin_ + u : Nat) : Int) 2 = some (((begin_ + u) % 2 : Nat) : Int) := by simp [Nd.binI]
  have e3 : Nd.binI .add (u : Int) 1 = some ((u + 1 : Nat) : Int) := by simp [Nd.binI]
  have h34 := hg k ((begin_ + u) % 2) (Nat.mod_lt _ (by decide))
  generalize (begin_ + u) % 2 = way at *
  generalize begin_ + u = w at *
  generalize u + 1 = u1 at *
  have hne : cmpV .ne (.str s) (.str s) = some (.bl false) := by simp [cmpV, eqV]
  have hset : setV (.lst .ow (ts.map nV)) (nV kk) (nV u1) = some (.lst .ow ((ts.set kk u1).map nV)) := by
    have h1 : L2.ixN (ts.map nV).length (kk : Int) = some kk := by
      unfold L2.ixN
      simp; omega
    unfold setV
    simp only [frz_int]
    rw [h1, List.map_set]
  have hdf : frz due = some due ∧ held due = false ∧ due ≠ .und := by
    rcases hd with ⟨i, rfl⟩ | ⟨l, rfl, _⟩
    · exact ⟨rfl, rfl, by simp⟩
    · exact ⟨rfl, rfl, by simp⟩
  refine ⟨[.lst .sc S, bag, .und, x3, x4, .lst .ow (ts.map nV), nV begin_, nV kk, .tup as, due, x10], ts.set kk u1, nV kk, .tup as, due, .str s, by simp [tlen], ?_, by simpa using ht⟩
  generalize ts.map nV = T at *
  generalize (ts.set kk u1).map nV = T' at *
  have hd2 : due = .und ∨ due ≠ .und := .inr hdf.2.2
  rcases hd with ⟨i, rfl⟩ | ⟨l, rfl, _⟩
  · simp [b35_1, hs, hsub, binV, e1, e2, h34, hsame, hne, e3, hset]
  · generalize l.map Val.int = L at *
    simp [b35_1, hs, hsub, binV, e1, e2, h34, hsame, hne, e3, hset]
theorem plain (ns : List Int) (hl : ns.length ≤ 63) (k : Nat) : ∃ outs, run (k + 7) 35 [.lst .sc (ns.map .int)] = .ret (.bl true) outs := by
  obtain ⟨b, h1⟩ := s11 (k + 5) ns hl
  obtain ⟨j0, h2, g0⟩ := s33 (k + 5)
  generalize ns.map Val.int = S at *
  obtain ⟨e3, ⟨b1, js, y3, y4, rfl, hj⟩, h3⟩ := for_inv (C := run (k + 6)) (G := G0) (io := [0]) (s0 := l35_0) (e := [.lst .sc S, bagV b, .lst .ow j0, .und, .und, .und, .und, .und, .und, .und, .und]) rfl (List.range 3) nV (ps := []) (e1 := [.lst .sc S, bagV b, .lst .ow j0, .und, .und, .und, .und, .und, .und, .und, .und]) (by
      have := rangeL_nat 3
      simp at this
      simp [this, okR]) (fun i e' => ∃ b js y3 y4, e' = [.lst .sc S, bagV b, .lst .ow js, y3, y4, .und, .und, .und, .und, .und, .und] ∧ AllGood js (4 + 56 * i)) ⟨b, j0, _, _, rfl, by simpa using g0⟩ fun i p e' hx ⟨b, js, y3, y4, he, hj⟩ => by
    subst he
    have hi : i < 3 := by simpa using (List.getElem?_eq_some_iff.mp hx).1
    obtain ⟨e3, h5, b', js', z4, rfl, hj'⟩ := b35_0' k S b js p (4 + 56 * i) (by omega) hj y4
    exact ⟨[.lst .sc S, bagV b, .lst .ow js, nV p, y4, .und, .und, .und, .und, .und, .und], _, by simp [slotsOf], h5, b', js', _, _, rfl, hj'⟩
  have hj172 : AllGood js 172 := hj.mono (by simp)
  -- the first ones again
  obtain ⟨ks, hks, hks1, hks2⟩ : ∃ ks, slcV (.lst .ow js) none (some 6) = some (.lst .ow ks) ∧ (∀ j ∈ ks, j ∈ js) ∧ ks.length ≤ js.length := by
    refine ⟨cutL js none (some 6), rfl, fun j hj => ?_, ?_⟩
    · exact List.mem_of_mem_drop (List.mem_of_mem_take hj)
    · unfold cutL
      rw [List.length_take, List.length_drop]; omega
  have hk : AllGood ks 172 := ⟨fun j hj => hj172.1 j (hks1 j hj), Nat.le_trans hks2 hj172.2⟩
  have z1 := ext_ow js ks (by have := hj172.2; have := hk.2; omega)
  have hJ := hj172.app hk
  generalize js ++ ks = J at *
  obtain ⟨beg, b2, h4⟩ := s12b (k + 5) b1
  have hmul : binV .mul (.lst .ow [.int 0]) (.int 8) = some (.lst .ow ((List.replicate 8 0).map nV)) := by rfl
  obtain ⟨e4, ⟨ts, y7, y8, y9, y10, rfl, hts⟩, h6⟩ := for_inv (C := run (k + 6)) (G := G0) (io := [0]) (s0 := l35_1) (e := [.lst .sc S, bagV b2, .lst .ow J, y3, y4, .lst .ow ((List.replicate 8 0).map nV), bV beg, .und, .und, .und, .und]) rfl J id (ps := [(.lst .ow J, .sl 2)]) (e1 := [.lst .sc S, bagV b2, .und, y3, y4, .lst .ow ((List.replicate 8 0).map nV), bV beg, .und, .und, .und, .und]) (by simp) (fun i e' => ∃ (ts : List Nat) (y7 y8 y9 y10 : Val), e' = [.lst .sc S, bagV b2, .und, y3, y4, .lst .ow (ts.map nV), bV beg, y7, y8, y9, y10] ∧ ts.length = 8) ⟨List.replicate 8 0, _, _, _, _, rfl, rfl⟩ fun i j e' hx ⟨ts, y7, y8, y9, y10, he, hts⟩ => by
    subst he
    obtain ⟨e2, ts', z7, z8, z9, z10, q1, q2, q3⟩ := b35_1' k S (bagV b2) ts beg.toNat j (hJ.1 j (List.mem_of_getElem? hx)) hts y3 y4 y7 y8 y9 y10
    have hb : nV beg.toNat = bV beg := by rw [bV, bI_nat]
    rw [hb] at q1 q2
    exact ⟨e2, _, q1, q2, ts', _, _, _, _, rfl, q3⟩
  rw [run_at (d := d35) rfl]
  generalize (List.replicate 8 0).map nV = T0 at *
  have main : Ret (run (k + 6)) G0 [0] d35.body [.lst .sc S, .und, .und, .und, .und, .und, .und, .und, .und, .und, .und] fun v e => v = .bl true := by
    unfold d35
    simp only []
    refine Ret.step ⟨[.lst .sc S, bagV b, .lst .ow j0, .und, .und, .und, .und, .und, .und, .und, .und], by simp [h1, h2, sets], ?_⟩
    refine Ret.step ⟨_, by rw [h3]; simp; rfl, ?_⟩
    refine Ret.step ⟨[.lst .sc S, bagV b1, .lst .ow J, y3, y4, .und, .und, .und, .und, .und, .und], by simp [hks, z1, -meV_extend], ?_⟩
    refine Ret.step ⟨[.lst .sc S, bagV b2, .lst .ow J, y3, y4, .lst .ow T0, bV beg, .und, .und, .und, .und], by simp [h4, hmul, sets, sizeLine], ?_⟩
    refine Ret.step ⟨_, by rw [h6]; simp; rfl, ?_⟩
    exact Ret.last ⟨.bl true, _, by simp; rfl, rfl⟩
  obtain ⟨v, e, h, rfl⟩ := runD_of (d := d35) (xs := [.lst .sc S]) rfl main
  exact ⟨_, h⟩
end K19

set_option maxHeartbeats 0
/-! the head by facts, the checks, the join. -/
namespace K19H
open PySem PySem.Spec PyProof.Rows L2 Nd
def PP : Program := PySem.Challenge.pw_noisedown_k19_whole_bundles_and_layers
def top (i : Nat) : Stmt := PP.main.body.getD i (.Pass ⟨0, 0, 0, 0⟩)
def mkD (i : Nat) : He.DefD := match top i with
  | .FunctionDef n a b _ _ _ sc _ _ _ => ⟨(n, none), n, n, a, b, sc, [], []⟩
  | _ => ⟨("law", none), "law", "law", ⟨[], [], none, [], [], none, []⟩, [], ⟨.function, [], false, false, []⟩, [], []⟩
def ixs : List Nat := [1, 3, 4, 6, 7, 8, 9, 10, 11, 12, 14, 16, 17, 18, 19, 20, 21, 22, 23, 24, 25, 26, 27, 28, 29, 30, 31, 32, 33, 34, 35, 36, 37, 38, 39, 40]
def names : List Str := (["majority", "row_place", "table_value", "bundle_bit", "offs_of", "bundle_with", "gated", "said", "voted", "layer_run", "outputs_off", "_law_bag", "_law_draw", "_law_pick", "_law_same", "_law_bits", "_law_some", "_law_fails", "_law_vote", "_law_votes"] : List Str) ++ (["_law_table", "_law_inputs", "_law_most", "_law_offs", "_law_gated", "_law_said", "_law_voted", "_law_layer", "_law_off_outputs", "_law_part_jobs", "_law_off_jobs", "_law_apart_jobs", "_law_layer_jobs", "_law_known_jobs", "_law_told"] : List Str)
def fn : List He.DefD := ixs.map mkD
def fa : List He.Fa := ([.glo "majority", .glo "row_place", .glo "table_value", .glo "bundle_bit", .glo "offs_of", .glo "bundle_with", .glo "gated", .glo "said", .glo "voted", .glo "layer_run", .glo "outputs_off", .glo "_law_bag", .glo "_law_draw", .glo "_law_pick", .glo "_law_same", .glo "_law_bits", .glo "_law_some", .glo "_law_fails", .glo "_law_vote", .glo "_law_votes"] : List He.Fa) ++ ([.glo "_law_table", .glo "_law_inputs", .glo "_law_most", .glo "_law_offs", .glo "_law_gated", .glo "_law_said", .glo "_law_voted", .glo "_law_layer", .glo "_law_off_outputs", .glo "_law_part_jobs", .glo "_law_off_jobs", .glo "_law_apart_jobs", .glo "_law_layer_jobs", .glo "_law_known_jobs", .glo "_law_told", .glo "law", .free "abs", .free "all", .free "any", .free "bool"] : List He.Fa) ++ ([.free "dict", .free "enumerate", .free "int", .free "isinstance", .free "len", .free "list", .free "min", .free "range", .free "repr", .free "reversed", .free "sorted", .free "sum", .free "tuple", .free "zip"] : List He.Fa)
abbrev R : PySem.W.OpenRow := PySem.W.OpenLaw.row PySem.Challenge.rw_noisedown_k19_whole_bundles_and_layers
abbrev hk : PySem.W.Hook := He.hookD 4 fa fn
def ob (s : PySem.W.SharedT) : He.AlD := He.obsDG 4 fa fn (HandSHeadRun.getT s)
theorem ob_eq (s : PySem.W.SharedT) : ob s = hk.obs s.abs := He.obsDG_eq (HandSHeadRun.getT_eq s)
theorem run (w : World) : HandSHeadRun.RunEq R (PySem.W.view R.prog [40]) hk ob 4000 names w := by
  intro os
  kernel_rfl
theorem one0 : oneC fa fn K19.Tt K19.Dp K19.Nss 0 = true := by decide +kernel
theorem one1 : oneC fa fn K19.Tt K19.Dp K19.Nss 1 = true := by decide +kernel
theorem one2 : oneC fa fn K19.Tt K19.Dp K19.Nss 2 = true := by decide +kernel
theorem one3 : oneC fa fn K19.Tt K19.Dp K19.Nss 3 = true := by decide +kernel
theorem one4 : oneC fa fn K19.Tt K19.Dp K19.Nss 4 = true := by decide +kernel
theorem one5 : oneC fa fn K19.Tt K19.Dp K19.Nss 5 = true := by decide +kernel
theorem one6 : oneC fa fn K19.Tt K19.Dp K19.Nss 6 = true := by decide +kernel
theorem one7 : oneC fa fn K19.Tt K19.Dp K19.Nss 7 = true := by decide +kernel
theorem one8 : oneC fa fn K19.Tt K19.Dp K19.Nss 8 = true := by decide +kernel
theorem one9 : oneC fa fn K19.Tt K19.Dp K19.Nss 9 = true := by decide +kernel
theorem one10 : oneC fa fn K19.Tt K19.Dp K19.Nss 10 = true := by decide +kernel
theorem one11 : oneC fa fn K19.Tt K19.Dp K19.Nss 11 = true := by decide +kernel
theorem one12 : oneC fa fn K19.Tt K19.Dp K19.Nss 12 = true := by decide +kernel
theorem one13 : oneC fa fn K19.Tt K19.Dp K19.Nss 13 = true := by decide +kernel
theorem one14 : oneC fa fn K19.Tt K19.Dp K19.Nss 14 = true := by decide +kernel
theorem one15 : oneC fa fn K19.Tt K19.Dp K19.Nss 15 = true := by decide +kernel
theorem one16 : oneC fa fn K19.Tt K19.Dp K19.Nss 16 = true := by decide +kernel
theorem one17 : oneC fa fn K19.Tt K19.Dp K19.Nss 17 = true := by decide +kernel
theorem one18 : oneC fa fn K19.Tt K19.Dp K19.Nss 18 = true := by decide +kernel
theorem one19 : oneC fa fn K19.Tt K19.Dp K19.Nss 19 = true := by decide +kernel
theorem one20 : oneC fa fn K19.Tt K19.Dp K19.Nss 20 = true := by decide +kernel
theorem one21 : oneC fa fn K19.Tt K19.Dp K19.Nss 21 = true := by decide +kernel
theorem one22 : oneC fa fn K19.Tt K19.Dp K19.Nss 22 = true := by decide +kernel
theorem one23 : oneC fa fn K19.Tt K19.Dp K19.Nss 23 = true := by decide +kernel
theorem one24 : oneC fa fn K19.Tt K19.Dp K19.Nss 24 = true := by decide +kernel
theorem one25 : oneC fa fn K19.Tt K19.Dp K19.Nss 25 = true := by decide +kernel
theorem one26 : oneC fa fn K19.Tt K19.Dp K19.Nss 26 = true := by decide +kernel
theorem one27 : oneC fa fn K19.Tt K19.Dp K19.Nss 27 = true := by decide +kernel
theorem one28 : oneC fa fn K19.Tt K19.Dp K19.Nss 28 = true := by decide +kernel
theorem one29 : oneC fa fn K19.Tt K19.Dp K19.Nss 29 = true := by decide +kernel
theorem one30 : oneC fa fn K19.Tt K19.Dp K19.Nss 30 = true := by decide +kernel
theorem one31 : oneC fa fn K19.Tt K19.Dp K19.Nss 31 = true := by decide +kernel
theorem one32 : oneC fa fn K19.Tt K19.Dp K19.Nss 32 = true := by decide +kernel
theorem one33 : oneC fa fn K19.Tt K19.Dp K19.Nss 33 = true := by decide +kernel
theorem one34 : oneC fa fn K19.Tt K19.Dp K19.Nss 34 = true := by decide +kernel
theorem one35 : oneC fa fn K19.Tt K19.Dp K19.Nss 35 = true := by decide +kernel
theorem bl_ok : blC fa K19.Tt = true := by decide +kernel
theorem one_all : ∀ f, f < K19.Tt.fns.length → oneC fa fn K19.Tt K19.Dp K19.Nss f = true := by
  intro f hf
  have hl : K19.Tt.fns.length = 36 := by decide +kernel
  rw [hl] at hf
  match f, hf with
  | 0, _ => exact one0
  | 1, _ => exact one1
  | 2, _ => exact one2
  | 3, _ => exact one3
  | 4, _ => exact one4
  | 5, _ => exact one5
  | 6, _ => exact one6
  | 7, _ => exact one7
  | 8, _ => exact one8
  | 9, _ => exact one9
  | 10, _ => exact one10
  | 11, _ => exact one11
  | 12, _ => exact one12
  | 13, _ => exact one13
  | 14, _ => exact one14
  | 15, _ => exact one15
  | 16, _ => exact one16
  | 17, _ => exact one17
  | 18, _ => exact one18
  | 19, _ => exact one19
  | 20, _ => exact one20
  | 21, _ => exact one21
  | 22, _ => exact one22
  | 23, _ => exact one23
  | 24, _ => exact one24
  | 25, _ => exact one25
  | 26, _ => exact one26
  | 27, _ => exact one27
  | 28, _ => exact one28
  | 29, _ => exact one29
  | 30, _ => exact one30
  | 31, _ => exact one31
  | 32, _ => exact one32
  | 33, _ => exact one33
  | 34, _ => exact one34
  | 35, _ => exact one35
  | n + 36, h => exact absurd h (by omega)
end K19H
open PySem PySem.W PySem.Calls PyProof.Rows
theorem PySem.Challenge.cw_noisedown_k19_whole_bundles_and_layers_holds : PySem.Challenge.rw_noisedown_k19_whole_bundles_and_layers.Holds := by
  w_on; o_law
  refine HandSHeadRun.head_any (r := OpenLaw.row PySem.Challenge.rw_noisedown_k19_whole_bundles_and_layers) (q := view (OpenLaw.row PySem.Challenge.rw_noisedown_k19_whole_bundles_and_layers).prog [40]) (H := K19H.hk) (ob := K19H.ob) (M := 4000) (loose := K19H.names) (d := HandSHeadRun.topDef (OpenLaw.row PySem.Challenge.rw_noisedown_k19_whole_bundles_and_layers).prog 40) (kwd := []) K19H.ob_eq
    (by kernel_rfl) (fun s => by kernel_rfl) K19H.run (by kernel_rfl) (by kernel_rfl) (by kernel_rfl) (by rfl) (by first | assumption | decide +kernel) (by decide +kernel) ⟨rfl, rfl, rfl, rfl, rfl, by decide +kernel⟩ ?hw ?hc
  case hw => w_witness2
  case hc =>
    refine Nd.walk_ofG (l := PySem.Challenge.rw_noisedown_k19_whole_bundles_and_layers) (n := 63) (k := 7) (x := "script") (T := K19.Tt) (D := K19.Dp) (G := K19.G0) (fl := 35) rfl (by decide) (by kernel_rfl) ⟨rfl, by decide, by decide⟩ (by kernel_rfl) ?F (fun ns hl => K19.plain ns hl 0)
    intro w mg h Y G
    obtain ⟨K, KX, c⟩ := Y
    obtain ⟨h1, h2⟩ := Nd.prog_ok (Ns := K19.Nss) KX G c K19H.bl_ok K19H.one_all
    exact ⟨K, KX, h1, h2⟩

