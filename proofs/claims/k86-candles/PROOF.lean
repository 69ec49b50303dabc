import PyProof.Rows.All
import Wide.All
import OpenK.AllK
import Wide.FinOn
import PyProof.RangeIter
import HandS.ForMost
import HandS.ForExc
import HandS.HotCalls
import HandS.TupAny
import HandS.TupMul
import HandS.Wide
import HandS.Deep
import HandS.Style
import HandS.IsInst
import HandS.Dict
import HandS.Rev
import HandS.RevTup
import HandS.Gcd
import HandS.SortInts
import HandS.TupLen
import HandS.WordsDict
import KE.DataFind
import HandS.More
import HandS.SetFor
import HandS.Strs
import HandS.Conv
import HandS.Small
import KE.KDictDisplayH
import HandS.ExcIs
import HandS.Exc
import HandS.ExcOwn
import HandS.Lambda
import KE.KStateDown
import HandS.Ends
import HandS.WordsExc
import HandS.Defaults
import HandS.Head0
import HandS.Head1
import HandS.Head2
import HandS.HeadEnd
import HandS.HeadHook1
import HandS.HeadHook2
import HandS.Star
import HandS.Iter
import HandS.SetBool
import HandS.Head3
import PySem.Challenge.RW_playheld_k86_whole_candles_and_birthdays
set_option Elab.async false
set_option linter.all false
set_option maxRecDepth 100000
namespace TV
open PySem
def fitN (m : Nat) : Int → Bool
  | .ofNat n => Nat.ble n m
  | .negSucc n => Nat.ble n m
def uptN (m : Nat) : Int → Bool
  | .ofNat n => Nat.ble n m
  | .negSucc _ => false
def posI : Int → Bool
  | .ofNat 0 => false
  | .ofNat (_ + 1) => true
  | .negSucc _ => false
def nnI : Int → Bool
  | .ofNat _ => true
  | .negSucc _ => false
theorem fitN_iff {m : Nat} {i : Int} : fitN m i = true ↔ -(m : Int) - 1 ≤ i ∧ i ≤ (m : Int) := by
  cases i with
  | ofNat n => unfold fitN; dsimp only; rw [Nat.ble_eq]; simp only [Int.ofNat_eq_natCast]; omega
  | negSucc n => unfold fitN; dsimp only; rw [Nat.ble_eq]; simp only [Int.negSucc_eq]; omega
theorem uptN_iff {m : Nat} {i : Int} : uptN m i = true ↔ 0 ≤ i ∧ i ≤ (m : Int) := by
  cases i with
  | ofNat n => unfold uptN; dsimp only; rw [Nat.ble_eq]; simp only [Int.ofNat_eq_natCast]; omega
  | negSucc n => unfold uptN; dsimp only; simp only [Int.negSucc_eq]; exact ⟨fun z => (by cases z), fun z => by omega⟩
theorem posI_iff {i : Int} : posI i = true ↔ 0 < i := by
  cases i with
  | ofNat n => cases n with
    | zero => exact ⟨fun z => (by cases z), fun z => by simp at z⟩
    | succ n => exact ⟨fun _ => by simp only [Int.ofNat_eq_natCast]; omega, fun _ => rfl⟩
  | negSucc n => exact ⟨fun z => (by cases z), fun z => by simp only [Int.negSucc_eq] at z; omega⟩
theorem nnI_iff {i : Int} : nnI i = true ↔ 0 ≤ i := by
  cases i with
  | ofNat n => exact ⟨fun _ => by simp only [Int.ofNat_eq_natCast]; omega, fun _ => rfl⟩
  | negSucc n => exact ⟨fun z => (by cases z), fun z => by simp only [Int.negSucc_eq] at z; omega⟩
def smallI : Int → Bool := fitN 4611686018427387903
theorem smallI_iff {i : Int} : smallI i = true ↔ -(2 ^ 62) ≤ i ∧ i < 2 ^ 62 := by
  unfold smallI
  rw [fitN_iff]
  constructor <;> intro ⟨a, b⟩ <;> constructor <;> omega
def mulOk (i j : Int) : Bool := fitN 18446744073709551614 j || fitN 18446744073709551614 i || Nat.ble (i.natAbs.log2 + j.natAbs.log2 + 1) 1000000
theorem mulOk_iff {i j : Int} : mulOk i j = true ↔ (-(2 ^ 64) < j ∧ j < 2 ^ 64 - 1) ∨ (-(2 ^ 64) < i ∧ i < 2 ^ 64 - 1) ∨ i.natAbs.log2 + j.natAbs.log2 < 1000000 := by
  unfold mulOk
  rw [Bool.or_eq_true, Bool.or_eq_true, fitN_iff, fitN_iff, Nat.ble_eq]
  constructor
  · rintro ((⟨a, b⟩ | ⟨a, b⟩) | a)
    · exact .inl ⟨by omega, by omega⟩
    · exact .inr (.inl ⟨by omega, by omega⟩)
    · exact .inr (.inr (by omega))
  · rintro (⟨a, b⟩ | ⟨a, b⟩ | a)
    · exact .inl (.inl ⟨by omega, by omega⟩)
    · exact .inl (.inr ⟨by omega, by omega⟩)
    · exact .inr (by omega)
def divOk (j : Int) : Bool := posI j && (uptN 1073741823 j || Nat.ble (j.natAbs.log2 + 1) 9000)
theorem divOk_iff {j : Int} : divOk j = true ↔ 0 < j ∧ (j < 1073741824 ∨ j.natAbs.log2 < 9000) := by
  unfold divOk
  rw [Bool.and_eq_true, Bool.or_eq_true, posI_iff, uptN_iff, Nat.ble_eq]
  constructor
  · rintro ⟨a, ⟨b, c⟩ | c⟩
    · exact ⟨a, .inl (by omega)⟩
    · exact ⟨a, .inr (by omega)⟩
  · rintro ⟨a, b | b⟩
    · exact ⟨a, .inl ⟨by omega, by omega⟩⟩
    · exact ⟨a, .inr (by omega)⟩
def powOk (i j : Int) : Bool := uptN 1000000 j && Nat.ble i.natAbs 18446744073709551615
theorem powOk_iff {i j : Int} : powOk i j = true ↔ 0 ≤ j ∧ j ≤ 1000000 ∧ i.natAbs < 2 ^ 64 := by
  unfold powOk
  rw [Bool.and_eq_true, uptN_iff, Nat.ble_eq]
  constructor
  · rintro ⟨⟨a, b⟩, c⟩
    exact ⟨by omega, by omega, by omega⟩
  · rintro ⟨a, b, c⟩
    exact ⟨⟨by omega, by omega⟩, by omega⟩
def cntC (i j c : Int) : Nat := (Builtin.Range.rangeSize i j c).toNat
def nzI : Int → Bool
  | .ofNat 0 => false
  | .ofNat (_ + 1) => true
  | .negSucc _ => true
theorem nz_iff {c : Int} : nzI c = true ↔ c ≠ 0 := by
  cases c with
  | ofNat n => cases n with
    | zero => exact ⟨fun z => (by cases z), fun z => (z rfl).elim⟩
    | succ n => exact ⟨fun _ => by simp only [Int.ofNat_eq_natCast]; omega, fun _ => rfl⟩
  | negSucc n => exact ⟨fun _ => by simp only [Int.negSucc_eq]; omega, fun _ => rfl⟩
def rngOk (i j c : Int) : Bool := fitN 1073741823 i && fitN 1073741823 j && fitN 1073741822 c && nzI c
def rngN (i j c : Int) : Option Nat := if rngOk i j c = true then some (cntC i j c) else none
theorem rngOk_iff {i j c : Int} : rngOk i j c = true ↔ (-1073741824 ≤ i ∧ i < 1073741824) ∧ (-1073741824 ≤ j ∧ j < 1073741824) ∧ (-1073741823 ≤ c ∧ c < 1073741823) ∧ c ≠ 0 := by
  unfold rngOk
  rw [Bool.and_eq_true, Bool.and_eq_true, Bool.and_eq_true, fitN_iff, fitN_iff, fitN_iff, nz_iff]
  constructor
  · rintro ⟨⟨⟨⟨a, b⟩, ⟨d, e⟩⟩, ⟨f, g⟩⟩, h⟩
    exact ⟨⟨by omega, by omega⟩, ⟨by omega, by omega⟩, ⟨by omega, by omega⟩, h⟩
  · rintro ⟨⟨a, b⟩, ⟨d, e⟩, ⟨f, g⟩, h⟩
    exact ⟨⟨⟨⟨by omega, by omega⟩, ⟨by omega, by omega⟩⟩, ⟨by omega, by omega⟩⟩, h⟩
theorem div_le_self' {a c : Int} (ha : 0 ≤ a) (hc : 0 < c) : 0 ≤ a / c ∧ a / c ≤ a :=
  ⟨Int.ediv_nonneg ha (by omega), Int.ediv_le_self c ha⟩
theorem size_ok {i j c : Int} (h : rngOk i j c = true) : 0 ≤ Builtin.Range.rangeSize i j c ∧ Builtin.Range.rangeSize i j c ≤ 2147483648 := by
  obtain ⟨⟨a, b⟩, ⟨d, e⟩, ⟨f, g⟩, n⟩ := rngOk_iff.mp h
  unfold Builtin.Range.rangeSize
  by_cases hc : c > 0
  · rw [if_pos hc]
    by_cases h2 : i < j
    · rw [if_pos h2]
      have := div_le_self' (a := j - i - 1) (c := c) (by omega) (by omega)
      omega
    · rw [if_neg h2]; omega
  · rw [if_neg hc]
    by_cases h2 : i > j
    · rw [if_pos h2]
      have := div_le_self' (a := i - j - 1) (c := -c) (by omega) (by omega)
      omega
    · rw [if_neg h2]; omega
theorem rngOk_small {i j c : Int} (h : rngOk i j c = true) : c ≠ 0 ∧ c.natAbs < 1073741824 ∧ Builtin.Range.small i j c = true ∧ Builtin.Range.rangeSize i j c = (cntC i j c : Nat) := by
  have sz := size_ok h
  obtain ⟨⟨a, b⟩, ⟨d, e⟩, ⟨f, g⟩, n⟩ := rngOk_iff.mp h
  refine ⟨n, by omega, ?_, by unfold cntC; omega⟩
  unfold Builtin.Range.small
  have fl : ∀ x : Int, -4000000000 ≤ x → x ≤ 4000000000 → Builtin.Range.rangeFitsLong x = true := fun x h1 h2 => by
    unfold Builtin.Range.rangeFitsLong
    rw [Bool.and_eq_true]
    exact ⟨decide_eq_true (by omega), decide_eq_true (by omega)⟩
  rw [fl i (by omega) (by omega), fl j (by omega) (by omega), fl c (by omega) (by omega), fl _ (by omega) (by omega)]
  simp only [Bool.true_and]
  rw [Bool.or_eq_true]
  refine .inr ?_
  by_cases hc : c > 0
  · rw [if_pos hc]; exact fl _ (by omega) (by omega)
  · rw [if_neg hc]; exact fl _ (by omega) (by omega)
end TV
namespace TV
open PySem PySem.Spec PyProof.Rows L2
inductive Tr where
  | non | bl (b : Bool) | int (i : Int) | str (x : Str)
  | tup (ts : List Tr) | lst (ts : List Tr)
  | dk (kvs : List (Key × Tr)) | dt (kvs : List (List Key × Tr))
  | scr (ns : List Int) | adr (a : Addr)
deriving Inhabited
structure GS where
  l : List Tr
  z : Bool
  f : Bool
structure KG where
  k : PySem.W.Frag
  g : List Tr
  z : Bool
  f : Bool
section
variable (K : PySem.W.Frag)
def KTup (a : Addr) (xs : List V) : Prop := ∃ (o : Obj) (its : Array Value) (n : Nat), K.lookup a = some o ∧ o.cls = .type "tuple" ∧ o.data = .seq its n ∧ its.size ≤ sizeLine ∧ Vals xs its.toList
def KLst (a : Addr) (xs : List V) : Prop := ∃ (o : Obj) (its : Array Value) (n : Nat), K.lookup a = some o ∧ o.cls = .type "list" ∧ o.dict = none ∧ o.data = .seq its n ∧ its.size ≤ sizeLine ∧ Vals xs its.toList
end
section
variable (K : KG) (M : Addr → Prop) (H : Hp)
mutual
inductive Rep : V → Tr → Prop where
  | non : Rep .non .non
  | bl (b : Bool) : Rep (.bl b) (.bl b)
  | int (i : Int) : Rep (.int i) (.int i)
  | str (x : Str) : Rep (.str x) (.str x)
  | tup {a : Addr} {vs : List V} {ts : List Tr} (h : H a = some (.tup vs)) (z : K.z = false) (m : ¬ M a) (r : Reps vs ts) : Rep (.ref a) (.tup ts)
  | ftup {a : Addr} {o : Obj} {vs : List V} {ts : List Tr} (h : H a = some (.frz o (.tup vs))) (f : K.f = true) (z : o.dict = none) (m : ¬ M a) (r : Reps vs ts) : Rep (.ref a) (.tup ts)
  | ktup {a : Addr} {vs : List V} {ts : List Tr} (h : KTup K.k a vs) (g : .tup ts ∈ K.g) (r : Reps vs ts) : Rep (.ref a) (.tup ts)
  | lst {a : Addr} {vs : List V} {ts : List Tr} (h : H a = some (.lst vs)) (m : ¬ M a) (r : Reps vs ts) : Rep (.ref a) (.lst ts)
  | dk {a : Addr} {kvs : List (Key × V)} {tks : List (Key × Tr)} (h : H a = some (.dK kvs)) (m : ¬ M a) (e : kvs.map (·.1) = tks.map (·.1)) (r : Reps (kvs.map (·.2)) (tks.map (·.2))) : Rep (.ref a) (.dk tks)
  | dt {a : Addr} {kvs : List (List Key × V)} {tks : List (List Key × Tr)} (h : H a = some (.dT kvs)) (m : ¬ M a) (e : kvs.map (·.1) = tks.map (·.1)) (r : Reps (kvs.map (·.2)) (tks.map (·.2))) : Rep (.ref a) (.dt tks)
  | scr {a : Addr} {o : Obj} {ns : List Int} (h : H a = some (.frz o (.lst (ns.map V.int)))) (m : ¬ M a) : Rep (.ref a) (.scr ns)
  | kscr {a : Addr} {ns : List Int} (h : KLst K.k a (ns.map V.int)) : Rep (.ref a) (.scr ns)
  | adr (a : Addr) : Rep (.ref a) (.adr a)
inductive Reps : List V → List Tr → Prop where
  | nil : Reps [] []
  | cons {v : V} {vs : List V} {t : Tr} {ts : List Tr} (h : Rep v t) (r : Reps vs ts) : Reps (v :: vs) (t :: ts)
end
end
section
variable {K : KG} {M M' : Addr → Prop} {H H' : Hp}
mutual
theorem Rep.mono (k : ∀ a o, H a = some o → ¬ M a → H' a = some o) (m : ∀ a, ¬ M a → H a ≠ none → ¬ M' a) : ∀ {v : V} {t : Tr}, Rep K M H v t → Rep K M' H' v t
  | _, _, .non => .non
  | _, _, .bl b => .bl b
  | _, _, .int b => .int b
  | _, _, .str b => .str b
  | _, _, .tup h z n r => .tup (k _ _ h n) z (m _ n (by rw [h]; exact fun z => nomatch z)) (Reps.mono k m r)
  | _, _, .ftup h f z n r => .ftup (k _ _ h n) f z (m _ n (by rw [h]; exact fun z => nomatch z)) (Reps.mono k m r)
  | _, _, .ktup h g r => .ktup h g (Reps.mono k m r)
  | _, _, .lst h n r => .lst (k _ _ h n) (m _ n (by rw [h]; exact fun z => nomatch z)) (Reps.mono k m r)
  | _, _, .dk h n e r => .dk (k _ _ h n) (m _ n (by rw [h]; exact fun z => nomatch z)) e (Reps.mono k m r)
  | _, _, .dt h n e r => .dt (k _ _ h n) (m _ n (by rw [h]; exact fun z => nomatch z)) e (Reps.mono k m r)
  | _, _, .scr h n => .scr (k _ _ h n) (m _ n (by rw [h]; exact fun z => nomatch z))
  | _, _, .kscr h => .kscr h
  | _, _, .adr a => .adr a
theorem Reps.mono (k : ∀ a o, H a = some o → ¬ M a → H' a = some o) (m : ∀ a, ¬ M a → H a ≠ none → ¬ M' a) : ∀ {v : List V} {t : List Tr}, Reps K M H v t → Reps K M' H' v t
  | _, _, .nil => .nil
  | _, _, .cons h r => .cons (Rep.mono k m h) (Reps.mono k m r)
end
theorem Reps.length : ∀ {vs : List V} {ts : List Tr}, Reps K M H vs ts → vs.length = ts.length
  | _, _, .nil => rfl
  | _, _, .cons _ r => by simp [Reps.length r]
theorem Reps.get : ∀ {vs : List V} {ts : List Tr} {i : Nat} {t : Tr}, Reps K M H vs ts → ts[i]? = some t → ∃ v, vs[i]? = some v ∧ Rep K M H v t
  | _, _, _, _, .nil, e => by simp at e
  | _, _, 0, _, .cons h _, e => by simp at e; subst e; exact ⟨_, rfl, h⟩
  | _, _, i + 1, t, .cons _ r, e => by
    obtain ⟨v, e1, h⟩ := Reps.get (i := i) r (by simpa using e)
    exact ⟨v, by simpa using e1, h⟩
theorem Reps.append : ∀ {vs ws : List V} {ts us : List Tr}, Reps K M H vs ts → Reps K M H ws us → Reps K M H (vs ++ ws) (ts ++ us)
  | _, _, _, _, .nil, s => s
  | _, _, _, _, .cons h r, s => .cons h (Reps.append r s)
theorem Reps.take : ∀ {vs : List V} {ts : List Tr} (n : Nat), Reps K M H vs ts → Reps K M H (vs.take n) (ts.take n)
  | _, _, 0, _ => .nil
  | _, _, _ + 1, .nil => .nil
  | _, _, n + 1, .cons h r => .cons h (Reps.take n r)
theorem Reps.drop : ∀ {vs : List V} {ts : List Tr} (n : Nat), Reps K M H vs ts → Reps K M H (vs.drop n) (ts.drop n)
  | _, _, 0, r => r
  | _, _, _ + 1, .nil => .nil
  | _, _, n + 1, .cons _ r => Reps.drop n r
theorem Reps.set {v : V} {t : Tr} (h : Rep K M H v t) : ∀ {vs : List V} {ts : List Tr} (i : Nat), Reps K M H vs ts → Reps K M H (vs.set i v) (ts.set i t)
  | _, _, _, .nil => .nil
  | _, _, 0, .cons _ r => .cons h r
  | _, _, i + 1, .cons g r => .cons g (Reps.set h i r)
theorem Reps.eraseIdx : ∀ {vs : List V} {ts : List Tr} (i : Nat), Reps K M H vs ts → Reps K M H (vs.eraseIdx i) (ts.eraseIdx i)
  | _, _, _, .nil => .nil
  | _, _, 0, .cons _ r => r
  | _, _, i + 1, .cons g r => .cons g (Reps.eraseIdx i r)
theorem Reps.dropLast : ∀ {vs : List V} {ts : List Tr}, Reps K M H vs ts → Reps K M H vs.dropLast ts.dropLast
  | _, _, .nil => .nil
  | _, _, .cons g .nil => .nil
  | _, _, .cons g (.cons g2 r) => .cons g (Reps.dropLast (.cons g2 r))
theorem Reps.reverse : ∀ {vs : List V} {ts : List Tr}, Reps K M H vs ts → Reps K M H vs.reverse ts.reverse
  | _, _, .nil => .nil
  | _, _, .cons g r => by
    simp only [List.reverse_cons]
    exact Reps.append (Reps.reverse r) (.cons g .nil)
theorem Reps.replicate {vs : List V} {ts : List Tr} (r : Reps K M H vs ts) : ∀ n : Nat, Reps K M H (List.replicate n vs).flatten (List.replicate n ts).flatten
  | 0 => .nil
  | n + 1 => by
    simp only [List.replicate_succ, List.flatten_cons]
    exact Reps.append r (Reps.replicate r n)
theorem Reps.ints : ∀ {vs : List V} {ns : List Int}, Reps K M H vs (ns.map Tr.int) → vs = ns.map V.int
  | [], [], _ => rfl
  | _, _ :: _, .cons h r => by
    cases h
    rw [Reps.ints r]; rfl
theorem Reps.of_ints : ∀ (ns : List Int), Reps K M H (ns.map V.int) (ns.map Tr.int)
  | [] => .nil
  | n :: r => .cons (.int n) (Reps.of_ints r)
theorem Reps.bools : ∀ {vs : List V} {ns : List Bool}, Reps K M H vs (ns.map Tr.bl) → vs = ns.map V.bl
  | [], [], _ => rfl
  | _, _ :: _, .cons h r => by
    cases h
    rw [Reps.bools r]; rfl
theorem Reps.strs : ∀ {vs : List V} {ns : List Str}, Reps K M H vs (ns.map Tr.str) → vs = ns.map V.str
  | [], [], _ => rfl
  | _, _ :: _, .cons h r => by
    cases h
    rw [Reps.strs r]; rfl
end
inductive Sl where
  | no | sh (t : Tr) | ow (ts : List Tr) | ok (kvs : List (Key × Tr)) | ot (kvs : List (List Key × Tr))
deriving Inhabited
def Sl.own : Sl → Bool
  | .no => false
  | .sh _ => false
  | _ => true
abbrev En := List Sl
inductive Rs where
  | sh (t : Tr) | fr (ts : List Tr) | fk (kvs : List (Key × Tr)) | ft (kvs : List (List Key × Tr)) | sl (i : Nat)
deriving Inhabited
def Sl.tr : Sl → Option Tr
  | .no => none
  | .sh t => some t
  | .ow ts => some (.lst ts)
  | .ok k => some (.dk k)
  | .ot k => some (.dt k)
def Rs.tr (ρ : En) : Rs → Option Tr
  | .sh t => some t
  | .fr ts => some (.lst ts)
  | .fk k => some (.dk k)
  | .ft k => some (.dt k)
  | .sl i => match ρ[i]? with
    | some s => s.tr
    | none => none
section
variable (K : KG) (M : Addr → Prop) (H : Hp)
inductive Own : Addr → Tr → Prop where
  | lst {a : Addr} {vs : List V} {ts : List Tr} (h : H a = some (.lst vs)) (m : M a) (r : Reps K M H vs ts) : Own a (.lst ts)
  | dk {a : Addr} {kvs : List (Key × V)} {tks : List (Key × Tr)} (h : H a = some (.dK kvs)) (m : M a) (e : kvs.map (·.1) = tks.map (·.1)) (r : Reps K M H (kvs.map (·.2)) (tks.map (·.2))) : Own a (.dk tks)
  | dt {a : Addr} {kvs : List (List Key × V)} {tks : List (List Key × Tr)} (h : H a = some (.dT kvs)) (m : M a) (e : kvs.map (·.1) = tks.map (·.1)) (r : Reps K M H (kvs.map (·.2)) (tks.map (·.2))) : Own a (.dt tks)
def RTop (v : V) (t : Tr) : Prop := Rep K M H v t ∨ ∃ a, v = .ref a ∧ Own K M H a t
def SlAt (ov : Option (Option V)) : Sl → Prop
  | .no => True
  | .sh t => ∃ v, ov = some (some v) ∧ Rep K M H v t
  | .ow ts => ∃ a, ov = some (some (.ref a)) ∧ Own K M H a (.lst ts)
  | .ok k => ∃ a, ov = some (some (.ref a)) ∧ Own K M H a (.dk k)
  | .ot k => ∃ a, ov = some (some (.ref a)) ∧ Own K M H a (.dt k)
end
def OwnAt (σ : L2.St) (ρ : En) (i : Nat) (a : Addr) : Prop := σ[i]? = some (some (.ref a)) ∧ ∃ s, ρ[i]? = some s ∧ s.own = true
def Owns (σ : L2.St) (ρ : En) (a : Addr) : Prop := ∃ i, OwnAt σ ρ i a
structure Rel (K : KG) (M : Addr → Prop) (H : Hp) (σ : L2.St) (ρ : En) : Prop where
  len : σ.length = ρ.length
  dom : ∀ a, M a → H a ≠ none
  at_ : ∀ (i : Nat) (s : Sl), ρ[i]? = some s → SlAt K M H σ[i]? s
  inj : ∀ i j a, OwnAt σ ρ i a → OwnAt σ ρ j a → i = j
structure Go (O M : Addr → Prop) (H : Hp) (M' : Addr → Prop) (H' : Hp) : Prop where
  keep : ∀ a o, H a = some o → ¬ O a → H' a = some o
  there : ∀ a, H a ≠ none → H' a ≠ none
  new : ∀ a, M' a → M a ∨ H a = none
  old : ∀ a, M a → ¬ O a → M' a
section
variable {K : KG} {M M' M1 M2 O O1 : Addr → Prop} {H H' H1 H2 : Hp} {σ : L2.St} {ρ ρ' : En} {v : V} {t : Tr} {a : Addr}
theorem Own.m (h : Own K M H a t) : M a := by cases h <;> assumption
theorem Go.refl : Go O M H M H := ⟨fun _ _ h _ => h, fun _ h => h, fun _ h => .inl h, fun _ h _ => h⟩
theorem Go.trans (g : Go O M H M1 H1) (h : Go O1 M1 H1 M2 H2) (s : ∀ a, O1 a → O a ∨ H a = none) (d : ∀ a, M a → H a ≠ none) : Go O M H M2 H2 where
  keep := fun a o e n => h.keep a o (g.keep a o e n) fun z => (s a z).elim n fun q => by rw [e] at q; cases q
  there := fun a n => h.there a (g.there a n)
  new := fun a m => (h.new a m).elim (g.new a) fun z => .inr (by
    by_cases q : H a = none
    · exact q
    · exact absurd z (g.there a q))
  old := fun a m n => h.old a (g.old a m n) fun z => (s a z).elim n (d a m)
theorem Go.wide (g : Go O M H M1 H1) (s : ∀ a, O a → O1 a) : Go O1 M H M1 H1 := ⟨fun a o e n => g.keep a o e fun z => n (s a z), g.there, g.new, fun a m n => g.old a m fun z => n (s a z)⟩
theorem Rep.go (r : Rep K M H v t) (g : Go O M H M1 H1) (s : ∀ a, O a → M a) : Rep K M1 H1 v t :=
  r.mono (fun a o e n => g.keep a o e fun z => n (s a z)) fun a n e z => (g.new a z).elim n e
theorem Reps.go {vs : List V} {ts : List Tr} (r : Reps K M H vs ts) (g : Go O M H M1 H1) (s : ∀ a, O a → M a) : Reps K M1 H1 vs ts :=
  r.mono (fun a o e n => g.keep a o e fun z => n (s a z)) fun a n e z => (g.new a z).elim n e
theorem Own.go (r : Own K M H a t) (g : Go O M H M1 H1) (s : ∀ a, O a → M a) (n : ¬ O a) : Own K M1 H1 a t := by
  cases r with
  | lst h m r => exact .lst (g.keep _ _ h n) (g.old _ m n) (r.go g s)
  | dk h m e r => exact .dk (g.keep _ _ h n) (g.old _ m n) e (r.go g s)
  | dt h m e r => exact .dt (g.keep _ _ h n) (g.old _ m n) e (r.go g s)
theorem SlAt.own {ov : Option (Option V)} {s : Sl} (h : SlAt K M H ov s) (e : s.own = true) : ∃ a t, ov = some (some (.ref a)) ∧ s.tr = some t ∧ Own K M H a t := by
  cases s with
  | no => cases e
  | sh _ => cases e
  | ow ts => obtain ⟨a, h1, h2⟩ := h; exact ⟨a, _, h1, rfl, h2⟩
  | ok ts => obtain ⟨a, h1, h2⟩ := h; exact ⟨a, _, h1, rfl, h2⟩
  | ot ts => obtain ⟨a, h1, h2⟩ := h; exact ⟨a, _, h1, rfl, h2⟩
theorem Rel.own_at (L : Rel K M H σ ρ) {i : Nat} (h : OwnAt σ ρ i a) : ∃ s t, ρ[i]? = some s ∧ s.own = true ∧ s.tr = some t ∧ Own K M H a t := by
  obtain ⟨h1, s, h2, h3⟩ := h
  obtain ⟨b, t, e1, e2, e3⟩ := (L.at_ i s h2).own h3
  rw [h1] at e1; cases e1
  exact ⟨s, t, h2, h3, e2, e3⟩
theorem Rel.sub (L : Rel K M H σ ρ) : ∀ a, Owns σ ρ a → M a := fun a ⟨i, h⟩ => let ⟨_, _, _, _, _, o⟩ := L.own_at h; o.m
theorem SlAt.top {ov : Option (Option V)} {s : Sl} (h : SlAt K M H ov s) (e : s.tr = some t) : ∃ v, ov = some (some v) ∧ RTop K M H v t := by
  cases s with
  | no => cases e
  | sh u => cases e; obtain ⟨v, h1, h2⟩ := h; exact ⟨v, h1, .inl h2⟩
  | ow ts => cases e; obtain ⟨a, h1, h2⟩ := h; exact ⟨_, h1, .inr ⟨a, rfl, h2⟩⟩
  | ok ts => cases e; obtain ⟨a, h1, h2⟩ := h; exact ⟨_, h1, .inr ⟨a, rfl, h2⟩⟩
  | ot ts => cases e; obtain ⟨a, h1, h2⟩ := h; exact ⟨_, h1, .inr ⟨a, rfl, h2⟩⟩
theorem SlAt.go {ov : Option (Option V)} {s : Sl} (h : SlAt K M H ov s) (g : Go O M H M1 H1) (sb : ∀ a, O a → M a) (n : s.own = true → ∀ a, ov = some (some (.ref a)) → ¬ O a) : SlAt K M1 H1 ov s := by
  cases s with
  | no => trivial
  | sh u => obtain ⟨v, h1, h2⟩ := h; exact ⟨v, h1, h2.go g sb⟩
  | ow ts => obtain ⟨a, h1, h2⟩ := h; exact ⟨a, h1, h2.go g sb (n rfl a h1)⟩
  | ok ts => obtain ⟨a, h1, h2⟩ := h; exact ⟨a, h1, h2.go g sb (n rfl a h1)⟩
  | ot ts => obtain ⟨a, h1, h2⟩ := h; exact ⟨a, h1, h2.go g sb (n rfl a h1)⟩
theorem Rel.go (L : Rel K M H σ ρ) (g : Go O M H M1 H1) (sb : ∀ a, O a → M a) (n : ∀ a, O a → ¬ Owns σ ρ a) (d : ∀ a, M1 a → H1 a ≠ none) : Rel K M1 H1 σ ρ :=
  ⟨L.len, d, fun i s e => (L.at_ i s e).go g sb fun ho a ha z => n a z ⟨i, ha, s, e, ho⟩, L.inj⟩
end
def ResAt (K : KG) (H0 : Hp) (M : Addr → Prop) (H : Hp) (σ : L2.St) (ρ : En) (v : V) : Rs → Prop
  | .sh t => Rep K M H v t
  | .fr ts => ∃ p, v = .ref p ∧ H0 p = none ∧ ¬ Owns σ ρ p ∧ Own K M H p (.lst ts)
  | .fk ts => ∃ p, v = .ref p ∧ H0 p = none ∧ ¬ Owns σ ρ p ∧ Own K M H p (.dk ts)
  | .ft ts => ∃ p, v = .ref p ∧ H0 p = none ∧ ¬ Owns σ ρ p ∧ Own K M H p (.dt ts)
  | .sl i => σ[i]? = some (some v)
def Less (ρ ρ' : En) : Prop := ∀ (i : Nat) (s : Sl), ρ'[i]? = some s → s.own = true → ∃ s', ρ[i]? = some s' ∧ s'.own = true
inductive Ou (α : Type) where
  | ok (a : α) (ρ : En) | ex (c : Str) (ρ : En)
abbrev Ev := En → Option (Ou Rs)
abbrev Tv := En → Option (Ou Bool)
section
variable {K : KG} {M M' M1 M2 O O1 : Addr → Prop} {H H' H1 H2 : Hp} {σ : L2.St} {ρ ρ' ρ1 : En} {v : V} {t : Tr} {a : Addr} {r : Rs}
theorem Less.refl : Less ρ ρ := fun _ s e h => ⟨s, e, h⟩
theorem Less.trans (g : Less ρ ρ1) (h : Less ρ1 ρ') : Less ρ ρ' := fun i s e o => by
  obtain ⟨s', e', o'⟩ := h i s e o
  exact g i s' e' o'
theorem Less.owns (l : Less ρ ρ') (h : Owns σ ρ' a) : Owns σ ρ a := by
  obtain ⟨i, h1, s, h2, h3⟩ := h
  obtain ⟨s', e, o⟩ := l i s h2 h3
  exact ⟨i, h1, s', e, o⟩
theorem ResAt.top {H0 : Hp} (R : ResAt K H0 M H σ ρ v r) (L : Rel K M H σ ρ) (e : r.tr ρ = some t) : RTop K M H v t := by
  cases r with
  | sh u => cases e; exact .inl R
  | fr ts => cases e; obtain ⟨p, h1, _, _, h2⟩ := R; exact .inr ⟨p, h1, h2⟩
  | fk ts => cases e; obtain ⟨p, h1, _, _, h2⟩ := R; exact .inr ⟨p, h1, h2⟩
  | ft ts => cases e; obtain ⟨p, h1, _, _, h2⟩ := R; exact .inr ⟨p, h1, h2⟩
  | sl i =>
    unfold Rs.tr at e
    cases q : ρ[i]? with
    | none => simp [q] at e
    | some s =>
      simp [q] at e
      obtain ⟨w, h1, h2⟩ := (L.at_ i s q).top e
      have R' : σ[i]? = some (some v) := R
      rw [R'] at h1; cases h1
      exact h2
theorem ResAt.go {H0 : Hp} (R : ResAt K H0 M H σ ρ v r) (L : Rel K M H σ ρ) (g : Go (Owns σ ρ) M H M1 H1) (l : Less ρ ρ') : ResAt K H0 M1 H1 σ ρ' v r := by
  cases r with
  | sh u => exact Rep.go R g L.sub
  | fr ts => obtain ⟨p, h1, h0, n, h2⟩ := R; exact ⟨p, h1, h0, fun z => n (l.owns z), h2.go g L.sub n⟩
  | fk ts => obtain ⟨p, h1, h0, n, h2⟩ := R; exact ⟨p, h1, h0, fun z => n (l.owns z), h2.go g L.sub n⟩
  | ft ts => obtain ⟨p, h1, h0, n, h2⟩ := R; exact ⟨p, h1, h0, fun z => n (l.owns z), h2.go g L.sub n⟩
  | sl i => exact R
theorem ResAt.from {H0 H0' : Hp} (R : ResAt K H0 M H σ ρ v r) (t : ∀ a, H0' a ≠ none → H0 a ≠ none) : ResAt K H0' M H σ ρ v r := by
  have f : ∀ p, H0 p = none → H0' p = none := fun p e => by
    by_cases q : H0' p = none
    · exact q
    · exact absurd e (t p q)
  cases r with
  | sh u => exact R
  | fr ts => obtain ⟨p, h1, h0, n, h2⟩ := R; exact ⟨p, h1, f p h0, n, h2⟩
  | fk ts => obtain ⟨p, h1, h0, n, h2⟩ := R; exact ⟨p, h1, f p h0, n, h2⟩
  | ft ts => obtain ⟨p, h1, h0, n, h2⟩ := R; exact ⟨p, h1, f p h0, n, h2⟩
  | sl i => exact R
end
abbrev kg (X : Cx) (G : GS) : KG := ⟨X.K, G.l, G.z, G.f⟩
def Wn {α : Type} (G : GS) (X : Cx) (W : WX) (σ : L2.St) (M : Addr → Prop) (H : Hp) (ρ : En) (o : Ou α) (P : α → (Addr → Prop) → Hp → En → Prop) : Prop := match o with
  | .ok a ρ' => ∀ M' H', Go (Owns σ ρ) M H M' H' → Less ρ ρ' → Rel (kg X G) M' H' σ ρ' → P a M' H' ρ'
  | .ex c ρ' => ∀ C M' H', X.mg c = some (.ref C) → Go (Owns σ ρ) M H M' H' → Less ρ ρ' → Rel (kg X G) M' H' σ ρ' → W (.ref C) none σ H'
def RE (G : GS) (X : Cx) (W : WX) (f : Ev) : TE := fun σ H Q => ∃ (M : Addr → Prop) (ρ : En) (o : Ou Rs), Rel (kg X G) M H σ ρ ∧ f ρ = some o ∧ Wn G X W σ M H ρ o fun r M' H' ρ' => ∀ v, ResAt (kg X G) H M' H' σ ρ' v r → Q v H'
def RT (G : GS) (X : Cx) (W : WX) (f : Tv) : TT := fun σ H Q => ∃ (M : Addr → Prop) (ρ : En) (o : Ou Bool), Rel (kg X G) M H σ ρ ∧ f ρ = some o ∧ Wn G X W σ M H ρ o fun b M' H' ρ' => Q b H'
theorem pe_imp {X : Cx} {e : Expr} {t u : TE} (h : PE X e t) (i : ∀ σ H Q, u σ H Q → t σ H Q) : PE X e u := ⟨fun pins s σ H Q I q => h.run pins s σ H Q I (i σ H Q q)⟩
theorem pt_imp {X : Cx} {e : Expr} {t u : TT} (h : PT X e t) (i : ∀ σ H Q, u σ H Q → t σ H Q) : PT X e u := ⟨fun pins s σ H Q I q => h.run pins s σ H Q I (i σ H Q q)⟩
theorem pw_imp {X : Cx} {e : Expr} {t u : TT} (h : PW X e t) (i : ∀ σ H Q, u σ H Q → t σ H Q) : PW X e u := ⟨fun wh pins s σ H Q I q => h.run wh pins s σ H Q I (i σ H Q q)⟩
theorem pa_imp {X : Cx} {e : List Expr} {t u : TA} (h : PA X e t) (i : ∀ σ H Q, u σ H Q → t σ H Q) : PA X e u := ⟨fun p pins s σ H Q I q => h.run p pins s σ H Q I (i σ H Q q)⟩
theorem ps_imp {X : Cx} {e : Stmt} {t u : TS} (h : PS X e t) (i : ∀ D σ H, u D σ H → t D σ H) : PS X e u := ⟨fun pins s σ H Q I q => h.run pins s σ H Q I (i Q σ H q)⟩
theorem pss_imp {X : Cx} {e : List Stmt} {t u : TS} (h : PSs X e t) (i : ∀ D σ H, u D σ H → t D σ H) : PSs X e u := ⟨fun pins s σ H Q I q => h.run pins s σ H Q I (i Q σ H q)⟩
theorem pi_imp {X : Cx} {tg e : Expr} {t u : TI} (h : PI X tg e t) (i : ∀ σ H Q, u σ H Q → t σ H Q) : PI X tg e u := ⟨fun pins s σ H Q I q => h.run pins s σ H Q I (i σ H Q q)⟩
def andThen {α β : Type} (x : Option (Ou α)) (k : α → En → Option (Ou β)) : Option (Ou β) := match x with
  | none => none
  | some (.ex c ρ) => some (.ex c ρ)
  | some (.ok a ρ) => k a ρ
@[simp] theorem andThen_ok {α β : Type} (a : α) (ρ : En) (k : α → En → Option (Ou β)) : andThen (some (.ok a ρ)) k = k a ρ := rfl
@[simp] theorem andThen_ex {α β : Type} (c : Str) (ρ : En) (k : α → En → Option (Ou β)) : andThen (some (.ex c ρ)) k = some (.ex c ρ) := rfl
@[simp] theorem andThen_none {α β : Type} (k : α → En → Option (Ou β)) : andThen none k = none := rfl
theorem andThen_some {α β : Type} {x : Option (Ou α)} {k : α → En → Option (Ou β)} {o : Ou β} (e : andThen x k = some o) : ∃ o1, x = some o1 := by
  cases x with
  | none => cases e
  | some o1 => exact ⟨o1, rfl⟩
section
variable {G : GS} {X : Cx} {W : WX} {α β : Type} {σ : L2.St} {M M1 : Addr → Prop} {H H1 : Hp} {ρ ρ1 : En} {P : β → (Addr → Prop) → Hp → En → Prop}
theorem Wn.mono {o : Ou β} {P' : β → (Addr → Prop) → Hp → En → Prop} (h : Wn G X W σ M H ρ o P) (i : ∀ a M' H' ρ', Go (Owns σ ρ) M H M' H' → Less ρ ρ' → Rel (kg X G) M' H' σ ρ' → P a M' H' ρ' → P' a M' H' ρ') : Wn G X W σ M H ρ o P' := by
  cases o with
  | ok a ρ' => exact fun M' H' g l L => i _ _ _ _ g l L (h M' H' g l L)
  | ex c ρ' => exact h
theorem Wn.later {o : Ou β} (h : Wn G X W σ M H ρ o P) (g : Go (Owns σ ρ) M H M1 H1) (l : Less ρ ρ1) (d : ∀ a, M a → H a ≠ none) : Wn G X W σ M1 H1 ρ1 o P := by
  have sb : ∀ a, Owns σ ρ1 a → Owns σ ρ a ∨ H a = none := fun a z => .inl (l.owns z)
  cases o with
  | ok a ρ' => exact fun M' H' g2 l2 L => h M' H' (g.trans g2 sb d) (l.trans l2) L
  | ex c ρ' => exact fun C M' H' hm g2 l2 L => h C M' H' hm (g.trans g2 sb d) (l.trans l2) L
theorem Wn.bind {x : Option (Ou α)} {k : α → En → Option (Ou β)} {o : Ou β} (L : Rel (kg X G) M H σ ρ) (e : andThen x k = some o) (h : Wn G X W σ M H ρ o P) :
    ∃ o1, x = some o1 ∧ Wn G X W σ M H ρ o1 fun a M1 H1 ρ1 => ∃ o2, k a ρ1 = some o2 ∧ Wn G X W σ M1 H1 ρ1 o2 P := by
  obtain ⟨o1, e1⟩ := andThen_some e
  subst e1
  refine ⟨o1, rfl, ?_⟩
  cases o1 with
  | ex c ρ1 => cases e; exact h
  | ok a ρ1 => exact fun M1 H1 g l L1 => ⟨o, e, h.later g l L.dom⟩
theorem Wn.ok {a : β} (L : Rel (kg X G) M H σ ρ) (h : Wn G X W σ M H ρ (.ok a ρ) P) : P a M H ρ := h M H .refl .refl L
end
theorem RE.step {G : GS} {X : Cx} {W : WX} {α : Type} {σ : L2.St} {M : Addr → Prop} {H : Hp} {ρ : En} {f : Ev} {k : Rs → En → Option (Ou α)} {o : Ou α} {P : α → (Addr → Prop) → Hp → En → Prop} {Q : VK} (L : Rel (kg X G) M H σ ρ) (e : andThen (f ρ) k = some o) (h : Wn G X W σ M H ρ o P)
    (q : ∀ r v M1 H1 ρ1 o2, Go (Owns σ ρ) M H M1 H1 → Less ρ ρ1 → Rel (kg X G) M1 H1 σ ρ1 → ResAt (kg X G) H M1 H1 σ ρ1 v r → k r ρ1 = some o2 → Wn G X W σ M1 H1 ρ1 o2 P → Q v H1) : RE G X W f σ H Q := by
  obtain ⟨o1, e1, h1⟩ := h.bind L e
  exact ⟨M, ρ, o1, L, e1, h1.mono fun r M1 H1 ρ1 g l L1 ⟨o2, e2, h2⟩ v R => q r v M1 H1 ρ1 o2 g l L1 R e2 h2⟩
theorem RT.step {G : GS} {X : Cx} {W : WX} {α : Type} {σ : L2.St} {M : Addr → Prop} {H : Hp} {ρ : En} {f : Tv} {k : Bool → En → Option (Ou α)} {o : Ou α} {P : α → (Addr → Prop) → Hp → En → Prop} {Q : Bool → Hp → Prop} (L : Rel (kg X G) M H σ ρ) (e : andThen (f ρ) k = some o) (h : Wn G X W σ M H ρ o P)
    (q : ∀ r M1 H1 ρ1 o2, Go (Owns σ ρ) M H M1 H1 → Less ρ ρ1 → Rel (kg X G) M1 H1 σ ρ1 → k r ρ1 = some o2 → Wn G X W σ M1 H1 ρ1 o2 P → Q r H1) : RT G X W f σ H Q := by
  obtain ⟨o1, e1, h1⟩ := h.bind L e
  exact ⟨M, ρ, o1, L, e1, h1.mono fun r M1 H1 ρ1 g l L1 ⟨o2, e2, h2⟩ => q r M1 H1 ρ1 o2 g l L1 e2 h2⟩
def varE (i : Nat) : Ev := fun ρ => match ρ[i]? with
  | some (.sh t) => some (.ok (.sh t) ρ)
  | some .no => none
  | some _ => some (.ok (.sl i) ρ)
  | none => none
def conE (t : Tr) : Ev := fun ρ => some (.ok (.sh t) ρ)
section
variable {G : GS} {X : Cx} {W : WX}
theorem re_var (i : Nat) {σ : L2.St} {H : Hp} {Q : VK} (h : RE G X W (varE i) σ H Q) : tVar i σ H Q := by
  obtain ⟨M, ρ, o, L, e, q⟩ := h
  unfold varE at e
  cases g : ρ[i]? with
  | none => rw [g] at e; cases e
  | some s =>
    rw [g] at e
    have a := L.at_ i s g
    cases s with
    | no => cases e
    | sh t =>
      cases e
      obtain ⟨v, h1, h2⟩ := a
      exact ⟨v, h1, q.ok L v h2⟩
    | ow t => cases e; obtain ⟨v, h1, h2⟩ := a; exact ⟨_, h1, q.ok L _ h1⟩
    | ok t => cases e; obtain ⟨v, h1, h2⟩ := a; exact ⟨_, h1, q.ok L _ h1⟩
    | ot t => cases e; obtain ⟨v, h1, h2⟩ := a; exact ⟨_, h1, q.ok L _ h1⟩
theorem sv (i : Nat) {x : Str} {pos : Pos} (hN : X.N[i]? = some x := by rfl) (hv : Vis X.env.scope x := by first | exact Or.inl rfl | exact Or.inr (Or.inl rfl) | exact Or.inr (Or.inr rfl)) (hd : (x == ("__debug__" : Str)) = false := by decide)
    (hcd : (x == ("__classdict__" : Str)) = false := by decide) : PE X (.Name x pos) (RE G X W (varE i)) := pe_imp (pe_var hN hv hd hcd) fun _ _ _ => re_var i
theorem re_con {t : Tr} {v : V} (hr : ∀ M H, Rep (kg X G) M H v t) {σ : L2.St} {H : Hp} {Q : VK} (h : RE G X W (conE t) σ H Q) : tC v σ H Q := by
  obtain ⟨M, ρ, o, L, e, q⟩ := h
  cases e
  exact q.ok L v (hr M H)
theorem se_int {i j pos} : PE X (.Constant (.int i) j pos) (RE G X W (conE (.int i))) := pe_imp pe_int fun _ _ _ => re_con fun _ _ => .int i
theorem se_bl {b j pos} : PE X (.Constant (.bool b) j pos) (RE G X W (conE (.bl b))) := pe_imp pe_bl fun _ _ _ => re_con fun _ _ => .bl b
theorem se_non {j pos} : PE X (.Constant .none j pos) (RE G X W (conE .non)) := pe_imp pe_non fun _ _ _ => re_con fun _ _ => .non
theorem se_str {x j pos} : PE X (.Constant (.str x) j pos) (RE G X W (conE (.str x))) := pe_imp pe_str fun _ _ _ => re_con fun _ _ => .str x
theorem se_glob {x : Str} {v : V} {u : Value} {t : Tr} {pos : Pos} (hg : Gl X x) (hm : X.mg x = some u) (r : RelV v u) (hr : ∀ M H, Rep (kg X G) M H v t) (hd : (x == ("__debug__" : Str)) = false := by decide) : PE X (.Name x pos) (RE G X W (conE t)) :=
  pe_imp (pe_glob hg hm r hd) fun _ _ _ => re_con hr
end
end TV
namespace TV
open PySem PySem.Spec PyProof.Rows L2
inductive Nw where
  | s (x : Tr) | l (ts : List Tr) | k (kvs : List (Key × Tr)) | d (kvs : List (List Key × Tr))
deriving Inhabited
def Nw.rs : Nw → Rs
  | .s u => .sh u
  | .l ts => .fr ts
  | .k ts => .fk ts
  | .d ts => .ft ts
def Nw.tr : Nw → Tr
  | .s u => u
  | .l ts => .lst ts
  | .k ts => .dk ts
  | .d ts => .dt ts
def NewAt (K : KG) (H0 : Hp) (M : Addr → Prop) (H : Hp) (v : V) : Nw → Prop
  | .s u => Rep K M H v u
  | .l ts => ∃ p, v = .ref p ∧ H0 p = none ∧ Own K M H p (.lst ts)
  | .k ts => ∃ p, v = .ref p ∧ H0 p = none ∧ Own K M H p (.dk ts)
  | .d ts => ∃ p, v = .ref p ∧ H0 p = none ∧ Own K M H p (.dt ts)
abbrev Go0 := Go (fun _ => False)
section
variable {K : KG} {M M' M1 : Addr → Prop} {H H' H0 H1 : Hp} {σ : L2.St} {ρ : En} {v : V} {t : Tr} {a : Addr} {n : Nw}
theorem Go.of0 {O : Addr → Prop} (g : Go0 M H M' H') : Go O M H M' H' := g.wide fun _ z => z.elim
theorem Rep.go0 (r : Rep K M H v t) (g : Go0 M H M' H') : Rep K M' H' v t := Rep.go r g fun _ z => z.elim
theorem Reps.go0 {vs : List V} {ts : List Tr} (r : Reps K M H vs ts) (g : Go0 M H M' H') : Reps K M' H' vs ts := Reps.go r g fun _ z => z.elim
theorem Own.go0 (r : Own K M H a t) (g : Go0 M H M' H') : Own K M' H' a t := r.go g (fun _ z => z.elim) fun z => z
theorem RTop.go0 (r : RTop K M H v t) (g : Go0 M H M' H') : RTop K M' H' v t := r.elim (fun r => .inl (r.go0 g)) fun ⟨a, e, o⟩ => .inr ⟨a, e, o.go0 g⟩
theorem Rel.go0 (L : Rel K M H σ ρ) (g : Go0 M H M' H') (d : ∀ a, M' a → H' a ≠ none) : Rel K M' H' σ ρ := L.go g (fun _ z => z.elim) (fun _ z => z.elim) d
theorem NewAt.res (h : NewAt K H M' H' v n) (L : Rel K M H σ ρ) : ResAt K H M' H' σ ρ v n.rs := by
  have f : ∀ p, H p = none → ¬ Owns σ ρ p := fun p e z => L.dom p (L.sub p z) e
  cases n with
  | s u => exact h
  | l ts => obtain ⟨p, h1, h2, h3⟩ := h; exact ⟨p, h1, h2, f p h2, h3⟩
  | k ts => obtain ⟨p, h1, h2, h3⟩ := h; exact ⟨p, h1, h2, f p h2, h3⟩
  | d ts => obtain ⟨p, h1, h2, h3⟩ := h; exact ⟨p, h1, h2, f p h2, h3⟩
theorem RTop.deep (r : RTop K M H v t) : (∃ b, v = .bl b ∧ t = .bl b) ∨ True := .inr trivial
theorem RTop.int {i : Int} (r : RTop K M H v (.int i)) : v = .int i := by
  rcases r with r | ⟨a, _, o⟩
  · cases r; rfl
  · cases o
theorem RTop.bl {b : Bool} (r : RTop K M H v (.bl b)) : v = .bl b := by
  rcases r with r | ⟨a, _, o⟩
  · cases r; rfl
  · cases o
theorem RTop.str {b : Str} (r : RTop K M H v (.str b)) : v = .str b := by
  rcases r with r | ⟨a, _, o⟩
  · cases r; rfl
  · cases o
theorem RTop.non (r : RTop K M H v .non) : v = .non := by
  rcases r with r | ⟨a, _, o⟩
  · cases r; rfl
  · cases o
theorem RTop.tup {ts : List Tr} (r : RTop K M H v (.tup ts)) : ∃ a vs, v = .ref a ∧ SqT K.k H a vs ∧ Reps K M H vs ts := by
  rcases r with r | ⟨a, _, o⟩
  · cases r with
    | tup h z m r => exact ⟨_, _, rfl, SqT.of h, r⟩
    | ftup h f z m r => exact ⟨_, _, rfl, .inl (.inr ⟨_, h⟩), r⟩
    | ktup h g r => exact ⟨_, _, rfl, .inr h, r⟩
  · cases o
theorem RTop.lst {ts : List Tr} (r : RTop K M H v (.lst ts)) : ∃ a vs, v = .ref a ∧ H a = some (.lst vs) ∧ Reps K M H vs ts := by
  rcases r with r | ⟨a, rfl, o⟩
  · cases r with
    | lst h m r => exact ⟨_, _, rfl, h, r⟩
  · cases o with
    | lst h m r => exact ⟨_, _, rfl, h, r⟩
theorem RTop.scr {ns : List Int} (r : RTop K M H v (.scr ns)) : ∃ a, v = .ref a ∧ SqL K.k H a (ns.map V.int) := by
  rcases r with r | ⟨a, rfl, o⟩
  · cases r with
    | scr h m => exact ⟨_, rfl, .inl (.inr ⟨_, h⟩)⟩
    | kscr h => exact ⟨_, rfl, .inr h⟩
  · cases o
theorem RTop.dk {ts : List (Key × Tr)} (r : RTop K M H v (.dk ts)) : ∃ a kvs, v = .ref a ∧ H a = some (.dK kvs) ∧ kvs.map (·.1) = ts.map (·.1) ∧ Reps K M H (kvs.map (·.2)) (ts.map (·.2)) := by
  rcases r with r | ⟨a, rfl, o⟩
  · cases r with
    | dk h m e r => exact ⟨_, _, rfl, h, e, r⟩
  · cases o with
    | dk h m e r => exact ⟨_, _, rfl, h, e, r⟩
theorem RTop.dt {ts : List (List Key × Tr)} (r : RTop K M H v (.dt ts)) : ∃ a kvs, v = .ref a ∧ H a = some (.dT kvs) ∧ kvs.map (·.1) = ts.map (·.1) ∧ Reps K M H (kvs.map (·.2)) (ts.map (·.2)) := by
  rcases r with r | ⟨a, rfl, o⟩
  · cases r with
    | dt h m e r => exact ⟨_, _, rfl, h, e, r⟩
  · cases o with
    | dt h m e r => exact ⟨_, _, rfl, h, e, r⟩
theorem go_new {o : HO} {p : Addr} (np : H p = none) (N : Addr → Prop) (hN : ∀ a, N a → M a ∨ a = p) (hO : ∀ a, M a → N a) : Go0 M H N (upd H p o) where
  keep := fun a o' e _ => by rw [upd_ne (ne_of_none e np)]; exact e
  there := fun a n => by
    by_cases h : a = p
    · subst h; rw [upd_same]; exact fun z => nomatch z
    · rw [upd_ne h]; exact n
  new := fun a h => (hN a h).elim .inl fun z => .inr (by rw [z]; exact np)
  old := fun a h _ => hO a h
theorem go_tup {o : HO} {p : Addr} (np : H p = none) : Go0 M H M (upd H p o) := go_new np M (fun _ h => .inl h) fun _ h => h
theorem dom_tup {o : HO} {p : Addr} (d : ∀ a, M a → H a ≠ none) : ∀ a, M a → upd H p o a ≠ none := fun a m => by
  by_cases h : a = p
  · subst h; rw [upd_same]; exact fun z => nomatch z
  · rw [upd_ne h]; exact d a m
abbrev wi (M : Addr → Prop) (p : Addr) : Addr → Prop := fun a => M a ∨ a = p
theorem go_mut {o : HO} {p : Addr} (np : H p = none) : Go0 M H (wi M p) (upd H p o) := go_new np _ (fun _ h => h) fun _ h => .inl h
theorem dom_mut {o : HO} {p : Addr} (d : ∀ a, M a → H a ≠ none) : ∀ a, wi M p a → upd H p o a ≠ none := fun a m => by
  by_cases h : a = p
  · subst h; rw [upd_same]; exact fun z => nomatch z
  · rw [upd_ne h]; exact d a (m.elim id fun z => absurd z h)
theorem new_tup {vs : List V} {ts : List Tr} {p : Addr} (z : K.z = false) (np : H p = none) (d : ∀ a, M a → H a ≠ none) (r : Reps K M H vs ts) : NewAt K H M (upd H p (.tup vs)) (.ref p) (.s (.tup ts)) :=
  .tup upd_same z (fun z => d p z np) (r.go0 (go_tup np))
theorem new_lst {vs : List V} {ts : List Tr} {p : Addr} (np : H p = none) (r : Reps K M H vs ts) : NewAt K H (wi M p) (upd H p (.lst vs)) (.ref p) (.l ts) :=
  ⟨p, rfl, np, .lst upd_same (.inr rfl) (r.go0 (go_mut np))⟩
end
def OpOk (G : GS) (X : Cx) (r : R2) (g : Tr → Tr → Option Nw) : Prop := ∀ (M : Addr → Prop) (H : Hp) (x y : V) (tx ty : Tr) (n : Nw) (Q : VK), (∀ a, M a → H a ≠ none) → RTop (kg X G) M H x tx → RTop (kg X G) M H y ty → g tx ty = some n →
  (∀ v M' H', Go0 M H M' H' → (∀ a, M' a → H' a ≠ none) → NewAt (kg X G) H M' H' v n → Q v H') → r x y H Q
def binE (g : Tr → Tr → Option Nw) (fa fb : Ev) : Ev := fun ρ => andThen (fa ρ) fun ra ρ1 => andThen (fb ρ1) fun rb ρ2 =>
  match ra.tr ρ2, rb.tr ρ2 with
  | some ta, some tb => match g ta tb with
    | some n => some (.ok n.rs ρ2)
    | none => none
  | _, _ => none
section
variable {G : GS} {X : Cx} {W : WX}
theorem re_bin {r : R2} {g : Tr → Tr → Option Nw} {fa fb : Ev} (h : OpOk G X r g) {σ : L2.St} {H : Hp} {Q : VK} (q : RE G X W (binE g fa fb) σ H Q) : tOp r (RE G X W fa) (RE G X W fb) σ H Q := by
  obtain ⟨M, ρ, o, L, e, w⟩ := q
  refine RE.step L e w fun ra va M1 H1 ρ1 o2 g1 l1 L1 R1 e2 w2 => ?_
  refine RE.step L1 e2 w2 fun rb vb M2 H2 ρ2 o3 g2 l2 L2' R2 e3 w3 => ?_
  have R1' := R1.go L1 g2 l2
  cases ea : ra.tr ρ2 with
  | none => rw [ea] at e3; cases e3
  | some ta =>
    cases eb : rb.tr ρ2 with
    | none => rw [ea, eb] at e3; cases e3
    | some tb =>
      rw [ea, eb] at e3
      simp only at e3
      cases eg : g ta tb with
      | none => rw [eg] at e3; cases e3
      | some n =>
        rw [eg] at e3
        cases e3
        refine h M2 H2 va vb ta tb n Q L2'.dom (R1'.top L2' ea) (R2.top L2' eb) eg fun v M' H' gg dd nn => ?_
        have th : ∀ a, H a ≠ none → H2 a ≠ none := fun a z => g2.there a (g1.there a z)
        exact w3 M' H' gg.of0 .refl (L2'.go0 gg dd) v ((nn.res L2').from th)
theorem se_op {op : Operator} {r : R2} {g : Tr → Tr → Option Nw} {a b : Expr} {fa fb : Ev} {pos : Pos} (ho : OpR X (binaryOp op) r) (h : OpOk G X r g) (ha : PE X a (RE G X W fa)) (hb : PE X b (RE G X W fb)) : PE X (.BinOp a op b pos) (RE G X W (binE g fa fb)) :=
  pe_imp (pe_op ho ha hb) fun _ _ _ => re_bin h
theorem se_cmp {op : CmpOp} {r : R2} {g : Tr → Tr → Option Nw} {a b : Expr} {fa fb : Ev} {pos : Pos} (ho : OpR X (compareOp op) r) (h : OpOk G X r g) (ha : PE X a (RE G X W fa)) (hb : PE X b (RE G X W fb)) (hm : behindInMarks op b = false) : PE X (.Compare a [op] [b] pos) (RE G X W (binE g fa fb)) :=
  pe_imp (pe_cmpR ho ha hb hm) fun _ _ _ => re_bin h
theorem OpOk.or {r r' : R2} {g g' : Tr → Tr → Option Nw} (h : OpOk G X r g) (h' : OpOk G X r' g') : OpOk G X (fun x y H Q => r x y H Q ∨ r' x y H Q) (fun a b => match g a b with | some n => some n | none => g' a b) := by
  intro M H x y tx ty n Q d rx ry e q
  dsimp only at e
  cases eg : g tx ty with
  | some m =>
    rw [eg] at e
    cases e
    exact .inl (h M H x y tx ty n Q d rx ry eg q)
  | none =>
    rw [eg] at e
    exact .inr (h' M H x y tx ty n Q d rx ry e q)
theorem fin0 {M : Addr → Prop} {H : Hp} {v : V} {n : Nw} {Q : VK} (d : ∀ a, M a → H a ≠ none) (q : ∀ v M' H', Go0 M H M' H' → (∀ a, M' a → H' a ≠ none) → NewAt (kg X G) H M' H' v n → Q v H') (h : NewAt (kg X G) H M H v n) : Q v H := q v M H .refl d h
theorem fin_tup (hz : G.z = false) {M : Addr → Prop} {H : Hp} {vs : List V} {ts : List Tr} {Q : VK} (d : ∀ a, M a → H a ≠ none) (q : ∀ v M' H', Go0 M H M' H' → (∀ a, M' a → H' a ≠ none) → NewAt (kg X G) H M' H' v (.s (.tup ts)) → Q v H') (r : Reps (kg X G) M H vs ts) : ∀ p, H p = none → Q (.ref p) (upd H p (.tup vs)) :=
  fun p np => q _ M _ (go_tup np) (dom_tup d) (new_tup hz np d r)
theorem fin_lst {M : Addr → Prop} {H : Hp} {vs : List V} {ts : List Tr} {Q : VK} (d : ∀ a, M a → H a ≠ none) (q : ∀ v M' H', Go0 M H M' H' → (∀ a, M' a → H' a ≠ none) → NewAt (kg X G) H M' H' v (.l ts) → Q v H') (r : Reps (kg X G) M H vs ts) : ∀ p, H p = none → Q (.ref p) (upd H p (.lst vs)) :=
  fun p np => q _ _ _ (go_mut np) (dom_mut d) (new_lst np r)
def gI (g : Int → Int → Option Tr) : Tr → Tr → Option Nw
  | .int i, .int j => (g i j).map .s
  | _, _ => none
theorem ok_int {C : Int → Int → Prop} {r : Int → Int → V} {g : Int → Int → Option Tr} (h : ∀ i j t, g i j = some t → C i j ∧ ∀ K M H, Rep K M H (r i j) t) : OpOk G X (rI C r) (gI g) := by
  intro M H x y tx ty n Q d rx ry e q
  cases tx <;> cases ty <;> try cases e
  rename_i i j
  unfold gI at e
  dsimp only at e
  cases eg : g i j with
  | none => rw [eg] at e; cases e
  | some t =>
    rw [eg] at e; cases e
    obtain ⟨c, rp⟩ := h i j t eg
    exact ⟨i, j, rx.int, ry.int, c, fin0 d q (rp _ _ _)⟩
theorem ok_int0 {r : Int → Int → V} {g : Int → Int → Option Tr} (h : ∀ i j t, g i j = some t → ∀ K M H, Rep K M H (r i j) t) : OpOk G X (rI0 r) (gI g) := by
  intro M H x y tx ty n Q d rx ry e q
  cases tx <;> cases ty <;> try cases e
  rename_i i j
  unfold gI at e
  dsimp only at e
  cases eg : g i j with
  | none => rw [eg] at e; cases e
  | some t =>
    rw [eg] at e; cases e
    exact ⟨i, j, rx.int, ry.int, fin0 d q (h i j t eg _ _ _)⟩
theorem someInt {f : Int → Int → Int} {i j : Int} {t : Tr} (e : some (Tr.int (f i j)) = some t) : ∀ K M H, Rep K M H (.int (f i j)) t := by
  cases e; exact fun _ _ _ => .int _
theorem someBl {f : Int → Int → Bool} {i j : Int} {t : Tr} (e : some (Tr.bl (f i j)) = some t) : ∀ K M H, Rep K M H (.bl (f i j)) t := by
  cases e; exact fun _ _ _ => .bl _
end
end TV
namespace TV
open PySem PySem.Spec PyProof.Rows L2
section
variable {G : GS} {X : Cx} {W : WX}
def addI : Tr → Tr → Option Nw := gI fun i j => some (.int (i + j))
theorem ok_addI : OpOk G X (rI0 fun i j => .int (i + j)) addI := ok_int0 fun _ _ _ e => someInt e
def addS : Tr → Tr → Option Nw
  | .str x, .str y => if x.length + y.length ≤ sizeLine then some (.s (.str (x ++ y))) else none
  | _, _ => none
def rAddS : R2 := fun x y H Q => ∃ i j, x = .str i ∧ y = .str j ∧ i.length + j.length ≤ sizeLine ∧ Q (.str (i ++ j)) H
theorem ok_addS : OpOk G X rAddS addS := by
  intro M H x y tx ty n Q d rx ry e q
  cases tx <;> cases ty <;> try cases e
  rename_i i j
  unfold addS at e
  dsimp only at e
  by_cases c : i.length + j.length ≤ sizeLine
  · rw [if_pos c] at e; cases e
    exact ⟨i, j, rx.str, ry.str, c, fin0 d q (.str _)⟩
  · rw [if_neg c] at e; cases e
def addT : Tr → Tr → Option Nw
  | .tup x, .tup y => if x.length + y.length ≤ sizeLine then some (.s (.tup (x ++ y))) else none
  | _, _ => none
theorem Reps.nil_iff {K : KG} {M : Addr → Prop} {H : Hp} {vs : List V} {ts : List Tr} (r : Reps K M H vs ts) : vs = [] ↔ ts = [] := by
  cases r with
  | nil => exact ⟨fun _ => rfl, fun _ => rfl⟩
  | cons _ _ => exact ⟨fun z => absurd z (by simp), fun z => absurd z (by simp)⟩
theorem RTop.tup_rep {K : KG} {M : Addr → Prop} {H : Hp} {v : V} {ts : List Tr} (r : RTop K M H v (.tup ts)) : Rep K M H v (.tup ts) := by
  rcases r with r | ⟨a, _, o⟩
  · exact r
  · cases o
theorem ok_addT (hz : G.z = false) : OpOk G X (rCatA X.K) addT := by
  intro M H x y tx ty n Q d rx ry e q
  cases tx <;> cases ty <;> try cases e
  rename_i i j
  unfold addT at e
  dsimp only at e
  by_cases c : i.length + j.length ≤ sizeLine
  · rw [if_pos c] at e; cases e
    obtain ⟨a, vs, rfl, ha, ra⟩ := rx.tup
    obtain ⟨b, ws, rfl, hb, rb⟩ := ry.tup
    refine ⟨a, b, vs, ws, rfl, rfl, ha, hb, by rw [ra.length, rb.length]; exact c, fun e => ?_, fun _ e => ?_, fun _ _ => fin_tup hz d q (ra.append rb)⟩
    · have e2 := ra.nil_iff.mp e
      subst e2
      exact fin0 d q ry.tup_rep
    · have e2 := rb.nil_iff.mp e
      subst e2
      refine fin0 d q ?_
      rw [List.append_nil]
      exact rx.tup_rep
  · rw [if_neg c] at e; cases e
def addL : Tr → Tr → Option Nw
  | .lst x, .lst y => if x.length + y.length ≤ sizeLine then some (.l (x ++ y)) else none
  | _, _ => none
theorem ok_addL : OpOk G X rCat addL := by
  intro M H x y tx ty n Q d rx ry e q
  cases tx <;> cases ty <;> try cases e
  rename_i i j
  unfold addL at e
  dsimp only at e
  by_cases c : i.length + j.length ≤ sizeLine
  · rw [if_pos c] at e; cases e
    obtain ⟨a, vs, rfl, ha, ra⟩ := rx.lst
    obtain ⟨b, ws, rfl, hb, rb⟩ := ry.lst
    exact ⟨a, b, vs, ws, rfl, rfl, ha, hb, by rw [ra.length, rb.length]; exact c, fin_lst d q (ra.append rb)⟩
  · rw [if_neg c] at e; cases e
def gAdd : Tr → Tr → Option Nw
  | .int i, .int j => some (.s (.int (i + j)))
  | .str x, .str y => if x.length + y.length ≤ sizeLine then some (.s (.str (x ++ y))) else none
  | .tup x, .tup y => if x.length + y.length ≤ sizeLine then some (.s (.tup (x ++ y))) else none
  | .lst x, .lst y => if x.length + y.length ≤ sizeLine then some (.l (x ++ y)) else none
  | _, _ => none
theorem OpOk.imp {r : R2} {g g' : Tr → Tr → Option Nw} (h : OpOk G X r g) (i : ∀ a b n, g' a b = some n → g a b = some n) : OpOk G X r g' := fun M H x y tx ty n Q d rx ry e q => h M H x y tx ty n Q d rx ry (i _ _ _ e) q
theorem se_add {a b : Expr} {fa fb : Ev} {pos : Pos} (hz : G.z = false) (ha : PE X a (RE G X W fa)) (hb : PE X b (RE G X W fb)) : PE X (.BinOp a .Add b pos) (RE G X W (binE gAdd fa fb)) := by
  refine se_op (op_add.or (op_add_str.or (op_catA.or op_cat))) (OpOk.imp (ok_addI.or (ok_addS.or ((ok_addT hz).or ok_addL))) fun x y n e => ?_) ha hb
  cases x <;> cases y <;> first | (cases e; done) | exact e | (unfold gAdd at e; dsimp only at e; split at e <;> first | (cases e; done) | (rename_i c; simp only [addI, gI, addS, addT, addL, if_pos c]; exact e))
def gSub : Tr → Tr → Option Nw := gI fun i j => some (.int (i - j))
theorem se_sub {a b : Expr} {fa fb : Ev} {pos : Pos} (ha : PE X a (RE G X W fa)) (hb : PE X b (RE G X W fb)) : PE X (.BinOp a .Sub b pos) (RE G X W (binE gSub fa fb)) :=
  se_op op_sub (ok_int0 fun _ _ _ e => someInt e) ha hb
theorem op_mulA : OpR X (binaryOp .Mult) (rI (fun i j => mulOk i j = true) fun i j => .int (i * j)) := by
  refine opI fun i j t u s Q E hc q => mul_int q ?_
  rcases mulOk_iff.mp hc with hc | hc | hc
  · exact CMul.ok (.inr ⟨hc.1, by omega⟩)
  · exact CMul.ok (.inl ⟨hc.1, by omega⟩)
  · exact CMulW.ok (show i.natAbs.log2 + j.natAbs.log2 < 1000000 from hc)
def gMul : Tr → Tr → Option Nw
  | .int i, .int j => if mulOk i j = true then some (.s (.int (i * j))) else none
  | .lst x, .int j => if (fitN 9223372036854775807 j && Nat.ble (x.length * j.toNat) 16777216) = true then some (.l (List.replicate j.toNat x).flatten) else none
  | .tup x, .int j => if x ≠ [] ∧ 2 ≤ j ∧ j ≤ 1000 ∧ x.length ≤ 1000 then some (.s (.tup (List.replicate j.toNat x).flatten)) else none
  | _, _ => none
theorem ok_mulI : OpOk G X (rI (fun i j => mulOk i j = true) fun i j => .int (i * j)) (gI fun i j => if mulOk i j = true then some (.int (i * j)) else none) := ok_int fun i j t e => by
  by_cases c : mulOk i j = true
  · rw [if_pos c] at e; exact ⟨c, someInt (f := fun i j => i * j) e⟩
  · rw [if_neg c] at e; cases e
theorem ok_mulL : OpOk G X rRep (fun x y => match x, y with | .lst x, .int j => if (fitN 9223372036854775807 j && Nat.ble (x.length * j.toNat) 16777216) = true then some (.l (List.replicate j.toNat x).flatten) else none | _, _ => none) := by
  intro M H x y tx ty n Q d rx ry e q
  dsimp only at e
  cases tx <;> cases ty <;> try cases e
  rename_i i j
  dsimp only at e
  split at e
  · rename_i c
    cases e
    obtain ⟨a, vs, rfl, ha, ra⟩ := rx.lst
    rw [Bool.and_eq_true, fitN_iff, Nat.ble_eq] at c
    exact ⟨a, j, vs, rfl, ry.int, ha, by omega, by omega, by rw [ra.length, sizeLine_eq]; exact c.2, fin_lst d q (ra.replicate _)⟩
  · cases e
theorem ok_mulT (hz : G.z = false) : OpOk G X (rRepT X.K) (fun x y => match x, y with | .tup x, .int j => if x ≠ [] ∧ 2 ≤ j ∧ j ≤ 1000 ∧ x.length ≤ 1000 then some (.s (.tup (List.replicate j.toNat x).flatten)) else none | _, _ => none) := by
  intro M H x y tx ty n Q d rx ry e q
  dsimp only at e
  cases tx <;> cases ty <;> try cases e
  rename_i i j
  dsimp only at e
  split at e
  · rename_i c
    cases e
    obtain ⟨a, vs, rfl, ha, ra⟩ := rx.tup
    exact ⟨a, j, vs, rfl, ry.int, ha, fun z => c.1 (ra.nil_iff.mp z), c.2.1, c.2.2.1, by rw [ra.length]; exact c.2.2.2, fin_tup hz d q (ra.replicate _)⟩
  · cases e
theorem se_mul {a b : Expr} {fa fb : Ev} {pos : Pos} (hz : G.z = false) (ha : PE X a (RE G X W fa)) (hb : PE X b (RE G X W fb)) : PE X (.BinOp a .Mult b pos) (RE G X W (binE gMul fa fb)) := by
  refine se_op (op_mulA.or (op_rep.or op_repT)) (OpOk.imp (ok_mulI.or (ok_mulL.or (ok_mulT hz))) fun x y n e => ?_) ha hb
  cases x <;> cases y <;> first | (cases e; done) | skip
  · rename_i i j
    unfold gMul at e
    dsimp only at e
    by_cases c : mulOk i j = true
    · rw [if_pos c] at e; cases e
      simp [gI, c]
    · rw [if_neg c] at e; cases e
  · unfold gMul at e
    dsimp only at e
    split at e
    · rename_i c; simp only [gI, if_pos c]; exact e
    · cases e
  · unfold gMul at e
    dsimp only at e
    split at e
    · rename_i c; simp only [gI, if_pos c]; exact e
    · cases e
theorem op_fdivA : OpR X (binaryOp .FloorDiv) (rI (fun _ j => divOk j = true) fun i j => .int (i / j)) := by
  intro pins s σ H x y v u Q I rx ry h
  obtain ⟨i, j, rfl, rfl, c, q⟩ := h
  have c := divOk_iff.mp c
  rcases c.2 with c2 | c2
  · exact op_fdiv pins s σ H _ _ v u Q I rx ry ⟨i, j, rfl, rfl, ⟨c.1, c2⟩, q⟩
  · exact op_fdivW pins s σ H _ _ v u Q I rx ry ⟨i, j, rfl, rfl, ⟨c.1, c2⟩, q⟩
def onlyIf (b : Bool) (t : Tr) : Option Tr := if b = true then some t else none
theorem onlyIf_some {b : Bool} {t u : Tr} (h : onlyIf b t = some u) : b = true ∧ t = u := by
  unfold onlyIf at h
  split at h
  · rename_i c; exact ⟨c, Option.some.inj h⟩
  · cases h
@[simp] theorem onlyIf_true {t : Tr} : onlyIf true t = some t := rfl
@[simp] theorem onlyIf_false {t : Tr} : onlyIf false t = none := rfl
theorem ok_intC {C : Int → Int → Bool} {f : Int → Int → Int} : OpOk G X (rI (fun i j => C i j = true) fun i j => .int (f i j)) (gI fun i j => onlyIf (C i j) (.int (f i j))) := ok_int fun i j t e => by
  obtain ⟨c, e⟩ := onlyIf_some e
  exact ⟨c, by subst e; exact fun _ _ _ => .int _⟩
def gDiv : Tr → Tr → Option Nw := gI fun i j => onlyIf (divOk j) (.int (i / j))
theorem se_div {a b : Expr} {fa fb : Ev} {pos : Pos} (ha : PE X a (RE G X W fa)) (hb : PE X b (RE G X W fb)) : PE X (.BinOp a .FloorDiv b pos) (RE G X W (binE gDiv fa fb)) := se_op op_fdivA ok_intC ha hb
theorem rI_imp {f : Value → Value → Sem Value} {C C' : Int → Int → Prop} {g : Int → Int → V} (h : OpR X f (rI C g)) (i : ∀ a b, C' a b → C a b) : OpR X f (rI C' g) := fun pins s σ H x y v u Q I rx ry ⟨a, b, e1, e2, c, q⟩ => h pins s σ H x y v u Q I rx ry ⟨a, b, e1, e2, i a b c, q⟩
def gMod : Tr → Tr → Option Nw := gI fun i j => onlyIf (posI j) (.int (i % j))
theorem se_mod {a b : Expr} {fa fb : Ev} {pos : Pos} (ha : PE X a (RE G X W fa)) (hb : PE X b (RE G X W fb)) : PE X (.BinOp a .Mod b pos) (RE G X W (binE gMod fa fb)) := se_op (rI_imp op_mod fun _ _ h => posI_iff.mp h) ok_intC ha hb
def gPow : Tr → Tr → Option Nw := gI fun i j => onlyIf (powOk i j) (.int (i ^ j.toNat))
theorem se_pow {a b : Expr} {fa fb : Ev} {pos : Pos} (ha : PE X a (RE G X W fa)) (hb : PE X b (RE G X W fb)) : PE X (.BinOp a .Pow b pos) (RE G X W (binE gPow fa fb)) := se_op (rI_imp op_pow fun i j (h : powOk i j = true) => powOk_iff.mp h) ok_intC ha hb
def gShl : Tr → Tr → Option Nw := gI fun i j => onlyIf (powOk i j) (.int (i * 2 ^ j.toNat))
theorem se_shl {a b : Expr} {fa fb : Ev} {pos : Pos} (ha : PE X a (RE G X W fa)) (hb : PE X b (RE G X W fb)) : PE X (.BinOp a .LShift b pos) (RE G X W (binE gShl fa fb)) := se_op (rI_imp op_shl fun i j (h : powOk i j = true) => powOk_iff.mp h) ok_intC ha hb
def gShr : Tr → Tr → Option Nw := gI fun i j => onlyIf (nnI j) (.int (i / 2 ^ j.toNat))
theorem se_shr {a b : Expr} {fa fb : Ev} {pos : Pos} (ha : PE X a (RE G X W fa)) (hb : PE X b (RE G X W fb)) : PE X (.BinOp a .RShift b pos) (RE G X W (binE gShr fa fb)) := se_op (rI_imp op_shr fun _ _ h => nnI_iff.mp h) ok_intC ha hb
def gXor : Tr → Tr → Option Nw := gI fun i j => some (.int (Builtin.bitXor i j))
theorem se_xor {a b : Expr} {fa fb : Ev} {pos : Pos} (ha : PE X a (RE G X W fa)) (hb : PE X b (RE G X W fb)) : PE X (.BinOp a .BitXor b pos) (RE G X W (binE gXor fa fb)) := se_op op_xor (ok_int0 fun _ _ _ e => someInt e) ha hb
mutual
def dat : Tr → PyData
  | .non => .none
  | .bl b => .bool b
  | .int i => .int i
  | .str x => .str x
  | .tup ts => .tuple (dats ts)
  | .lst ts => .list (dats ts)
  | .dk _ => .dict []
  | .dt _ => .dict []
  | .scr _ => .dict []
  | .adr _ => .dict []
def dats : List Tr → List PyData
  | [] => []
  | t :: ts => dat t :: dats ts
end
theorem dats_map : ∀ ts : List Tr, dats ts = ts.map dat
  | [] => by simp [dats]
  | t :: ts => by simp [dats, dats_map ts]
mutual
theorem Rep.dp {K : KG} {M : Addr → Prop} {H : Hp} : ∀ {v : V} {t : Tr}, Rep K M H v t → PyData.canLay0 (dat t) = true → Dp K.k H v (dat t)
  | _, _, .non, _ => by rw [dat]; exact .non
  | _, _, .bl b, _ => by rw [dat]; exact .bl b
  | _, _, .int b, _ => by rw [dat]; exact .int b
  | _, _, .str b, _ => by rw [dat]; exact .str b
  | _, _, .tup h _ m r, c => by rw [dat] at c ⊢; simp only [PyData.canLay0] at c; exact .tup (SqT.of h) (Reps.dp r c)
  | _, _, .ftup h _ _ m r, c => by rw [dat] at c ⊢; simp only [PyData.canLay0] at c; exact .tup (.inl (.inr ⟨_, h⟩)) (Reps.dp r c)
  | _, _, .ktup h _ r, c => by rw [dat] at c ⊢; simp only [PyData.canLay0] at c; exact .tup (.inr h) (Reps.dp r c)
  | _, _, .lst h m r, c => by rw [dat] at c ⊢; simp only [PyData.canLay0] at c; exact .lst (SqL.of h) (Reps.dp r c)
  | _, _, .dk _ _ _ _, c => by rw [dat] at c; simp [PyData.canLay0] at c
  | _, _, .dt _ _ _ _, c => by rw [dat] at c; simp [PyData.canLay0] at c
  | _, _, .scr _ _, c => by rw [dat] at c; simp [PyData.canLay0] at c
  | _, _, .kscr _, c => by rw [dat] at c; simp [PyData.canLay0] at c
  | _, _, .adr _, c => by rw [dat] at c; simp [PyData.canLay0] at c
theorem Reps.dp {K : KG} {M : Addr → Prop} {H : Hp} : ∀ {v : List V} {t : List Tr}, Reps K M H v t → PyData.canLayAll0 (dats t) = true → DpAll K.k H v (dats t)
  | _, _, .nil, _ => by rw [dats]; exact .nil
  | _, _, .cons h r, c => by
    rw [dats] at c ⊢
    simp only [PyData.canLayAll0, Bool.and_eq_true] at c
    exact .cons (Rep.dp h c.1) (Reps.dp r c.2)
end
theorem shaped_lay {d : PyData} (h : SeqAt.shaped d = true) : d.canLay0 = true := by
  unfold SeqAt.shaped at h
  simp only [Bool.and_eq_true] at h
  exact h.1
theorem RTop.dp {K : KG} {M : Addr → Prop} {H : Hp} {v : V} {t : Tr} (r : RTop K M H v t) (c : SeqAt.shaped (dat t) = true) : Dp K.k H v (dat t) := by
  have c := shaped_lay c
  rcases r with r | ⟨a, rfl, o⟩
  · exact r.dp c
  · cases o with
    | lst h m r => rw [dat] at c ⊢; simp only [PyData.canLay0] at c; exact .lst (SqL.of h) (r.dp c)
    | dk _ _ _ _ => rw [dat] at c; simp [PyData.canLay0] at c
    | dt _ _ _ _ => rw [dat] at c; simp [PyData.canLay0] at c
def shp (t : Tr) : Bool := SeqAt.shaped (dat t)
def eqT (a b : Tr) : Bool := PyData.eqv (dat a) (dat b)
def gEq (a b : Tr) : Option Nw := if (shp a && shp b) = true then some (.s (.bl (eqT a b))) else none
def gNe (a b : Tr) : Option Nw := if (shp a && shp b) = true then some (.s (.bl (!eqT a b))) else none
theorem ok_eqD : OpOk G X (rEqD X.K) gEq := by
  intro M H x y tx ty n Q d rx ry e q
  unfold gEq at e
  split at e
  · rename_i c
    simp only [Bool.and_eq_true] at c
    cases e
    exact ⟨dat tx, dat ty, rx.dp c.1, ry.dp c.2, c.1, c.2, fin0 d q (.bl _)⟩
  · cases e
theorem ok_neD : OpOk G X (rNeD X.K) gNe := by
  intro M H x y tx ty n Q d rx ry e q
  unfold gNe at e
  split at e
  · rename_i c
    simp only [Bool.and_eq_true] at c
    cases e
    exact ⟨dat tx, dat ty, rx.dp c.1, ry.dp c.2, c.1, c.2, fin0 d q (.bl _)⟩
  · cases e
theorem se_eq {a b : Expr} {fa fb : Ev} {pos : Pos} (hu : X.A.units + 64 < cLine) (ha : PE X a (RE G X W fa)) (hb : PE X b (RE G X W fb)) : PE X (.Compare a [.Eq] [b] pos) (RE G X W (binE gEq fa fb)) := se_cmp (op_eqD hu) ok_eqD ha hb (nomark _)
theorem se_ne {a b : Expr} {fa fb : Ev} {pos : Pos} (hu : X.A.units + 64 < cLine) (ha : PE X a (RE G X W fa)) (hb : PE X b (RE G X W fb)) : PE X (.Compare a [.NotEq] [b] pos) (RE G X W (binE gNe fa fb)) := se_cmp (op_neD hu) ok_neD ha hb (nomark _)
def rInT (K : PySem.W.Frag) : R2 := fun x y H Q => ∃ d ds, Dp K H x d ∧ Dp K H y (.tuple ds) ∧ SeqAt.shaped d = true ∧ SeqAt.shaped (.tuple ds) = true ∧ Q (.bl (ds.any fun z => PyData.eqv z d)) H
def rNotInT (K : PySem.W.Frag) : R2 := fun x y H Q => ∃ d ds, Dp K H x d ∧ Dp K H y (.tuple ds) ∧ SeqAt.shaped d = true ∧ SeqAt.shaped (.tuple ds) = true ∧ Q (.bl (!ds.any fun z => PyData.eqv z d)) H
theorem op_inT (hu : X.A.units + 65 < cLine) : OpR X (compareOp .In) (rInT X.K) := by
  intro pins s σ H x y v u Q I rx ry h
  obtain ⟨d, ds, hd, he, sd, se, q⟩ := h
  obtain ⟨as, r1⟩ := Dp.reads I d x v hd rx
  obtain ⟨bs, r2⟩ := Dp.reads I (.tuple ds) y u he ry
  exact SeqAt.in_tuple_reads r2 r1 (by have := SeqAt.canLay_of_shaped se; simpa [PyData.canLay0] using this) (SeqAt.canLay_of_shaped sd) (room_in_shaped sd hu) ⟨.bl _, H, I, rfl, q⟩
theorem op_notInT (hu : X.A.units + 65 < cLine) : OpR X (compareOp .NotIn) (rNotInT X.K) := by
  intro pins s σ H x y v u Q I rx ry h
  obtain ⟨d, ds, hd, he, sd, se, q⟩ := h
  obtain ⟨as, r1⟩ := Dp.reads I d x v hd rx
  obtain ⟨bs, r2⟩ := Dp.reads I (.tuple ds) y u he ry
  exact SeqAt.notIn_tuple_reads r2 r1 (by have := SeqAt.canLay_of_shaped se; simpa [PyData.canLay0] using this) (SeqAt.canLay_of_shaped sd) (room_in_shaped sd hu) ⟨.bl _, H, I, rfl, q⟩
def memT (a : Tr) (ts : List Tr) : Bool := ts.any fun z => eqT z a
theorem memT_dats (a : Tr) (ts : List Tr) : ((dats ts).any fun z => PyData.eqv z (dat a)) = memT a ts := by
  rw [dats_map, List.any_map]; rfl
end
end TV
namespace TV
open PySem PySem.Spec PyProof.Rows L2
def Rs.fz (ρ : En) : Rs → Option (Tr × En)
  | .sh t => some (t, ρ)
  | .fr ts => some (.lst ts, ρ)
  | .fk k => some (.dk k, ρ)
  | .ft k => some (.dt k, ρ)
  | .sl i => match ρ[i]? with
    | some s => match s.tr with
      | some t => some (t, ρ.set i (.sh t))
      | none => none
    | none => none
section
variable {G : GS} {X : Cx} {W : WX}
theorem pe_alt {e : Expr} {t1 t2 u : TE} (h1 : PE X e t1) (h2 : PE X e t2) (i : ∀ σ H Q, u σ H Q → t1 σ H Q ∨ t2 σ H Q) : PE X e u :=
  ⟨fun pins s σ H Q I q => (i σ H Q q).elim (h1.run pins s σ H Q I) (h2.run pins s σ H Q I)⟩
theorem RE.stepO {α : Type} {σ : L2.St} {M : Addr → Prop} {H : Hp} {ρ : En} {f : Ev} {k : Rs → En → Option (Ou α)} {o : Ou α} {P : α → (Addr → Prop) → Hp → En → Prop} {Q : VK} (L : Rel (kg X G) M H σ ρ) (e : andThen (f ρ) k = some o) (h : Wn G X W σ M H ρ o P)
    (q : ∀ r v M1 H1 ρ1, Go (Owns σ ρ) M H M1 H1 → Less ρ ρ1 → Rel (kg X G) M1 H1 σ ρ1 → ResAt (kg X G) H M1 H1 σ ρ1 v r → k r ρ1 = some o → Q v H1) : RE G X W f σ H Q := by
  obtain ⟨o1, e1⟩ := andThen_some e
  rw [e1] at e
  cases o1 with
  | ex c ρ1 => cases e; exact ⟨M, ρ, _, L, e1, h⟩
  | ok r ρ1 => exact ⟨M, ρ, _, L, e1, fun M1 H1 g l L1 v R => q r v M1 H1 ρ1 g l L1 R e⟩
theorem RT.stepO {α : Type} {σ : L2.St} {M : Addr → Prop} {H : Hp} {ρ : En} {f : Tv} {k : Bool → En → Option (Ou α)} {o : Ou α} {P : α → (Addr → Prop) → Hp → En → Prop} {Q : Bool → Hp → Prop} (L : Rel (kg X G) M H σ ρ) (e : andThen (f ρ) k = some o) (h : Wn G X W σ M H ρ o P)
    (q : ∀ r M1 H1 ρ1, Go (Owns σ ρ) M H M1 H1 → Less ρ ρ1 → Rel (kg X G) M1 H1 σ ρ1 → k r ρ1 = some o → Q r H1) : RT G X W f σ H Q := by
  obtain ⟨o1, e1⟩ := andThen_some e
  rw [e1] at e
  cases o1 with
  | ex c ρ1 => cases e; exact ⟨M, ρ, _, L, e1, h⟩
  | ok r ρ1 => exact ⟨M, ρ, _, L, e1, fun M1 H1 g l L1 => q r M1 H1 ρ1 g l L1 e⟩
end
section
variable {K : KG} {M M1 : Addr → Prop} {H H1 : Hp} {σ : L2.St} {ρ ρ1 ρ2 : En} {v : V} {t : Tr} {r : Rs}
theorem ownAt_set {i j : Nat} {a : Addr} {s : Sl} (hs : s.own = false) (h : OwnAt σ (ρ.set i s) j a) : j ≠ i ∧ OwnAt σ ρ j a := by
  obtain ⟨h1, s', h2, h3⟩ := h
  by_cases e : j = i
  · subst e
    rw [List.getElem?_set] at h2
    simp at h2
    obtain ⟨_, h2⟩ := h2
    subst h2
    rw [hs] at h3; cases h3
  · rw [List.getElem?_set_ne (Ne.symm e)] at h2
    exact ⟨e, h1, s', h2, h3⟩
theorem less_set {i : Nat} {s : Sl} (hs : s.own = false) : Less ρ (ρ.set i s) := fun j s' e o => by
  by_cases h : j = i
  · subst h
    rw [List.getElem?_set] at e
    simp at e
    obtain ⟨_, e⟩ := e
    subst e
    rw [hs] at o; cases o
  · rw [List.getElem?_set_ne (Ne.symm h)] at e
    exact ⟨s', e, o⟩
theorem Own.rep {p : Addr} (h : Own K M H p t) : Rep K (fun a => M a ∧ a ≠ p) H (.ref p) t := by
  have k : ∀ a o, H a = some o → ¬ M a → H a = some o := fun _ _ e _ => e
  have m : ∀ a, ¬ M a → H a ≠ none → ¬ (M a ∧ a ≠ p) := fun a n _ z => n z.1
  cases h with
  | lst h m' r => exact .lst h (fun z => z.2 rfl) (Reps.mono k m r)
  | dk h m' e r => exact .dk h (fun z => z.2 rfl) e (Reps.mono k m r)
  | dt h m' e r => exact .dt h (fun z => z.2 rfl) e (Reps.mono k m r)
theorem Rep.less {N : Addr → Prop} (r : Rep K M H v t) (s : ∀ a, N a → M a) : Rep K N H v t := r.mono (fun _ _ e _ => e) fun a n _ z => n (s a z)
theorem Reps.less {N : Addr → Prop} {vs : List V} {ts : List Tr} (r : Reps K M H vs ts) (s : ∀ a, N a → M a) : Reps K N H vs ts := r.mono (fun _ _ e _ => e) fun a n _ z => n (s a z)
theorem Own.less {N : Addr → Prop} {p : Addr} (h : Own K M H p t) (s : ∀ a, N a → M a) (n : N p) : Own K N H p t := by
  cases h with
  | lst h m' r => exact .lst h n (r.less s)
  | dk h m' e r => exact .dk h n e (r.less s)
  | dt h m' e r => exact .dt h n e (r.less s)
theorem SlAt.less {N : Addr → Prop} {ov : Option (Option V)} {s : Sl} (h : SlAt K M H ov s) (sb : ∀ a, N a → M a) (n : s.own = true → ∀ a, ov = some (some (.ref a)) → N a) : SlAt K N H ov s := by
  cases s with
  | no => trivial
  | sh u => obtain ⟨v, h1, h2⟩ := h; exact ⟨v, h1, h2.less sb⟩
  | ow ts => obtain ⟨a, h1, h2⟩ := h; exact ⟨a, h1, h2.less sb (n rfl a h1)⟩
  | ok ts => obtain ⟨a, h1, h2⟩ := h; exact ⟨a, h1, h2.less sb (n rfl a h1)⟩
  | ot ts => obtain ⟨a, h1, h2⟩ := h; exact ⟨a, h1, h2.less sb (n rfl a h1)⟩
theorem Rel.drop {p : Addr} (L : Rel K M H σ ρ) (n : ¬ Owns σ ρ p) : Rel K (fun a => M a ∧ a ≠ p) H σ ρ :=
  ⟨L.len, fun a z => L.dom a z.1, fun i s e => (L.at_ i s e).less (fun _ z => z.1) fun o a ha => ⟨L.sub a ⟨i, ha, s, e, o⟩, fun z => n (z ▸ ⟨i, ha, s, e, o⟩)⟩, L.inj⟩
theorem Go.drop {O : Addr → Prop} {p : Addr} (g : Go O M H M1 H1) (h : H p = none) (d : ∀ a, M a → H a ≠ none) : Go O M H (fun a => M1 a ∧ a ≠ p) H1 :=
  ⟨g.keep, g.there, fun a z => g.new a z.1, fun a m n => ⟨g.old a m n, fun z => d a m (z ▸ h)⟩⟩
theorem Go.dropO {O : Addr → Prop} {p : Addr} (g : Go O M H M1 H1) (h : O p) : Go O M H (fun a => M1 a ∧ a ≠ p) H1 :=
  ⟨g.keep, g.there, fun a z => g.new a z.1, fun a m n => ⟨g.old a m n, fun z => n (z ▸ h)⟩⟩
theorem fz_ok (d : ∀ a, M a → H a ≠ none) (g : Go (Owns σ ρ) M H M1 H1) (l : Less ρ ρ1) (L : Rel K M1 H1 σ ρ1) (R : ResAt K H M1 H1 σ ρ1 v r) (e : r.fz ρ1 = some (t, ρ2)) :
    ∃ M2, Go (Owns σ ρ) M H M2 H1 ∧ Less ρ1 ρ2 ∧ Rel K M2 H1 σ ρ2 ∧ Rep K M2 H1 v t ∧ ∀ a, M2 a → M1 a := by
  cases r with
  | sh u => cases e; exact ⟨M1, g, .refl, L, R, fun _ z => z⟩
  | fr ts => cases e; obtain ⟨p, rfl, h0, n, o⟩ := R; exact ⟨_, g.drop h0 d, .refl, L.drop n, o.rep, fun _ z => z.1⟩
  | fk ts => cases e; obtain ⟨p, rfl, h0, n, o⟩ := R; exact ⟨_, g.drop h0 d, .refl, L.drop n, o.rep, fun _ z => z.1⟩
  | ft ts => cases e; obtain ⟨p, rfl, h0, n, o⟩ := R; exact ⟨_, g.drop h0 d, .refl, L.drop n, o.rep, fun _ z => z.1⟩
  | sl i =>
    unfold Rs.fz at e
    cases q : ρ1[i]? with
    | none => simp [q] at e
    | some s =>
      cases q2 : s.tr with
      | none => simp [q, q2] at e
      | some u =>
        simp [q, q2] at e
        obtain ⟨e1, e2⟩ := e
        subst e1; subst e2
        have R' : σ[i]? = some (some v) := R
        have hi : i < ρ1.length := (List.getElem?_eq_some_iff.mp q).1
        have a := L.at_ i s q
        have less := less_set (ρ := ρ1) (i := i) (s := .sh u) rfl
        have fin : ∀ M2 : Addr → Prop, Go (Owns σ ρ) M H M2 H1 → (∀ a, M2 a → M1 a) → Rep K M2 H1 v u → (∀ j s', j ≠ i → ρ1[j]? = some s' → s'.own = true → ∀ a, σ[j]? = some (some (.ref a)) → M2 a) →
            ∃ M2, Go (Owns σ ρ) M H M2 H1 ∧ Less ρ1 (ρ1.set i (.sh u)) ∧ Rel K M2 H1 σ (ρ1.set i (.sh u)) ∧ Rep K M2 H1 v u ∧ ∀ a, M2 a → M1 a := fun M2 g2 s2 rp ho => by
          refine ⟨M2, g2, less, ⟨by rw [List.length_set]; exact L.len, fun a z => L.dom a (s2 a z), fun j s' e' => ?_, fun j1 j2 a h1 h2 => ?_⟩, rp, s2⟩
          · by_cases h : j = i
            · subst h
              rw [List.getElem?_set_self hi] at e'
              cases e'
              exact ⟨v, R', rp⟩
            · rw [List.getElem?_set_ne (Ne.symm h)] at e'
              exact (L.at_ j s' e').less s2 fun o a ha => ho j s' h e' o a ha
          · exact L.inj j1 j2 a (ownAt_set rfl h1).2 (ownAt_set rfl h2).2
        by_cases ho : s.own = true
        · obtain ⟨p, u', e1, e2, o⟩ := a.own ho
          rw [q2] at e2; cases e2
          rw [R'] at e1; cases e1
          have at_ : OwnAt σ ρ1 i p := ⟨R', s, q, ho⟩
          refine fin _ (g.dropO (l.owns ⟨i, at_⟩)) (fun _ z => z.1) o.rep fun j s' hj e' o' a ha => ⟨L.sub a ⟨j, ha, s', e', o'⟩, fun z => ?_⟩
          subst z
          exact hj (L.inj j i _ ⟨ha, s', e', o'⟩ at_)
        · have hs : ∃ u', s = .sh u' := by
            cases s with
            | no => cases q2
            | sh u' => exact ⟨u', rfl⟩
            | ow _ => exact absurd rfl ho
            | ok _ => exact absurd rfl ho
            | ot _ => exact absurd rfl ho
          obtain ⟨u', rfl⟩ := hs
          cases q2
          obtain ⟨v', h1, h2⟩ := a
          rw [R'] at h1; cases h1
          exact fin M1 g (fun _ z => z) h2 fun j s' hj e' o' a ha => L.sub a ⟨j, ha, s', e', o'⟩
end
abbrev Av := En → Option (Ou (List Rs))
def ArgAt (K : KG) (M : Addr → Prop) (H : Hp) (σ : L2.St) (v : V) : Rs → Prop
  | .sh t => Rep K M H v t
  | .sl i => σ[i]? = some (some v)
  | _ => False
inductive ArgsAt (K : KG) (M : Addr → Prop) (H : Hp) (σ : L2.St) : List V → List Rs → Prop where
  | nil : ArgsAt K M H σ [] []
  | cons {v : V} {vs : List V} {r : Rs} {rs : List Rs} (h : ArgAt K M H σ v r) (t : ArgsAt K M H σ vs rs) : ArgsAt K M H σ (v :: vs) (r :: rs)
def argR (hold : Bool) (ρ : En) (r : Rs) : Option (Rs × En) := match hold, r with
  | true, .sl i => some (.sl i, ρ)
  | _, r => match r.fz ρ with
    | some (t, ρ') => some (.sh t, ρ')
    | none => none
def nilA : Av := fun ρ => some (.ok [] ρ)
def consA (hold : Bool) (f : Ev) (fs : Av) : Av := fun ρ => andThen (f ρ) fun r ρ1 => match argR hold ρ1 r with
  | none => none
  | some (a, ρ2) => andThen (fs ρ2) fun as ρ3 => some (.ok (a :: as) ρ3)
def RA (G : GS) (X : Cx) (W : WX) (f : Av) : TA := fun σ H Q => ∃ (M : Addr → Prop) (ρ : En) (o : Ou (List Rs)), Rel (kg X G) M H σ ρ ∧ f ρ = some o ∧ Wn G X W σ M H ρ o fun rs M' H' ρ' => ∀ vs, ArgsAt (kg X G) M' H' σ vs rs → Q vs H'
section
variable {G : GS} {X : Cx} {W : WX}
theorem RA.stepO {α : Type} {σ : L2.St} {M : Addr → Prop} {H : Hp} {ρ : En} {f : Av} {k : List Rs → En → Option (Ou α)} {o : Ou α} {P : α → (Addr → Prop) → Hp → En → Prop} {Q : List V → Hp → Prop} (L : Rel (kg X G) M H σ ρ) (e : andThen (f ρ) k = some o) (h : Wn G X W σ M H ρ o P)
    (q : ∀ rs vs M1 H1 ρ1, Go (Owns σ ρ) M H M1 H1 → Less ρ ρ1 → Rel (kg X G) M1 H1 σ ρ1 → ArgsAt (kg X G) M1 H1 σ vs rs → k rs ρ1 = some o → Q vs H1) : RA G X W f σ H Q := by
  obtain ⟨o1, e1⟩ := andThen_some e
  rw [e1] at e
  cases o1 with
  | ex c ρ1 => cases e; exact ⟨M, ρ, _, L, e1, h⟩
  | ok r ρ1 => exact ⟨M, ρ, _, L, e1, fun M1 H1 g l L1 vs R => q r vs M1 H1 ρ1 g l L1 R e⟩
theorem argR_ok {K : KG} {M M1 : Addr → Prop} {H H1 : Hp} {σ : L2.St} {ρ ρ1 ρ2 : En} {v : V} {r a : Rs} {hold : Bool} (d : ∀ a, M a → H a ≠ none) (g : Go (Owns σ ρ) M H M1 H1) (l : Less ρ ρ1) (L : Rel K M1 H1 σ ρ1) (R : ResAt K H M1 H1 σ ρ1 v r) (e : argR hold ρ1 r = some (a, ρ2)) :
    ∃ M2, Go (Owns σ ρ) M H M2 H1 ∧ Less ρ1 ρ2 ∧ Rel K M2 H1 σ ρ2 ∧ ArgAt K M2 H1 σ v a := by
  have frz : ∀ {x : Option (Tr × En)}, x = r.fz ρ1 → (match x with | some (t, ρ') => some (Rs.sh t, ρ') | none => none) = some (a, ρ2) → ∃ M2, Go (Owns σ ρ) M H M2 H1 ∧ Less ρ1 ρ2 ∧ Rel K M2 H1 σ ρ2 ∧ ArgAt K M2 H1 σ v a := fun {x} hx e => by
    cases x with
    | none => cases e
    | some p =>
      obtain ⟨t, ρ'⟩ := p
      cases e
      obtain ⟨M2, g2, l2, L2', rp, _⟩ := fz_ok d g l L R hx.symm
      exact ⟨M2, g2, l2, L2', rp⟩
  cases hold with
  | false => exact frz rfl (by simpa [argR] using e)
  | true =>
    cases r with
    | sl i => cases e; exact ⟨M1, g, .refl, L, R⟩
    | sh _ => exact frz rfl (by simpa [argR] using e)
    | fr _ => exact frz rfl (by simpa [argR] using e)
    | fk _ => exact frz rfl (by simpa [argR] using e)
    | ft _ => exact frz rfl (by simpa [argR] using e)
theorem ArgAt.go {K : KG} {M M1 O : Addr → Prop} {H H1 : Hp} {σ : L2.St} {v : V} {r : Rs} (h : ArgAt K M H σ v r) (g : Go O M H M1 H1) (s : ∀ a, O a → M a) : ArgAt K M1 H1 σ v r := by
  cases r with
  | sh t => exact Rep.go h g s
  | sl i => exact h
  | fr _ => exact h
  | fk _ => exact h
  | ft _ => exact h
theorem sa_nil : PA X [] (RA G X W nilA) := pa_imp pa_nil fun σ H Q ⟨M, ρ, o, L, e, w⟩ => by
  cases e
  exact w.ok L [] .nil
theorem sa_cons {hold : Bool} {e : Expr} {es : List Expr} {f : Ev} {fs : Av} (he : PE X e (RE G X W f)) (hr : PA X es (RA G X W fs)) (hs : starEach (e :: es) X.env = (false, eval e X.env) :: starEach es X.env := by rfl) : PA X (e :: es) (RA G X W (consA hold f fs)) := by
  refine pa_imp (pa_cons he hr hs) fun σ H Q ⟨M, ρ, o, L, e, w⟩ => ?_
  refine RE.stepO L e w fun r v M1 H1 ρ1 g1 l1 L1 R1 e1 => ?_
  cases ea : argR hold ρ1 r with
  | none => rw [ea] at e1; cases e1
  | some p =>
    obtain ⟨a, ρ2⟩ := p
    rw [ea] at e1
    obtain ⟨M2, g2, l2, L2', A⟩ := argR_ok L.dom g1 l1 L1 R1 ea
    have w2 := w.later g2 (l1.trans l2) L.dom
    refine RA.stepO L2' e1 w2 fun rs vs M3 H3 ρ3 g3 l3 L3 As e3 => ?_
    cases e3
    exact w2 M3 H3 g3 l3 L3 (v :: vs) (.cons (A.go g3 L2'.sub) As)
def shs : List Rs → Option (List Tr)
  | [] => some []
  | .sh t :: r => (shs r).map (t :: ·)
  | _ :: _ => none
theorem ArgsAt.shs {K : KG} {M : Addr → Prop} {H : Hp} {σ : L2.St} : ∀ {vs : List V} {rs : List Rs} {ts : List Tr}, ArgsAt K M H σ vs rs → TV.shs rs = some ts → Reps K M H vs ts
  | _, _, _, .nil, e => by cases e; exact .nil
  | _, _, _, .cons (r := r) h t, e => by
    cases r with
    | sh u =>
      unfold TV.shs at e
      cases q : TV.shs _ with
      | none => rw [q] at e; cases e
      | some us =>
        rw [q] at e
        cases e
        exact .cons h (ArgsAt.shs t q)
    | fr _ => cases e
    | fk _ => cases e
    | ft _ => cases e
    | sl _ => cases e
def tupE (fs : Av) : Ev := fun ρ => andThen (fs ρ) fun rs ρ1 => match shs rs with
  | none => none
  | some ts => if ts.length ≤ sizeLine then some (.ok (.sh (.tup ts)) ρ1) else none
def lstE (fs : Av) : Ev := fun ρ => andThen (fs ρ) fun rs ρ1 => match shs rs with
  | none => none
  | some ts => if ts.length ≤ sizeLine then some (.ok (.fr ts) ρ1) else none
theorem se_tup (hz : G.z = false) {x1 : Nat} {es : List Expr} {fs : Av} {pos : Pos} (h : PA X es (RA G X W fs)) : PE X (.Tuple es x1 pos) (RE G X W (tupE fs)) := by
  refine pe_imp (pe_tup h) fun σ H Q ⟨M, ρ, o, L, e, w⟩ => ?_
  refine RA.stepO L e w fun rs vs M1 H1 ρ1 g1 l1 L1 As e1 => ?_
  cases es : shs rs with
  | none => rw [es] at e1; cases e1
  | some ts =>
    rw [es] at e1
    dsimp only at e1
    split at e1
    · rename_i c
      cases e1
      have rp := As.shs es
      refine ⟨by rw [rp.length]; exact c, fun p np => ?_⟩
      have gt := go_tup (M := M1) (o := .tup vs) np
      refine w M1 _ (g1.trans (O1 := fun _ => False) gt (fun _ z => z.elim) L.dom) l1 (L1.go0 gt (dom_tup L1.dom)) _ ?_
      exact (NewAt.res (n := .s (.tup ts)) (new_tup hz np L1.dom rp) L1).from g1.there
    · cases e1
theorem se_lst {es : List Expr} {fs : Av} {pos : Pos} (h : PA X es (RA G X W fs)) : PE X (.List es pos) (RE G X W (lstE fs)) := by
  refine pe_imp (pe_lst h) fun σ H Q ⟨M, ρ, o, L, e, w⟩ => ?_
  refine RA.stepO L e w fun rs vs M1 H1 ρ1 g1 l1 L1 As e1 => ?_
  cases es : shs rs with
  | none => rw [es] at e1; cases e1
  | some ts =>
    rw [es] at e1
    dsimp only at e1
    split at e1
    · rename_i c
      cases e1
      have rp := As.shs es
      refine ⟨by rw [rp.length]; exact c, fun p np => ?_⟩
      have gt := go_mut (M := M1) (o := .lst vs) np
      refine w _ _ (g1.trans (O1 := fun _ => False) gt (fun _ z => z.elim) L.dom) l1 (L1.go0 gt (dom_mut L1.dom)) _ ?_
      exact (NewAt.res (n := .l ts) (new_lst np rp) L1).from g1.there
    · cases e1
def trs (ρ : En) : List Rs → Option (List Tr)
  | [] => some []
  | r :: rs => match r.tr ρ, trs ρ rs with
    | some t, some ts => some (t :: ts)
    | _, _ => none
inductive RTops (K : KG) (M : Addr → Prop) (H : Hp) : List V → List Tr → Prop where
  | nil : RTops K M H [] []
  | cons {v : V} {vs : List V} {t : Tr} {ts : List Tr} (h : RTop K M H v t) (r : RTops K M H vs ts) : RTops K M H (v :: vs) (t :: ts)
theorem ArgsAt.trs {K : KG} {M : Addr → Prop} {H : Hp} {σ : L2.St} {ρ : En} (L : Rel K M H σ ρ) : ∀ {vs : List V} {rs : List Rs} {ts : List Tr}, ArgsAt K M H σ vs rs → TV.trs ρ rs = some ts → RTops K M H vs ts
  | _, _, _, .nil, e => by cases e; exact .nil
  | _, _, _, .cons (v := v0) (r := r) h t, e => by
    unfold TV.trs at e
    cases q : r.tr ρ with
    | none => rw [q] at e; cases e
    | some u =>
      cases q2 : TV.trs ρ _ with
      | none => rw [q, q2] at e; cases e
      | some us =>
        rw [q, q2] at e
        cases e
        refine .cons ?_ (ArgsAt.trs L t q2)
        have R : ResAt K H M H σ ρ v0 r := by
          cases r with
          | sh _ => exact h
          | sl _ => exact h
          | fr _ => exact h.elim
          | fk _ => exact h.elim
          | ft _ => exact h.elim
        exact R.top L q
def FnOkV (G : GS) (X : Cx) (r : List V → Hp → VK → Prop) (g : List Tr → Option Nw) : Prop := ∀ (M : Addr → Prop) (H : Hp) (xs : List V) (ts : List Tr) (n : Nw) (Q : VK), (∀ a, M a → H a ≠ none) → RTops (kg X G) M H xs ts → g ts = some n →
  (∀ v M' H', Go0 M H M' H' → (∀ a, M' a → H' a ≠ none) → NewAt (kg X G) H M' H' v n → Q v H') → r xs H Q
def bltE (g : List Tr → Option Nw) (fs : Av) : Ev := fun ρ => andThen (fs ρ) fun rs ρ1 => match trs ρ1 rs with
  | none => none
  | some ts => match g ts with
    | none => none
    | some n => some (.ok n.rs ρ1)
theorem re_blt {r : List V → Hp → VK → Prop} {g : List Tr → Option Nw} {fs : Av} (h : FnOkV G X r g) {σ : L2.St} {H : Hp} {Q : VK} (q : RE G X W (bltE g fs) σ H Q) : tCB r (RA G X W fs) σ H Q := by
  obtain ⟨M, ρ, o, L, e, w⟩ := q
  refine RA.stepO L e w fun rs vs M1 H1 ρ1 g1 l1 L1 As e1 => ?_
  cases et : trs ρ1 rs with
  | none => rw [et] at e1; cases e1
  | some ts =>
    rw [et] at e1
    dsimp only at e1
    cases eg : g ts with
    | none => rw [eg] at e1; cases e1
    | some n =>
      rw [eg] at e1
      cases e1
      refine h M1 H1 vs ts n Q L1.dom (As.trs L1 et) eg fun v M' H' gg dd nn => ?_
      exact w M' H' (g1.trans (O1 := fun _ => False) gg (fun _ z => z.elim) L.dom) l1 (L1.go0 gg dd) v ((nn.res L1).from g1.there)
theorem se_blt {id : String} {r : List V → Hp → VK → Prop} {g : List Tr → Option Nw} {x : Str} {p pos : Pos} {e : Expr} {es : List Expr} {fs : Av} (hc : CallR X (.builtin id) r) (h : FnOkV G X r g) (hg : Gl X x) (hm : X.mg x = none) (hv : bootBuiltins x = some (.builtin id)) (ha : PA X (e :: es) (RA G X W fs))
    (hn : x ≠ "__name__" := by decide) (hdb : (x == ("__debug__" : Str)) = false := by decide)
    (he : starEach (e :: es) X.env = (false, eval e X.env) :: starEach es X.env := by rfl) (hpl : (backTo pos (starEach es X.env)).any (·.1) = false := by rfl) : PE X (.Call (.Name x p) (e :: es) [] pos) (RE G X W (bltE g fs)) :=
  pe_imp (pe_callB hc hg hm hv ha hn hdb he hpl) fun _ _ _ => re_blt h
theorem se_ty {T : String} {r : List V → Hp → VK → Prop} {g : List Tr → Option Nw} {x : Str} {p pos : Pos} {e : Expr} {es : List Expr} {fs : Av} (hc : CallR X (.type T) r) (h : FnOkV G X r g) (hg : Gl X x) (hm : X.mg x = none) (hv : bootBuiltins x = some (.type T)) (ha : PA X (e :: es) (RA G X W fs))
    (hn : x ≠ "__name__" := by decide) (hdb : (x == ("__debug__" : Str)) = false := by decide)
    (he : starEach (e :: es) X.env = (false, eval e X.env) :: starEach es X.env := by rfl) (hpl : (backTo pos (starEach es X.env)).any (·.1) = false := by rfl) : PE X (.Call (.Name x p) (e :: es) [] pos) (RE G X W (bltE g fs)) :=
  pe_imp (pe_callTy hc hg hm hv ha hn hdb he hpl) fun _ _ _ => re_blt h
theorem FnOkV.or {r r' : List V → Hp → VK → Prop} {g g' : List Tr → Option Nw} (h : FnOkV G X r g) (h' : FnOkV G X r' g') : FnOkV G X (fun xs H Q => r xs H Q ∨ r' xs H Q) (fun ts => match g ts with | some n => some n | none => g' ts) := by
  intro M H xs ts n Q d rx e q
  dsimp only at e
  cases eg : g ts with
  | some m =>
    rw [eg] at e
    cases e
    exact .inl (h M H xs ts _ Q d rx eg q)
  | none =>
    rw [eg] at e
    exact .inr (h' M H xs ts n Q d rx e q)
theorem FnOkV.imp {r : List V → Hp → VK → Prop} {g g' : List Tr → Option Nw} (h : FnOkV G X r g) (i : ∀ a n, g' a = some n → g a = some n) : FnOkV G X r g' := fun M H xs ts n Q d rx e q => h M H xs ts n Q d rx (i _ _ e) q
end
end TV
namespace TV
open PySem PySem.Spec PyProof.Rows L2
def truT : Tr → Option Bool
  | .non => some false
  | .bl b => some b
  | .int i => some (i != 0)
  | .tup ts => some (!ts.isEmpty)
  | .lst ts => some (!ts.isEmpty)
  | _ => none
def tsb (f : Ev) : Tv := fun ρ => andThen (f ρ) fun r ρ1 => match r with
  | .sh (.bl b) => some (.ok b ρ1)
  | _ => none
def tst (f : Ev) : Tv := fun ρ => andThen (f ρ) fun r ρ1 => match r.tr ρ1 with
  | none => none
  | some t => match truT t with
    | none => none
    | some b => some (.ok b ρ1)
def notT (f : Tv) : Tv := fun ρ => andThen (f ρ) fun b ρ1 => some (.ok (!b) ρ1)
def andT (f g : Tv) : Tv := fun ρ => andThen (f ρ) fun b ρ1 => if b = true then g ρ1 else some (.ok false ρ1)
def orT (f g : Tv) : Tv := fun ρ => andThen (f ρ) fun b ρ1 => if b = true then some (.ok true ρ1) else g ρ1
def andE (f g : Ev) : Ev := fun ρ => andThen (f ρ) fun r ρ1 => match r with
  | .sh (.bl b) => if b = true then g ρ1 else some (.ok (.sh (.bl false)) ρ1)
  | _ => none
def orE (f g : Ev) : Ev := fun ρ => andThen (f ρ) fun r ρ1 => match r with
  | .sh (.bl b) => if b = true then some (.ok (.sh (.bl true)) ρ1) else g ρ1
  | _ => none
def notE (f : Ev) : Ev := fun ρ => andThen (f ρ) fun r ρ1 => match r with
  | .sh (.bl b) => some (.ok (.sh (.bl (!b))) ρ1)
  | _ => none
def ifE (c : Tv) (f g : Ev) : Ev := fun ρ => andThen (c ρ) fun b ρ1 => if b = true then f ρ1 else g ρ1
section
variable {G : GS} {X : Cx} {W : WX}
theorem Rep.bl_eq {K : KG} {M : Addr → Prop} {H : Hp} {v : V} {b : Bool} (r : Rep K M H v (.bl b)) : v = .bl b := by cases r; rfl
theorem re_tsb {f : Ev} {t : TE} (ht : ∀ σ H Q, RE G X W f σ H Q → t σ H Q) {σ : L2.St} {H : Hp} {Q : Bool → Hp → Prop} (q : RT G X W (tsb f) σ H Q) : t σ H fun x H' => ∃ k, x = .bl k ∧ Q k H' := by
  obtain ⟨M, ρ, o, L, e, w⟩ := q
  refine ht _ _ _ (RE.stepO L e w fun r v M1 H1 ρ1 g1 l1 L1 R1 e1 => ?_)
  try dsimp only at e1
  split at e1
  · rename_i b
    cases e1
    exact ⟨b, Rep.bl_eq R1, w M1 H1 g1 l1 L1⟩
  · cases e1
theorem st_cmp {op : CmpOp} {r : R2} {g : Tr → Tr → Option Nw} {a b : Expr} {fa fb : Ev} {pos : Pos} (ho : OpR X (compareOp op) r) (h : OpOk G X r g) (ha : PE X a (RE G X W fa)) (hb : PE X b (RE G X W fb)) (hm : behindInMarks op b = false) : PT X (.Compare a [op] [b] pos) (RT G X W (tsb (binE g fa fb))) :=
  pt_imp (pt_cmpR ho ha hb hm) fun _ _ _ q => re_tsb (fun _ _ _ => re_bin h) q
theorem st_val {e : Expr} {f : Ev} (h : PE X e (RE G X W f)) (he : ∀ whole, isTrue e X.env whole = (do let v ← whole; standAt e.pos; holding [v] (truthy v)) := by intro _; rfl) : PT X e (RT G X W (tsb f)) :=
  pt_imp (pt_val h he) fun _ _ _ q => re_tsb (fun _ _ _ => id) q
theorem Rep.tru {K : KG} {M : Addr → Prop} {H : Hp} {v : V} {t : Tr} {b : Bool} (r : RTop K M H v t) (e : truT t = some b) : TruV K.k v H b := by
  cases t with
  | non => cases e; rw [r.non]; rfl
  | bl c => cases e; rw [r.bl]; rfl
  | int c => cases e; rw [r.int]; rfl
  | str _ => cases e
  | tup ts =>
    cases e
    obtain ⟨a, vs, rfl, h, rp⟩ := r.tup
    refine .inr (.inl ⟨vs, h, ?_⟩)
    cases rp <;> rfl
  | lst ts =>
    cases e
    obtain ⟨a, vs, rfl, h, rp⟩ := r.lst
    refine .inl ⟨vs, SqL.of h, ?_⟩
    cases rp <;> rfl
  | dk _ => cases e
  | dt _ => cases e
  | scr _ => cases e
  | adr _ => cases e
theorem st_tru {e : Expr} {f : Ev} (h : PE X e (RE G X W f)) (he : ∀ whole, isTrue e X.env whole = (do let v ← whole; standAt e.pos; holding [v] (truthy v)) := by intro _; rfl) : PT X e (RT G X W (tst f)) := by
  refine pt_imp (pt_truth h he) fun σ H Q ⟨M, ρ, o, L, e, w⟩ => ?_
  refine RE.stepO L e w fun r v M1 H1 ρ1 g1 l1 L1 R1 e1 => ?_
  try dsimp only at e1
  cases et : r.tr ρ1 with
  | none => rw [et] at e1; cases e1
  | some t =>
    rw [et] at e1
    try dsimp only at e1
    cases eb : truT t with
    | none => rw [eb] at e1; cases e1
    | some b =>
      rw [eb] at e1
      cases e1
      exact ⟨b, Rep.tru (R1.top L1 et) eb, w M1 H1 g1 l1 L1⟩
theorem st_not {a : Expr} {f : Tv} {pos : Pos} (h : PT X a (RT G X W f)) : PT X (.UnaryOp .Not a pos) (RT G X W (notT f)) := by
  refine pt_imp (pt_not h) fun σ H Q ⟨M, ρ, o, L, e, w⟩ => ?_
  refine RT.stepO L e w fun b M1 H1 ρ1 g1 l1 L1 e1 => ?_
  cases e1
  exact w M1 H1 g1 l1 L1
theorem RT.on {σ : L2.St} {M M1 : Addr → Prop} {H H1 : Hp} {ρ ρ1 : En} {f : Tv} {o : Ou Bool} {Q : Bool → Hp → Prop} (w : Wn G X W σ M H ρ o fun b M' H' ρ' => Q b H') (g : Go (Owns σ ρ) M H M1 H1) (l : Less ρ ρ1) (L : Rel (kg X G) M H σ ρ) (L1 : Rel (kg X G) M1 H1 σ ρ1) (e : f ρ1 = some o) : RT G X W f σ H1 Q :=
  ⟨M1, ρ1, o, L1, e, w.later g l L.dom⟩
theorem RE.on {σ : L2.St} {M M1 : Addr → Prop} {H H1 : Hp} {ρ ρ1 : En} {f : Ev} {o : Ou Rs} {Q : VK} (w : Wn G X W σ M H ρ o fun r M' H' ρ' => ∀ v, ResAt (kg X G) H M' H' σ ρ' v r → Q v H') (g : Go (Owns σ ρ) M H M1 H1) (l : Less ρ ρ1) (L : Rel (kg X G) M H σ ρ) (L1 : Rel (kg X G) M1 H1 σ ρ1) (e : f ρ1 = some o) : RE G X W f σ H1 Q :=
  ⟨M1, ρ1, o, L1, e, (w.later g l L.dom).mono fun r M' H' ρ' g' l' L' q v R => q v (R.from g.there)⟩
theorem sw_and1 {a : Expr} {f : Tv} {pos : Pos} (h : PT X a (RT G X W f)) : PW X (.BoolOp .And [a] pos) (RT G X W f) := pw_and1 h
theorem sw_or1 {a : Expr} {f : Tv} {pos : Pos} (h : PT X a (RT G X W f)) : PW X (.BoolOp .Or [a] pos) (RT G X W f) := pw_or1 h
theorem sw_and {a b : Expr} {rest : List Expr} {f g : Tv} {pos : Pos} (ha : PT X a (RT G X W f)) (hb : PW X (.BoolOp .And (b :: rest) pos) (RT G X W g)) : PW X (.BoolOp .And (a :: b :: rest) pos) (RT G X W (andT f g)) := by
  refine pw_imp (pw_and ha hb) fun σ H Q ⟨M, ρ, o, L, e, w⟩ => ?_
  refine RT.stepO L e w fun c M1 H1 ρ1 g1 l1 L1 e1 => ?_
  cases c with
  | true => exact RT.on w g1 l1 L L1 e1
  | false => cases e1; exact w M1 H1 g1 l1 L1
theorem sw_or {a b : Expr} {rest : List Expr} {f g : Tv} {pos : Pos} (ha : PT X a (RT G X W f)) (hb : PW X (.BoolOp .Or (b :: rest) pos) (RT G X W g)) : PW X (.BoolOp .Or (a :: b :: rest) pos) (RT G X W (orT f g)) := by
  refine pw_imp (pw_or ha hb) fun σ H Q ⟨M, ρ, o, L, e, w⟩ => ?_
  refine RT.stepO L e w fun c M1 H1 ρ1 g1 l1 L1 e1 => ?_
  cases c with
  | false => exact RT.on w g1 l1 L L1 e1
  | true => cases e1; exact w M1 H1 g1 l1 L1
theorem se_one {op} {a : Expr} {f : Ev} {pos : Pos} (h : PE X a (RE G X W f)) : PE X (.BoolOp op [a] pos) (RE G X W f) := pe_one h
theorem se_and {a b : Expr} {rest : List Expr} {f g : Ev} {pos : Pos} (ha : PE X a (RE G X W f)) (hb : PE X (.BoolOp .And (b :: rest) pos) (RE G X W g)) : PE X (.BoolOp .And (a :: b :: rest) pos) (RE G X W (andE f g)) := by
  refine pe_imp (pe_and ha hb) fun σ H Q ⟨M, ρ, o, L, e, w⟩ => ?_
  refine RE.stepO L e w fun r v M1 H1 ρ1 g1 l1 L1 R1 e1 => ?_
  try dsimp only at e1
  split at e1
  · rename_i c
    refine ⟨c, Rep.bl_eq R1, ?_⟩
    cases c with
    | true => exact RE.on w g1 l1 L L1 e1
    | false => cases e1; exact w M1 H1 g1 l1 L1 _ (Rep.bl _)
  · cases e1
theorem se_or {a b : Expr} {rest : List Expr} {f g : Ev} {pos : Pos} (ha : PE X a (RE G X W f)) (hb : PE X (.BoolOp .Or (b :: rest) pos) (RE G X W g)) : PE X (.BoolOp .Or (a :: b :: rest) pos) (RE G X W (orE f g)) := by
  refine pe_imp (L2.pe_or ha hb) fun σ H Q ⟨M, ρ, o, L, e, w⟩ => ?_
  refine RE.stepO L e w fun r v M1 H1 ρ1 g1 l1 L1 R1 e1 => ?_
  try dsimp only at e1
  split at e1
  · rename_i c
    refine ⟨c, Rep.bl_eq R1, ?_⟩
    cases c with
    | false => exact RE.on w g1 l1 L L1 e1
    | true => cases e1; exact w M1 H1 g1 l1 L1 _ (Rep.bl _)
  · cases e1
theorem se_not {a : Expr} {f : Ev} {pos : Pos} (h : PE X a (RE G X W f)) : PE X (.UnaryOp .Not a pos) (RE G X W (notE f)) := by
  refine pe_imp (pe_not h) fun σ H Q ⟨M, ρ, o, L, e, w⟩ => ?_
  refine RE.stepO L e w fun r v M1 H1 ρ1 g1 l1 L1 R1 e1 => ?_
  try dsimp only at e1
  split at e1
  · rename_i c
    cases e1
    exact ⟨c, Rep.bl_eq R1, w M1 H1 g1 l1 L1 _ (Rep.bl _)⟩
  · cases e1
theorem se_if {c a b : Expr} {fc : Tv} {f g : Ev} {pos : Pos} (hc : PT X c (RT G X W fc)) (ha : PE X a (RE G X W f)) (hb : PE X b (RE G X W g)) : PE X (.IfExp c a b pos) (RE G X W (ifE fc f g)) := by
  refine pe_imp (pe_ifExp hc ha hb) fun σ H Q ⟨M, ρ, o, L, e, w⟩ => ?_
  refine RT.stepO L e w fun b M1 H1 ρ1 g1 l1 L1 e1 => ?_
  cases b with
  | true => exact RE.on w g1 l1 L L1 e1
  | false => exact RE.on w g1 l1 L L1 e1
def negE (f : Ev) : Ev := fun ρ => andThen (f ρ) fun r ρ1 => match r with
  | .sh (.int i) => some (.ok (.sh (.int (-i))) ρ1)
  | _ => none
theorem se_neg {a : Expr} {f : Ev} {pos : Pos} (h : PE X a (RE G X W f)) : PE X (.UnaryOp .USub a pos) (RE G X W (negE f)) := by
  refine pe_imp (pe_un un_neg h) fun σ H Q ⟨M, ρ, o, L, e, w⟩ => ?_
  refine RE.stepO L e w fun r v M1 H1 ρ1 g1 l1 L1 R1 e1 => ?_
  try dsimp only at e1
  split at e1
  · rename_i i
    cases e1
    have hv : v = .int i := by cases R1; rfl
    exact ⟨i, hv, w M1 H1 g1 l1 L1 _ (Rep.int _)⟩
  · cases e1
def gLt : Tr → Tr → Option Nw := gI fun i j => some (.bl (decide (i < j)))
def gLe : Tr → Tr → Option Nw := gI fun i j => some (.bl (decide (i ≤ j)))
def gGt : Tr → Tr → Option Nw := gI fun i j => some (.bl (decide (j < i)))
def gGe : Tr → Tr → Option Nw := gI fun i j => some (.bl (decide (j ≤ i)))
theorem ok_lt : OpOk G X (rI0 fun i j => .bl (decide (i < j))) gLt := ok_int0 fun i j _ e => someBl (f := fun i j => decide (i < j)) e
theorem ok_le : OpOk G X (rI0 fun i j => .bl (decide (i ≤ j))) gLe := ok_int0 fun i j _ e => someBl (f := fun i j => decide (i ≤ j)) e
theorem ok_gt : OpOk G X (rI0 fun i j => .bl (decide (j < i))) gGt := ok_int0 fun i j _ e => someBl (f := fun i j => decide (j < i)) e
theorem ok_ge : OpOk G X (rI0 fun i j => .bl (decide (j ≤ i))) gGe := ok_int0 fun i j _ e => someBl (f := fun i j => decide (j ≤ i)) e
section
variable {a b : Expr} {fa fb : Ev} {pos : Pos} (ha : PE X a (RE G X W fa)) (hb : PE X b (RE G X W fb))
include ha hb
theorem se_lt : PE X (.Compare a [.Lt] [b] pos) (RE G X W (binE gLt fa fb)) := se_cmp op_lt ok_lt ha hb (nomark _)
theorem se_le : PE X (.Compare a [.LtE] [b] pos) (RE G X W (binE gLe fa fb)) := se_cmp op_le ok_le ha hb (nomark _)
theorem se_gt : PE X (.Compare a [.Gt] [b] pos) (RE G X W (binE gGt fa fb)) := se_cmp op_gt ok_gt ha hb (nomark _)
theorem se_ge : PE X (.Compare a [.GtE] [b] pos) (RE G X W (binE gGe fa fb)) := se_cmp op_ge ok_ge ha hb (nomark _)
theorem st_lt : PT X (.Compare a [.Lt] [b] pos) (RT G X W (tsb (binE gLt fa fb))) := st_cmp op_lt ok_lt ha hb (nomark _)
theorem st_le : PT X (.Compare a [.LtE] [b] pos) (RT G X W (tsb (binE gLe fa fb))) := st_cmp op_le ok_le ha hb (nomark _)
theorem st_gt : PT X (.Compare a [.Gt] [b] pos) (RT G X W (tsb (binE gGt fa fb))) := st_cmp op_gt ok_gt ha hb (nomark _)
theorem st_ge : PT X (.Compare a [.GtE] [b] pos) (RT G X W (tsb (binE gGe fa fb))) := st_cmp op_ge ok_ge ha hb (nomark _)
theorem st_eq (hu : X.A.units + 64 < cLine) : PT X (.Compare a [.Eq] [b] pos) (RT G X W (tsb (binE gEq fa fb))) := st_cmp (op_eqD hu) ok_eqD ha hb (nomark _)
theorem st_ne (hu : X.A.units + 64 < cLine) : PT X (.Compare a [.NotEq] [b] pos) (RT G X W (tsb (binE gNe fa fb))) := st_cmp (op_neD hu) ok_neD ha hb (nomark _)
end
def gIs : Tr → Tr → Option Nw
  | .bl a, .bl b => some (.s (.bl (decide (a = b))))
  | .non, .non => some (.s (.bl true))
  | .scr _, _ => none
  | _, .non => some (.s (.bl false))
  | _, _ => none
end
end TV
namespace TV
open PySem PySem.Spec PyProof.Rows L2
def toKey : Tr → Option Key
  | .int i => some (.inl i)
  | .str x => some (.inr x)
  | _ => none
def toKeys : List Tr → Option (List Key)
  | [] => some []
  | t :: ts => match toKey t, toKeys ts with
    | some k, some ks => some (k :: ks)
    | _, _ => none
def getK {κ : Type} [DecidableEq κ] (kvs : List (κ × Tr)) (k : κ) : Option Tr := (kvs.find? fun kv => decide (kv.1 = k)).map (·.2)
def putT {κ : Type} [DecidableEq κ] (kvs : List (κ × Tr)) (k : κ) (v : Tr) : List (κ × Tr) :=
  if (kvs.any fun kv => decide (kv.1 = k)) = true then kvs.map (fun kv => if kv.1 = k then (kv.1, v) else kv) else kvs ++ [(k, v)]
section
variable {K : KG} {M M1 : Addr → Prop} {H H1 : Hp} {σ : L2.St} {ρ : En} {v : V} {t : Tr} {κ : Type} [DecidableEq κ]
theorem RTop.key {k : Key} (r : RTop K M H v t) (e : toKey t = some k) : v = kV k := by
  cases t <;> try cases e
  · exact r.int
  · exact r.str
theorem Reps.keys : ∀ {vs : List V} {ts : List Tr} {ks : List Key}, Reps K M H vs ts → toKeys ts = some ks → vs = ks.map kV
  | _, _, _, .nil, e => by cases e; rfl
  | _, _, _, .cons (ts := ts) h r, e => by
    unfold toKeys at e
    cases q : toKey _ with
    | none => rw [q] at e; cases e
    | some k =>
      cases q2 : toKeys ts with
      | none => rw [q, q2] at e; cases e
      | some ks =>
        rw [q, q2] at e
        cases e
        rw [Reps.keys r q2, RTop.key (.inl h) q]; rfl
theorem getK_rel : ∀ {kvs : List (κ × V)} {tks : List (κ × Tr)} {k : κ}, kvs.map (·.1) = tks.map (·.1) → Reps K M H (kvs.map (·.2)) (tks.map (·.2)) →
    (∀ t, getK tks k = some t → ∃ v, valV kvs k = some v ∧ Rep K M H v t) ∧ (getK tks k = none → valV kvs k = none)
  | [], [], _, _, _ => ⟨fun _ e => by simp [getK] at e, fun _ => rfl⟩
  | [], _ :: _, _, e, _ => by simp at e
  | _ :: _, [], _, e, _ => by simp at e
  | (a, v) :: kvs, (b, t) :: tks, k, e, r => by
    simp only [List.map_cons, List.cons.injEq] at e
    obtain ⟨e1, e2⟩ := e
    subst e1
    cases r with
    | cons h r =>
      have ih := getK_rel (k := k) e2 r
      by_cases q : a = k
      · have g1 : getK ((a, t) :: tks) k = some t := by simp [getK, q]
        have g2 : valV ((a, v) :: kvs) k = some v := by simp [valV, q]
        rw [g1, g2]
        exact ⟨fun t' e' => by cases e'; exact ⟨v, rfl, h⟩, fun e' => by cases e'⟩
      · have g1 : getK ((a, t) :: tks) k = getK tks k := by simp [getK, q]
        have g2 : valV ((a, v) :: kvs) k = valV kvs k := by simp [valV, q]
        rw [g1, g2]
        exact ih
theorem getK_isSome {kvs : List (κ × V)} {tks : List (κ × Tr)} {k : κ} (e : kvs.map (·.1) = tks.map (·.1)) (r : Reps K M H (kvs.map (·.2)) (tks.map (·.2))) : (valV kvs k).isSome = (getK tks k).isSome := by
  obtain ⟨h1, h2⟩ := getK_rel (k := k) e r
  cases q : getK tks k with
  | none => rw [h2 q]; rfl
  | some t => obtain ⟨v, e, _⟩ := h1 t q; rw [e]; rfl
theorem keys_any {kvs : List (κ × V)} {tks : List (κ × Tr)} (k : κ) (e : kvs.map (·.1) = tks.map (·.1)) : (kvs.any fun kv => decide (kv.1 = k)) = (tks.any fun kv => decide (kv.1 = k)) := by
  have h : ∀ {α : Type} (l : List (κ × α)), (l.any fun kv => decide (kv.1 = k)) = ((l.map (·.1)).any fun x => decide (x = k)) := fun l => by rw [List.any_map]; rfl
  rw [h, h, e]
theorem put_rel {kvs : List (κ × V)} {tks : List (κ × Tr)} {k : κ} (e : kvs.map (·.1) = tks.map (·.1)) (r : Reps K M H (kvs.map (·.2)) (tks.map (·.2))) (h : Rep K M H v t) :
    (putK kvs k v).map (·.1) = (putT tks k t).map (·.1) ∧ Reps K M H ((putK kvs k v).map (·.2)) ((putT tks k t).map (·.2)) := by
  unfold putK putT
  rw [keys_any k e]
  split
  · have go : ∀ {kvs : List (κ × V)} {tks : List (κ × Tr)}, kvs.map (·.1) = tks.map (·.1) → Reps K M H (kvs.map (·.2)) (tks.map (·.2)) →
        (kvs.map fun kv => if kv.1 = k then (kv.1, v) else kv).map (·.1) = (tks.map fun kv => if kv.1 = k then (kv.1, t) else kv).map (·.1) ∧
        Reps K M H ((kvs.map fun kv => if kv.1 = k then (kv.1, v) else kv).map (·.2)) ((tks.map fun kv => if kv.1 = k then (kv.1, t) else kv).map (·.2)) := by
      intro kvs
      induction kvs with
      | nil =>
        intro tks e r
        cases tks with
        | nil => exact ⟨rfl, .nil⟩
        | cons _ _ => simp at e
      | cons p kvs ih =>
        intro tks e r
        cases tks with
        | nil => simp at e
        | cons q tks =>
          obtain ⟨a, x⟩ := p
          obtain ⟨b, y⟩ := q
          simp only [List.map_cons, List.cons.injEq] at e
          obtain ⟨e1, e2⟩ := e
          subst e1
          cases r with
          | cons hh r =>
            obtain ⟨i1, i2⟩ := ih e2 r
            by_cases c : a = k
            · simp only [List.map_cons, if_pos c]
              exact ⟨by rw [i1], .cons h i2⟩
            · simp only [List.map_cons, if_neg c]
              exact ⟨by rw [i1], .cons hh i2⟩
    exact go e r
  · simp only [List.map_append, List.map_cons, List.map_nil]
    exact ⟨by rw [e], r.append (.cons h .nil)⟩
theorem keys_len {kvs : List (κ × V)} {tks : List (κ × Tr)} (e : kvs.map (·.1) = tks.map (·.1)) : kvs.length = tks.length := by
  have := congrArg List.length e
  simpa using this
theorem Reps.atI {vs : List V} {ts : List Tr} {i : Int} (r : Reps K M H vs ts) (e : L2.atI ts i = some t) : ∃ v, L2.atI vs i = some v ∧ Rep K M H v t := by
  unfold L2.atI at e ⊢
  rw [r.length]
  cases q : L2.ixN ts.length i with
  | none => rw [q] at e; cases e
  | some j =>
    rw [q] at e
    exact r.get e
end
def DGetS (K : PySem.W.Frag) (H : Hp) (a : Addr) (y : V) (r : Option V) : Prop :=
  (∃ kvs k, Rd H a (.dK kvs) ∧ y = kV k ∧ r = valV kvs k) ∨ ∃ kvs k b, Rd H a (.dT kvs) ∧ y = .ref b ∧ SqT K H b (k.map kV) ∧ r = valV kvs k
section
variable {X : Cx} {pins : List (Addr × Obj)} {σ : L2.St} {H : Hp} {s : Shared} {a b : Addr} {y v : V} {u : Value} {o : Option V} {A : Around} {E : Value → Shared → Prop}
theorem keyS_of {ks : List Key} (I : Inv X pins σ H s) (e : SqT X.K H b (ks.map kV)) : (tupleKind (mixKind X.prog X.w)).is s.heap ks b := by
  obtain ⟨its, r, ⟨o, h1, h2, n, h3⟩, _⟩ := I.tuple e
  exact ⟨o, its.toArray, n, h1, h2, h3, by simpa using items_are r⟩
theorem dS_getItem {Q : Value → Shared → Prop} (hu : A.units + 1 < cLine) (I : Inv X pins σ H s) (g : DGetS X.K H a y (some v)) (ry : RelV y u) (h : ∀ w' s', Inv X pins σ H s' → RelV v w' → Q w' s') :
    wpAny (model X.prog X.w) A (getItem (.ref a) u) Q E s := by
  rcases g with ⟨kvs, k, e, ey, l⟩ | ⟨kvs, k, b, e, ey, eb, l⟩
  · exact d_getItem hu I (.inl ⟨kvs, k, e, ey, l⟩) ry h
  · subst ey
    cases (show u = Value.ref b from ry)
    obtain ⟨z, hd, xs, rel, dd⟩ := dt_rd I.hok e
    obtain ⟨w', hw, rw'⟩ := RelO.some_of (v := v) (o := (atKey xs k).map (·.2)) (by rw [l]; exact rel.val k)
    obtain ⟨p, hp, hp2⟩ := Option.map_eq_some_iff.mp hw
    refine wpAny_getItem_heap (tupleKind_room_in1 hu) (keyS_of I eb) dd hp ?_
    rw [hp2]
    exact h w' _ (I.tok _) rw'
theorem dS_in {Q : Value → Shared → Prop} (hu : A.units + 1 < cLine) (I : Inv X pins σ H s) (g : DGetS X.K H a y o) (ry : RelV y u) (h : ∀ s', Inv X pins σ H s' → Q (.bool o.isSome) s') :
    wpAny (model X.prog X.w) A (compareOp .In u (.ref a)) Q E s := by
  rcases g with ⟨kvs, k, e, ey, l⟩ | ⟨kvs, k, b, e, ey, eb, l⟩
  · exact d_in hu I (.inl ⟨kvs, k, e, ey, l⟩) ry h
  · subst ey
    cases (show u = Value.ref b from ry)
    obtain ⟨z, hd, xs, rel, dd⟩ := dt_rd I.hok e
    refine wpAny_in_heap (tupleKind_room_in1 hu) (keyS_of I eb) hd dd ?_
    have q := (rel.val k).isSome_eq
    rw [Option.isSome_map] at q
    rw [← q, ← l]
    exact h _ (I.tok _)
theorem dS_notIn {Q : Value → Shared → Prop} (hu : A.units + 1 < cLine) (I : Inv X pins σ H s) (g : DGetS X.K H a y o) (ry : RelV y u) (h : ∀ s', Inv X pins σ H s' → Q (.bool (!o.isSome)) s') :
    wpAny (model X.prog X.w) A (compareOp .NotIn u (.ref a)) Q E s := by
  rcases g with ⟨kvs, k, e, ey, l⟩ | ⟨kvs, k, b, e, ey, eb, l⟩
  · exact d_notIn hu I (.inl ⟨kvs, k, e, ey, l⟩) ry h
  · subst ey
    cases (show u = Value.ref b from ry)
    obtain ⟨z, hd, xs, rel, dd⟩ := dt_rd I.hok e
    refine wpAny_notIn_heap (tupleKind_room_in1 hu) (keyS_of I eb) hd dd ?_
    have q := (rel.val k).isSome_eq
    rw [Option.isSome_map] at q
    rw [← q, ← l]
    exact h _ (I.tok _)
theorem dictS_ty (I : Inv X pins σ H s) (g : DGetS X.K H a y o) : s.TypeIs (.ref a) "dict" := by
  rcases g with ⟨kvs, k, e, _, _⟩ | ⟨kvs, k, b, e, _, _, _⟩
  · obtain ⟨_, _, vs, _, dd⟩ := dk_rd I.hok e
    exact dd.typeIs
  · obtain ⟨_, _, xs, _, dd⟩ := dt_rd I.hok e
    exact dd.typeIs
def rDGet (K : PySem.W.Frag) : R2 := fun x y H Q => ∃ a v, x = .ref a ∧ DGetS K H a y (some v) ∧ Q v H
def rDIn (K : PySem.W.Frag) (neg : Bool) : R2 := fun y x H Q => ∃ a o, x = .ref a ∧ DGetS K H a y o ∧ Q (.bl (if neg then !o.isSome else o.isSome)) H
theorem pe_dgetS {o i : Expr} {td ty : TE} {pos : Pos} (hu : X.A.units + 1 < cLine) (ho : PE X o td) (hi : PE X i ty) (hs : NoSl i) : PE X (.Subscript o i pos) (tOp (rDGet X.K) td ty) := by
  refine ⟨fun pins s σ H Q I h => ?_⟩
  refine subD_of PySem.F.slot_dict_getitem.lookup hs (thn (ho.run pins s σ H _ I h) fun u s1 ⟨x, H1, I1, rx, q1⟩ => thn (hi.run pins s1 σ H1 _ I1 q1) fun iv s2 ⟨y, H2, I2, ry, a, v, ex, g, q2⟩ => ?_)
  subst ex
  obtain rfl : u = Value.ref a := rx
  exact ⟨dictS_ty I2 g, dS_getItem hu I2 g ry fun w' s3 I3 rw' => ⟨v, H2, I3, rw', q2⟩⟩
theorem op_dIn (hu : X.A.units + 1 < cLine) : OpR X (compareOp .In) (rDIn X.K false) := by
  intro pins s σ H y x iv u Q I ry rx h
  obtain ⟨a, o, rfl, g, q⟩ := h
  cases rx
  exact dS_in hu I g ry fun s3 I3 => ⟨.bl o.isSome, H, I3, rfl, q⟩
theorem op_dNotIn (hu : X.A.units + 1 < cLine) : OpR X (compareOp .NotIn) (rDIn X.K true) := by
  intro pins s σ H y x iv u Q I ry rx h
  obtain ⟨a, o, rfl, g, q⟩ := h
  cases rx
  exact dS_notIn hu I g ry fun s3 I3 => ⟨.bl (!o.isSome), H, I3, rfl, q⟩
end
def gIxS : Tr → Tr → Option Nw
  | .lst ts, .int i => (atI ts i).map .s
  | .tup ts, .int i => (atI ts i).map .s
  | .scr ns, .int i => (atI ns i).map fun n => .s (.int n)
  | .str z, .int i => if z.length ≤ sizeLine then (atI z.cps.toList i).map fun c => .s (.str ⟨#[c]⟩) else none
  | _, _ => none
def getD (d k : Tr) : Option (Option Tr) := match d, k with
  | .dk kvs, k => (toKey k).map fun k => getK kvs k
  | .dt kvs, .tup ks => (toKeys ks).map fun k => getK kvs k
  | _, _ => none
def gIxD (d k : Tr) : Option Nw := match getD d k with
  | some (some t) => some (.s t)
  | _ => none
def isDict : Tr → Bool
  | .dk _ => true
  | .dt _ => true
  | _ => false
def gIx (a b : Tr) : Option Nw := if isDict a = true then gIxD a b else gIxS a b
section
variable {G : GS} {X : Cx} {W : WX}
theorem getD_ok {M : Addr → Prop} {H : Hp} {x y : V} {tx ty : Tr} {r : Option Tr} (rx : RTop (kg X G) M H x tx) (ry : RTop (kg X G) M H y ty) (e : getD tx ty = some r) :
    ∃ a o, x = .ref a ∧ DGetS X.K H a y o ∧ o.isSome = r.isSome ∧ ∀ t, r = some t → ∃ v, o = some v ∧ Rep (kg X G) M H v t := by
  cases tx <;> try cases e
  · rename_i kvs
    obtain ⟨a, kv, rfl, h, e1, rp⟩ := rx.dk
    unfold getD at e
    dsimp only at e
    cases q : toKey ty with
    | none => rw [q] at e; cases e
    | some k =>
      rw [q] at e
      cases e
      refine ⟨a, _, rfl, .inl ⟨kv, k, .inl h, ry.key q, rfl⟩, getK_isSome e1 rp, fun t ht => ?_⟩
      obtain ⟨v, h1, h2⟩ := (getK_rel e1 rp).1 t ht
      exact ⟨v, h1, h2⟩
  · rename_i kvs
    obtain ⟨a, kv, rfl, h, e1, rp⟩ := rx.dt
    cases ty <;> try cases e
    rename_i ks
    unfold getD at e
    dsimp only at e
    cases q : toKeys ks with
    | none => rw [q] at e; cases e
    | some k =>
      rw [q] at e
      cases e
      obtain ⟨b, vs, rfl, hb, rb⟩ := ry.tup
      have ev := rb.keys q
      subst ev
      refine ⟨a, _, rfl, .inr ⟨kv, k, b, .inl h, rfl, hb, rfl⟩, getK_isSome e1 rp, fun t ht => ?_⟩
      obtain ⟨v, h1, h2⟩ := (getK_rel e1 rp).1 t ht
      exact ⟨v, h1, h2⟩
theorem ok_ixD : OpOk G X (rDGet X.K) gIxD := by
  intro M H x y tx ty n Q d rx ry e q
  unfold gIxD at e
  cases eg : getD tx ty with
  | none => rw [eg] at e; cases e
  | some r =>
    cases r with
    | none => rw [eg] at e; cases e
    | some t =>
      rw [eg] at e
      cases e
      obtain ⟨a, o, rfl, g, _, h⟩ := getD_ok rx ry eg
      obtain ⟨v, rfl, rp⟩ := h t rfl
      exact ⟨a, v, rfl, g, fin0 d q rp⟩
theorem ok_ixS : OpOk G X (rIx X.K) gIxS := by
  intro M H x y tx ty n Q d rx ry e q
  cases tx <;> cases ty <;> try cases e
  all_goals (unfold gIxS at e; dsimp only at e)
  · rename_i z i
    split at e
    · rename_i c
      cases eg : atI z.cps.toList i with
      | none => rw [eg] at e; cases e
      | some ch =>
        rw [eg] at e
        cases e
        exact .inr (.inr ⟨z, i, ch, rx.str, ry.int, c, eg, fin0 d q (.str _)⟩)
    · cases e
  · rename_i ts i
    cases eg : atI ts i with
    | none => rw [eg] at e; cases e
    | some t =>
      rw [eg] at e
      cases e
      obtain ⟨a, vs, rfl, h, rp⟩ := rx.tup
      obtain ⟨v, ev, r⟩ := rp.atI eg
      exact .inr (.inl ⟨a, vs, i, v, rfl, ry.int, h, ev, fin0 d q r⟩)
  · rename_i ts i
    cases eg : atI ts i with
    | none => rw [eg] at e; cases e
    | some t =>
      rw [eg] at e
      cases e
      obtain ⟨a, vs, rfl, h, rp⟩ := rx.lst
      obtain ⟨v, ev, r⟩ := rp.atI eg
      exact .inl ⟨a, vs, i, v, rfl, ry.int, SqL.of h, ev, fin0 d q r⟩
  · rename_i ns i
    cases eg : atI ns i with
    | none => rw [eg] at e; cases e
    | some t =>
      rw [eg] at e
      cases e
      obtain ⟨a, rfl, h⟩ := rx.scr
      refine .inl ⟨a, _, i, .int t, rfl, ry.int, h, ?_, fin0 d q (.int _)⟩
      unfold L2.atI at eg ⊢
      rw [List.length_map]
      cases q : L2.ixN ns.length i with
      | none => rw [q] at eg; cases eg
      | some j =>
        rw [q] at eg
        show (ns.map V.int)[j]? = _
        rw [List.getElem?_map, show ns[j]? = some t from eg]; rfl
theorem re_split (p : Tr → Bool) {g : Tr → Tr → Option Nw} {fa fb : Ev} {σ : L2.St} {H : Hp} {Q : VK} (q : RE G X W (binE g fa fb) σ H Q) :
    RE G X W (binE (fun a b => if p a = true then g a b else none) fa fb) σ H Q ∨ RE G X W (binE (fun a b => if p a = true then none else g a b) fa fb) σ H Q := by
  obtain ⟨M, ρ, o, L, e, w⟩ := q
  unfold binE at e
  cases ea : fa ρ with
  | none => rw [ea] at e; cases e
  | some oa =>
    cases oa with
    | ex c ρ1 => exact .inl ⟨M, ρ, o, L, by unfold binE; rw [ea]; rw [ea] at e; exact e, w⟩
    | ok ra ρ1 =>
      rw [ea] at e
      simp only [andThen_ok] at e
      cases eb : fb ρ1 with
      | none => rw [eb] at e; cases e
      | some ob =>
        cases ob with
        | ex c ρ2 => exact .inl ⟨M, ρ, o, L, by unfold binE; rw [ea]; simp only [andThen_ok]; rw [eb]; rw [eb] at e; exact e, w⟩
        | ok rb ρ2 =>
          rw [eb] at e
          simp only [andThen_ok] at e
          cases ta : ra.tr ρ2 with
          | none => rw [ta] at e; cases e
          | some a =>
            cases tb : rb.tr ρ2 with
            | none => rw [ta, tb] at e; cases e
            | some b =>
              rw [ta, tb] at e
              cases c : p a with
              | true => exact .inl ⟨M, ρ, o, L, by unfold binE; rw [ea]; simp only [andThen_ok]; rw [eb]; simp only [andThen_ok, ta, tb, c, if_true]; exact e, w⟩
              | false => exact .inr ⟨M, ρ, o, L, by unfold binE; rw [ea]; simp only [andThen_ok]; rw [eb]; simp only [andThen_ok, ta, tb, c, Bool.false_eq_true, if_false]; exact e, w⟩
theorem se_ix {a b : Expr} {fa fb : Ev} {pos : Pos} (hu : X.A.units + 64 < cLine) (ha : PE X a (RE G X W fa)) (hb : PE X b (RE G X W fb)) (hs : PlainIx b) (hs2 : NoSl b) : PE X (.Subscript a b pos) (RE G X W (binE gIx fa fb)) := by
  refine pe_alt (pe_dgetS (by omega) ha hb hs2) (pe_ix ix_seq ha hb hs) fun σ H Q q => ?_
  refine (re_split isDict q).imp (fun q => re_bin (OpOk.imp ok_ixD fun a b n e => ?_) q) fun q => re_bin (OpOk.imp ok_ixS fun a b n e => ?_) q
  · split at e
    · rename_i c; unfold gIx at e; rw [if_pos c] at e; exact e
    · cases e
  · split at e
    · cases e
    · rename_i c; unfold gIx at e; rw [if_neg c] at e; exact e
def gInD (neg : Bool) (a b : Tr) : Option Nw := match getD b a with
  | some o => some (.s (.bl (if neg then !o.isSome else o.isSome)))
  | none => none
theorem ok_inD {neg : Bool} : OpOk G X (rDIn X.K neg) (gInD neg) := by
  intro M H x y tx ty n Q d rx ry e q
  unfold gInD at e
  cases eg : getD ty tx with
  | none => rw [eg] at e; cases e
  | some r =>
    rw [eg] at e
    cases e
    obtain ⟨a, o, rfl, g, h, _⟩ := getD_ok ry rx eg
    refine ⟨a, o, rfl, g, ?_⟩
    rw [h]
    exact fin0 d q (.bl _)
def gInL (neg : Bool) : Tr → Tr → Option Nw
  | a, .lst ts => if (shp a && shp (.lst ts)) = true then some (.s (.bl (if neg then !memT a ts else memT a ts))) else none
  | _, _ => none
def gInT (neg : Bool) : Tr → Tr → Option Nw
  | a, .tup ts => if (shp a && shp (.tup ts)) = true then some (.s (.bl (if neg then !memT a ts else memT a ts))) else none
  | _, _ => none
theorem dp_lst {K : KG} {M : Addr → Prop} {H : Hp} {y : V} {ts : List Tr} (r : RTop K M H y (.lst ts)) (c : shp (.lst ts) = true) : Dp K.k H y (.list (dats ts)) := by
  have := r.dp c
  rwa [dat] at this
theorem dp_tup {K : KG} {M : Addr → Prop} {H : Hp} {y : V} {ts : List Tr} (r : RTop K M H y (.tup ts)) (c : shp (.tup ts) = true) : Dp K.k H y (.tuple (dats ts)) := by
  have := r.dp c
  rwa [dat] at this
theorem ok_inL : OpOk G X (rInD X.K) (gInL false) := by
  intro M H x y tx ty n Q d rx ry e q
  cases ty <;> try cases e
  unfold gInL at e
  dsimp only at e
  split at e
  · rename_i ts c
    cases e
    simp only [Bool.and_eq_true] at c
    refine ⟨dat tx, dats ts, rx.dp c.1, dp_lst ry c.2, c.1, by have := c.2; unfold shp at this; rwa [dat] at this, ?_⟩
    rw [memT_dats]
    exact fin0 d q (.bl _)
  · cases e
theorem ok_notInL : OpOk G X (rNotInD X.K) (gInL true) := by
  intro M H x y tx ty n Q d rx ry e q
  cases ty <;> try cases e
  unfold gInL at e
  dsimp only at e
  split at e
  · rename_i ts c
    cases e
    simp only [Bool.and_eq_true] at c
    refine ⟨dat tx, dats ts, rx.dp c.1, dp_lst ry c.2, c.1, by have := c.2; unfold shp at this; rwa [dat] at this, ?_⟩
    rw [memT_dats]
    exact fin0 d q (.bl _)
  · cases e
theorem ok_inT : OpOk G X (rInT X.K) (gInT false) := by
  intro M H x y tx ty n Q d rx ry e q
  cases ty <;> try cases e
  unfold gInT at e
  dsimp only at e
  split at e
  · rename_i ts c
    cases e
    simp only [Bool.and_eq_true] at c
    refine ⟨dat tx, dats ts, rx.dp c.1, dp_tup ry c.2, c.1, by have := c.2; unfold shp at this; rwa [dat] at this, ?_⟩
    rw [memT_dats]
    exact fin0 d q (.bl _)
  · cases e
theorem ok_notInT : OpOk G X (rNotInT X.K) (gInT true) := by
  intro M H x y tx ty n Q d rx ry e q
  cases ty <;> try cases e
  unfold gInT at e
  dsimp only at e
  split at e
  · rename_i ts c
    cases e
    simp only [Bool.and_eq_true] at c
    refine ⟨dat tx, dats ts, rx.dp c.1, dp_tup ry c.2, c.1, by have := c.2; unfold shp at this; rwa [dat] at this, ?_⟩
    rw [memT_dats]
    exact fin0 d q (.bl _)
  · cases e
def inS (x y : Str) : Bool := !(Builtin.Str.occurrences y x 0 y.length 1).isEmpty
def gInS (neg : Bool) : Tr → Tr → Option Nw
  | .str x, .str y => some (.s (.bl (if neg then !inS x y else inS x y)))
  | _, _ => none
theorem ok_inS : OpOk G X (fun x y H Q => ∃ i j, x = .str i ∧ y = .str j ∧ Q (.bl (!(Builtin.Str.occurrences j i 0 j.length 1).isEmpty)) H) (gInS false) := by
  intro M H x y tx ty n Q d rx ry e q
  cases tx <;> cases ty <;> try cases e
  exact ⟨_, _, rx.str, ry.str, fin0 d q (.bl _)⟩
theorem ok_notInS : OpOk G X (fun x y H Q => ∃ i j, x = .str i ∧ y = .str j ∧ Q (.bl (!(!(Builtin.Str.occurrences j i 0 j.length 1).isEmpty))) H) (gInS true) := by
  intro M H x y tx ty n Q d rx ry e q
  cases tx <;> cases ty <;> try cases e
  exact ⟨_, _, rx.str, ry.str, fin0 d q (.bl _)⟩
def gIn (neg : Bool) (a b : Tr) : Option Nw := match b with
  | .lst ts => if (shp a && shp (.lst ts)) = true then some (.s (.bl (if neg then !memT a ts else memT a ts))) else none
  | .tup ts => if (shp a && shp (.tup ts)) = true then some (.s (.bl (if neg then !memT a ts else memT a ts))) else none
  | .str y => match a with
    | .str x => some (.s (.bl (if neg then !inS x y else inS x y)))
    | _ => none
  | d => match getD d a with
    | some o => some (.s (.bl (if neg then !o.isSome else o.isSome)))
    | none => none
theorem gIn_imp {neg : Bool} (a b : Tr) (n : Nw) (e : gIn neg a b = some n) : (match gInD neg a b with | some n => some n | none => match gInL neg a b with | some n => some n | none => match gInT neg a b with | some n => some n | none => gInS neg a b) = some n := by
  cases b
  case str y =>
    cases a <;> try cases e
    rfl
  case tup ts =>
    unfold gIn at e
    dsimp only at e
    split at e
    · rename_i c
      cases e
      have h1 : gInD neg a (.tup ts) = none := rfl
      have h2 : gInL neg a (.tup ts) = none := rfl
      rw [h1, h2]
      simp only [gInT, if_pos c]
    · cases e
  case lst ts =>
    unfold gIn at e
    dsimp only at e
    split at e
    · rename_i c
      cases e
      have h1 : gInD neg a (.lst ts) = none := rfl
      rw [h1]
      simp only [gInL, if_pos c]
    · cases e
  case dk kvs =>
    have h : gInD neg a (.dk kvs) = some n := e
    rw [h]
  case dt kvs =>
    have h : gInD neg a (.dt kvs) = some n := e
    rw [h]
  all_goals cases e
section
variable {a b : Expr} {fa fb : Ev} {pos : Pos} (hu : X.A.units + 65 < cLine) (ha : PE X a (RE G X W fa)) (hb : PE X b (RE G X W fb)) (hm : behindInMarks .In b = false)
include hu ha hb hm
theorem se_in : PE X (.Compare a [.In] [b] pos) (RE G X W (binE (gIn false) fa fb)) :=
  se_cmp ((op_dIn (by omega)).or ((op_inD hu).or ((op_inT hu).or op_in_str))) (OpOk.imp (ok_inD.or (ok_inL.or (ok_inT.or ok_inS))) gIn_imp) ha hb hm
theorem st_in : PT X (.Compare a [.In] [b] pos) (RT G X W (tsb (binE (gIn false) fa fb))) :=
  st_cmp ((op_dIn (by omega)).or ((op_inD hu).or ((op_inT hu).or op_in_str))) (OpOk.imp (ok_inD.or (ok_inL.or (ok_inT.or ok_inS))) gIn_imp) ha hb hm
end
section
variable {a b : Expr} {fa fb : Ev} {pos : Pos} (hu : X.A.units + 65 < cLine) (ha : PE X a (RE G X W fa)) (hb : PE X b (RE G X W fb)) (hm : behindInMarks .NotIn b = false)
include hu ha hb hm
theorem se_notIn : PE X (.Compare a [.NotIn] [b] pos) (RE G X W (binE (gIn true) fa fb)) :=
  se_cmp ((op_dNotIn (by omega)).or ((op_notInD hu).or ((op_notInT hu).or op_notin_str))) (OpOk.imp (ok_inD.or (ok_notInL.or (ok_notInT.or ok_notInS))) gIn_imp) ha hb hm
theorem st_notIn : PT X (.Compare a [.NotIn] [b] pos) (RT G X W (tsb (binE (gIn true) fa fb))) :=
  st_cmp ((op_dNotIn (by omega)).or ((op_notInD hu).or ((op_notInT hu).or op_notin_str))) (OpOk.imp (ok_inD.or (ok_notInL.or (ok_notInT.or ok_notInS))) gIn_imp) ha hb hm
end
end
end TV
namespace TV
open PySem PySem.Spec PyProof.Rows L2
inductive So where
  | nx (ρ : En) | rt (r : Rs) (ρ : En) | bk (ρ : En) | ct (ρ : En) | ex (c : Str) (ρ : En)
abbrev Sv := En → Option So
structure Stp (P : List Nat) (σ : L2.St) (ρ : En) (M : Addr → Prop) (H : Hp) (σ' : L2.St) (ρ' : En) (M' : Addr → Prop) (H' : Hp) : Prop where
  go : Go (Owns σ ρ) M H M' H'
  sub : ∀ a, Owns σ' ρ' a → Owns σ ρ a ∨ H a = none
  fix : ∀ (i : Nat), i ∈ P → σ'[i]? = σ[i]? ∧ ∀ s : Sl, ρ'[i]? = some s → s.own = true → ∃ s0, ρ[i]? = some s0 ∧ s0.own = true
section
variable {P : List Nat} {σ σ1 σ2 : L2.St} {ρ ρ1 ρ2 : En} {M M1 M2 : Addr → Prop} {H H1 H2 : Hp}
theorem Stp.trans (s : Stp P σ ρ M H σ1 ρ1 M1 H1) (t : Stp P σ1 ρ1 M1 H1 σ2 ρ2 M2 H2) (d : ∀ a, M a → H a ≠ none) : Stp P σ ρ M H σ2 ρ2 M2 H2 where
  go := s.go.trans t.go s.sub d
  sub := fun a h => (t.sub a h).elim (s.sub a) fun z => .inr (by
    by_cases q : H a = none
    · exact q
    · exact absurd z (s.go.there a q))
  fix := fun i hi => ⟨(t.fix i hi).1.trans (s.fix i hi).1, fun x e o => by
    obtain ⟨s1, e1, o1⟩ := (t.fix i hi).2 x e o
    exact (s.fix i hi).2 s1 e1 o1⟩
theorem Stp.refl : Stp P σ ρ M H σ ρ M H := ⟨.refl, fun _ h => .inl h, fun _ _ => ⟨rfl, fun s e o => ⟨s, e, o⟩⟩⟩
theorem Stp.expr (g : Go (Owns σ ρ) M H M1 H1) (l : Less ρ ρ1) : Stp P σ ρ M H σ ρ1 M1 H1 := ⟨g, fun _ h => .inl (l.owns h), fun i _ => ⟨rfl, fun s e o => l i s e o⟩⟩
theorem Stp.go0 (g : Go0 M H M1 H1) : Stp P σ ρ M H σ ρ M1 H1 := .expr g.of0 .refl
end
def Ws (G : GS) (X : Cx) (W : WX) (P : List Nat) (σ : L2.St) (M : Addr → Prop) (H : Hp) (ρ : En) (o : So) (D : Ends) : Prop := match o with
  | .nx ρ' => ∀ σ' M' H', Stp P σ ρ M H σ' ρ' M' H' → Rel (kg X G) M' H' σ' ρ' → D.nx σ' H'
  | .bk ρ' => ∀ σ' M' H', Stp P σ ρ M H σ' ρ' M' H' → Rel (kg X G) M' H' σ' ρ' → D.bk σ' H'
  | .ct ρ' => ∀ σ' M' H', Stp P σ ρ M H σ' ρ' M' H' → Rel (kg X G) M' H' σ' ρ' → D.ct σ' H'
  | .rt r ρ' => ∀ v σ' M' H', Stp P σ ρ M H σ' ρ' M' H' → Rel (kg X G) M' H' σ' ρ' → ResAt (kg X G) H M' H' σ' ρ' v r → D.rt v H'
  | .ex c ρ' => ∀ C σ' M' H', X.mg c = some (.ref C) → Stp P σ ρ M H σ' ρ' M' H' → Rel (kg X G) M' H' σ' ρ' → W (.ref C) none σ' H'
def RS (G : GS) (X : Cx) (W : WX) (P : List Nat) (f : Sv) : TS := fun D σ H => ∃ (M : Addr → Prop) (ρ : En) (o : So), Rel (kg X G) M H σ ρ ∧ f ρ = some o ∧ Ws G X W P σ M H ρ o D
section
variable {G : GS} {X : Cx} {W : WX} {P : List Nat} {σ σ1 : L2.St} {ρ ρ1 : En} {M M1 : Addr → Prop} {H H1 : Hp} {D D' : Ends} {o : So}
theorem Ws.later (h : Ws G X W P σ M H ρ o D) (s : Stp P σ ρ M H σ1 ρ1 M1 H1) (d : ∀ a, M a → H a ≠ none) : Ws G X W P σ1 M1 H1 ρ1 o D := by
  cases o with
  | nx ρ' => exact fun σ' M' H' t L => h σ' M' H' (s.trans t d) L
  | bk ρ' => exact fun σ' M' H' t L => h σ' M' H' (s.trans t d) L
  | ct ρ' => exact fun σ' M' H' t L => h σ' M' H' (s.trans t d) L
  | rt r ρ' => exact fun v σ' M' H' t L R => h v σ' M' H' (s.trans t d) L (R.from s.go.there)
  | ex c ρ' => exact fun C σ' M' H' m t L => h C σ' M' H' m (s.trans t d) L
def thenS {α : Type} (x : Option (Ou α)) (k : α → En → Option So) : Option So := match x with
  | none => none
  | some (.ex c ρ) => some (.ex c ρ)
  | some (.ok a ρ) => k a ρ
@[simp] theorem thenS_ok {α : Type} (a : α) (ρ : En) (k : α → En → Option So) : thenS (some (.ok a ρ)) k = k a ρ := rfl
@[simp] theorem thenS_ex {α : Type} (c : Str) (ρ : En) (k : α → En → Option So) : thenS (some (.ex c ρ)) k = some (.ex c ρ) := rfl
@[simp] theorem thenS_none {α : Type} (k : α → En → Option So) : thenS none k = none := rfl
theorem RE.stepS {f : Ev} {k : Rs → En → Option So} {Q : VK} (L : Rel (kg X G) M H σ ρ) (e : thenS (f ρ) k = some o) (h : Ws G X W P σ M H ρ o D)
    (q : ∀ r v M1 H1 ρ1, Go (Owns σ ρ) M H M1 H1 → Less ρ ρ1 → Rel (kg X G) M1 H1 σ ρ1 → ResAt (kg X G) H M1 H1 σ ρ1 v r → k r ρ1 = some o → Q v H1) : RE G X W f σ H Q := by
  cases ef : f ρ with
  | none => rw [ef] at e; cases e
  | some o1 =>
    rw [ef] at e
    cases o1 with
    | ex c ρ1 => cases e; exact ⟨M, ρ, _, L, ef, fun C M' H' m g l L' => h C σ M' H' m (.expr g l) L'⟩
    | ok r ρ1 => exact ⟨M, ρ, _, L, ef, fun M1 H1 g l L1 v R => q r v M1 H1 ρ1 g l L1 R e⟩
theorem RT.stepS {f : Tv} {k : Bool → En → Option So} {Q : Bool → Hp → Prop} (L : Rel (kg X G) M H σ ρ) (e : thenS (f ρ) k = some o) (h : Ws G X W P σ M H ρ o D)
    (q : ∀ r M1 H1 ρ1, Go (Owns σ ρ) M H M1 H1 → Less ρ ρ1 → Rel (kg X G) M1 H1 σ ρ1 → k r ρ1 = some o → Q r H1) : RT G X W f σ H Q := by
  cases ef : f ρ with
  | none => rw [ef] at e; cases e
  | some o1 =>
    rw [ef] at e
    cases o1 with
    | ex c ρ1 => cases e; exact ⟨M, ρ, _, L, ef, fun C M' H' m g l L' => h C σ M' H' m (.expr g l) L'⟩
    | ok r ρ1 => exact ⟨M, ρ, _, L, ef, fun M1 H1 g l L1 => q r M1 H1 ρ1 g l L1 e⟩
theorem RA.stepS {f : Av} {k : List Rs → En → Option So} {Q : List V → Hp → Prop} (L : Rel (kg X G) M H σ ρ) (e : thenS (f ρ) k = some o) (h : Ws G X W P σ M H ρ o D)
    (q : ∀ r vs M1 H1 ρ1, Go (Owns σ ρ) M H M1 H1 → Less ρ ρ1 → Rel (kg X G) M1 H1 σ ρ1 → ArgsAt (kg X G) M1 H1 σ vs r → k r ρ1 = some o → Q vs H1) : RA G X W f σ H Q := by
  cases ef : f ρ with
  | none => rw [ef] at e; cases e
  | some o1 =>
    rw [ef] at e
    cases o1 with
    | ex c ρ1 => cases e; exact ⟨M, ρ, _, L, ef, fun C M' H' m g l L' => h C σ M' H' m (.expr g l) L'⟩
    | ok r ρ1 => exact ⟨M, ρ, _, L, ef, fun M1 H1 g l L1 vs R => q r vs M1 H1 ρ1 g l L1 R e⟩
def skipS : Sv := fun ρ => some (.nx ρ)
def seqS (f g : Sv) : Sv := fun ρ => match f ρ with
  | none => none
  | some (.nx ρ1) => g ρ1
  | some o => some o
theorem re_seq {f g : Sv} (q : RS G X W P (seqS f g) D σ H) : tSeq (RS G X W P f) (RS G X W P g) D σ H := by
  obtain ⟨M, ρ, o, L, e, w⟩ := q
  unfold seqS at e
  cases ef : f ρ with
  | none => rw [ef] at e; cases e
  | some o1 =>
    rw [ef] at e
    refine ⟨M, ρ, o1, L, ef, ?_⟩
    cases o1 with
    | nx ρ1 => exact fun σ' M' H' s L' => ⟨M', ρ1, o, L', e, w.later s L.dom⟩
    | rt r ρ1 => cases e; exact w
    | bk ρ1 => cases e; exact w
    | ct ρ1 => cases e; exact w
    | ex c ρ1 => cases e; exact w
theorem re_skip (q : RS G X W P skipS D σ H) : tNext D σ H := by
  obtain ⟨M, ρ, o, L, e, w⟩ := q
  cases e
  exact w σ M H .refl L
theorem bs_nil : PSs X [] (RS G X W P skipS) := pss_imp pss_nil fun _ _ _ => re_skip
theorem bs_cons {st : Stmt} {rest : List Stmt} {f g : Sv} (h1 : PS X st (RS G X W P f)) (h2 : PSs X rest (RS G X W P g)) : PSs X (st :: rest) (RS G X W P (seqS f g)) := pss_imp (pss_cons h1 h2) fun _ _ _ => re_seq
theorem bs_one {st : Stmt} {f : Sv} (h1 : PS X st (RS G X W P f)) : PSs X [st] (RS G X W P f) := pss_one h1
theorem ss_pass {pos : Pos} : PS X (.Pass pos) (RS G X W P skipS) := ps_imp ps_pass fun _ _ _ => re_skip
theorem ss_doc {x j pos pos'} : PS X (.Expr (.Constant (.str x) j pos) pos') (RS G X W P skipS) := ps_imp ps_doc fun _ _ _ => re_skip
def brkS : Sv := fun ρ => some (.bk ρ)
def cntS : Sv := fun ρ => some (.ct ρ)
theorem ss_break {pos : Pos} : PS X (.Break pos) (RS G X W P brkS) := ps_imp ps_break fun D σ H ⟨M, ρ, o, L, e, w⟩ => by cases e; exact w σ M H .refl L
theorem ss_continue {pos : Pos} : PS X (.Continue pos) (RS G X W P cntS) := ps_imp ps_continue fun D σ H ⟨M, ρ, o, L, e, w⟩ => by cases e; exact w σ M H .refl L
def ifS (c : Tv) (f g : Sv) : Sv := fun ρ => thenS (c ρ) fun b ρ1 => if b = true then f ρ1 else g ρ1
theorem ss_if {c : Expr} {a b : List Stmt} {fc : Tv} {f g : Sv} {pos : Pos} (hc : PT X c (RT G X W fc)) (ha : PSs X a (RS G X W P f)) (hb : PSs X b (RS G X W P g)) : PS X (.If c a b pos) (RS G X W P (ifS fc f g)) := by
  refine ps_imp (ps_if hc ha hb) fun D σ H ⟨M, ρ, o, L, e, w⟩ => ?_
  refine RT.stepS L e w fun b M1 H1 ρ1 g1 l1 L1 e1 => ?_
  cases b with
  | true => exact ⟨M1, ρ1, o, L1, e1, w.later (.expr g1 l1) L.dom⟩
  | false => exact ⟨M1, ρ1, o, L1, e1, w.later (.expr g1 l1) L.dom⟩
def retS (f : Ev) : Sv := fun ρ => thenS (f ρ) fun r ρ1 => some (.rt r ρ1)
theorem ss_ret {e : Expr} {f : Ev} {pos : Pos} (h : PE X e (RE G X W f)) : PS X (.Return (some e) pos) (RS G X W P (retS f)) := by
  refine ps_imp (ps_ret h) fun D σ H ⟨M, ρ, o, L, e, w⟩ => ?_
  refine RE.stepS L e w fun r v M1 H1 ρ1 g1 l1 L1 R e1 => ?_
  cases e1
  exact w v σ M1 H1 (.expr g1 l1) L1 R
def retN : Sv := fun ρ => some (.rt (.sh .non) ρ)
theorem ss_retN {pos : Pos} : PS X (.Return none pos) (RS G X W P retN) := ps_imp ps_retN fun D σ H ⟨M, ρ, o, L, e, w⟩ => by
  cases e
  exact w _ σ M H .refl L .non
def expS (f : Ev) : Sv := fun ρ => thenS (f ρ) fun _ ρ1 => some (.nx ρ1)
theorem ss_expr {e : Expr} {f : Ev} {pos : Pos} (h : PE X e (RE G X W f)) (hs : swapsWith e none pos.line X.env = pure false := by rfl) : PS X (.Expr e pos) (RS G X W P (expS f)) := by
  refine ps_imp (ps_expr h hs) fun D σ H ⟨M, ρ, o, L, e, w⟩ => ?_
  refine RE.stepS L e w fun r v M1 H1 ρ1 g1 l1 L1 R e1 => ?_
  cases e1
  exact w σ M1 H1 (.expr g1 l1) L1
theorem getSet {α : Type} {l : List α} {i j : Nat} {x y : α} (h : (l.set i x)[j]? = some y) : (j = i ∧ y = x ∧ i < l.length) ∨ (j ≠ i ∧ l[j]? = some y) := by
  by_cases e : j = i
  · subst e
    rw [List.getElem?_set] at h
    simp at h
    exact .inl ⟨rfl, h.2.symm, h.1⟩
  · rw [List.getElem?_set_ne (Ne.symm e)] at h
    exact .inr ⟨e, h⟩
theorem ownAt_set2 {i j : Nat} {a : Addr} {s : Sl} {ov : Option V} (h : OwnAt (σ.set i ov) (ρ.set i s) j a) : (j = i ∧ s.own = true ∧ ov = some (.ref a)) ∨ (j ≠ i ∧ OwnAt σ ρ j a) := by
  obtain ⟨h1, s', h2, h3⟩ := h
  rcases getSet h2 with ⟨rfl, rfl, _⟩ | ⟨n, h2⟩
  · rcases getSet h1 with ⟨_, e, _⟩ | ⟨n, _⟩
    · exact .inl ⟨rfl, h3, e.symm⟩
    · exact absurd rfl n
  · rw [List.getElem?_set_ne (Ne.symm n)] at h1
    exact .inr ⟨n, h1, s', h2, h3⟩
theorem Rel.put {K : KG} {i : Nat} {v : V} {s : Sl} (L : Rel K M H σ ρ) (hi : i < ρ.length) (hs : SlAt K M H (some (some v)) s) (hn : s.own = true → ∀ a, v = .ref a → ¬ Owns σ ρ a) : Rel K M H (σ.set i (some v)) (ρ.set i s) where
  len := by rw [List.length_set, List.length_set]; exact L.len
  dom := L.dom
  at_ := fun j s' e => by
    rcases getSet e with ⟨rfl, rfl, h⟩ | ⟨n, e⟩
    · rw [List.getElem?_set_self (by rw [L.len]; exact hi)]
      exact hs
    · rw [List.getElem?_set_ne (Ne.symm n)]
      exact L.at_ j s' e
  inj := fun j k a h1 h2 => by
    rcases ownAt_set2 h1 with ⟨e1, o, e⟩ | ⟨n1, h1'⟩
    · rcases ownAt_set2 h2 with ⟨e2, _, _⟩ | ⟨n2, h2'⟩
      · exact e1.trans e2.symm
      · exact absurd ⟨k, h2'⟩ (hn o a (Option.some.inj e))
    · rcases ownAt_set2 h2 with ⟨e2, o, e⟩ | ⟨n2, h2'⟩
      · exact absurd ⟨j, h1'⟩ (hn o a (Option.some.inj e))
      · exact L.inj j k a h1' h2'
theorem Stp.put {i : Nat} {v : V} {s : Sl} (g : Go (Owns σ ρ) M H M1 H1) (l : Less ρ ρ1) (hP : i ∉ P) (hn : s.own = true → ∀ a, v = .ref a → Owns σ ρ a ∨ H a = none) : Stp P σ ρ M H (σ.set i (some v)) (ρ1.set i s) M1 H1 where
  go := g
  sub := fun a ⟨j, h⟩ => by
    rcases ownAt_set2 h with ⟨_, o, e⟩ | ⟨n, h⟩
    · exact hn o a (Option.some.inj e)
    · exact .inl (l.owns ⟨j, h⟩)
  fix := fun j hj => by
    have n : j ≠ i := fun z => hP (z ▸ hj)
    refine ⟨List.getElem?_set_ne (Ne.symm n), fun s' e o => ?_⟩
    rw [List.getElem?_set_ne (Ne.symm n)] at e
    exact l j s' e o
def Rs.into (i : Nat) (ρ : En) : Rs → Option En
  | .sh t => some (ρ.set i (.sh t))
  | .fr ts => some (ρ.set i (.ow ts))
  | .fk ts => some (ρ.set i (.ok ts))
  | .ft ts => some (ρ.set i (.ot ts))
  | .sl j => match (Rs.sl j).fz ρ with
    | some (t, ρ') => some (ρ'.set i (.sh t))
    | none => none
def setS (P : List Nat) (i : Nat) (f : Ev) : Sv := fun ρ => thenS (f ρ) fun r ρ1 => if i ∈ P ∨ ¬ i < ρ1.length then none else match r.into i ρ1 with
  | some ρ2 => some (.nx ρ2)
  | none => none
theorem fz_len {r : Rs} {ρ ρ' : En} {t : Tr} (h : r.fz ρ = some (t, ρ')) : ρ'.length = ρ.length := by
  cases r with
  | sh _ => cases h; rfl
  | fr _ => cases h; rfl
  | fk _ => cases h; rfl
  | ft _ => cases h; rfl
  | sl i =>
    unfold Rs.fz at h
    dsimp only at h
    cases q : ρ[i]? with
    | none => rw [q] at h; cases h
    | some s =>
      rw [q] at h
      dsimp only at h
      cases q2 : s.tr with
      | none => rw [q2] at h; cases h
      | some u => rw [q2] at h; cases h; rw [List.length_set]
theorem into_ok {K : KG} {i : Nat} {r : Rs} {v : V} {ρ2 : En} (L : Rel K M H σ ρ) (g1 : Go (Owns σ ρ) M H M1 H1) (l1 : Less ρ ρ1) (L1 : Rel K M1 H1 σ ρ1) (R : ResAt K H M1 H1 σ ρ1 v r) (hP : i ∉ P) (hi : i < ρ1.length) (e : r.into i ρ1 = some ρ2) :
    ∃ M2, Stp P σ ρ M H (σ.set i (some v)) ρ2 M2 H1 ∧ Rel K M2 H1 (σ.set i (some v)) ρ2 := by
  cases r with
  | sh t => cases e; exact ⟨M1, .put g1 l1 hP (fun z => by cases z), L1.put hi ⟨v, rfl, R⟩ fun z => by cases z⟩
  | fr ts =>
    cases e
    obtain ⟨p, rfl, h0, n, o⟩ := R
    exact ⟨M1, .put g1 l1 hP (fun _ a e => by cases e; exact .inr h0), L1.put hi ⟨p, rfl, o⟩ fun _ a e => by cases e; exact n⟩
  | fk ts =>
    cases e
    obtain ⟨p, rfl, h0, n, o⟩ := R
    exact ⟨M1, .put g1 l1 hP (fun _ a e => by cases e; exact .inr h0), L1.put hi ⟨p, rfl, o⟩ fun _ a e => by cases e; exact n⟩
  | ft ts =>
    cases e
    obtain ⟨p, rfl, h0, n, o⟩ := R
    exact ⟨M1, .put g1 l1 hP (fun _ a e => by cases e; exact .inr h0), L1.put hi ⟨p, rfl, o⟩ fun _ a e => by cases e; exact n⟩
  | sl j =>
    unfold Rs.into at e
    dsimp only at e
    cases q : (Rs.sl j).fz ρ1 with
    | none => rw [q] at e; cases e
    | some p =>
      obtain ⟨t, ρ'⟩ := p
      rw [q] at e
      cases e
      obtain ⟨M2, g2, l2, L2', rp, _⟩ := fz_ok L.dom g1 l1 L1 R q
      exact ⟨M2, .put g2 (l1.trans l2) hP (fun z => by cases z), L2'.put (by rw [fz_len q]; exact hi) ⟨v, rfl, rp⟩ fun z => by cases z⟩
theorem re_set {i : Nat} {f : Ev} (q : RS G X W P (setS P i f) D σ H) : tAsg (RE G X W f) (gName i) D σ H := by
  obtain ⟨M, ρ, o, L, e, w⟩ := q
  refine RE.stepS L e w fun r v M1 H1 ρ1 g1 l1 L1 R e1 => ?_
  split at e1
  · cases e1
  · rename_i c
    rw [not_or, Classical.not_not] at c
    cases ei : r.into i ρ1 with
    | none => rw [ei] at e1; cases e1
    | some ρ2 =>
      rw [ei] at e1
      cases e1
      obtain ⟨M2, s, L2'⟩ := into_ok (P := P) L g1 l1 L1 R c.1 c.2 ei
      exact w _ M2 H1 s L2'
theorem ss_set {i : Nat} {x : Str} {e : Expr} {f : Ev} {pos pos' : Pos} (hN : X.N.Nodup) (hi : X.N[i]? = some x) (hx : Loc X.env.scope x) (he : PE X e (RE G X W f)) (hs : swapsWith e (some (.Name x pos')) pos.line X.env = pure false := by rfl)
    (hf : X.fn x = true ∨ X.env.scope.names.lookup x = some .local := by first | exact .inl rfl | exact .inr rfl | assumption) : PS X (.Assign [.Name x pos'] e pos) (RS G X W P (setS P i f)) := ps_imp (ps_set hN hi hx he hs hf) fun _ _ _ => re_set
inductive Tg where
  | nm (i : Nat) | tp (ts : List Tg)
mutual
def Tg.slots : Tg → List Nat
  | .nm i => [i]
  | .tp gs => Tg.slotsL gs
def Tg.slotsL : List Tg → List Nat
  | [] => []
  | g :: gs => g.slots ++ Tg.slotsL gs
end
def Agr (is : List Nat) (σ σ' : L2.St) : Prop := σ'.length = σ.length ∧ ∀ i : Nat, i ∉ is → σ'[i]? = σ[i]?
mutual
def asgT (P : List Nat) : Tg → Tr → En → Option En
  | .nm i, t, ρ => if i ∈ P ∨ ¬ i < ρ.length then none else some (ρ.set i (.sh t))
  | .tp gs, .tup ts, ρ => if gs.length = ts.length then asgTs P gs ts ρ else none
  | .tp _, _, _ => none
def asgTs (P : List Nat) : List Tg → List Tr → En → Option En
  | [], [], ρ => some ρ
  | g :: gs, t :: ts, ρ => match asgT P g t ρ with
    | some ρ' => asgTs P gs ts ρ'
    | none => none
  | _, _, _ => none
end
def RG (G : GS) (X : Cx) (P : List Nat) (tg : Tg) : TG := fun v σ H Q => ∃ (M : Addr → Prop) (ρ : En) (t : Tr) (ρ' : En), Rel (kg X G) M H σ ρ ∧ Rep (kg X G) M H v t ∧ asgT P tg t ρ = some ρ' ∧ ∀ σ', Agr tg.slots σ σ' → Stp P σ ρ M H σ' ρ' M H → Rel (kg X G) M H σ' ρ' → Q σ' H
def RGs (G : GS) (X : Cx) (P : List Nat) (tgs : List Tg) : TGs := fun vs σ H Q => ∃ (M : Addr → Prop) (ρ : En) (ts : List Tr) (ρ' : En), Rel (kg X G) M H σ ρ ∧ Reps (kg X G) M H vs ts ∧ asgTs P tgs ts ρ = some ρ' ∧ ∀ σ', Agr (Tg.slotsL tgs) σ σ' → Stp P σ ρ M H σ' ρ' M H → Rel (kg X G) M H σ' ρ' → Q σ' H
theorem pg_imp {e : Expr} {t u : TG} (h : PG X e t) (i : ∀ v σ H Q, u v σ H Q → t v σ H Q) : PG X e u := ⟨fun pins s σ H v u Q I r q => h.run pins s σ H v u Q I r (i v σ H Q q)⟩
theorem pgs_imp {e : List Expr} {t u : TGs} (h : PGs X e t) (i : ∀ v σ H Q, u v σ H Q → t v σ H Q) : PGs X e u := ⟨fun pins s σ H v u Q I r q => h.run pins s σ H v u Q I r (i v σ H Q q)⟩
theorem tg_nm {i : Nat} {x : Str} {pos : Pos} (hN : X.N.Nodup) (hi : X.N[i]? = some x) (hx : Loc X.env.scope x) (hf : X.fn x = true ∨ X.env.scope.names.lookup x = some .local := by first | exact .inl rfl | exact .inr rfl | assumption) : PG X (.Name x pos) (RG G X P (.nm i)) := by
  refine pg_imp (pg_name hN hi hx hf) fun v σ H Q ⟨M, ρ, t, ρ', L, rp, e, q⟩ => ?_
  unfold asgT at e
  split at e
  · cases e
  · rename_i c
    rw [not_or, Classical.not_not] at c
    cases e
    exact q _ ⟨List.length_set, fun j hj => List.getElem?_set_ne (by simp [Tg.slots] at hj; exact Ne.symm hj)⟩ (.put .refl .refl c.1 fun z => by cases z) (L.put c.2 ⟨v, rfl, rp⟩ fun z => by cases z)
theorem tgs_nil : PGs X [] (RGs G X P []) := by
  refine pgs_imp pgs_nil fun vs σ H Q ⟨M, ρ, ts, ρ', L, rp, e, q⟩ => ?_
  cases rp with
  | nil => simp only [asgTs] at e; cases e; exact ⟨rfl, q σ ⟨rfl, fun _ _ => rfl⟩ .refl L⟩
  | cons _ _ => simp [asgTs] at e
theorem tgs_cons {e : Expr} {es : List Expr} {g : Tg} {gs : List Tg} (h1 : PG X e (RG G X P g)) (h2 : PGs X es (RGs G X P gs))
    (hs : (assignEach (e :: es) X.env).map (·.2) = assign e X.env :: (assignEach es X.env).map (·.2) := by rfl) : PGs X (e :: es) (RGs G X P (g :: gs)) := by
  refine pgs_imp (pgs_cons h1 h2 hs) fun vs σ H Q ⟨M, ρ, ts, ρ', L, rp, e, q⟩ => ?_
  cases rp with
  | nil => simp [asgTs] at e
  | @cons v vs t ts h r =>
    unfold asgTs at e
    cases q1 : asgT P g t ρ with
    | none => rw [q1] at e; cases e
    | some ρ1 =>
      rw [q1] at e
      exact ⟨v, vs, rfl, M, ρ, t, ρ1, L, h, q1, fun σ1 a1 s1 L1 => ⟨M, ρ1, ts, ρ', L1, r, e, fun σ2 a2 s2 L2' => q σ2 ⟨a2.1.trans a1.1, fun i hi => by
        simp only [Tg.slotsL, List.mem_append, not_or] at hi
        exact (a2.2 i hi.2).trans (a1.2 i hi.1)⟩ (s1.trans s2 L.dom) L2'⟩⟩
theorem tg_tp {es : List Expr} {k : Nat} {gs : List Tg} {pos : Pos} (hc : X.calm = true) (h : PGs X es (RGs G X P gs))
    (hn : (assignEach es X.env).length = gs.length := by rfl) (hst : (assignEach es X.env).findIdx? (·.1) = none := by rfl) : PG X (.Tuple es k pos) (RG G X P (.tp gs)) := by
  refine pg_imp (pg_tup hc h hn hst) fun v σ H Q ⟨M, ρ, t, ρ', L, rp, e, q⟩ => ?_
  cases t <;> try (simp [asgT] at e; done)
  rename_i ts
  unfold asgT at e
  split at e
  · rename_i c
    obtain ⟨a, vs, rfl, hs, rs⟩ := RTop.tup (.inl rp)
    exact ⟨a, vs, rfl, hs, by rw [rs.length]; exact c.symm, M, ρ, ts, ρ', L, rs, e, by simpa only [Tg.slots] using q⟩
  · cases e
def asgS (P : List Nat) (tg : Tg) (f : Ev) : Sv := fun ρ => thenS (f ρ) fun r ρ1 => match r.fz ρ1 with
  | none => none
  | some (t, ρ2) => match asgT P tg t ρ2 with
    | some ρ3 => some (.nx ρ3)
    | none => none
theorem ss_asg {tg e : Expr} {f : Ev} {g : Tg} {pos : Pos} (he : PE X e (RE G X W f)) (hg : PG X tg (RG G X P g)) (hs : swapsWithSole [tg] e pos.line X.env = pure false := by rfl) (hw : swappedStores [tg] e X.env = pure none := by rfl)
    (h1 : (assignEach [tg] X.env).map (·.2) = [assign tg X.env] := by rfl) : PS X (.Assign [tg] e pos) (RS G X W P (asgS P g f)) := by
  refine ps_imp (ps_asg he hg hs hw h1) fun D σ H ⟨M, ρ, o, L, e, w⟩ => ?_
  refine RE.stepS L e w fun r v M1 H1 ρ1 g1 l1 L1 R e1 => ?_
  cases ez : r.fz ρ1 with
  | none => rw [ez] at e1; cases e1
  | some p =>
    obtain ⟨t, ρ2⟩ := p
    rw [ez] at e1
    dsimp only at e1
    cases ea : asgT P g t ρ2 with
    | none => rw [ea] at e1; cases e1
    | some ρ3 =>
      rw [ea] at e1
      cases e1
      obtain ⟨M2, g2, l2, L2', rp, _⟩ := fz_ok L.dom g1 l1 L1 R ez
      exact ⟨M2, ρ2, t, ρ3, L2', rp, ea, fun σ' _ s L3 => w σ' M2 H1 ((Stp.expr g2 (l1.trans l2)).trans s L.dom) L3⟩
end
end TV
namespace TV
open PySem PySem.Spec PyProof.Rows L2
def Later (M : Addr → Prop) (H : Hp) (M2 : Addr → Prop) (H2 : Hp) : Prop := (∀ a o, H a = some o → ¬ M a → H2 a = some o) ∧ ∀ a, ¬ M a → H a ≠ none → ¬ M2 a
structure ItOk (K : KG) (J : It) (ts : List Tr) (M : Addr → Prop) (H : Hp) : Prop where
  at_ : ∀ (M2 : Addr → Prop) (H2 : Hp), Later M H M2 H2 → (∀ a, M2 a → H2 a ≠ none) → ∀ (i : Nat) (t : Tr), ts[i]? = some t → J.go i H2 ∧ ∀ x H3, J.yld i H2 x H3 → ∃ M3, Go0 M2 H2 M3 H3 ∧ (∀ a, M3 a → H3 a ≠ none) ∧ Rep K M3 H3 x t
  stop : ∀ (M2 : Addr → Prop) (H2 : Hp), Later M H M2 H2 → J.stop ts.length H2
abbrev Iv := En → Option (Ou (List Tr))
def RI (G : GS) (X : Cx) (W : WX) (f : Iv) : TI := fun σ H R => ∃ (M : Addr → Prop) (ρ : En) (o : Ou (List Tr)), Rel (kg X G) M H σ ρ ∧ f ρ = some o ∧ Wn G X W σ M H ρ o fun ts M' H' ρ' => ∀ J, ItOk (kg X G) J ts M' H' → R J H'
section
variable {K : KG} {M M1 M2 O : Addr → Prop} {H H1 H2 : Hp}
theorem Later.refl : Later M H M H := ⟨fun _ _ e _ => e, fun _ n _ => n⟩
theorem Go.later (g : Go O M H M1 H1) (s : ∀ a, O a → M a) : Later M H M1 H1 := ⟨fun a o e n => g.keep a o e fun z => n (s a z), fun a n e z => (g.new a z).elim n e⟩
theorem Later.trans (a : Later M H M1 H1) (b : Later M1 H1 M2 H2) : Later M H M2 H2 := ⟨fun c o e n => b.1 c o (a.1 c o e n) (a.2 c n (by rw [e]; exact fun z => nomatch z)), fun c n e => b.2 c (a.2 c n e) (by
  cases q : H c with
  | none => exact absurd q e
  | some o => rw [a.1 c o q n]; exact fun z => nomatch z)⟩
theorem Rep.later {v : V} {t : Tr} (r : Rep K M H v t) (l : Later M H M1 H1) : Rep K M1 H1 v t := r.mono l.1 l.2
theorem Reps.later {v : List V} {t : List Tr} (r : Reps K M H v t) (l : Later M H M1 H1) : Reps K M1 H1 v t := r.mono l.1 l.2
theorem SqT.later {a : Addr} {vs : List V} {ts : List Tr} (r : Rep K M H (.ref a) (.tup ts)) : True := trivial
theorem it_lst {a : Addr} {ts : List Tr} (r : Rep K M H (.ref a) (.lst ts)) : ItOk K (Itl K.k a) ts M H where
  at_ := fun M2 H2 l d i t e => by
    obtain ⟨b, vs, eb, h, rp⟩ := RTop.lst (.inl (r.later l))
    cases eb
    obtain ⟨v, ev, rv⟩ := rp.get e
    refine ⟨⟨vs, v, SqL.of h, ev⟩, fun x H3 y => ?_⟩
    obtain ⟨e3, y⟩ := y
    subst e3
    have ex := y vs (SqL.of h)
    rw [ev] at ex; cases ex
    exact ⟨M2, .refl, d, rv⟩
  stop := fun M2 H2 l => by
    obtain ⟨b, vs, eb, h, rp⟩ := RTop.lst (.inl (r.later l))
    cases eb
    exact ⟨vs, SqL.of h, by rw [rp.length]; exact Nat.le_refl _⟩
theorem it_tup {a : Addr} {ts : List Tr} (r : Rep K M H (.ref a) (.tup ts)) : ItOk K (Itt K.k a) ts M H where
  at_ := fun M2 H2 l d i t e => by
    obtain ⟨b, vs, eb, h, rp⟩ := RTop.tup (.inl (r.later l))
    cases eb
    obtain ⟨v, ev, rv⟩ := rp.get e
    refine ⟨⟨vs, v, h, ev⟩, fun x H3 y => ?_⟩
    obtain ⟨e3, y⟩ := y
    subst e3
    have ex := y vs h
    rw [ev] at ex; cases ex
    exact ⟨M2, .refl, d, rv⟩
  stop := fun M2 H2 l => by
    obtain ⟨b, vs, eb, h, rp⟩ := RTop.tup (.inl (r.later l))
    cases eb
    exact ⟨vs, h, by rw [rp.length]; exact Nat.le_refl _⟩
theorem it_scr {a : Addr} {ns : List Int} (r : Rep K M H (.ref a) (.scr ns)) : ItOk K (Itl K.k a) (ns.map Tr.int) M H where
  at_ := fun M2 H2 l d i t e => by
    obtain ⟨b, eb, h⟩ := RTop.scr (.inl (r.later l))
    cases eb
    rw [List.getElem?_map] at e
    cases en : ns[i]? with
    | none => rw [en] at e; cases e
    | some n =>
      rw [en] at e
      cases e
      have ev : (ns.map V.int)[i]? = some (.int n) := by rw [List.getElem?_map, en]; rfl
      refine ⟨⟨_, _, h, ev⟩, fun x H3 y => ?_⟩
      obtain ⟨e3, y⟩ := y
      subst e3
      have ex := y _ h
      rw [ev] at ex; cases ex
      exact ⟨M2, .refl, d, .int n⟩
  stop := fun M2 H2 l => by
    obtain ⟨b, eb, h⟩ := RTop.scr (.inl (r.later l))
    cases eb
    exact ⟨_, h, by simp⟩
def chars (x : Str) : List Tr := x.cps.toList.map fun c => .str ⟨#[c]⟩
theorem it_str {x : Str} : ItOk K (Its x) (chars x) M H where
  at_ := fun M2 H2 l d i t e => by
    unfold chars at e
    rw [List.getElem?_map] at e
    cases en : x.cps.toList[i]? with
    | none => rw [en] at e; cases e
    | some n =>
      rw [en] at e
      cases e
      have en' : x.cps[i]? = some n := by rw [← Array.getElem?_toList]; exact en
      refine ⟨(Array.getElem?_eq_some_iff.mp en').1, fun v H3 y => ?_⟩
      obtain ⟨e3, c, ec, ev⟩ := y
      subst e3
      rw [en'] at ec; cases ec
      subst ev
      exact ⟨M2, .refl, d, .str _⟩
  stop := fun M2 H2 l => by
    show x.cps.size ≤ (chars x).length
    unfold chars
    simp
def upFrom (lo c : Int) (n : Nat) : List Tr := (List.range n).map fun k => .int (lo + (k : Nat) * c)
def upTo (lo : Int) (n : Nat) : List Tr := (List.range n).map fun k => .int (lo + (k : Nat))
theorem it_rng {lo : Int} {n : Nat} : ItOk K (Itr lo n) (upTo lo n) M H where
  at_ := fun M2 H2 l d i t e => by
    unfold upTo at e
    rw [List.getElem?_map] at e
    by_cases h : i < n
    · rw [List.getElem?_range h] at e
      cases e
      refine ⟨h, fun v H3 y => ?_⟩
      obtain ⟨e3, ev⟩ := y
      subst e3; subst ev
      exact ⟨M2, .refl, d, .int _⟩
    · rw [List.getElem?_eq_none (by simpa using h)] at e; cases e
  stop := fun M2 H2 l => by show n ≤ _; unfold upTo; simp
theorem it_rngC {lo c : Int} {n : Nat} : ItOk K (Itc lo c n) (upFrom lo c n) M H where
  at_ := fun M2 H2 l d i t e => by
    unfold upFrom at e
    rw [List.getElem?_map] at e
    by_cases h : i < n
    · rw [List.getElem?_range h] at e
      cases e
      refine ⟨h, fun v H3 y => ?_⟩
      obtain ⟨e3, ev⟩ := y
      subst e3; subst ev
      exact ⟨M2, .refl, d, .int _⟩
    · rw [List.getElem?_eq_none (by simpa using h)] at e; cases e
  stop := fun M2 H2 l => by show n ≤ _; unfold upFrom; simp
end
section
variable {G : GS} {X : Cx} {W : WX} {tg : Expr}
theorem pi_alt {tg e : Expr} {t1 t2 u : TI} (h1 : PI X tg e t1) (h2 : PI X tg e t2) (i : ∀ σ H R, u σ H R → t1 σ H R ∨ t2 σ H R) : PI X tg e u :=
  ⟨fun pins s σ H Q I q => (i σ H Q q).elim (h1.run pins s σ H Q I) (h2.run pins s σ H Q I)⟩
def items : Tr → Option (List Tr)
  | .lst ts => some ts
  | .tup ts => some ts
  | .scr ns => some (ns.map Tr.int)
  | .str x => some (chars x)
  | _ => none
def itE (f : Ev) : Iv := fun ρ => andThen (f ρ) fun r ρ1 => match r.fz ρ1 with
  | none => none
  | some (t, ρ2) => match items t with
    | some ts => some (.ok ts ρ2)
    | none => none
theorem si_it {e : Expr} {f : Ev} (h : PE X e (RE G X W f)) : PI X tg e (RI G X W (itE f)) := by
  refine pi_alt (pi_alt (pi_list h) (pi_tup h) (u := fun σ H R => iList X.K (RE G X W f) σ H R ∨ iTup X.K (RE G X W f) σ H R) fun σ H R q => q) (pi_str h) fun σ H R ⟨M, ρ, o, L, e, w⟩ => ?_
  unfold itE at e
  cases ef : f ρ with
  | none => rw [ef] at e; cases e
  | some of =>
    rw [ef] at e
    cases of with
    | ex c ρ1 => cases e; exact .inl (.inl ⟨M, ρ, _, L, ef, w⟩)
    | ok r ρ1 =>
      simp only [andThen_ok] at e
      cases ez : r.fz ρ1 with
      | none => rw [ez] at e; cases e
      | some q =>
        obtain ⟨t, ρ2⟩ := q
        rw [ez] at e
        dsimp only at e
        cases ei : items t with
        | none => rw [ei] at e; cases e
        | some ts =>
          rw [ei] at e
          cases e
          have main : ∀ (S : V → Hp → Prop), (∀ v M2 H2, Rep (kg X G) M2 H2 v t → (∀ J, ItOk (kg X G) J ts M2 H2 → R J H2) → S v H2) → RE G X W f σ H S := fun S hS =>
            ⟨M, ρ, _, L, ef, fun M1 H1 g1 l1 L1 v R1 => by
              obtain ⟨M2, g2, l2, L2', rp, _⟩ := fz_ok L.dom g1 l1 L1 R1 ez
              exact hS v M2 H1 rp (w M2 H1 g2 (l1.trans l2) L2')⟩
          cases t <;> try (cases ei; done)
          case str x =>
            cases ei
            refine .inr (main _ fun v M2 H2 rp q => ⟨x, RTop.str (.inl rp), q _ it_str⟩)
          case tup us =>
            cases ei
            refine .inl (.inr (main _ fun v M2 H2 rp q => ?_))
            obtain ⟨a, vs, rfl, h, _⟩ := RTop.tup (.inl rp)
            exact ⟨a, rfl, ⟨vs, h⟩, q _ (it_tup rp)⟩
          case lst us =>
            cases ei
            refine .inl (.inl (main _ fun v M2 H2 rp q => ?_))
            obtain ⟨a, vs, rfl, h, _⟩ := RTop.lst (.inl rp)
            exact ⟨a, rfl, ⟨vs, SqL.of h⟩, q _ (it_lst rp)⟩
          case scr ns =>
            cases ei
            refine .inl (.inl (main _ fun v M2 H2 rp q => ?_))
            obtain ⟨a, rfl, h⟩ := RTop.scr (.inl rp)
            exact ⟨a, rfl, ⟨_, h⟩, q _ (it_scr rp)⟩
def rng1E (fs : Av) : Iv := fun ρ => andThen (fs ρ) fun rs ρ1 => match rs with
  | [.sh (.int j)] => if smallI j = true then some (.ok (upTo 0 j.toNat) ρ1) else none
  | _ => none
def rng2E (fs : Av) : Iv := fun ρ => andThen (fs ρ) fun rs ρ1 => match rs with
  | [.sh (.int i), .sh (.int j)] => if (smallI i && smallI j) = true then some (.ok (upTo i (j - i).toNat) ρ1) else none
  | _ => none
def rng3E (fs : Av) : Iv := fun ρ => andThen (fs ρ) fun rs ρ1 => match rs with
  | [.sh (.int i), .sh (.int j), .sh (.int c)] => match rngN i j c with
    | some n => some (.ok (upFrom i c n) ρ1)
    | none => none
  | _ => none
theorem Rep.int_eq {K : KG} {M : Addr → Prop} {H : Hp} {v : V} {i : Int} (r : Rep K M H v (.int i)) : v = .int i := by cases r; rfl
theorem si_rng1 {a : Expr} {fs : Av} {p pos : Pos} (hg : Gl X "range") (hm : X.mg "range" = none) (ha : PA X [a] (RA G X W fs)) (hs : starEach [a] X.env = [(false, eval a X.env)] := by rfl) : PI X tg (.Call (.Name "range" p) [a] [] pos) (RI G X W (rng1E fs)) := by
  refine pi_imp (pi_range1 hg hm ha hs) fun σ H R ⟨M, ρ, o, L, e, w⟩ => ?_
  refine RA.stepO L e w fun rs vs M1 H1 ρ1 g1 l1 L1 As e1 => ?_
  split at e1
  · rename_i j
    split at e1
    · rename_i c
      cases e1
      cases As with
      | cons h t =>
        cases t
        have c := smallI_iff.mp c
        have hv := Rep.int_eq h
        subst hv
        exact ⟨j, rfl, c.1, c.2, w M1 H1 g1 l1 L1 _ it_rng⟩
    · cases e1
  · cases e1
theorem si_rng2 {a b : Expr} {fs : Av} {p pos : Pos} (hg : Gl X "range") (hm : X.mg "range" = none) (ha : PA X [a, b] (RA G X W fs)) (hs : starEach [a, b] X.env = [(false, eval a X.env), (false, eval b X.env)] := by rfl) (hs2 : starEach [b] X.env = [(false, eval b X.env)] := by rfl) :
    PI X tg (.Call (.Name "range" p) [a, b] [] pos) (RI G X W (rng2E fs)) := by
  refine pi_imp (pi_range2 hg hm ha hs hs2) fun σ H R ⟨M, ρ, o, L, e, w⟩ => ?_
  refine RA.stepO L e w fun rs vs M1 H1 ρ1 g1 l1 L1 As e1 => ?_
  split at e1
  · rename_i i j
    split at e1
    · rename_i c
      cases e1
      cases As with
      | cons h t =>
        cases t with
        | cons h2 t =>
          cases t
          simp only [Bool.and_eq_true] at c
          have c1 := smallI_iff.mp c.1
          have c2 := smallI_iff.mp c.2
          have hv := Rep.int_eq h
          have hv2 := Rep.int_eq h2
          subst hv hv2
          exact ⟨i, j, rfl, ⟨c1.1, c1.2, c2.1, c2.2⟩, w M1 H1 g1 l1 L1 _ it_rng⟩
    · cases e1
  · cases e1
theorem si_rng3 {a b c : Expr} {fs : Av} {p pos : Pos} (hg : Gl X "range") (hm : X.mg "range" = none) (ha : PA X [a, b, c] (RA G X W fs))
    (hs : starEach [a, b, c] X.env = (false, eval a X.env) :: starEach [b, c] X.env := by rfl) (hpl : (backTo pos (starEach [b, c] X.env)).any (·.1) = false := by rfl) :
    PI X tg (.Call (.Name "range" p) [a, b, c] [] pos) (RI G X W (rng3E fs)) := by
  refine pi_imp (pi_range3 hg hm ha hs hpl) fun σ H R ⟨M, ρ, o, L, e, w⟩ => ?_
  refine RA.stepO L e w fun rs vs M1 H1 ρ1 g1 l1 L1 As e1 => ?_
  split at e1
  · rename_i i j k
    cases en : rngN i j k with
    | none => rw [en] at e1; cases e1
    | some n =>
      rw [en] at e1
      cases e1
      unfold rngN at en
      split at en
      · rename_i c
        cases en
        cases As with
        | cons h t =>
          cases t with
          | cons h2 t =>
            cases t with
            | cons h3 t =>
              cases t
              have hv := Rep.int_eq h
              have hv2 := Rep.int_eq h2
              have hv3 := Rep.int_eq h3
              subst hv hv2 hv3
              exact ⟨i, j, k, _, rfl, rngOk_small c, w M1 H1 g1 l1 L1 _ it_rngC⟩
      · cases en
  · cases e1
def kill (ks : List Nat) (ρ : En) : En := ks.foldl (fun ρ i => ρ.set i .no) ρ
theorem Rel.kill1 {K : KG} {M : Addr → Prop} {H : Hp} {σ : L2.St} {ρ : En} {i : Nat} (L : Rel K M H σ ρ) : Rel K M H σ (ρ.set i .no) :=
  ⟨by rw [List.length_set]; exact L.len, L.dom, fun j s e => by
    rcases getSet e with ⟨_, rfl, _⟩ | ⟨_, e⟩
    · trivial
    · exact L.at_ j s e, fun j k a h1 h2 => L.inj j k a (ownAt_set rfl h1).2 (ownAt_set rfl h2).2⟩
theorem Rel.kill {K : KG} {M : Addr → Prop} {H : Hp} {σ : L2.St} : ∀ {ks : List Nat} {ρ : En}, Rel K M H σ ρ → Rel K M H σ (TV.kill ks ρ)
  | [], _, L => L
  | _ :: ks, _, L => Rel.kill (ks := ks) L.kill1
theorem less_kill : ∀ (ks : List Nat) (ρ : En), Less ρ (kill ks ρ)
  | [], _ => .refl
  | i :: ks, ρ => (less_set (i := i) (s := .no) rfl).trans (less_kill ks (ρ.set i .no))
def forL (P : List Nat) (tg : Tg) (ks : List Nat) (body : Sv) : List Tr → En → Option So
  | [], ρ => some (.nx ρ)
  | t :: ts, ρ => match asgT P tg t ρ with
    | none => none
    | some ρ1 => match body ρ1 with
      | none => none
      | some (.nx ρ2) => forL P tg ks body ts (kill ks ρ2)
      | some (.ct ρ2) => forL P tg ks body ts (kill ks ρ2)
      | some (.bk ρ2) => some (.nx (kill ks ρ2))
      | some o => some o
def forS (P : List Nat) (src : Iv) (tg : Tg) (ks : List Nat) (body : Sv) : Sv := fun ρ => thenS (src ρ) fun ts ρ1 => forL P tg ks body ts (kill ks ρ1)
section
variable {P : List Nat} {σ σ1 : L2.St} {ρ ρ1 : En} {M M1 : Addr → Prop} {H H1 : Hp} {D : Ends} {o : So}
theorem RI.stepS {f : Iv} {k : List Tr → En → Option So} {R : It → Hp → Prop} (L : Rel (kg X G) M H σ ρ) (e : thenS (f ρ) k = some o) (h : Ws G X W P σ M H ρ o D)
    (q : ∀ ts M1 H1 ρ1, Go (Owns σ ρ) M H M1 H1 → Less ρ ρ1 → Rel (kg X G) M1 H1 σ ρ1 → k ts ρ1 = some o → ∀ J, ItOk (kg X G) J ts M1 H1 → R J H1) : RI G X W f σ H R := by
  cases ef : f ρ with
  | none => rw [ef] at e; cases e
  | some o1 =>
    rw [ef] at e
    cases o1 with
    | ex c ρ1 => cases e; exact ⟨M, ρ, _, L, ef, fun C M' H' m g l L' => h C σ M' H' m (.expr g l) L'⟩
    | ok r ρ1 => exact ⟨M, ρ, _, L, ef, fun M1 H1 g l L1 => q r M1 H1 ρ1 g l L1 e⟩
theorem kill_ok {ks : List Nat} (d : ∀ a, M a → H a ≠ none) (s : Stp P σ ρ M H σ1 ρ1 M1 H1) (L : Rel (kg X G) M1 H1 σ1 ρ1) : Stp P σ ρ M H σ1 (kill ks ρ1) M1 H1 ∧ Rel (kg X G) M1 H1 σ1 (kill ks ρ1) :=
  ⟨s.trans (.expr .refl (less_kill ks ρ1)) d, L.kill⟩
theorem drop_cons {α : Type} {l : List α} {i : Nat} {t : α} {r : List α} (h : l.drop i = t :: r) : l[i]? = some t ∧ l.drop (i + 1) = r ∧ i < l.length := by
  have h1 : (l.drop i)[0]? = some t := by rw [h]; rfl
  rw [List.getElem?_drop] at h1
  have h2 : i < l.length := (List.getElem?_eq_some_iff.mp (by simpa using h1)).1
  refine ⟨by simpa using h1, ?_, h2⟩
  rw [← List.drop_drop, h]; rfl
theorem ss_for {tg iter : Expr} {body : List Stmt} {fi : Iv} {g : Tg} {ks : List Nat} {f : Sv} {pos : Pos} (hp : PassesOwn (model X.prog X.w) X.A X.env X.xe) (hc : X.calm = true) (hi : PI X tg iter (RI G X W fi)) (hg : PG X tg (RG G X P g)) (hb : PSs X body (RS G X W P f))
    (hs : ∀ x, foldedSetIterable iter X.env x = pure x := by intro _; rfl) : PS X (.For tg iter body [] pos) (RS G X W P (forS P fi g ks f)) := by
  refine ps_imp (ps_for hp hc hi hg hb hs) fun D σ H ⟨M, ρ, o, L, e, w⟩ => ?_
  refine RI.stepS L e w fun ts M1 H1 ρ1 g1 l1 L1 e1 J it => ?_
  obtain ⟨s1, L1'⟩ := kill_ok (ks := ks) L.dom (Stp.expr (P := P) g1 l1) L1
  refine ⟨fun i m σ' H' => ∃ (M' : Addr → Prop) (ρ' : En), i ≤ ts.length ∧ m = (ts.drop i).length ∧ Stp P σ ρ M H σ' ρ' M' H' ∧ Rel (kg X G) M' H' σ' ρ' ∧ Later M1 H1 M' H' ∧ forL P g ks f (ts.drop i) ρ' = some o,
    ⟨ts.length, M1, _, Nat.zero_le _, rfl, s1, L1', .refl, e1⟩, ?_⟩
  rintro i m σ' H' ⟨M', ρ', hle, rfl, s', L', lt, e'⟩
  cases hd : ts.drop i with
  | nil =>
    rw [hd] at e'
    cases e'
    have hi : i = ts.length := by
      have := congrArg List.length hd
      rw [List.length_drop] at this
      simp at this
      omega
    subst hi
    exact .inl ⟨it.stop _ _ lt, w _ _ _ s' L'⟩
  | cons t r =>
    obtain ⟨ht, hr, hlt⟩ := drop_cons hd
    rw [hd] at e'
    obtain ⟨go, yl⟩ := it.at_ _ _ lt L'.dom i t ht
    let N : L2.St → Hp → Prop := fun σ2 H2 => ∃ (M2 : Addr → Prop) (ρ2 : En), Stp P σ ρ M H σ2 ρ2 M2 H2 ∧ Rel (kg X G) M2 H2 σ2 ρ2 ∧ Later M1 H1 M2 H2 ∧ forL P g ks f r ρ2 = some o
    refine .inr ⟨go, N, fun σ2 H2 ⟨M2, ρ2, a, b, c, d⟩ => ⟨(ts.drop (i + 1)).length, by rw [hr]; simp, M2, ρ2, by omega, rfl, a, b, c, by rw [hr]; exact d⟩, fun x H3 y => ?_⟩
    obtain ⟨M3, g3, d3, rp⟩ := yl x H3 y
    have s3 := s'.trans (.go0 g3) L.dom
    have L3 := L'.go0 g3 d3
    have lt3 := lt.trans (g3.later fun _ z => z.elim)
    unfold forL at e'
    cases ea : asgT P g t ρ' with
    | none => rw [ea] at e'; cases e'
    | some ρ4 =>
      rw [ea] at e'
      dsimp only at e'
      refine ⟨M3, ρ', t, ρ4, L3, rp, ea, fun σ4 _ s4 L4 => ?_⟩
      have s34 := s3.trans s4 L.dom
      cases eb : f ρ4 with
      | none => rw [eb] at e'; cases e'
      | some ob =>
        rw [eb] at e'
        refine ⟨M3, ρ4, ob, L4, eb, ?_⟩
        have nxt : ∀ {ρ5 : En}, forL P g ks f r (kill ks ρ5) = some o → ∀ σ5 M5 H5, Stp P σ4 ρ4 M3 H3 σ5 ρ5 M5 H5 → Rel (kg X G) M5 H5 σ5 ρ5 → N σ5 H5 := fun {ρ5} e5 σ5 M5 H5 s5 L5 => by
          obtain ⟨s6, L6⟩ := kill_ok (ks := ks) L.dom (s34.trans s5 L.dom) L5
          exact ⟨M5, _, s6, L6, lt3.trans (s5.go.later L4.sub), e5⟩
        cases ob with
        | nx ρ5 => exact nxt e'
        | ct ρ5 => exact nxt e'
        | bk ρ5 =>
          cases e'
          intro σ5 M5 H5 s5 L5
          obtain ⟨s6, L6⟩ := kill_ok (ks := ks) L.dom (s34.trans s5 L.dom) L5
          exact w _ _ _ s6 L6
        | rt r ρ5 => cases e'; exact fun v σ5 M5 H5 s5 L5 R5 => w v _ _ _ (s34.trans s5 L.dom) L5 (R5.from s34.go.there)
        | ex c ρ5 => cases e'; exact fun C σ5 M5 H5 hm s5 L5 => w C _ _ _ hm (s34.trans s5 L.dom) L5
def whileL (c : Tv) (ks : List Nat) (body : Sv) : Nat → En → Option So
  | 0, _ => none
  | n + 1, ρ => thenS (c ρ) fun b ρ1 => if b = true then (match body ρ1 with
      | none => none
      | some (.nx ρ2) => whileL c ks body n (kill ks ρ2)
      | some (.ct ρ2) => whileL c ks body n (kill ks ρ2)
      | some (.bk ρ2) => some (.nx (kill ks ρ2))
      | some o => some o) else some (.nx ρ1)
def whileS (c : Tv) (ks : List Nat) (body : Sv) (n : Nat) : Sv := fun ρ => whileL c ks body n (kill ks ρ)
theorem ss_while {c : Expr} {body : List Stmt} {fc : Tv} {ks : List Nat} {f : Sv} {n : Nat} {pos : Pos} (hp : PassesOwn (model X.prog X.w) X.A X.env X.xe) (hc : PT X c (RT G X W fc)) (hb : PSs X body (RS G X W P f)) : PS X (.While c body [] pos) (RS G X W P (whileS fc ks f n)) := by
  refine ps_imp (ps_while hp hc hb) fun D σ H ⟨M, ρ, o, L, e, w⟩ => ?_
  obtain ⟨s1, L1'⟩ := kill_ok (ks := ks) L.dom (Stp.refl (P := P)) L
  refine ⟨fun m σ' H' => ∃ (M' : Addr → Prop) (ρ' : En), Stp P σ ρ M H σ' ρ' M' H' ∧ Rel (kg X G) M' H' σ' ρ' ∧ whileL fc ks f m ρ' = some o, ⟨n, M, _, s1, L1', e⟩, ?_⟩
  rintro m σ' H' ⟨M', ρ', s', L', e'⟩
  cases m with
  | zero => cases e'
  | succ m =>
    unfold whileL at e'
    refine RT.stepS L' e' (w.later s' L.dom) fun b M2 H2 ρ2 g2 l2 L2' e2 => ?_
    have s2 := s'.trans (.expr g2 l2) L.dom
    cases b with
    | false => cases e2; exact w _ _ _ s2 L2'
    | true =>
      rw [if_pos rfl] at e2 ⊢
      let N : L2.St → Hp → Prop := fun σ3 H3 => ∃ (M3 : Addr → Prop) (ρ3 : En), Stp P σ ρ M H σ3 ρ3 M3 H3 ∧ Rel (kg X G) M3 H3 σ3 ρ3 ∧ whileL fc ks f m ρ3 = some o
      refine ⟨N, fun σ3 H3 ⟨M3, ρ3, a, b, c⟩ => ⟨m, Nat.lt_succ_self _, M3, ρ3, a, b, c⟩, ?_⟩
      cases eb : f ρ2 with
      | none => rw [eb] at e2; cases e2
      | some ob =>
        rw [eb] at e2
        refine ⟨M2, ρ2, ob, L2', eb, ?_⟩
        have nxt : ∀ {ρ5 : En}, whileL fc ks f m (kill ks ρ5) = some o → ∀ σ5 M5 H5, Stp P σ' ρ2 M2 H2 σ5 ρ5 M5 H5 → Rel (kg X G) M5 H5 σ5 ρ5 → N σ5 H5 := fun {ρ5} e5 σ5 M5 H5 s5 L5 => by
          obtain ⟨s6, L6⟩ := kill_ok (ks := ks) L.dom (s2.trans s5 L.dom) L5
          exact ⟨M5, _, s6, L6, e5⟩
        cases ob with
        | nx ρ5 => exact nxt e2
        | ct ρ5 => exact nxt e2
        | bk ρ5 =>
          cases e2
          intro σ5 M5 H5 s5 L5
          obtain ⟨s6, L6⟩ := kill_ok (ks := ks) L.dom (s2.trans s5 L.dom) L5
          exact w _ _ _ s6 L6
        | rt r ρ5 => cases e2; exact fun v σ5 M5 H5 s5 L5 R5 => w v _ _ _ (s2.trans s5 L.dom) L5 (R5.from s2.go.there)
        | ex c ρ5 => cases e2; exact fun C σ5 M5 H5 hm s5 L5 => w C _ _ _ hm (s2.trans s5 L.dom) L5
end
end
end TV
namespace TV
open PySem PySem.Spec PyProof.Rows L2
def yesT : Tv := fun ρ => some (.ok true ρ)
def compL (vs : List Nat) (tg : Tg) (ct : Tv) (elt : Ev) : List Tr → List Tr → En → Option (List Tr × En)
  | [], acc, ρ => some (acc, ρ)
  | t :: ts, acc, ρ => match asgT [] tg t ρ with
    | none => none
    | some ρ1 => match ct ρ1 with
      | some (.ok false ρ2) => compL vs tg ct elt ts acc (kill vs ρ2)
      | some (.ok true ρ2) => match elt ρ2 with
        | some (.ok r ρ3) => match r.fz ρ3 with
          | some (u, ρ4) => if acc.length < sizeLine then compL vs tg ct elt ts (acc ++ [u]) (kill vs ρ4) else none
          | none => none
        | _ => none
      | _ => none
def restore : List Nat → En → En → En
  | [], _, ρ => ρ
  | v :: vs, ρ0, ρ => match ρ0[v]? with
    | some s => (restore vs ρ0 ρ).set v s
    | none => restore vs ρ0 ρ
def compE (vs : List Nat) (src : Iv) (tg : Tg) (ct : Tv) (elt : Ev) : Ev := fun ρ => andThen (src ρ) fun ts ρ1 => match compL vs tg ct elt ts [] (kill vs ρ1) with
  | some (acc, ρ2) => some (.ok (.fr acc) (restore vs ρ1 ρ2))
  | none => none
theorem kill_len : ∀ (vs : List Nat) (ρ : En), (kill vs ρ).length = ρ.length
  | [], _ => rfl
  | v :: vs, ρ => by
    show (kill vs (ρ.set v .no)).length = _
    rw [kill_len vs, List.length_set]
theorem kill_in : ∀ {vs : List Nat} {ρ : En} {i : Nat} {s : Sl}, i ∈ vs → (kill vs ρ)[i]? = some s → s = .no
  | v :: vs, ρ, i, s, h, e => by
    have e : (kill vs (ρ.set v .no))[i]? = some s := e
    by_cases q : i ∈ vs
    · exact kill_in q e
    · have iv : i = v := (List.mem_cons.mp h).resolve_right q
      subst iv
      have out : ∀ {vs : List Nat} {ρ : En}, i ∉ vs → (kill vs ρ)[i]? = ρ[i]? := by
        intro vs
        induction vs with
        | nil => intro ρ _; rfl
        | cons w ws ih =>
          intro ρ hn
          show (kill ws (ρ.set w .no))[i]? = _
          rw [ih (fun z => hn (List.mem_cons_of_mem _ z)), List.getElem?_set_ne (fun z => hn (by subst z; exact List.mem_cons_self))]
      rw [out q] at e
      rcases getSet e with ⟨_, h, _⟩ | ⟨n, _⟩
      · exact h
      · exact absurd rfl n
theorem kill_out : ∀ {vs : List Nat} {ρ : En} {i : Nat}, i ∉ vs → (kill vs ρ)[i]? = ρ[i]?
  | [], _, _, _ => rfl
  | v :: vs, ρ, i, h => by
    show (kill vs (ρ.set v .no))[i]? = _
    rw [kill_out (fun z => h (List.mem_cons_of_mem _ z)), List.getElem?_set_ne (fun z => h (by subst z; exact List.mem_cons_self))]
theorem restore_len : ∀ (vs : List Nat) (ρ0 ρ : En), (restore vs ρ0 ρ).length = ρ.length
  | [], _, _ => rfl
  | v :: vs, ρ0, ρ => by
    unfold restore
    split
    · rw [List.length_set, restore_len vs]
    · exact restore_len vs ρ0 ρ
theorem restore_at : ∀ {vs : List Nat} {ρ0 ρ : En} {i : Nat} {s : Sl}, ρ0.length = ρ.length → (restore vs ρ0 ρ)[i]? = some s → (i ∈ vs ∧ ρ0[i]? = some s) ∨ (i ∉ vs ∧ ρ[i]? = some s)
  | [], _, _, _, _, _, e => .inr ⟨by simp, e⟩
  | v :: vs, ρ0, ρ, i, s, hl, e => by
    unfold restore at e
    cases q : ρ0[v]? with
    | none =>
      rw [q] at e
      dsimp only at e
      have hv : ρ0.length ≤ v := List.getElem?_eq_none_iff.mp q
      have hi : i < ρ.length := by
        have := (List.getElem?_eq_some_iff.mp e).1
        rwa [restore_len] at this
      rcases restore_at hl e with ⟨h, e'⟩ | ⟨h, e'⟩
      · exact .inl ⟨List.mem_cons_of_mem _ h, e'⟩
      · exact .inr ⟨fun z => (List.mem_cons.mp z).elim (fun z => by omega) h, e'⟩
    | some s0 =>
      rw [q] at e
      dsimp only at e
      rcases getSet e with ⟨e1, e2, _⟩ | ⟨n, e'⟩
      · subst e1; subst e2
        exact .inl ⟨List.mem_cons_self, q⟩
      · rcases restore_at hl e' with ⟨h, e'⟩ | ⟨h, e'⟩
        · exact .inl ⟨List.mem_cons_of_mem _ h, e'⟩
        · exact .inr ⟨fun z => (List.mem_cons.mp z).elim n h, e'⟩
section
variable {K : KG} {M M1 : Addr → Prop} {H H1 : Hp} {σ σ' : L2.St} {ρ ρ1 : En} {vs : List Nat} {a : Addr}
theorem Rel.wiped {σw : L2.St} (L : Rel K M H σ ρ) (hl : σw.length = σ.length) (hw : ∀ i : Nat, i ∉ vs → σw[i]? = σ[i]?) : Rel K M H σw (TV.kill vs ρ) where
  len := by rw [hl, kill_len]; exact L.len
  dom := L.dom
  at_ := fun i s e => by
    by_cases h : i ∈ vs
    · rw [kill_in h e]; trivial
    · rw [kill_out h] at e
      rw [hw i h]
      exact L.at_ i s e
  inj := fun i j a h1 h2 => by
    have f : ∀ {i : Nat}, OwnAt σw (TV.kill vs ρ) i a → OwnAt σ ρ i a := fun {i} ⟨e, s, es, o⟩ => by
      by_cases h : i ∈ vs
      · rw [kill_in h es] at o; cases o
      · rw [kill_out h] at es
        exact ⟨by rw [← hw i h]; exact e, s, es, o⟩
    exact L.inj i j a (f h1) (f h2)
theorem owns_wiped {σw : L2.St} (hw : ∀ i : Nat, i ∉ vs → σw[i]? = σ[i]?) (h : Owns σw (TV.kill vs ρ) a) : ∃ i, i ∉ vs ∧ OwnAt σ ρ i a := by
  obtain ⟨i, e, s, es, o⟩ := h
  by_cases h : i ∈ vs
  · rw [kill_in h es] at o; cases o
  · rw [kill_out h] at es
    exact ⟨i, h, by rw [← hw i h]; exact e, s, es, o⟩
theorem own_restored {σw : L2.St} {ρ2 : En} {i : Nat} (hl : ρ.length = ρ2.length) (hw : ∀ i : Nat, i ∉ vs → σw[i]? = σ[i]?) (l : Less (TV.kill vs ρ) ρ2) (h : OwnAt σ (restore vs ρ ρ2) i a) : OwnAt σ ρ i a := by
  obtain ⟨e, s, es, o⟩ := h
  rcases restore_at hl es with ⟨_, e2⟩ | ⟨n, e2⟩
  · exact ⟨e, s, e2, o⟩
  · obtain ⟨s', e3, o3⟩ := l i s e2 o
    rw [kill_out n] at e3
    exact ⟨e, s', e3, o3⟩
theorem Rel.restored {σw : L2.St} {ρ2 : En} (L1 : Rel K M H σ ρ) (hlw : σw.length = σ.length) (hw : ∀ i : Nat, i ∉ vs → σw[i]? = σ[i]?) (g : Go (Owns σw (TV.kill vs ρ)) M H M1 H1) (l : Less (TV.kill vs ρ) ρ2) (L2' : Rel K M1 H1 σw ρ2) : Rel K M1 H1 σ (restore vs ρ ρ2) := by
  have hl : ρ.length = ρ2.length := by
    have := L1.len
    have h2 := L2'.len
    omega
  refine ⟨by rw [restore_len]; rw [← L2'.len]; exact hlw.symm, L2'.dom, fun i s e => ?_, fun i j a h1 h2 => L1.inj i j a (own_restored hl hw l h1) (own_restored hl hw l h2)⟩
  rcases restore_at hl e with ⟨h, e2⟩ | ⟨h, e2⟩
  · refine (L1.at_ i s e2).go g (L1.wiped hlw hw).sub fun o a ha z => ?_
    obtain ⟨j, hj, z⟩ := owns_wiped hw z
    exact hj (L1.inj i j a ⟨ha, s, e2, o⟩ z ▸ h)
  · have := L2'.at_ i s e2
    rwa [hw i h] at this
end
theorem wipe_in {σ : L2.St} {i : Nat} : ∀ {vs : List Nat}, i ∈ vs → i < σ.length → (wipe σ vs)[i]? = some none
  | v :: vs, h, hl => by
    unfold wipe
    by_cases e : v = i
    · subst e
      rw [List.getElem?_set_self (by rw [wipe_length]; exact hl)]
    · rw [List.getElem?_set_ne e]
      exact wipe_in ((List.mem_cons.mp h).resolve_left fun z => e z.symm) hl
theorem wipe_agr {σ σ2 : L2.St} {vs is : List Nat} (h : Agr is (wipe σ vs) σ2) (s : ∀ i ∈ is, i ∈ vs) : wipe σ2 vs = wipe σ vs := by
  have hl : σ2.length = σ.length := by rw [h.1, wipe_length]
  apply List.ext_getElem?
  intro i
  by_cases q : i ∈ vs
  · by_cases hi : i < σ.length
    · rw [wipe_in q (by omega), wipe_in q hi]
    · rw [List.getElem?_eq_none (by rw [wipe_length]; omega), List.getElem?_eq_none (by rw [wipe_length]; omega)]
  · rw [wipe_out q]
    exact h.2 i fun z => q (s i z)
theorem pts_imp {X : Cx} {ifs : List Expr} {t u : TT} (h : PTs X ifs t) (i : ∀ σ H Q, u σ H Q → t σ H Q) : PTs X ifs u := ⟨fun pins s σ H Q I q => h.run pins s σ H Q I (i σ H Q q)⟩
abbrev W0 : WX := fun _ _ _ _ => False
section
variable {G : GS} {X : Cx} {W : WX}
theorem sts_nil : PTs X [] (RT G X W yesT) := pts_imp pts_nil fun σ H Q ⟨M, ρ, o, L, e, w⟩ => by
  cases e
  exact w.ok L
theorem sts_one {c : Expr} {f : Tv} (h : PT X c (RT G X W f)) : PTs X [c] (RT G X W f) := pts_one h
mutual
theorem asgT_less {P : List Nat} : ∀ (g : Tg) (t : Tr) (ρ ρ' : En), asgT P g t ρ = some ρ' → Less ρ ρ'
  | .nm i, t, ρ, ρ', e => by
    unfold asgT at e
    split at e
    · cases e
    · cases e; exact less_set rfl
  | .tp gs, t, ρ, ρ', e => by
    cases t <;> try (simp [asgT] at e; done)
    unfold asgT at e
    split at e
    · exact asgTs_less gs _ ρ ρ' e
    · cases e
theorem asgTs_less {P : List Nat} : ∀ (gs : List Tg) (ts : List Tr) (ρ ρ' : En), asgTs P gs ts ρ = some ρ' → Less ρ ρ'
  | [], [], ρ, ρ', e => by simp only [asgTs] at e; cases e; exact .refl
  | [], _ :: _, _, _, e => by simp [asgTs] at e
  | _ :: _, [], _, _, e => by simp [asgTs] at e
  | g :: gs, t :: ts, ρ, ρ', e => by
    unfold asgTs at e
    cases q : asgT P g t ρ with
    | none => rw [q] at e; cases e
    | some ρ1 =>
      rw [q] at e
      exact (asgT_less g t ρ ρ1 q).trans (asgTs_less gs ts ρ1 ρ' e)
end
theorem re_lc {vs : List Nat} {fi : Iv} {g : Tg} {ct : Tv} {f : Ev} (hv : ∀ i ∈ g.slots, i ∈ vs) {σ : L2.St} {H : Hp} {Q : VK} (q : RE G X W (compE vs fi g ct f) σ H Q) :
    tLc (RI G X W fi) (RG G X [] g) (RT G X W0 ct) (RE G X W0 f) vs σ H Q := by
  obtain ⟨M, ρ, o, L, e, w⟩ := q
  -- the source
  have src : ∀ {R : It → Hp → Prop}, (∀ ts M1 H1 ρ1, Go (Owns σ ρ) M H M1 H1 → Less ρ ρ1 → Rel (kg X G) M1 H1 σ ρ1 → (match compL vs g ct f ts [] (kill vs ρ1) with
      | some (acc, ρ2) => some (Ou.ok (Rs.fr acc) (restore vs ρ1 ρ2))
      | none => none) = some o → ∀ J, ItOk (kg X G) J ts M1 H1 → R J H1) → RI G X W fi σ H R := by
    intro R h
    unfold compE at e
    cases ef : fi ρ with
    | none => rw [ef] at e; cases e
    | some o1 =>
      rw [ef] at e
      cases o1 with
      | ex c ρ1 => cases e; exact ⟨M, ρ, _, L, ef, w⟩
      | ok ts ρ1 => exact ⟨M, ρ, _, L, ef, fun M1 H1 g1 l1 L1 => h ts M1 H1 ρ1 g1 l1 L1 e⟩
  refine src fun ts M1 H1 ρ1 g1 l1 L1 e1 J it D nD => ?_
  cases ec : compL vs g ct f ts [] (kill vs ρ1) with
  | none => rw [ec] at e1; cases e1
  | some pr =>
    obtain ⟨accF, ρF⟩ := pr
    rw [ec] at e1
    cases e1
    have hlw : (wipe σ vs).length = σ.length := wipe_length σ vs
    have hw : ∀ i : Nat, i ∉ vs → (wipe σ vs)[i]? = σ[i]? := fun i h => wipe_out h
    have Lw : Rel (kg X G) M1 H1 (wipe σ vs) (kill vs ρ1) := L1.wiped hlw hw
    have gD := go_mut (M := M1) (o := .lst []) nD
    have LD := Lw.go0 gD (dom_mut Lw.dom)
    -- D is no slot's
    have nOwn : ∀ {σ' : L2.St} {ρ' : En}, (∀ a, Owns σ' ρ' a → Owns (wipe σ vs) (kill vs ρ1) a) → ¬ Owns σ' ρ' D := fun s z => Lw.dom D (Lw.sub D (s D z)) nD
    refine ⟨fun i m H' => ∃ (M' : Addr → Prop) (ρ' : En) (xs : List V) (acc : List Tr), i ≤ ts.length ∧ m = (ts.drop i).length ∧ Go (fun a => Owns (wipe σ vs) (kill vs ρ1) a ∨ a = D) (wi M1 D) (upd H1 D (.lst [])) M' H' ∧ Less (kill vs ρ1) ρ' ∧
        Rel (kg X G) M' H' (wipe σ vs) ρ' ∧ H' D = some (.lst xs) ∧ Reps (kg X G) M' H' xs acc ∧ M' D ∧ Later M1 H1 M' H' ∧ compL vs g ct f (ts.drop i) acc ρ' = some (accF, ρF),
      ⟨ts.length, wi M1 D, kill vs ρ1, [], [], Nat.zero_le _, rfl, .refl, .refl, LD, upd_same, .nil, .inr rfl, gD.later fun _ z => z.elim, ec⟩, ?_⟩
    rintro i m H' ⟨M', ρ', xs, acc, hle, rfl, gg, ll, LL, hD, rD, mD, lt, e'⟩
    cases hd : ts.drop i with
    | nil =>
      rw [hd] at e'
      cases e'
      have hi : i = ts.length := by
        have := congrArg List.length hd
        rw [List.length_drop] at this
        simp at this
        omega
      subst hi
      refine .inl ⟨it.stop _ _ lt, ?_⟩
      have gD2 : Go (Owns (wipe σ vs) (kill vs ρ1)) M1 H1 M' H' := Go.trans (O := Owns (wipe σ vs) (kill vs ρ1)) gD.of0 gg (fun a z => z.imp id fun (z : a = D) => by subst z; exact nD) Lw.dom
      have ow : ∀ a, Owns (wipe σ vs) (kill vs ρ1) a → Owns σ ρ a ∨ H a = none := fun a z => by
        obtain ⟨j, _, z⟩ := owns_wiped hw z
        exact .inl (l1.owns ⟨j, z⟩)
      have hl : ρ1.length = ρF.length := by
        have := L1.len
        have h2 := LL.len
        omega
      have lr : Less ρ (restore vs ρ1 ρF) := l1.trans fun j s es o => by
        rcases restore_at hl es with ⟨_, e2⟩ | ⟨n, e2⟩
        · exact ⟨s, e2, o⟩
        · obtain ⟨s', e3, o3⟩ := ll j s e2 o
          rw [kill_out n] at e3
          exact ⟨s', e3, o3⟩
      refine w M' H' (g1.trans gD2 ow L.dom) lr (L1.restored hlw hw gD2 ll LL) _ ⟨D, rfl, ?_, fun z => ?_, .lst hD mD rD⟩
      · by_cases z : H D = none
        · exact z
        · exact absurd nD (g1.there D z)
      · obtain ⟨j, z⟩ := z
        have z2 := own_restored hl hw ll z
        exact L1.dom D (L1.sub D ⟨j, z2⟩) nD
    | cons t r =>
      obtain ⟨ht, hr, hlt⟩ := drop_cons hd
      rw [hd] at e'
      obtain ⟨go, yl⟩ := it.at_ _ _ lt LL.dom i t ht
      let N : Hp → Prop := fun H2 => ∃ (M2 : Addr → Prop) (ρ2 : En) (xs2 : List V) (acc2 : List Tr), Go (fun a => Owns (wipe σ vs) (kill vs ρ1) a ∨ a = D) (wi M1 D) (upd H1 D (.lst [])) M2 H2 ∧ Less (kill vs ρ1) ρ2 ∧
        Rel (kg X G) M2 H2 (wipe σ vs) ρ2 ∧ H2 D = some (.lst xs2) ∧ Reps (kg X G) M2 H2 xs2 acc2 ∧ M2 D ∧ Later M1 H1 M2 H2 ∧ compL vs g ct f r acc2 ρ2 = some (accF, ρF)
      refine .inr ⟨go, N, fun H2 ⟨M2, ρ2, xs2, acc2, a, b, c, d, e, f, g, h⟩ => ⟨(ts.drop (i + 1)).length, by rw [hr]; simp, M2, ρ2, xs2, acc2, by omega, rfl, a, b, c, d, e, f, g, by rw [hr]; exact h⟩, fun x H3 y => ?_⟩
      obtain ⟨M3, g3, d3, rp⟩ := yl x H3 y
      have g13 := gg.trans (O1 := fun _ => False) g3 (fun _ z => z.elim) LD.dom
      have L3 := LL.go0 g3 d3
      have lt3 := lt.trans (g3.later fun _ z => z.elim)
      have hD3 : H3 D = some (.lst xs) := g3.keep D _ hD id
      have rD3 := rD.go0 g3
      have mD3 := g3.old D mD id
      unfold compL at e'
      cases ea : asgT [] g t ρ' with
      | none => rw [ea] at e'; cases e'
      | some ρ4 =>
        rw [ea] at e'
        dsimp only at e'
        refine ⟨M3, ρ', t, ρ4, L3, rp, ea, fun σ4 a4 s4 L4 => ⟨wipe_agr a4 hv, ?_⟩⟩
        have hw4 : ∀ i : Nat, i ∉ vs → (wipe σ vs)[i]? = σ4[i]? := fun i h => (a4.2 i fun z => h (hv i z)).symm
        have ow4 : ∀ a, Owns σ4 ρ4 a → Owns (wipe σ vs) (kill vs ρ1) a := fun a z => by
          rcases s4.sub a z with z2 | z2
          · exact ll.owns z2
          · exact absurd z2 (L4.dom a (L4.sub a z))
        -- behind an expression of the turn, back at the wiped slots
        have back : ∀ {M5 : Addr → Prop} {H5 : Hp} {ρ5 : En}, Go (Owns σ4 ρ4) M3 H3 M5 H5 → Less ρ4 ρ5 → Rel (kg X G) M5 H5 σ4 ρ5 →
            Go (fun a => Owns (wipe σ vs) (kill vs ρ1) a ∨ a = D) (wi M1 D) (upd H1 D (.lst [])) M5 H5 ∧ Less (kill vs ρ1) (kill vs ρ5) ∧ Rel (kg X G) M5 H5 (wipe σ vs) (kill vs ρ5) ∧ H5 D = some (.lst xs) ∧ Reps (kg X G) M5 H5 xs acc ∧ M5 D ∧ Later M1 H1 M5 H5 := by
          intro M5 H5 ρ5 g5 l5 L5
          have n4 : ¬ Owns σ4 ρ4 D := nOwn ow4
          refine ⟨g13.trans g5 (fun a z => .inl (.inl (ow4 a z))) LD.dom, fun j s es o => ?_, L5.wiped (by rw [a4.1]) hw4, g5.keep D _ hD3 n4, rD3.go g5 L4.sub, g5.old D mD3 n4, lt3.trans (g5.later L4.sub)⟩
          by_cases hj : j ∈ vs
          · rw [kill_in hj es] at o; cases o
          · rw [kill_out hj] at es
            obtain ⟨s1, e1, o1⟩ := l5 j s es o
            obtain ⟨s0, e0, o0⟩ := asgT_less g t ρ' ρ4 ea j s1 e1 o1
            exact ll j s0 e0 o0
        cases ect : ct ρ4 with
        | none => rw [ect] at e'; cases e'
        | some oc =>
          rw [ect] at e'
          cases oc with
          | ex c ρ5 => cases e'
          | ok b ρ5 =>
            refine ⟨M3, ρ4, _, L4, ect, fun M5 H5 g5 l5 L5 => ?_⟩
            cases b with
            | false =>
              rw [if_neg Bool.false_ne_true]
              obtain ⟨b1, b2, b3, b4, b5, b6, b7⟩ := back g5 l5 L5
              exact ⟨M5, _, xs, acc, b1, b2, b3, b4, b5, b6, b7, e'⟩
            | true =>
              rw [if_pos rfl]
              dsimp only at e'
              cases ef : f ρ5 with
              | none => rw [ef] at e'; cases e'
              | some oe =>
                rw [ef] at e'
                cases oe with
                | ex c ρ6 => cases e'
                | ok r ρ6 =>
                  dsimp only at e'
                  refine ⟨M5, ρ5, _, L5, ef, fun M6 H6 g6 l6 L6 y R6 => ?_⟩
                  cases ez : r.fz ρ6 with
                  | none => rw [ez] at e'; cases e'
                  | some pz =>
                    obtain ⟨u, ρ7⟩ := pz
                    rw [ez] at e'
                    dsimp only at e'
                    split at e'
                    · rename_i c
                      have g56 : Go (Owns σ4 ρ4) M3 H3 M6 H6 := g5.trans g6 (fun a z => .inl (l5.owns z)) L4.dom
                      obtain ⟨M7, g7, l7, L7, rp7, _⟩ := fz_ok L4.dom g56 (l5.trans l6) L6 (R6.from g5.there) ez
                      obtain ⟨b1, b2, b3, b4, b5, b6, b7⟩ := back g7 ((l5.trans l6).trans l7) L7
                      have nD' : ¬ Owns (wipe σ vs) (kill vs ρ7) D := nOwn fun a z => b2.owns z
                      -- the list grows
                      have gA : Go (fun a => a = D) M7 H6 M7 (upd H6 D (.lst (xs ++ [y]))) := ⟨fun a o' e n => by rw [upd_ne n]; exact e, fun a n => by
                        by_cases h : a = D
                        · subst h; rw [upd_same]; exact fun z => nomatch z
                        · rw [upd_ne h]; exact n, fun _ h => .inl h, fun _ h _ => h⟩
                      have dA : ∀ a, M7 a → upd H6 D (.lst (xs ++ [y])) a ≠ none := fun a m => gA.there a (L7.dom a m)
                      have sA : ∀ a, a = D → M7 a := fun a z => z ▸ b6
                      refine ⟨xs, b4, by rw [b5.length]; exact c, M7, _, xs ++ [y], acc ++ [u], b1.trans gA (fun a z => .inl (.inr z)) LD.dom, b2, b3.go gA sA (fun a z => z ▸ nD') dA, upd_same, (b5.go gA sA).append (.cons (rp7.go gA sA) .nil), b6, b7.trans (gA.later sA), e'⟩
                    · cases e'
theorem se_lc {elt tg iter : Expr} {ifs : List Expr} {scope : Scope} {own : List (Str × Nat)} {pos : Pos} {fi : Iv} {g : Tg} {ct : Tv} {f : Ev} (hc : X.calm = true) (hN : X.N.Nodup) (hi : PI X tg iter (RI G X W fi)) (ok : BlkOk X.N X.env.scope scope own)
    (hg : ∀ (s : Shared) (H : Hp) (C : Addr) (cl : List (Str × Addr)) (fp : List Addr), PG (X.blk s H scope (compEnvC scope cl C X.env) fp) tg (RG G (X.blk s H scope (compEnvC scope cl C X.env) fp) [] g))
    (ht : ∀ (s : Shared) (H : Hp) (C : Addr) (cl : List (Str × Addr)) (fp : List Addr), PTs (X.blk s H scope (compEnvC scope cl C X.env) fp) ifs (RT G (X.blk s H scope (compEnvC scope cl C X.env) fp) W0 ct))
    (he : ∀ (s : Shared) (H : Hp) (C : Addr) (cl : List (Str × Addr)) (fp : List Addr), PE (X.blk s H scope (compEnvC scope cl C X.env) fp) elt (RE G (X.blk s H scope (compEnvC scope cl C X.env) fp) W0 f))
    (hv : ∀ i ∈ g.slots, i ∈ own.map (·.2)) (hs : ∀ x, foldedSetIterable iter X.env x = pure x := by intro _; rfl) :
    PE X (.ListComp elt [⟨tg, iter, ifs, 0⟩] scope pos) (RE G X W (compE (own.map (·.2)) fi g ct f)) :=
  pe_imp (pe_lc (g := RG G X [] g) (tt := RT G X W0 ct) (te := RE G X W0 f) hc hN hi ok hg ht he hs) fun _ _ _ => re_lc hv
theorem ss_setLc {P : List Nat} {i : Nat} {y : Str} {py spos : Pos} {elt tg iter : Expr} {ifs : List Expr} {scope : Scope} {own : List (Str × Nat)} {pos : Pos} {fi : Iv} {g : Tg} {ct : Tv} {f : Ev} (hc : X.calm = true) (hN : X.N.Nodup) (hy : X.N[i]? = some y) (hyl : X.env.scope.names.lookup y = some .local)
    (hsw : swapsWith (.ListComp elt [⟨tg, iter, ifs, 0⟩] scope pos) (some (.Name y py)) spos.line X.env = pure true) (hi : PI X tg iter (RI G X W fi)) (ok : BlkOk X.N X.env.scope scope own)
    (hg : ∀ (s : Shared) (H : Hp) (C : Addr) (cl : List (Str × Addr)) (fp : List Addr), PG (X.blk s H scope (compEnvC scope cl C X.env) fp) tg (RG G (X.blk s H scope (compEnvC scope cl C X.env) fp) [] g))
    (ht : ∀ (s : Shared) (H : Hp) (C : Addr) (cl : List (Str × Addr)) (fp : List Addr), PTs (X.blk s H scope (compEnvC scope cl C X.env) fp) ifs (RT G (X.blk s H scope (compEnvC scope cl C X.env) fp) W0 ct))
    (he : ∀ (s : Shared) (H : Hp) (C : Addr) (cl : List (Str × Addr)) (fp : List Addr), PE (X.blk s H scope (compEnvC scope cl C X.env) fp) elt (RE G (X.blk s H scope (compEnvC scope cl C X.env) fp) W0 f))
    (hv : ∀ i ∈ g.slots, i ∈ own.map (·.2)) (hs : ∀ x, foldedSetIterable iter X.env x = pure x := by intro _; rfl) :
    PS X (.Assign [.Name y py] (.ListComp elt [⟨tg, iter, ifs, 0⟩] scope pos) spos) (RS G X W P (setS P i (compE (own.map (·.2)) fi g ct f))) := by
  refine ps_imp (ps_setLc (g := RG G X [] g) (tt := RT G X W0 ct) (te := RE G X W0 f) hc hN hy hyl hsw hi ok hg ht he hs) fun D σ H q => ?_
  have q2 : tAsg (RE G X W (compE (own.map (·.2)) fi g ct f)) (gName i) D σ H := re_set q
  exact re_lc hv q2
end
end TV
namespace TV
open PySem PySem.Spec PyProof.Rows L2
inductive Fo where
  | rt (n : Nw) (outs : En) | ex (c : Str)
abbrev Fv := List Sl → Option Fo
def spF (G : GS) (K : PySem.W.Frag) (mg : Str → Option Value) (np : Nat) (F : Fv) : Sp := fun vs H Q E => ∃ (M : Addr → Prop) (args : En) (o : Fo), args.length = np ∧ Rel ⟨K, G.l, G.z, G.f⟩ M H (vs.map some) args ∧ F args = some o ∧ match o with
  | .rt n outs => ∀ v M' H', Go (Owns (vs.map some) args) M H M' H' → NewAt ⟨K, G.l, G.z, G.f⟩ H M' H' v n → Rel ⟨K, G.l, G.z, G.f⟩ M' H' (vs.map some) outs → Less args outs → Q v H'
  | .ex c => ∀ C M' H', mg c = some (.ref C) → Go (Owns (vs.map some) args) M H M' H' → (∀ a, M' a → H' a ≠ none) → E (.ref C) none H'
def hand (ρ : En) : List Rs → Option En
  | [] => some []
  | .sh t :: rs => (hand ρ rs).map (.sh t :: ·)
  | .sl i :: rs => match ρ[i]? with
    | some s => (hand ρ rs).map (s :: ·)
    | none => none
  | _ :: _ => none
def slotsOf : List Rs → List Nat
  | [] => []
  | .sl i :: rs => i :: slotsOf rs
  | _ :: rs => slotsOf rs
def takeBack : List Rs → En → En → En
  | .sl i :: rs, s :: outs, ρ => takeBack rs outs (ρ.set i s)
  | _ :: rs, _ :: outs, ρ => takeBack rs outs ρ
  | _, _, ρ => ρ
def callE (F : Fv) (fs : Av) : Ev := fun ρ => andThen (fs ρ) fun rs ρ1 => if (slotsOf rs).Nodup then (match hand ρ1 rs with
  | none => none
  | some args => match F args with
    | none => none
    | some (.rt n outs) => if outs.length = args.length then some (.ok n.rs (takeBack rs outs ρ1)) else none
    | some (.ex c) => some (.ex c (kill (slotsOf rs) ρ1))) else none
section
variable {K : KG} {M M1 : Addr → Prop} {H H1 : Hp} {σ : L2.St} {ρ : En}
theorem hand_len : ∀ {rs : List Rs} {args : En}, hand ρ rs = some args → args.length = rs.length
  | [], _, e => by cases e; rfl
  | r :: rs, args, e => by
    cases r with
    | sh t =>
      unfold hand at e
      cases q : hand ρ rs with
      | none => rw [q] at e; cases e
      | some as => rw [q] at e; cases e; simp [hand_len q]
    | sl i =>
      unfold hand at e
      split at e
      · cases q : hand ρ rs with
        | none => rw [q] at e; cases e
        | some as => rw [q] at e; cases e; simp [hand_len q]
      · cases e
    | fr _ => cases e
    | fk _ => cases e
    | ft _ => cases e
theorem hand_at : ∀ {rs : List Rs} {args : En} {vs : List V} {k : Nat} {s : Sl}, hand ρ rs = some args → ArgsAt K M H σ vs rs → args[k]? = some s →
    ∃ r v, rs[k]? = some r ∧ vs[k]? = some v ∧ ((∃ t, r = .sh t ∧ s = .sh t ∧ Rep K M H v t) ∨ ∃ i, r = .sl i ∧ ρ[i]? = some s ∧ σ[i]? = some (some v))
  | [], _, _, _, _, e, _, h => by cases e; cases h
  | r :: rs, args, v :: vs, k, s, e, .cons hv ht, h => by
    cases r with
    | sh t =>
      unfold hand at e
      cases q : hand ρ rs with
      | none => rw [q] at e; cases e
      | some as =>
        rw [q] at e; cases e
        cases k with
        | zero => cases h; exact ⟨_, v, rfl, rfl, .inl ⟨t, rfl, rfl, hv⟩⟩
        | succ k =>
            obtain ⟨r, v, a, b, c⟩ := hand_at (rs := rs) q ht (show as[k]? = some s from h)
            exact ⟨r, v, a, b, c⟩
    | sl i =>
      unfold hand at e
      cases qi : ρ[i]? with
      | none => rw [qi] at e; cases e
      | some s0 =>
        rw [qi] at e
        dsimp only at e
        cases q : hand ρ rs with
        | none => rw [q] at e; cases e
        | some as =>
          rw [q] at e; cases e
          cases k with
          | zero => cases h; exact ⟨_, v, rfl, rfl, .inr ⟨i, rfl, qi, hv⟩⟩
          | succ k =>
            obtain ⟨r, v, a, b, c⟩ := hand_at (rs := rs) q ht (show as[k]? = some s from h)
            exact ⟨r, v, a, b, c⟩
    | fr _ => cases e
    | fk _ => cases e
    | ft _ => cases e
theorem args_len : ∀ {rs : List Rs} {vs : List V}, ArgsAt K M H σ vs rs → vs.length = rs.length
  | _, _, .nil => rfl
  | _, _, .cons _ t => by simp [args_len t]
theorem mem_slots : ∀ {rs : List Rs} {k i : Nat}, rs[k]? = some (.sl i) → i ∈ slotsOf rs
  | r :: rs, 0, i, e => by cases e; exact List.mem_cons_self
  | r :: rs, k + 1, i, e => by
    have := mem_slots (rs := rs) (k := k) (i := i) e
    cases r <;> first | exact List.mem_cons_of_mem _ this | exact this
theorem of_slots : ∀ {rs : List Rs} {i : Nat}, i ∈ slotsOf rs → ∃ k : Nat, rs[k]? = some (.sl i)
  | r :: rs, i, h => by
    have on : i ∈ slotsOf rs → ∃ k : Nat, (r :: rs)[k]? = some (.sl i) := fun h => let ⟨k, e⟩ := of_slots h; ⟨k + 1, e⟩
    cases r with
    | sl j =>
      rcases List.mem_cons.mp h with e | h
      · subst e; exact ⟨0, rfl⟩
      · exact on h
    | sh _ => exact on h
    | fr _ => exact on h
    | fk _ => exact on h
    | ft _ => exact on h
theorem slots_inj : ∀ {rs : List Rs} {k j i : Nat}, (slotsOf rs).Nodup → rs[k]? = some (.sl i) → rs[j]? = some (.sl i) → k = j
  | r :: rs, k, j, i, nd, e1, e2 => by
    cases r with
    | sl m =>
      have nd' := List.nodup_cons.mp nd
      cases k with
      | zero =>
        cases j with
        | zero => rfl
        | succ j => cases e1; exact absurd (mem_slots (rs := rs) (k := j) e2) nd'.1
      | succ k =>
        cases j with
        | zero => cases e2; exact absurd (mem_slots (rs := rs) (k := k) e1) nd'.1
        | succ j => rw [slots_inj nd'.2 (show rs[k]? = _ from e1) e2]
    | sh _ =>
      cases k with
      | zero => cases e1
      | succ k =>
        cases j with
        | zero => cases e2
        | succ j => rw [slots_inj (rs := rs) nd (show rs[k]? = _ from e1) e2]
    | fr _ =>
      cases k with
      | zero => cases e1
      | succ k =>
        cases j with
        | zero => cases e2
        | succ j => rw [slots_inj (rs := rs) nd (show rs[k]? = _ from e1) e2]
    | fk _ =>
      cases k with
      | zero => cases e1
      | succ k =>
        cases j with
        | zero => cases e2
        | succ j => rw [slots_inj (rs := rs) nd (show rs[k]? = _ from e1) e2]
    | ft _ =>
      cases k with
      | zero => cases e1
      | succ k =>
        cases j with
        | zero => cases e2
        | succ j => rw [slots_inj (rs := rs) nd (show rs[k]? = _ from e1) e2]
theorem takeBack_len : ∀ (rs : List Rs) (outs ρ : En), (takeBack rs outs ρ).length = ρ.length
  | [], _, _ => by cases ‹En› <;> rfl
  | r :: rs, [], ρ => by cases r <;> rfl
  | r :: rs, s :: outs, ρ => by
    cases r with
    | sl i =>
      show (takeBack rs outs (ρ.set i s)).length = _
      rw [takeBack_len rs, List.length_set]
    | sh _ => exact takeBack_len rs outs ρ
    | fr _ => exact takeBack_len rs outs ρ
    | fk _ => exact takeBack_len rs outs ρ
    | ft _ => exact takeBack_len rs outs ρ
theorem takeBack_at : ∀ {rs : List Rs} {outs ρ : En} {j : Nat} {s : Sl}, outs.length = rs.length → (slotsOf rs).Nodup → (takeBack rs outs ρ)[j]? = some s → (∃ k : Nat, rs[k]? = some (.sl j) ∧ outs[k]? = some s) ∨ (j ∉ slotsOf rs ∧ ρ[j]? = some s)
  | [], outs, ρ, j, s, _, _, e => by
    refine .inr ⟨by simp [slotsOf], ?_⟩
    cases outs <;> exact e
  | r :: rs, [], _, _, _, hl, _, _ => by simp at hl
  | r :: rs, s0 :: outs, ρ, j, s, hl, nd, e => by
    have hl' : outs.length = rs.length := by simpa using hl
    have on : ∀ {ρ : En}, (slotsOf rs).Nodup → (takeBack rs outs ρ)[j]? = some s → (∃ k : Nat, (r :: rs)[k]? = some (.sl j) ∧ (s0 :: outs)[k]? = some s) ∨ (j ∉ slotsOf rs ∧ ρ[j]? = some s) := fun nd e =>
      (takeBack_at hl' nd e).imp (fun ⟨k, a, b⟩ => ⟨k + 1, a, b⟩) id
    cases r with
    | sl i =>
      have nd' := List.nodup_cons.mp nd
      rcases on nd'.2 (show (takeBack rs outs (ρ.set i s0))[j]? = _ from e) with h | ⟨h1, h2⟩
      · exact .inl h
      · rcases getSet h2 with ⟨rfl, rfl, _⟩ | ⟨n, h2⟩
        · exact .inl ⟨0, rfl, rfl⟩
        · exact .inr ⟨fun z => (List.mem_cons.mp z).elim n h1, h2⟩
    | sh _ => exact on nd e
    | fr _ => exact on nd e
    | fk _ => exact on nd e
    | ft _ => exact on nd e
theorem hand_rel {rs : List Rs} {args : En} {vs : List V} (L : Rel K M H σ ρ) (A : ArgsAt K M H σ vs rs) (nd : (slotsOf rs).Nodup) (e : hand ρ rs = some args) : Rel K M H (vs.map some) args where
  len := by rw [List.length_map, args_len A, hand_len e]
  dom := L.dom
  at_ := fun k s h => by
    obtain ⟨r, v, h1, h2, h3⟩ := hand_at e A h
    rw [List.getElem?_map, h2]
    rcases h3 with ⟨t, _, rfl, rp⟩ | ⟨i, _, hs, hv⟩
    · exact ⟨v, rfl, rp⟩
    · have := L.at_ i s hs
      rw [hv] at this
      exact this
  inj := fun k j a ⟨h1, s, h2, h3⟩ ⟨h1', s', h2', h3'⟩ => by
    obtain ⟨r, v, e1, e2, e3⟩ := hand_at e A h2
    obtain ⟨r', v', e1', e2', e3'⟩ := hand_at e A h2'
    rw [List.getElem?_map, e2] at h1
    rw [List.getElem?_map, e2'] at h1'
    cases h1; cases h1'
    rcases e3 with ⟨t, _, rfl, _⟩ | ⟨i, rfl, hs, hv⟩
    · cases h3
    · rcases e3' with ⟨t, _, rfl, _⟩ | ⟨i', rfl, hs', hv'⟩
      · cases h3'
      · have := L.inj i i' a ⟨hv, s, hs, h3⟩ ⟨hv', s', hs', h3'⟩
        subst this
        exact slots_inj nd e1 e1'
theorem hand_owns {rs : List Rs} {args : En} {vs : List V} {a : Addr} (A : ArgsAt K M H σ vs rs) (e : hand ρ rs = some args) (h : Owns (vs.map some) args a) : ∃ i, i ∈ slotsOf rs ∧ OwnAt σ ρ i a := by
  obtain ⟨k, h1, s, h2, h3⟩ := h
  obtain ⟨r, v, e1, e2, e3⟩ := hand_at e A h2
  rw [List.getElem?_map, e2] at h1
  cases h1
  rcases e3 with ⟨t, _, rfl, _⟩ | ⟨i, rfl, hs, hv⟩
  · cases h3
  · exact ⟨i, mem_slots e1, hv, s, hs, h3⟩
theorem args_sl : ∀ {rs : List Rs} {vs : List V} {k i : Nat}, ArgsAt K M H σ vs rs → rs[k]? = some (.sl i) → ∃ v, vs[k]? = some v ∧ σ[i]? = some (some v)
  | _, _, 0, i, .cons h _, e => by cases e; exact ⟨_, rfl, h⟩
  | r :: rs, v :: vs, k + 1, i, .cons _ t, e => by
    obtain ⟨w, a, b⟩ := args_sl (rs := rs) (vs := vs) (k := k) (i := i) t e
    exact ⟨w, a, b⟩
theorem hand_sl : ∀ {rs : List Rs} {args : En} {k i : Nat}, hand ρ rs = some args → rs[k]? = some (.sl i) → args[k]? = ρ[i]?
  | r :: rs, args, k, i, e, h => by
    cases r with
    | sh t =>
      unfold hand at e
      cases q : hand ρ rs with
      | none => rw [q] at e; cases e
      | some as =>
        rw [q] at e; cases e
        cases k with
        | zero => cases h
        | succ k => exact (hand_sl (rs := rs) (k := k) q h : as[k]? = ρ[i]?)
    | sl j =>
      unfold hand at e
      cases qi : ρ[j]? with
      | none => rw [qi] at e; cases e
      | some s0 =>
        rw [qi] at e
        dsimp only at e
        cases q : hand ρ rs with
        | none => rw [q] at e; cases e
        | some as =>
          rw [q] at e; cases e
          cases k with
          | zero => cases h; exact qi.symm
          | succ k => exact (hand_sl (rs := rs) (k := k) q h : as[k]? = ρ[i]?)
    | fr _ => cases e
    | fk _ => cases e
    | ft _ => cases e
theorem back_rel {rs : List Rs} {args outs : En} {vs : List V} (L : Rel K M H σ ρ) (A : ArgsAt K M H σ vs rs) (nd : (slotsOf rs).Nodup) (e : hand ρ rs = some args) (ho : outs.length = args.length) (g : Go (Owns (vs.map some) args) M H M1 H1) (L1 : Rel K M1 H1 (vs.map some) outs) (l1 : Less args outs) :
    Rel K M1 H1 σ (takeBack rs outs ρ) ∧ Less ρ (takeBack rs outs ρ) := by
  have hl : outs.length = rs.length := ho.trans (hand_len e)
  have ls : Less ρ (takeBack rs outs ρ) := fun j s es o => by
    rcases takeBack_at hl nd es with ⟨k, e1, e2⟩ | ⟨_, e2⟩
    · obtain ⟨s', e3, o3⟩ := l1 k s e2 o
      rw [hand_sl e e1] at e3
      exact ⟨s', e3, o3⟩
    · exact ⟨s, e2, o⟩
  have own : ∀ {j : Nat} {a : Addr}, OwnAt σ (takeBack rs outs ρ) j a → OwnAt σ ρ j a := fun ⟨h1, s, h2, h3⟩ => let ⟨s', e, o⟩ := ls _ s h2 h3; ⟨h1, s', e, o⟩
  refine ⟨⟨by rw [takeBack_len]; exact L.len, L1.dom, fun j s es => ?_, fun j k a h1 h2 => L.inj j k a (own h1) (own h2)⟩, ls⟩
  rcases takeBack_at hl nd es with ⟨k, e1, e2⟩ | ⟨n, e2⟩
  · obtain ⟨v, ev, hv⟩ := args_sl A e1
    have := L1.at_ k s e2
    rw [List.getElem?_map, ev] at this
    rw [hv]
    exact this
  · refine (L.at_ j s e2).go g (fun a z => let ⟨i, _, h⟩ := hand_owns A e z; L.sub a ⟨i, h⟩) fun o a ha z => ?_
    obtain ⟨i, hi, h⟩ := hand_owns A e z
    exact n (L.inj j i a ⟨ha, s, e2, o⟩ h ▸ hi)
theorem back_kill {rs : List Rs} {args : En} {vs : List V} (L : Rel K M H σ ρ) (A : ArgsAt K M H σ vs rs) (e : hand ρ rs = some args) (g : Go (Owns (vs.map some) args) M H M1 H1) (d : ∀ a, M1 a → H1 a ≠ none) : Rel K M1 H1 σ (kill (slotsOf rs) ρ) := by
  have own : ∀ {j : Nat} {a : Addr}, OwnAt σ (kill (slotsOf rs) ρ) j a → OwnAt σ ρ j a := fun ⟨h1, s, h2, h3⟩ => let ⟨s', e, o⟩ := less_kill _ _ _ s h2 h3; ⟨h1, s', e, o⟩
  refine ⟨by rw [kill_len]; exact L.len, d, fun j s es => ?_, fun j k a h1 h2 => L.inj j k a (own h1) (own h2)⟩
  by_cases hj : j ∈ slotsOf rs
  · rw [kill_in hj es]; trivial
  · rw [kill_out hj] at es
    refine (L.at_ j s es).go g (fun a z => let ⟨i, _, h⟩ := hand_owns A e z; L.sub a ⟨i, h⟩) fun o a ha z => ?_
    obtain ⟨i, hi, h⟩ := hand_owns A e z
    exact hj (L.inj j i a ⟨ha, s, es, o⟩ h ▸ hi)
end
section
variable {G : GS} {X : Cx} {W : WX}
theorem NewAt.from {K : KG} {H0 H0' : Hp} {M : Addr → Prop} {H : Hp} {v : V} {n : Nw} (h : NewAt K H0 M H v n) (t : ∀ a, H0' a ≠ none → H0 a ≠ none) : NewAt K H0' M H v n := by
  have f : ∀ p, H0 p = none → H0' p = none := fun p e => by
    by_cases q : H0' p = none
    · exact q
    · exact absurd e (t p q)
  cases n with
  | s u => exact h
  | l ts => obtain ⟨p, h1, h0, h2⟩ := h; exact ⟨p, h1, f p h0, h2⟩
  | k ts => obtain ⟨p, h1, h0, h2⟩ := h; exact ⟨p, h1, f p h0, h2⟩
  | d ts => obtain ⟨p, h1, h0, h2⟩ := h; exact ⟨p, h1, f p h0, h2⟩
theorem NewAt.res' {K : KG} {H : Hp} {M : Addr → Prop} {M' : Addr → Prop} {H' : Hp} {σ : L2.St} {ρ : En} {v : V} {n : Nw} (h : NewAt K H M' H' v n) (no : ∀ p, H p = none → ¬ Owns σ ρ p) : ResAt K H M' H' σ ρ v n.rs := by
  cases n with
  | s t => exact h
  | l ts => obtain ⟨p, h1, h2, h3⟩ := h; exact ⟨p, h1, h2, no p h2, h3⟩
  | k ts => obtain ⟨p, h1, h2, h3⟩ := h; exact ⟨p, h1, h2, no p h2, h3⟩
  | d ts => obtain ⟨p, h1, h2, h3⟩ := h; exact ⟨p, h1, h2, no p h2, h3⟩
theorem re_call {np : Nat} {F : Fv} {fs : Av} {σ : L2.St} {H : Hp} {Q : VK} (hF : ∀ args o, F args = some o → args.length = np) (q : RE G X W (callE F fs) σ H Q) : tCallS (spF G X.K X.mg np F) (WE W) (RA G X W fs) σ H Q := by
  obtain ⟨M, ρ, o, L, e, w⟩ := q
  refine RA.stepO L e w fun rs vs M1 H1 ρ1 g1 l1 L1 A e1 => ?_
  split at e1
  · rename_i nd
    cases eh : hand ρ1 rs with
    | none => rw [eh] at e1; cases e1
    | some args =>
      rw [eh] at e1
      dsimp only at e1
      have Lh := hand_rel L1 A nd eh
      have sb : ∀ a, Owns (vs.map some) args a → Owns σ ρ1 a := fun a z => let ⟨i, _, h⟩ := hand_owns A eh z; ⟨i, h⟩
      cases ef : F args with
      | none => rw [ef] at e1; cases e1
      | some fo =>
        rw [ef] at e1
        refine ⟨M1, args, fo, hF _ _ ef, Lh, ef, ?_⟩
        cases fo with
        | rt n outs =>
          dsimp only at e1
          split at e1
          · rename_i ho
            cases e1
            intro v M' H' g na Lo lo
            obtain ⟨L2', l2⟩ := back_rel L1 A nd eh ho g Lo lo
            have gg := g1.trans (g.wide sb) (fun a z => .inl (l1.owns z)) L.dom
            refine w M' H' gg (l1.trans l2) L2' v ((NewAt.res' (M := M1) na fun p hp z => ?_).from g1.there)
            exact L1.dom p (L1.sub p (l2.owns z)) hp
          · cases e1
        | ex c =>
          cases e1
          intro C M' H' hm g d
          exact w C M' H' hm (g1.trans (g.wide sb) (fun a z => .inl (l1.owns z)) L.dom) (l1.trans (less_kill _ _)) (back_kill L1 A eh g d)
  · cases e1
theorem se_call {k : Nat} {f : Addr} {fd : FuncData} {ps : List Str} {np : Nat} {F : Fv} {x : Str} {p pos : Pos} {e : Expr} {es : List Expr} {fs : Av} (Fk : FnOk X.prog X.w X.K X.mg X.base (L2N.CX X.prog X.w) k f fd ps (spF G X.K X.mg np F)) (hF : ∀ args o, F args = some o → args.length = np)
    (hr : Room k X.A) (hg : Gl X x) (hm : X.mg x = some (.ref f)) (hk : PySem.W.keepIn X.K (.ref f) = true) (hb : Binds X.K fd ps []) (tk : L2N.Takes X W)
    (ha : PA X (e :: es) (RA G X W fs)) (hdb : (x == ("__debug__" : Str)) = false := by decide) (he : starEach (e :: es) X.env = (false, eval e X.env) :: starEach es X.env := by rfl) (hpl : (backTo pos (starEach es X.env)).any (·.1) = false := by rfl) :
    PE X (.Call (.Name x p) (e :: es) [] pos) (RE G X W (callE F fs)) :=
  pe_imp (pe_callS Fk hr hg hm hk hb (fun σ => L2N.passAt tk σ) ha hdb he hpl) fun _ _ _ => re_call hF
end
def exitV (np : Nat) (P : List Nat) (ρ : En) : Rs → Option (Nw × En)
  | .sh t => some (.s t, ρ)
  | .fr ts => some (.l ts, ρ)
  | .fk ts => some (.k ts, ρ)
  | .ft ts => some (.d ts, ρ)
  | .sl i => match ρ[i]? with
    | some (.ow ts) => if i ∉ P ∧ (P.all fun j => match ρ[j]? with | some s => s.own | none => false) = true then some (.l ts, ρ) else ((Rs.sl i).fz ρ).map fun x => (.s x.1, x.2)
    | some (.ok ts) => if i ∉ P ∧ (P.all fun j => match ρ[j]? with | some s => s.own | none => false) = true then some (.k ts, ρ) else ((Rs.sl i).fz ρ).map fun x => (.s x.1, x.2)
    | some (.ot ts) => if i ∉ P ∧ (P.all fun j => match ρ[j]? with | some s => s.own | none => false) = true then some (.d ts, ρ) else ((Rs.sl i).fz ρ).map fun x => (.s x.1, x.2)
    | some _ => ((Rs.sl i).fz ρ).map fun x => (.s x.1, x.2)
    | none => none
def outsOf (np : Nat) (P : List Nat) (ρ : En) : En := (List.range np).map fun j => if j ∈ P then (match ρ[j]? with | some s => s | none => .no) else .no
def inP (P : List Nat) (args : En) : Bool := (List.range args.length).all fun j => (match args[j]? with | some s => !s.own | none => true) || decide (j ∈ P)
def runF (np n : Nat) (P : List Nat) (body : Sv) : Fv := fun args => if args.length = np ∧ inP P args = true ∧ (∀ j ∈ P, j < np) then (match body (args ++ List.replicate (n - np) .no) with
  | some (.rt r ρ) => match exitV np P ρ r with
    | some (v, ρ') => some (.rt v (outsOf np P ρ'))
    | none => none
  | some (.nx ρ) => some (.rt (.s .non) (outsOf np P ρ))
  | some (.ex c ρ) => some (.ex c)
  | _ => none) else none
theorem runF_len {np n : Nat} {P : List Nat} {body : Sv} {args : En} {o : Fo} (h : runF np n P body args = some o) : args.length = np := by
  unfold runF at h
  split at h
  · rename_i c; exact c.1
  · cases h
end TV
namespace TV
open PySem PySem.Spec PyProof.Rows L2
section
variable {K : KG} {M M' : Addr → Prop} {H H' : Hp} {σ' : L2.St} {args ρ' : En} {vs : List V} {np n : Nat} {P : List Nat}
theorem app_no {i : Nat} {s : Sl} {k : Nat} (h : (args ++ List.replicate k Sl.no)[i]? = some s) : args[i]? = some s ∨ (args.length ≤ i ∧ s = .no) := by
  by_cases hi : i < args.length
  · rw [List.getElem?_append_left hi] at h; exact .inl h
  · rw [List.getElem?_append_right (by omega), List.getElem?_replicate] at h
    split at h
    · cases h; exact .inr ⟨by omega, rfl⟩
    · cases h
theorem start_at {N : List Str} {i : Nat} (h : i < vs.length) : (L2.start N vs)[i]? = (vs.map some)[i]? := by
  unfold L2.start
  rw [List.getElem?_append_left (by rw [List.length_map]; exact h)]
theorem start_own {N : List Str} {k i : Nat} {a : Addr} (hl : vs.length = args.length) (h : OwnAt (L2.start N vs) (args ++ List.replicate k Sl.no) i a) : i < args.length ∧ OwnAt (vs.map some) args i a := by
  obtain ⟨h1, s, h2, h3⟩ := h
  rcases app_no h2 with h2 | ⟨_, rfl⟩
  · have hi := (List.getElem?_eq_some_iff.mp h2).1
    rw [start_at (by omega)] at h1
    exact ⟨hi, h1, s, h2, h3⟩
  · cases h3
theorem start_rel {N : List Str} (hn : args.length ≤ N.length) (L : Rel K M H (vs.map some) args) : Rel K M H (L2.start N vs) (args ++ List.replicate (N.length - args.length) Sl.no) := by
  have hl : vs.length = args.length := by have := L.len; rwa [List.length_map] at this
  refine ⟨?_, L.dom, fun i s e => ?_, fun i j a h1 h2 => L.inj i j a (start_own hl h1).2 (start_own hl h2).2⟩
  · unfold L2.start
    rw [List.length_append, List.length_append, List.length_map, List.length_replicate, List.length_replicate, hl]
  · rcases app_no e with e | ⟨_, rfl⟩
    · rw [start_at (by have := (List.getElem?_eq_some_iff.mp e).1; omega)]
      exact L.at_ i s e
    · trivial
theorem outs_get {j : Nat} {s : Sl} (h : (outsOf np P ρ')[j]? = some s) : j < np ∧ (s = .no ∨ (j ∈ P ∧ ρ'[j]? = some s)) := by
  unfold outsOf at h
  rw [List.getElem?_map] at h
  by_cases hj : j < np
  · rw [List.getElem?_range hj] at h
    cases h
    refine ⟨hj, ?_⟩
    dsimp only
    by_cases hP : j ∈ P
    · rw [if_pos hP]
      cases q : ρ'[j]? with
      | none => exact .inl rfl
      | some s => exact .inr ⟨hP, rfl⟩
    · rw [if_neg hP]; exact .inl rfl
  · rw [List.getElem?_eq_none (by simpa using hj)] at h; cases h
theorem outs_rel {N : List Str} (hn : args.length = np) (L : Rel K M H (vs.map some) args) (s : Stp P (L2.start N vs) (args ++ List.replicate (N.length - np) Sl.no) M H σ' ρ' M' H') (L' : Rel K M' H' σ' ρ') : Rel K M' H' (vs.map some) (outsOf np P ρ') ∧ Less args (outsOf np P ρ') := by
  have hl : vs.length = args.length := by have := L.len; rwa [List.length_map] at this
  have own : ∀ {j : Nat} {a : Addr}, OwnAt (vs.map some) (outsOf np P ρ') j a → OwnAt σ' ρ' j a := fun {j a} ⟨h1, x, h2, h3⟩ => by
    obtain ⟨hj, h⟩ := outs_get h2
    rcases h with rfl | ⟨hP, e⟩
    · cases h3
    · refine ⟨?_, x, e, h3⟩
      rw [(s.fix j hP).1, start_at (by omega)]
      exact h1
  refine ⟨⟨?_, L'.dom, fun j x e => ?_, fun i j a h1 h2 => L'.inj i j a (own h1) (own h2)⟩, fun j x e o => ?_⟩
  · unfold outsOf
    rw [List.length_map, List.length_map, List.length_range]; omega
  · obtain ⟨hj, h⟩ := outs_get e
    rcases h with rfl | ⟨hP, e⟩
    · trivial
    · have := L'.at_ j x e
      rw [(s.fix j hP).1, start_at (by omega)] at this
      exact this
  · obtain ⟨hj, h⟩ := outs_get e
    rcases h with rfl | ⟨hP, e⟩
    · cases o
    · obtain ⟨s0, e0, o0⟩ := (s.fix j hP).2 x e o
      rcases app_no e0 with e0 | ⟨_, rfl⟩
      · exact ⟨s0, e0, o0⟩
      · cases o0
theorem inP_of {j : Nat} {s : Sl} (h : inP P args = true) (e : args[j]? = some s) (o : s.own = true) : j ∈ P := by
  unfold inP at h
  rw [List.all_eq_true] at h
  have := h j (List.mem_range.mpr (List.getElem?_eq_some_iff.mp e).1)
  rw [e] at this
  simpa [o] using this
theorem exit_ok {N : List Str} {r : Rs} {v : V} {nw : Nw} {ρ2 : En} (hn : args.length = np) (hin : inP P args = true) (L : Rel K M H (vs.map some) args) (s : Stp P (L2.start N vs) (args ++ List.replicate (N.length - np) Sl.no) M H σ' ρ' M' H') (L' : Rel K M' H' σ' ρ')
    (R : ResAt K H M' H' σ' ρ' v r) (e : exitV np P ρ' r = some (nw, ρ2)) : ∃ M2, Stp P (L2.start N vs) (args ++ List.replicate (N.length - np) Sl.no) M H σ' ρ2 M2 H' ∧ Rel K M2 H' σ' ρ2 ∧ NewAt K H M2 H' v nw := by
  have hl : vs.length = args.length := by have := L.len; rwa [List.length_map] at this
  cases r with
  | sh t => cases e; exact ⟨M', s, L', R⟩
  | fr ts => cases e; obtain ⟨p, h1, h2, _, h3⟩ := R; exact ⟨M', s, L', p, h1, h2, h3⟩
  | fk ts => cases e; obtain ⟨p, h1, h2, _, h3⟩ := R; exact ⟨M', s, L', p, h1, h2, h3⟩
  | ft ts => cases e; obtain ⟨p, h1, h2, _, h3⟩ := R; exact ⟨M', s, L', p, h1, h2, h3⟩
  | sl i =>
    have R' : σ'[i]? = some (some v) := R
    have frz : (((Rs.sl i).fz ρ').map fun x => ((Nw.s x.1, x.2) : Nw × En)) = some (nw, ρ2) → ∃ M2, Stp P (L2.start N vs) (args ++ List.replicate (N.length - np) Sl.no) M H σ' ρ2 M2 H' ∧ Rel K M2 H' σ' ρ2 ∧ NewAt K H M2 H' v nw := fun e => by
      cases q : (Rs.sl i).fz ρ' with
      | none => rw [q] at e; cases e
      | some x =>
        rw [q] at e
        cases e
        obtain ⟨M2, g2, l2, L2', rp, _⟩ := fz_ok (H := H') (M := M') (ρ := ρ') (v := v) L'.dom .refl .refl L' (show ResAt K H' M' H' σ' ρ' v (.sl i) from R') q
        exact ⟨M2, s.trans (.expr g2 l2) L.dom, L2', rp⟩
    have new : ∀ {t : Tr} {a : Addr} {x : Sl}, ρ'[i]? = some x → x.own = true → σ'[i]? = some (some (.ref a)) → i ∉ P → (P.all fun j => match ρ'[j]? with | some s => s.own | none => false) = true → H a = none := fun {t a x} e1 o e2 hP hall => by
      rcases s.sub a ⟨i, e2, x, e1, o⟩ with ⟨j, z⟩ | z
      · exfalso
        obtain ⟨hj, z⟩ := start_own hl z
        obtain ⟨z1, y, z2, z3⟩ := z
        have jP := inP_of hin z2 z3
        have := List.all_eq_true.mp hall j jP
        cases q : ρ'[j]? with
        | none => rw [q] at this; cases this
        | some w =>
          rw [q] at this
          have oj : OwnAt σ' ρ' j a := ⟨by rw [(s.fix j jP).1, start_at (by omega)]; exact z1, w, q, this⟩
          exact hP (L'.inj j i a oj ⟨e2, x, e1, o⟩ ▸ jP)
      · exact z
    unfold exitV at e
    dsimp only at e
    cases q : ρ'[i]? with
    | none => rw [q] at e; cases e
    | some x =>
      rw [q] at e
      have at_ := L'.at_ i x q
      cases x with
      | no => exact frz e
      | sh t => exact frz e
      | ow ts =>
        dsimp only at e
        split at e
        · rename_i c
          cases e
          obtain ⟨a, h1, h2⟩ := at_
          rw [R'] at h1; cases h1
          exact ⟨M', s, L', a, rfl, new (t := .non) q rfl R' c.1 c.2, h2⟩
        · exact frz e
      | ok ts =>
        dsimp only at e
        split at e
        · rename_i c
          cases e
          obtain ⟨a, h1, h2⟩ := at_
          rw [R'] at h1; cases h1
          exact ⟨M', s, L', a, rfl, new (t := .non) q rfl R' c.1 c.2, h2⟩
        · exact frz e
      | ot ts =>
        dsimp only at e
        split at e
        · rename_i c
          cases e
          obtain ⟨a, h1, h2⟩ := at_
          rw [R'] at h1; cases h1
          exact ⟨M', s, L', a, rfl, new (t := .non) q rfl R' c.1 c.2, h2⟩
        · exact frz e
end
section
variable {G : GS} {P : Program} {w : World} {K : PySem.W.Frag} {mg : Str → Option Value} {base : Heap}
theorem okN {x qual : Str} {st : Stmt} {f : Addr} {fd : FuncData} {N ps : List Str} {k : Nat} {sp : Sp} (F : Fun K x qual st f fd) (S : FnScope N ps (defScope st)) (len : ∀ vs H Q E, sp vs H Q E → vs.length = ps.length)
    (hbody : ∀ (cdv : Value) (A : Around) (outer : List Env) (s : Shared) (H : Hp) (vs : List V) (Q : VK) (E : XK), Room k (A.deeper (envOfC qual (defScope st) s.heap.objs.size f cdv)) → sp vs H Q E →
      ∃ t, PSs (cxOf (L2N.CX P w) P w K mg base N qual (defScope st) f cdv A outer s H E) (defBody st) t ∧ t { nx := fun _ H' => Q .non H', rt := Q } (L2.start N vs) H) : FnOk P w K mg base (L2N.CX P w) (k + 1) f fd ps sp := by
  obtain ⟨oc, od, kV, doc, pm, an, cdv, ct, osl, rfl, lk, hcd⟩ := F.ex
  exact fn_of lk hcd S len fun A outer s H vs Q E hr hsp => hbody cdv A outer s H vs Q E hr hsp
abbrev WF (E : XK) : WX := fun cls d _ H => E cls d H
theorem fn_mirror {x qual : Str} {st : Stmt} {f : Addr} {fd : FuncData} {N ps : List Str} {k : Nat} {ip : List Nat} {body : Sv} (F : Fun K x qual st f fd) (S : FnScope N ps (defScope st))
    (hb : ∀ (cdv : Value) (A : Around) (outer : List Env) (s : Shared) (H : Hp) (E : XK), Room k (A.deeper (envOfC qual (defScope st) s.heap.objs.size f cdv)) →
      PSs (cxOf (L2N.CX P w) P w K mg base N qual (defScope st) f cdv A outer s H E) (defBody st) (RS G (cxOf (L2N.CX P w) P w K mg base N qual (defScope st) f cdv A outer s H E) (WF E) ip body)) :
    FnOk P w K mg base (L2N.CX P w) (k + 1) f fd ps (spF G K mg ps.length (runF ps.length N.length ip body)) := by
  have hpl : ps.length ≤ N.length := by have := congrArg List.length S.pre; rw [List.length_take] at this; omega
  refine okN F S (fun vs H Q E h => ?_) (fun cdv A outer s H vs Q E hr h => ⟨_, hb cdv A outer s H E hr, ?_⟩)
  · obtain ⟨M, args, o, hl, L, _⟩ := h
    have := L.len
    rw [List.length_map] at this
    omega
  · obtain ⟨M, args, o, hl, L, ef, q⟩ := h
    unfold runF at ef
    split at ef
    · rename_i c
      obtain ⟨_, hin, _⟩ := c
      have hlv : vs.length = args.length := by have := L.len; rwa [List.length_map] at this
      have L0 := start_rel (N := N) (by omega) L
      rw [hl] at L0
      have sb : ∀ a, Owns (L2.start N vs) (args ++ List.replicate (N.length - ps.length) Sl.no) a → Owns (vs.map some) args a := fun a ⟨i, z⟩ => ⟨i, (start_own hlv z).2⟩
      cases eb : body (args ++ List.replicate (N.length - ps.length) .no) with
      | none => rw [eb] at ef; cases ef
      | some so =>
        rw [eb] at ef
        refine ⟨M, _, so, L0, eb, ?_⟩
        cases so with
        | nx ρ' =>
          cases ef
          intro σ' M' H' s L'
          obtain ⟨Lo, lo⟩ := outs_rel hl L s L'
          exact q _ M' H' (s.go.wide sb) .non Lo lo
        | rt r ρ' =>
          dsimp only at ef
          cases ee : exitV ps.length ip ρ' r with
          | none => rw [ee] at ef; cases ef
          | some y =>
            obtain ⟨nw, ρ2⟩ := y
            rw [ee] at ef
            cases ef
            intro v σ' M' H' s L' R
            obtain ⟨M2, s2, L2', na⟩ := exit_ok hl hin L s L' R ee
            obtain ⟨Lo, lo⟩ := outs_rel hl L s2 L2'
            exact q v M2 H' (s2.go.wide sb) na Lo lo
        | ex c ρ' =>
          cases ef
          intro C σ' M' H' hm s L'
          exact q C M' H' hm (s.go.wide sb) L'.dom
        | bk ρ' => cases ef
        | ct ρ' => cases ef
    · cases ef
end
end TV
namespace RvL
open PySem PySem.Spec PyProof.Rows RT
section
variable {prog : Program} {w : World} {A : Around}
theorem extend_rev {R : Result → Shared → Prop} {s : Shared} {it l : Addr} {items : Array Value} (hh : A.handled = none) (hit : s.heap.IsRevIter it l ((items.size : Int) - 1)) (hl : s.heap.IsList l items) (hne : l ≠ it) (hn : items.size ≤ sizeLine)
    (S : Addr) (res : Value) (c₀ : Nat) (hS : s.heap.get? S = some { cls := .type "list", data := .seq #[] c₀ }) (hSl : S ≠ l)
    (hR : ∀ h' tk acc' c', (∀ b o, b ≠ S → b ≠ it → s.heap.get? b = some o → h'.get? b = some o) → h'.get? S = some { cls := .type "list", dict := none, data := .seq acc' c', slots := #[] } →
      ItemsOf (fun i v => items[items.size - 1 - i]? = some v) acc' items.size → R (.ok (.ret res)) { s with heap := h', toks := tk }) :
    wpAny (model prog w) A.in1 (Builtin.List.listExtendWith (.ref S) (.ref it) res)
      (fun fin s' => match fin with | .done f => R (.ok f) s' | .again c' => c'.quiet = true ∧ codeAny (model prog w) A c' R s') (fun e s' => R (.error e) s') s := by
  have W := (Walks.listRev (prog := prog) (w := w) (A := A.in1) hh it l hne items).toS
  have hSi : S ≠ it := fun e => by
    obtain ⟨o, ho, hc, _⟩ := hit
    rw [e, ho] at hS
    cases hS
    exact absurd hc (by simp)
  have hSf : S ∉ [it, l] := by simp only [List.mem_cons, List.not_mem_nil, or_false, not_or]; exact ⟨hSi, hSl⟩
  have hT : s.TypeIs (.ref it) "list_reverseiterator" := hit.typeIs
  have h1 : Builtin.List.listSameRef (.ref S) (.ref it) = false := by simp [Builtin.List.listSameRef, hSi]
  unfold Builtin.List.listExtendWith
  refine wpAny_bind (wpAny_typeOf hT ?_)
  rw [if_neg (by rw [h1]; decide)]
  refine wpAny_bind (wpAny_pyIter_revIter hit ?_)
  refine wpAny_bind (wpAny_holding ?_)
  unfold Builtin.List.listLengthHint
  refine wpAny_bind (wpAny_specialOf hT nolen_lri ?_)
  show wpAny _ A.in1 (specialOf (Value.ref it) (Str.ofString "__length_hint__") >>= _) _ _ _
  refine wpAny_bind (wpAny_specialOf hT hint_lri ?_)
  generalize hid : ("list_reverseiterator.__length_hint__" : String) = id0
  wp_delta
  rw [show splitId id0 = some ("list_reverseiterator", "__length_hint__") from by subst hid; decide +kernel]
  subst hid
  refine wpAny_bind (wpAny_isInstance (b := true) hT (by rw [isSubtype_type]; kernel_rfl) ?_)
  refine wpAny_pure ?_
  rw [if_neg (by decide)]
  have e0 : ((items.size : Nat) : Int) - 1 - ((0 : Nat) : Int) = (items.size : Int) - 1 := by omega
  refine wpAny_pure ⟨plainId_quiet F.plain_extend_loop _, codeAny_extend_loopS W hn _ hSf _ items.size 0 _ _ _ rfl (Nat.zero_le _) ⟨Nat.zero_le _, by rw [e0]; exact hit, hl⟩ hS (ItemsOf.nil _) fun s' acc' c' hm hS' hacc => ?_⟩
  rw [Moved.eq_with hm]
  refine hR s'.heap s'.toks acc' c' (fun b o hb hb2 e => hm.heap b o (fun hmem => ?_) e) hS' hacc
  rcases List.mem_cons.mp hmem with e' | hmem
  · exact hb e'
  · exact hb2 (List.mem_singleton.mp hmem)
end
section
variable {prog : Program} {w : World} {A : Around} {E : Value → Shared → Prop} {s : Shared}
theorem call_list_rev {Q : Value → Shared → Prop} {it l : Addr} {items : Array Value} (hh : A.handled = none) (hit : s.heap.IsRevIter it l ((items.size : Int) - 1)) (hl : s.heap.IsList l items) (hne : l ≠ it) (hn : items.size ≤ sizeLine)
    (hQ : ∀ h' tk acc' c', (∀ b o, b ≠ it → s.heap.get? b = some o → h'.get? b = some o) →
      h'.get? s.heap.objs.size = some { cls := .type "list", dict := none, data := .seq acc' c', slots := #[] } → ItemsOf (fun i v => items[items.size - 1 - i]? = some v) acc' items.size → Q (.ref s.heap.objs.size) { s with heap := h', toks := tk }) :
    wpAny (model prog w) A (call (.type "list") [.ref it]) Q E s := by
  refine callType_codes (Q₁ := fun obj s₁ => obj = .ref s.heap.objs.size ∧ s₁ = { s with heap := s.heap.push { cls := .type "list", data := .seq #[] } }) F.called_list (F.typeCall_list_1 _) F.entry_list_init
    (code_list_new _ ⟨rfl, rfl⟩) fun obj s₁ h₁ => ?_
  obtain ⟨rfl, rfl⟩ := h₁
  have hS : (s.heap.push { cls := .type "list", data := .seq #[] }).get? s.heap.objs.size = some { cls := .type "list", data := .seq #[] } := Heap.get?_push_size _ rfl
  obtain ⟨oi, hoi, _⟩ := id hit
  obtain ⟨ol, hol, _⟩ := id hl
  have hSi : s.heap.objs.size ≠ it := Nat.ne_of_gt (Heap.lt_size hoi)
  have hSl : s.heap.objs.size ≠ l := Nat.ne_of_gt (Heap.lt_size hol)
  refine ⟨⟨_, hS, rfl⟩, F.args_list_init_2 _ _, ?_⟩
  show wpAny _ _ (do let old ← Builtin.List.listItems (.ref s.heap.objs.size); Builtin.List.listUpdate (.ref s.heap.objs.size) (fun _ => #[]); letGo old.toList.reverse; Builtin.List.listExtendWith (.ref s.heap.objs.size) (.ref it) .none) _ _ _
  refine wpAny_bind ?_
  unfold Builtin.List.listItems
  refine wpAny_bind (wpAny_seqItems hS rfl (wpAny_pure ?_))
  show wpAny _ _ (updateSeq s.heap.objs.size (fun _ => #[]) >>= fun _ => letGo (#[] : Array Value).toList.reverse >>= fun _ => Builtin.List.listExtendWith (.ref s.heap.objs.size) (.ref it) .none) _ _ _
  refine wpAny_bind (wpAny_updateSeq hS rfl ?_)
  have hS₂ := Heap.get?_update_self (Obj.mapSeq (fun _ => (#[] : Array Value))) hS rfl
  have oth : ∀ b o, b ≠ s.heap.objs.size → s.heap.get? b = some o → ((s.heap.push { cls := .type "list", data := .seq #[] }).update s.heap.objs.size (Obj.mapSeq (fun _ => (#[] : Array Value)))).get? b = some o :=
    fun b o hb e => (Heap.get?_update_other _ _ (Ne.symm hb)).trans (Heap.get?_push_of_some _ e)
  refine wpAny_bind (wpAny_letGo ?_)
  refine extend_rev (A := A.in1) (items := items) (l := l) hh (hit.at fun o e => oth it o (Ne.symm hSi) e) ?_ hne hn _ _ _ hS₂ hSl fun h' tk acc' c' hk hS' hacc => ?_
  · obtain ⟨o, e, r⟩ := id hl
    exact ⟨o, oth l _ (Ne.symm hSl) e, r⟩
  · exact ⟨rfl, hQ h' tk acc' c' (fun b o hb e => hk b o (Nat.ne_of_lt (Heap.lt_size e)) hb (oth b o (Nat.ne_of_lt (Heap.lt_size e)) e)) hS' hacc⟩
end
end RvL
namespace TV
open PySem PySem.Spec PyProof.Rows L2 RvL
section
variable {G : GS} {X : Cx} {W : WX}
def tLstRev (K : PySem.W.Frag) (te : TE) : TE := fun σ H Q => te σ H fun v H1 => ∃ (a : Addr) (xs : List V), v = .ref a ∧ SqL K H1 a xs ∧ ∀ q, H1 q = none → Q (.ref q) (upd H1 q (.lst xs.reverse))
theorem pe_lstRev {e : Expr} {te : TE} {p p2 pos pos2 : Pos} (hc : X.calm = true) (hg : Gl X "list") (hm : X.mg "list" = none) (hg2 : Gl X "reversed") (hm2 : X.mg "reversed" = none) (he : PE X e te)
    (hs : starEach [e] X.env = (false, eval e X.env) :: starEach [] X.env := by rfl)
    (hs2 : starEach [.Call (.Name "reversed" p2) [e] [] pos2] X.env = (false, eval (.Call (.Name "reversed" p2) [e] [] pos2) X.env) :: starEach [] X.env := by rfl) :
    PE X (.Call (.Name "list" p) [.Call (.Name "reversed" p2) [e] [] pos2] [] pos) (tLstRev X.K te) := by
  refine ⟨fun pins s σ H Q I h => ?_⟩
  refine Call_ (ld_blt I hg hm boot_list (PyProof.Rows.callWith_type1 (args_cons (Call_ (ld_blt I hg2 hm2 PyProof.Rows.boot_reversed (PyProof.Rows.callWith_type1 (args_cons (thn (he.run pins s σ H _ I h) fun u s1 ⟨v, H1, I1, r1, q1⟩ => args_nil ?_) hs) hs rfl))) hs2) hs2 rfl))
  obtain ⟨a, xs, ev, hq, q⟩ := q1
  subst ev
  obtain rfl : u = Value.ref a := r1
  obtain ⟨its, rv, p', hz⟩ := I1.list hq
  refine call_reversed_list p'.isList (args_nil ?_)
  have k0 : ∀ b o, s1.heap.get? b = some o → (s1.heap.push (revObj a ((its.toArray.size : Int) - 1))).get? b = some o := fun b o e => Heap.get?_push_of_some _ e
  have I2 : Inv X pins σ H1 { s1 with heap := s1.heap.push (revObj a ((its.toArray.size : Int) - 1)) } := I1.kept (t' := s1.toks) k0
  obtain ⟨f0, f1, f2, f3, f4, f5⟩ := I1.fpOk (H' := H1) (b := s1.heap.objs.size) (Nat.le_refl _) (I1.hok.fresh (Nat.le_refl _))
  have hl := p'.isList
  obtain ⟨ol, hol, _⟩ := id hl
  have hne : a ≠ s1.heap.objs.size := Nat.ne_of_lt (Heap.lt_size hol)
  have hn : its.toArray.size ≤ sizeLine := by rw [List.size_toArray, ← rv.length]; exact hz
  refine call_list_rev (s := { s1 with heap := s1.heap.push (revObj a ((its.toArray.size : Int) - 1)) }) (I1.ok.hd hc) ⟨_, Heap.get?_push_size _ rfl, rfl, rfl⟩ (hl.push _) hne hn fun h' tk acc c' hk e' hi => ?_
  have nw : ObjOk X.prog X.w (upd H1 (s1.heap.push (revObj a ((its.toArray.size : Int) - 1))).objs.size (.lst xs.reverse)) h' (s1.heap.push (revObj a ((its.toArray.size : Int) - 1))).objs.size (.lst xs.reverse) :=
    ⟨by rw [List.length_reverse]; exact hz, acc.toList, c', _root_.RT.vals_rev rv hi, by rw [Array.toArray_toList]; exact e'⟩
  have I3 := I2.turnedNew (t' := tk) (ch := [s1.heap.objs.size]) (fun b o hb e => hk b o (fun z => hb (by simp [z])) e) (fun b hb => by
    have e : b = s1.heap.objs.size := by simpa using hb
    subst e; exact ⟨f0, f1, f2, f3, f4, f5⟩) (Nat.le_refl _) nw
  exact ⟨.ref (s1.heap.push (revObj a ((its.toArray.size : Int) - 1))).objs.size, upd H1 _ (.lst xs.reverse), I3, rfl, q _ (I2.hok.fresh (Nat.le_refl _))⟩
end
end TV
namespace TV
open PySem PySem.Spec PyProof.Rows L2
def intsT : List Tr → Option (List Int)
  | [] => some []
  | .int i :: r => (intsT r).map (i :: ·)
  | _ :: _ => none
theorem intsT_map : ∀ ns : List Int, intsT (ns.map Tr.int) = some ns
  | [] => rfl
  | n :: r => by show (intsT (r.map Tr.int)).map (n :: ·) = _; rw [intsT_map r]; rfl
theorem intsT_some : ∀ {ts : List Tr} {ns : List Int}, intsT ts = some ns → ts = ns.map Tr.int
  | [], _, e => by cases e; rfl
  | .int i :: r, ns, e => by
    unfold intsT at e
    cases q : intsT r with
    | none => rw [q] at e; cases e
    | some m => rw [q] at e; cases e; rw [intsT_some q]; rfl
  | .non :: _, _, e => by cases e
  | .bl _ :: _, _, e => by cases e
  | .str _ :: _, _, e => by cases e
  | .tup _ :: _, _, e => by cases e
  | .lst _ :: _, _, e => by cases e
  | .dk _ :: _, _, e => by cases e
  | .dt _ :: _, _, e => by cases e
  | .scr _ :: _, _, e => by cases e
  | .adr _ :: _, _, e => by cases e
section
variable {K : KG} {M : Addr → Prop} {H : Hp} {vs : List V} {ts : List Tr} {v : V} {t : Tr}
theorem RTops.nil_inv (r : RTops K M H vs []) : vs = [] := by cases r; rfl
theorem RTops.one (r : RTops K M H vs [t]) : ∃ v, vs = [v] ∧ RTop K M H v t := by
  cases r with
  | cons h r => cases r; exact ⟨_, rfl, h⟩
theorem RTops.two {t2 : Tr} (r : RTops K M H vs [t, t2]) : ∃ v v2, vs = [v, v2] ∧ RTop K M H v t ∧ RTop K M H v2 t2 := by
  cases r with
  | cons h r => cases r with
    | cons h2 r => cases r; exact ⟨_, _, rfl, h, h2⟩
end
section
variable {G : GS} {X : Cx} {W : WX}
theorem fnV1 {r : List V → Hp → VK → Prop} {g : Tr → Option Nw} (h : ∀ (M : Addr → Prop) (H : Hp) (x : V) (t : Tr) (n : Nw) (Q : VK), (∀ a, M a → H a ≠ none) → RTop (kg X G) M H x t → g t = some n →
    (∀ v M' H', Go0 M H M' H' → (∀ a, M' a → H' a ≠ none) → NewAt (kg X G) H M' H' v n → Q v H') → r [x] H Q) : FnOkV G X r (fun ts => match ts with | [t] => g t | _ => none) := by
  intro M H xs ts n Q d rx e q
  cases ts with
  | nil => cases e
  | cons t ts =>
    cases ts with
    | cons _ _ => cases e
    | nil =>
      obtain ⟨v, rfl, h1⟩ := rx.one
      exact h M H v t n Q d h1 e q
theorem fnV2 {r : List V → Hp → VK → Prop} {g : Tr → Tr → Option Nw} (h : ∀ (M : Addr → Prop) (H : Hp) (x y : V) (t u : Tr) (n : Nw) (Q : VK), (∀ a, M a → H a ≠ none) → RTop (kg X G) M H x t → RTop (kg X G) M H y u → g t u = some n →
    (∀ v M' H', Go0 M H M' H' → (∀ a, M' a → H' a ≠ none) → NewAt (kg X G) H M' H' v n → Q v H') → r [x, y] H Q) : FnOkV G X r (fun ts => match ts with | [t, u] => g t u | _ => none) := by
  intro M H xs ts n Q d rx e q
  match ts, rx, e with
  | [], _, e => cases e
  | [_], _, e => cases e
  | [t, u], rx, e =>
    obtain ⟨v, w, rfl, h1, h2⟩ := rx.two
    exact h M H v w t u n Q d h1 h2 e q
  | _ :: _ :: _ :: _, _, e => cases e
def f1 (g : Tr → Option Nw) : List Tr → Option Nw := fun ts => match ts with
  | [t] => g t
  | _ => none
def f2 (g : Tr → Tr → Option Nw) : List Tr → Option Nw := fun ts => match ts with
  | [t, u] => g t u
  | _ => none
@[simp] theorem f1_one (g : Tr → Option Nw) (t : Tr) : f1 g [t] = g t := rfl
@[simp] theorem f2_two (g : Tr → Tr → Option Nw) (t u : Tr) : f2 g [t, u] = g t u := rfl
def gAbs : Tr → Option Nw
  | .int i => some (.s (.int (if i < 0 then -i else i)))
  | _ => none
theorem ok_abs : FnOkV G X (fun xs H Q => ∃ i, xs = [.int i] ∧ Q (.int (if i < 0 then -i else i)) H) (f1 gAbs) := fnV1 fun M H x t n Q d rx e q => by
  cases t <;> try cases e
  exact ⟨_, by rw [rx.int], fin0 d q (.int _)⟩
def gInt : Tr → Option Nw
  | .int i => some (.s (.int i))
  | .bl k => some (.s (.int (if k then 1 else 0)))
  | _ => none
theorem ok_int1 : FnOkV G X (fun xs H Q => (∃ i, xs = [.int i] ∧ Q (.int i) H) ∨ ∃ k, xs = [.bl k] ∧ Q (.int (if k then 1 else 0)) H) (f1 gInt) := fnV1 fun M H x t n Q d rx e q => by
  cases t <;> try cases e
  · exact .inr ⟨_, by rw [rx.bl], fin0 d q (.int _)⟩
  · exact .inl ⟨_, by rw [rx.int], fin0 d q (.int _)⟩
def gLenS : Tr → Option Nw
  | .str x => if x.length ≤ sizeLine then some (.s (.int (x.length : Nat))) else none
  | .tup ts => some (.s (.int (ts.length : Nat)))
  | .lst ts => some (.s (.int (ts.length : Nat)))
  | .scr ts => some (.s (.int (ts.length : Nat)))
  | _ => none
theorem ok_lenS : FnOkV G X (fun xs H Q => ∃ x n, xs = [x] ∧ LenV X.K x H n ∧ Q (.int n) H) (f1 gLenS) := fnV1 fun M H x t n Q d rx e q => by
  cases t <;> try cases e
  · rename_i z
    unfold gLenS at e
    dsimp only at e
    split at e
    · rename_i c; cases e; exact ⟨x, _, rfl, by rw [rx.str]; exact ⟨c, rfl⟩, fin0 d q (.int _)⟩
    · cases e
  · obtain ⟨a, vs, rfl, h, r⟩ := rx.tup
    refine ⟨_, vs.length, rfl, .inr ⟨vs, h, rfl⟩, ?_⟩
    rw [r.length]
    exact fin0 d q (.int _)
  · obtain ⟨a, vs, rfl, h, r⟩ := rx.lst
    refine ⟨_, vs.length, rfl, .inl ⟨vs, SqL.of h, rfl⟩, ?_⟩
    rw [r.length]
    exact fin0 d q (.int _)
  · obtain ⟨a, rfl, h⟩ := rx.scr
    refine ⟨_, _, rfl, .inl ⟨_, h, rfl⟩, ?_⟩
    rw [List.length_map]
    exact fin0 d q (.int _)
def gLenD : Tr → Option Nw
  | .dk kvs => some (.s (.int (kvs.length : Nat)))
  | _ => none
theorem ok_lenD : FnOkV G X (fun xs H Q => ∃ a kvs, xs = [V.ref a] ∧ H a = some (.dK kvs) ∧ Q (.int kvs.length) H) (f1 gLenD) := fnV1 fun M H x t n Q d rx e q => by
  cases t <;> try cases e
  obtain ⟨a, vs, rfl, h, e1, r⟩ := rx.dk
  refine ⟨a, vs, rfl, h, ?_⟩
  have := congrArg List.length e1
  rw [List.length_map, List.length_map] at this
  rw [this]
  exact fin0 d q (.int _)
def gLenT : Tr → Option Nw
  | .dt kvs => some (.s (.int (kvs.length : Nat)))
  | _ => none
theorem ok_lenT : FnOkV G X rLenT (f1 gLenT) := fnV1 fun M H x t n Q d rx e q => by
  cases t <;> try cases e
  obtain ⟨a, vs, rfl, h, e1, r⟩ := rx.dt
  refine ⟨a, vs, rfl, h, ?_⟩
  have := congrArg List.length e1
  rw [List.length_map, List.length_map] at this
  rw [this]
  exact fin0 d q (.int _)
def gLen : Tr → Option Nw
  | .str x => if x.length ≤ sizeLine then some (.s (.int (x.length : Nat))) else none
  | .tup ts => some (.s (.int (ts.length : Nat)))
  | .lst ts => some (.s (.int (ts.length : Nat)))
  | .scr ts => some (.s (.int (ts.length : Nat)))
  | .dk kvs => some (.s (.int (kvs.length : Nat)))
  | .dt kvs => some (.s (.int (kvs.length : Nat)))
  | _ => none
theorem ok_len : FnOkV G X (fun xs H Q => (∃ x n, xs = [x] ∧ LenV X.K x H n ∧ Q (.int n) H) ∨ ((∃ a kvs, xs = [V.ref a] ∧ H a = some (.dK kvs) ∧ Q (.int kvs.length) H) ∨ rLenT xs H Q)) (f1 gLen) :=
  FnOkV.imp (ok_lenS.or (ok_lenD.or ok_lenT)) fun ts n e => by
    match ts, e with
    | [], e => cases e
    | _ :: _ :: _, e => cases e
    | [t], e =>
      cases t
      case str x =>
        simp only [f1_one, gLen] at e
        split at e
        · rename_i c; simp only [f1_one, gLenS, if_pos c]; exact e
        · cases e
      all_goals first | exact e | cases e
def gMax2 : Tr → Tr → Option Nw
  | .int i, .int j => some (.s (.int (if j > i then j else i)))
  | _, _ => none
theorem ok_max2 : FnOkV G X (fun xs H Q => ∃ i j, xs = [.int i, .int j] ∧ Q (.int (if j > i then j else i)) H) (f2 gMax2) := fnV2 fun M H x y t u n Q d rx ry e q => by
  cases t <;> cases u <;> try cases e
  exact ⟨_, _, by rw [rx.int, ry.int], fin0 d q (.int _)⟩
def gMin2 : Tr → Tr → Option Nw
  | .int i, .int j => some (.s (.int (if j < i then j else i)))
  | _, _ => none
theorem ok_min2 : FnOkV G X (fun xs H Q => ∃ i j, xs = [.int i, .int j] ∧ Q (.int (if j < i then j else i)) H) (f2 gMin2) := fnV2 fun M H x y t u n Q d rx ry e q => by
  cases t <;> cases u <;> try cases e
  exact ⟨_, _, by rw [rx.int, ry.int], fin0 d q (.int _)⟩
def listT : Tr → Option (List Tr)
  | .lst ts => some ts
  | .scr ns => some (ns.map Tr.int)
  | _ => none
theorem RTop.listT {K : KG} {M : Addr → Prop} {H : Hp} {v : V} {t : Tr} {ts : List Tr} (r : RTop K M H v t) (e : TV.listT t = some ts) : ∃ a vs, v = .ref a ∧ SqL K.k H a vs ∧ Reps K M H vs ts := by
  cases t <;> try cases e
  · obtain ⟨a, vs, h1, h2, h3⟩ := r.lst; exact ⟨a, vs, h1, SqL.of h2, h3⟩
  · obtain ⟨a, h1, h2⟩ := r.scr; exact ⟨a, _, h1, h2, .of_ints _⟩
def onInts (g : List Int → Option Tr) (t : Tr) : Option Nw := match listT t with
  | none => none
  | some ts => match intsT ts with
    | none => none
    | some ns => (g ns).map .s
theorem onInts_ok {r : List V → Hp → VK → Prop} {g : List Int → Option Tr} (h : ∀ (M : Addr → Prop) (H : Hp) (a : Addr) (ns : List Int) (t : Tr) (Q : VK), SqL X.K H a (ns.map V.int) → g ns = some t → (∀ v, Rep (kg X G) M H v t → Q v H) → r [.ref a] H Q) : FnOkV G X r (f1 (onInts g)) := fnV1 fun M H x t n Q d rx e q => by
  unfold onInts at e
  cases el : listT t with
  | none => rw [el] at e; cases e
  | some ts =>
    rw [el] at e
    dsimp only at e
    cases ei : intsT ts with
    | none => rw [ei] at e; cases e
    | some ns =>
      rw [ei] at e
      dsimp only at e
      cases eg : g ns with
      | none => rw [eg] at e; cases e
      | some u =>
        rw [eg] at e
        cases e
        obtain ⟨a, vs, rfl, h1, h2⟩ := rx.listT el
        have et := intsT_some ei
        subst et
        have ev := h2.ints
        subst ev
        exact h M H a ns u Q h1 eg fun v hv => fin0 d q hv
def gSum : Tr → Option Nw := onInts fun ns => some (.int ns.sum)
theorem ok_sum : FnOkV G X (rSum X.K) (f1 gSum) := onInts_ok fun M H a ns t Q h e q => by
  cases e
  exact ⟨a, ns, rfl, h, q _ (.int _)⟩
def maxI : Int → List Int → Int
  | x, [] => x
  | x, y :: r => if maxI y r > x then maxI y r else x
def minI : Int → List Int → Int
  | x, [] => x
  | x, y :: r => if minI y r < x then minI y r else x
theorem maxI_mem : ∀ (x : Int) (r : List Int), maxI x r ∈ x :: r
  | x, [] => by simp [maxI]
  | x, y :: r => by
    unfold maxI
    split
    · exact List.mem_cons_of_mem _ (maxI_mem y r)
    · exact List.mem_cons_self
theorem maxI_le : ∀ (x : Int) (r : List Int), ∀ z ∈ x :: r, z ≤ maxI x r
  | x, [] => by simp [maxI]
  | x, y :: r => fun z hz => by
    have ih := maxI_le y r
    unfold maxI
    rcases List.mem_cons.mp hz with rfl | hz
    · split <;> omega
    · have := ih z hz
      split <;> omega
theorem minI_mem : ∀ (x : Int) (r : List Int), minI x r ∈ x :: r
  | x, [] => by simp [minI]
  | x, y :: r => by
    unfold minI
    split
    · exact List.mem_cons_of_mem _ (minI_mem y r)
    · exact List.mem_cons_self
theorem minI_le : ∀ (x : Int) (r : List Int), ∀ z ∈ x :: r, minI x r ≤ z
  | x, [] => by simp [minI]
  | x, y :: r => fun z hz => by
    have ih := minI_le y r
    unfold minI
    rcases List.mem_cons.mp hz with rfl | hz
    · split <;> omega
    · have := ih z hz
      split <;> omega
def gMaxL : Tr → Option Nw := onInts fun ns => match ns with
  | [] => none
  | x :: r => some (.int (maxI x r))
def gMinL : Tr → Option Nw := onInts fun ns => match ns with
  | [] => none
  | x :: r => some (.int (minI x r))
theorem ok_maxL : FnOkV G X (rMax X.K) (f1 gMaxL) := onInts_ok fun M H a ns t Q h e q => by
  cases ns with
  | nil => cases e
  | cons x r =>
    cases e
    refine ⟨a, _, rfl, h, Nat.succ_pos _, fun m hm hle => ?_⟩
    have : m = maxI x r := Int.le_antisymm (maxI_le x r m hm) (hle _ (maxI_mem x r))
    subst this
    exact q _ (.int _)
theorem ok_minL : FnOkV G X (rMin X.K) (f1 gMinL) := onInts_ok fun M H a ns t Q h e q => by
  cases ns with
  | nil => cases e
  | cons x r =>
    cases e
    refine ⟨a, _, rfl, h, Nat.succ_pos _, fun m hm hle => ?_⟩
    have : m = minI x r := Int.le_antisymm (hle _ (minI_mem x r)) (minI_le x r m hm)
    subst this
    exact q _ (.int _)
def gMax : List Tr → Option Nw
  | [t] => gMaxL t
  | [t, u] => gMax2 t u
  | _ => none
def gMin : List Tr → Option Nw
  | [t] => gMinL t
  | [t, u] => gMin2 t u
  | _ => none
theorem FnOkV.one_two {r r' : List V → Hp → VK → Prop} {g1 : Tr → Option Nw} {g2 : Tr → Tr → Option Nw} {g : List Tr → Option Nw} (h1 : FnOkV G X r (f1 g1)) (h2 : FnOkV G X r' (f2 g2)) (e1 : ∀ t, g [t] = g1 t) (e2 : ∀ t u, g [t, u] = g2 t u) (e0 : g [] = none) (e3 : ∀ a b c r, g (a :: b :: c :: r) = none) : FnOkV G X (fun xs H Q => r xs H Q ∨ r' xs H Q) g :=
  FnOkV.imp (h1.or h2) fun ts n e => by
    match ts, e with
    | [], e => rw [e0] at e; cases e
    | [t], e => rw [e1] at e; rw [f1_one, e]
    | [t, u], e => rw [e2] at e; exact e
    | _ :: _ :: _ :: _, e => rw [e3] at e; cases e
theorem ok_max : FnOkV G X (fun xs H Q => rMax X.K xs H Q ∨ ∃ i j, xs = [.int i, .int j] ∧ Q (.int (if j > i then j else i)) H) gMax := FnOkV.one_two ok_maxL ok_max2 (fun _ => rfl) (fun _ _ => rfl) rfl fun _ _ _ _ => rfl
theorem ok_min : FnOkV G X (fun xs H Q => rMin X.K xs H Q ∨ ∃ i j, xs = [.int i, .int j] ∧ Q (.int (if j < i then j else i)) H) gMin := FnOkV.one_two ok_minL ok_min2 (fun _ => rfl) (fun _ _ => rfl) rfl fun _ _ _ _ => rfl
def seqT : Tr → Option (List Tr)
  | .lst ts => some ts
  | .tup ts => some ts
  | .scr ns => some (ns.map Tr.int)
  | _ => none
theorem RTop.seqT {K : KG} {M : Addr → Prop} {H : Hp} {v : V} {t : Tr} {ts : List Tr} (r : RTop K M H v t) (e : TV.seqT t = some ts) : ∃ a vs, v = .ref a ∧ (SqL K.k H a vs ∨ SqT K.k H a vs) ∧ Reps K M H vs ts := by
  cases t <;> try cases e
  · obtain ⟨a, vs, h1, h2, h3⟩ := r.tup; exact ⟨a, vs, h1, .inr h2, h3⟩
  · obtain ⟨a, vs, h1, h2, h3⟩ := r.lst; exact ⟨a, vs, h1, .inl (SqL.of h2), h3⟩
  · obtain ⟨a, h1, h2⟩ := r.scr; exact ⟨a, _, h1, .inl h2, .of_ints _⟩
def gListOf (t : Tr) : Option Nw := (seqT t).map .l
theorem ok_listOf : FnOkV G X (fun xs H Q => ∃ p ys, xs = [.ref p] ∧ (SqL X.K H p ys ∨ SqT X.K H p ys) ∧ ∀ l, H l = none → Q (.ref l) (upd H l (.lst ys))) (f1 gListOf) := fnV1 fun M H x t n Q d rx e q => by
  unfold gListOf at e
  cases es : seqT t with
  | none => rw [es] at e; cases e
  | some ts =>
    rw [es] at e
    cases e
    obtain ⟨a, vs, rfl, h, r⟩ := rx.seqT es
    exact ⟨a, vs, rfl, h, fin_lst d q r⟩
def gTupleOf (t : Tr) : Option Nw := (seqT t).map fun ts => .s (.tup ts)
theorem ok_tupleOf (hz : G.z = false) : FnOkV G X (fun xs H Q => ∃ p ys, xs = [.ref p] ∧ ((SqL X.K H p ys ∧ ∀ l, H l = none → Q (.ref l) (upd H l (.tup ys))) ∨ (SqT X.K H p ys ∧ Q (.ref p) H))) (f1 gTupleOf) := fnV1 fun M H x t n Q d rx e q => by
  unfold gTupleOf at e
  cases t <;> try cases e
  · obtain ⟨a, vs, rfl, h, r⟩ := rx.tup
    exact ⟨a, vs, rfl, .inr ⟨h, fin0 d q rx.tup_rep⟩⟩
  · obtain ⟨a, vs, rfl, h, r⟩ := rx.lst
    exact ⟨a, vs, rfl, .inl ⟨SqL.of h, fin_tup hz d q r⟩⟩
  · obtain ⟨a, rfl, h⟩ := rx.scr
    exact ⟨a, _, rfl, .inl ⟨h, fin_tup hz d q (.of_ints _)⟩⟩
def gGcd : Tr → Tr → Option Nw
  | .int a, .int b => some (.s (.int ((Nat.gcd a.natAbs b.natAbs : Nat) : Int)))
  | _, _ => none
theorem ok_gcd : FnOkV G X rGcd (f2 gGcd) := fnV2 fun M H x y t u n Q d rx ry e q => by
  cases t <;> cases u <;> try cases e
  exact ⟨_, _, by rw [rx.int, ry.int], fin0 d q (.int _)⟩
theorem se_bfun {id : String} {r : List V → Hp → VK → Prop} {g : List Tr → Option Nw} {x : Str} {p pos : Pos} {e : Expr} {es : List Expr} {fs : Av} (hc : CallR X (.builtin id) r) (h : FnOkV G X r g) (hg : Gl X x) (hm : X.mg x = some (.builtin id)) (ha : PA X (e :: es) (RA G X W fs))
    (hdb : (x == ("__debug__" : Str)) = false := by decide)
    (he : starEach (e :: es) X.env = (false, eval e X.env) :: starEach es X.env := by rfl) (hpl : (backTo pos (starEach es X.env)).any (·.1) = false := by rfl) : PE X (.Call (.Name x p) (e :: es) [] pos) (RE G X W (bltE g fs)) :=
  pe_imp (pe_callBfun hc hg hm ha hdb he hpl) fun _ _ _ => re_blt h
section
variable {p pos : Pos} {e : Expr} {es : List Expr} {fs : Av}
theorem se_abs (hg : Gl X "abs") (hm : X.mg "abs" = none) (ha : PA X (e :: es) (RA G X W fs)) (he : starEach (e :: es) X.env = (false, eval e X.env) :: starEach es X.env := by rfl) (hpl : (backTo pos (starEach es X.env)).any (·.1) = false := by rfl) :
    PE X (.Call (.Name "abs" p) (e :: es) [] pos) (RE G X W (bltE (f1 gAbs) fs)) := se_blt call_abs ok_abs hg hm (by rfl) ha (by decide) (by decide) he hpl
theorem se_len (hg : Gl X "len") (hm : X.mg "len" = none) (ha : PA X (e :: es) (RA G X W fs)) (he : starEach (e :: es) X.env = (false, eval e X.env) :: starEach es X.env := by rfl) (hpl : (backTo pos (starEach es X.env)).any (·.1) = false := by rfl) :
    PE X (.Call (.Name "len" p) (e :: es) [] pos) (RE G X W (bltE (f1 gLen) fs)) := se_blt (call_len.or (call_lenD.or call_len_dT)) ok_len hg hm (by rfl) ha (by decide) (by decide) he hpl
theorem se_intC (hg : Gl X "int") (hm : X.mg "int" = none) (ha : PA X (e :: es) (RA G X W fs)) (he : starEach (e :: es) X.env = (false, eval e X.env) :: starEach es X.env := by rfl) (hpl : (backTo pos (starEach es X.env)).any (·.1) = false := by rfl) :
    PE X (.Call (.Name "int" p) (e :: es) [] pos) (RE G X W (bltE (f1 gInt) fs)) := se_ty call_int1 ok_int1 hg hm (by rfl) ha (by decide) (by decide) he hpl
theorem se_max (hc : X.calm = true) (hg : Gl X "max") (hm : X.mg "max" = none) (ha : PA X (e :: es) (RA G X W fs)) (he : starEach (e :: es) X.env = (false, eval e X.env) :: starEach es X.env := by rfl) (hpl : (backTo pos (starEach es X.env)).any (·.1) = false := by rfl) :
    PE X (.Call (.Name "max" p) (e :: es) [] pos) (RE G X W (bltE gMax fs)) := se_blt ((cr_max hc).or (call_max2 hc)) ok_max hg hm (by rfl) ha (by decide) (by decide) he hpl
theorem se_min (hc : X.calm = true) (hg : Gl X "min") (hm : X.mg "min" = none) (ha : PA X (e :: es) (RA G X W fs)) (he : starEach (e :: es) X.env = (false, eval e X.env) :: starEach es X.env := by rfl) (hpl : (backTo pos (starEach es X.env)).any (·.1) = false := by rfl) :
    PE X (.Call (.Name "min" p) (e :: es) [] pos) (RE G X W (bltE gMin fs)) := se_blt ((cr_min hc).or (call_min2 hc)) ok_min hg hm (by rfl) ha (by decide) (by decide) he hpl
theorem se_sum (hc : X.calm = true) (hg : Gl X "sum") (hm : X.mg "sum" = none) (ha : PA X (e :: es) (RA G X W fs)) (he : starEach (e :: es) X.env = (false, eval e X.env) :: starEach es X.env := by rfl) (hpl : (backTo pos (starEach es X.env)).any (·.1) = false := by rfl) :
    PE X (.Call (.Name "sum" p) (e :: es) [] pos) (RE G X W (bltE (f1 gSum) fs)) := se_blt (cr_sum hc) ok_sum hg hm (by rfl) ha (by decide) (by decide) he hpl
theorem se_listOf (hg : Gl X "list") (hm : X.mg "list" = none) (ha : PA X (e :: es) (RA G X W fs)) (he : starEach (e :: es) X.env = (false, eval e X.env) :: starEach es X.env := by rfl) (hpl : (backTo pos (starEach es X.env)).any (·.1) = false := by rfl) :
    PE X (.Call (.Name "list" p) (e :: es) [] pos) (RE G X W (bltE (f1 gListOf) fs)) := se_ty call_list_of ok_listOf hg hm (by rfl) ha (by decide) (by decide) he hpl
theorem se_tupleOf (hz : G.z = false) (hg : Gl X "tuple") (hm : X.mg "tuple" = none) (ha : PA X (e :: es) (RA G X W fs)) (he : starEach (e :: es) X.env = (false, eval e X.env) :: starEach es X.env := by rfl) (hpl : (backTo pos (starEach es X.env)).any (·.1) = false := by rfl) :
    PE X (.Call (.Name "tuple" p) (e :: es) [] pos) (RE G X W (bltE (f1 gTupleOf) fs)) := se_ty call_tuple_of (ok_tupleOf hz) hg hm (by rfl) ha (by decide) (by decide) he hpl
end
end
end TV
namespace TV
open PySem PySem.Spec PyProof.Rows L2
def rg1E (fa : Ev) : Ev := fun ρ => andThen (fa ρ) fun r ρ1 => match r with
  | .sh (.int b) => if uptN 16777216 b = true then some (.ok (.fr (upTo 0 b.toNat)) ρ1) else none
  | _ => none
def rg2E (fa fb : Ev) : Ev := fun ρ => andThen (fa ρ) fun ra ρ1 => andThen (fb ρ1) fun rb ρ2 => match ra, rb with
  | .sh (.int a), .sh (.int b) => if (uptN 16777216 a && uptN 16777216 b) = true then some (.ok (.fr (upTo a (b - a).toNat)) ρ2) else none
  | _, _ => none
theorem rg_reps {K : KG} {M : Addr → Prop} {H : Hp} (a b : Int) : Reps K M H (rgV a b) (upTo a (b - a).toNat) := by
  have e1 : rgV a b = ((List.range (b - a).toNat).map fun i => a + (i : Nat)).map V.int := by unfold rgV; rw [List.map_map]; rfl
  have e2 : upTo a (b - a).toNat = ((List.range (b - a).toNat).map fun i => a + (i : Nat)).map Tr.int := by unfold upTo; rw [List.map_map]; rfl
  rw [e1, e2]
  exact .of_ints _
section
variable {G : GS} {X : Cx} {W : WX}
theorem new_list {σ : L2.St} {M M1 : Addr → Prop} {H H1 : Hp} {ρ ρ1 : En} {Q : VK} {vs : List V} {ts : List Tr} {q : Addr} (w : Wn G X W σ M H ρ (.ok (.fr ts) ρ1) fun r M' H' ρ' => ∀ v, ResAt (kg X G) H M' H' σ ρ' v r → Q v H') (L : Rel (kg X G) M H σ ρ) (g1 : Go (Owns σ ρ) M H M1 H1) (l1 : Less ρ ρ1) (L1 : Rel (kg X G) M1 H1 σ ρ1) (rp : Reps (kg X G) M1 H1 vs ts) (np : H1 q = none) : Q (.ref q) (upd H1 q (.lst vs)) := by
  have gt := go_mut (M := M1) (o := .lst vs) np
  refine w _ _ (g1.trans (O1 := fun _ => False) gt (fun _ z => z.elim) L.dom) l1 (L1.go0 gt (dom_mut L1.dom)) _ ?_
  exact (NewAt.res (n := .l ts) (new_lst np rp) L1).from g1.there
theorem se_lstRg1 {a : Expr} {fa : Ev} {p p2 pos pos2 : Pos} (hc : X.calm = true) (hg : Gl X "list") (hm : X.mg "list" = none) (hg2 : Gl X "range") (hm2 : X.mg "range" = none) (ha : PE X a (RE G X W fa))
    (na : starEach [.Call (.Name "range" p2) [a] [] pos2] X.env = (false, eval (.Call (.Name "range" p2) [a] [] pos2) X.env) :: starEach [] X.env := by rfl) (na2 : starEach [a] X.env = (false, eval a X.env) :: starEach [] X.env := by rfl) :
    PE X (.Call (.Name "list" p) [.Call (.Name "range" p2) [a] [] pos2] [] pos) (RE G X W (rg1E fa)) := by
  refine pe_imp (pe_listRg hc hg hm (prg_1 hg2 hm2 ha na2) na) fun σ H Q ⟨M, ρ, o, L, e, w⟩ => ?_
  refine RE.stepO L e w fun r v M1 H1 ρ1 g1 l1 L1 R1 e1 => ?_
  split at e1
  · rename_i b
    split at e1
    · rename_i c
      cases e1
      have c := uptN_iff.mp c
      refine ⟨b, Rep.int_eq R1, RgOk.of_le (Int.le_refl _) c.2 (by omega) c.1, fun q np => ?_⟩
      have rp := rg_reps (K := kg X G) (M := M1) (H := H1) 0 b
      rw [Int.sub_zero] at rp
      exact new_list w L g1 l1 L1 rp np
    · cases e1
  · cases e1
theorem se_lstRg2 {a b : Expr} {fa fb : Ev} {p p2 pos pos2 : Pos} (hc : X.calm = true) (hg : Gl X "list") (hm : X.mg "list" = none) (hg2 : Gl X "range") (hm2 : X.mg "range" = none) (ha : PE X a (RE G X W fa)) (hb : PE X b (RE G X W fb))
    (na : starEach [.Call (.Name "range" p2) [a, b] [] pos2] X.env = (false, eval (.Call (.Name "range" p2) [a, b] [] pos2) X.env) :: starEach [] X.env := by rfl) (na2 : starEach [a, b] X.env = (false, eval a X.env) :: starEach [b] X.env := by rfl)
    (nb : starEach [b] X.env = (false, eval b X.env) :: starEach [] X.env := by rfl) (hp : (backTo pos2 (starEach [b] X.env)).any (·.1) = false := by rfl) :
    PE X (.Call (.Name "list" p) [.Call (.Name "range" p2) [a, b] [] pos2] [] pos) (RE G X W (rg2E fa fb)) := by
  refine pe_imp (pe_listRg hc hg hm (prg_2 hg2 hm2 ha hb na2 nb hp) na) fun σ H Q ⟨M, ρ, o, L, e, w⟩ => ?_
  refine RE.step L e w fun ra va M1 H1 ρ1 o2 g1 l1 L1 R1 e2 w2 => ?_
  refine RE.step L1 e2 w2 fun rb vb M2 H2 ρ2 o3 g2 l2 L2' R2 e3 w3 => ?_
  split at e3
  · rename_i i j
    split at e3
    · rename_i c
      cases e3
      have hva := Rep.int_eq R1
      have hvb := Rep.int_eq R2
      rw [Bool.and_eq_true, uptN_iff, uptN_iff] at c
      refine ⟨i, j, hva, hvb, RgOk.of_le c.1.1 c.2.2 c.1.2 c.2.1, fun q np => ?_⟩
      have rp := rg_reps (K := kg X G) (M := M2) (H := H2) i j
      have gt := go_mut (M := M2) (o := .lst (rgV i j)) np
      refine w3 _ _ gt.of0 .refl (L2'.go0 gt (dom_mut L2'.dom)) _ ?_
      exact (NewAt.res (n := .l (upTo i (j - i).toNat)) (new_lst np rp) L2').from fun a z => g2.there a (g1.there a z)
    · cases e3
  · cases e3
def revE (f : Ev) : Ev := fun ρ => andThen (f ρ) fun r ρ1 => match r.tr ρ1 with
  | none => none
  | some t => match listT t with
    | some ts => some (.ok (.fr ts.reverse) ρ1)
    | none => none
theorem se_lstRev {e : Expr} {f : Ev} {p p2 pos pos2 : Pos} (hc : X.calm = true) (hg : Gl X "list") (hm : X.mg "list" = none) (hg2 : Gl X "reversed") (hm2 : X.mg "reversed" = none) (he : PE X e (RE G X W f))
    (hs : starEach [e] X.env = (false, eval e X.env) :: starEach [] X.env := by rfl)
    (hs2 : starEach [.Call (.Name "reversed" p2) [e] [] pos2] X.env = (false, eval (.Call (.Name "reversed" p2) [e] [] pos2) X.env) :: starEach [] X.env := by rfl) :
    PE X (.Call (.Name "list" p) [.Call (.Name "reversed" p2) [e] [] pos2] [] pos) (RE G X W (revE f)) := by
  refine pe_imp (pe_lstRev hc hg hm hg2 hm2 he hs hs2) fun σ H Q ⟨M, ρ, o, L, e, w⟩ => ?_
  refine RE.stepO L e w fun r v M1 H1 ρ1 g1 l1 L1 R1 e1 => ?_
  cases et : r.tr ρ1 with
  | none => rw [et] at e1; cases e1
  | some t =>
    rw [et] at e1
    dsimp only at e1
    cases el : listT t with
    | none => rw [el] at e1; cases e1
    | some ts =>
      rw [el] at e1
      cases e1
      obtain ⟨a, vs, rfl, hq, rp⟩ := (R1.top L1 et).listT el
      exact ⟨a, vs, rfl, hq, fun q np => new_list w L g1 l1 L1 rp.reverse np⟩
end
section
variable {K : KG} {M : Addr → Prop} {H : Hp} {σ : L2.St} {ρ : En} {a : Addr} {i : Nat} {o : HO} {s s' : Sl}
theorem go_upd (h : H a ≠ none) : Go (fun b => b = a) M H M (upd H a o) where
  keep := fun b o' e n => by rw [upd_ne n]; exact e
  there := fun b n => by
    by_cases e : b = a
    · subst e; rw [upd_same]; exact fun z => nomatch z
    · rw [upd_ne e]; exact n
  new := fun _ h => .inl h
  old := fun _ h _ => h
theorem own_set2 {j : Nat} {b : Addr} (h : ρ[i]? = some s) (hs : s.own = true) (hs' : s'.own = true) (z : OwnAt σ (ρ.set i s') j b) : OwnAt σ ρ j b := by
  obtain ⟨h1, x, h2, h3⟩ := z
  rcases getSet h2 with ⟨rfl, rfl, _⟩ | ⟨n, h2⟩
  · exact ⟨h1, s, h, hs⟩
  · exact ⟨h1, x, h2, h3⟩
theorem Rel.mut (L : Rel K M H σ ρ) (hi : ρ[i]? = some s) (hs : s.own = true) (hs' : s'.own = true) (ha : σ[i]? = some (some (.ref a))) (hn : SlAt K M (upd H a o) (some (some (.ref a))) s') : Rel K M (upd H a o) σ (ρ.set i s') ∧ Go (Owns σ ρ) M H M (upd H a o) ∧ Less ρ (ρ.set i s') := by
  have at_ : OwnAt σ ρ i a := ⟨ha, s, hi, hs⟩
  have ma := L.sub a ⟨i, at_⟩
  have g := go_upd (M := M) (o := o) (L.dom a ma)
  refine ⟨⟨by rw [List.length_set]; exact L.len, fun b m => g.there b (L.dom b m), fun j x e => ?_, fun j k b h1 h2 => L.inj j k b (own_set2 hi hs hs' h1) (own_set2 hi hs hs' h2)⟩, g.wide fun b e => by subst e; exact ⟨i, at_⟩, fun j x e o => ?_⟩
  · rcases getSet e with ⟨rfl, rfl, _⟩ | ⟨n, e⟩
    · rw [ha]; exact hn
    · exact (L.at_ j x e).go g (fun b e => by subst e; exact ma) fun oj b hb e => by
        subst e
        exact n (L.inj j i _ ⟨hb, x, ‹ρ[j]? = some x›, oj⟩ at_)
  · rcases getSet e with ⟨rfl, rfl, _⟩ | ⟨n, e⟩
    · exact ⟨s, hi, hs⟩
    · exact ⟨x, e, o⟩
end
def LmOk (G : GS) (X : Cx) (r : V → List V → Hp → VK → Prop) (g : List Tr → List Tr → Option (Tr × List Tr)) : Prop :=
  ∀ (M : Addr → Prop) (H : Hp) (a : Addr) (vs : List V) (ts : List Tr) (xs : List V) (us : List Tr) (t : Tr) (ts' : List Tr) (Q : VK), H a = some (.lst vs) → M a → Reps (kg X G) M H vs ts → vs.length ≤ sizeLine → Reps (kg X G) M H xs us → g ts us = some (t, ts') →
    (∀ v vs', (∀ o : HO, Rep (kg X G) M (upd H a o) v t ∧ Reps (kg X G) M (upd H a o) vs' ts') → Q v (upd H a (.lst vs'))) → r (.ref a) xs H Q
def lmE (i : Nat) (g : List Tr → List Tr → Option (Tr × List Tr)) (fs : Av) : Ev := fun ρ => match ρ[i]? with
  | some (.ow _) => andThen (fs ρ) fun rs ρ1 => match shs rs, ρ1[i]? with
    | some us, some (.ow ts) => if ts.length ≤ sizeLine then (match g ts us with
      | some (t, ts') => some (.ok (.sh t) (ρ1.set i (.ow ts')))
      | none => none) else none
    | _, _ => none
  | _ => none
section
variable {G : GS} {X : Cx} {W : WX}
theorem stay {K : KG} {M : Addr → Prop} {H : Hp} {a : Addr} (o : HO) (ma : M a) (ha : H a ≠ none) {v : V} {t : Tr} (r : Rep K M H v t) : Rep K M (upd H a o) v t := r.go (go_upd (M := M) ha) fun b e => by subst e; exact ma
theorem stays {K : KG} {M : Addr → Prop} {H : Hp} {a : Addr} (o : HO) (ma : M a) (ha : H a ≠ none) {v : List V} {t : List Tr} (r : Reps K M H v t) : Reps K M (upd H a o) v t := r.go (go_upd (M := M) ha) fun b e => by subst e; exact ma
theorem re_lm {r : V → List V → Hp → VK → Prop} {g : List Tr → List Tr → Option (Tr × List Tr)} {i : Nat} {fs : Av} (h : LmOk G X r g) {σ : L2.St} {H : Hp} {Q : VK} (q : RE G X W (lmE i g fs) σ H Q) : tBM X.K "list" r (tVar i) (RA G X W fs) σ H Q := by
  obtain ⟨M, ρ, o, L, e, w⟩ := q
  unfold lmE at e
  split at e
  · rename_i ts0 h0
    obtain ⟨a, ha, own⟩ := L.at_ i _ h0
    refine ⟨.ref a, ha, ?_, ?_⟩
    · cases own with
      | lst h m r => exact .inl ⟨rfl, _, SqL.of h⟩
    · refine RA.stepO L e w fun rs xs M1 H1 ρ1 g1 l1 L1 As e1 => ?_
      split at e1
      · rename_i us ts hus h1
        split at e1
        · rename_i hsz
          cases eg : g ts us with
          | none => rw [eg] at e1; cases e1
          | some p =>
            obtain ⟨t, ts'⟩ := p
            rw [eg] at e1
            cases e1
            obtain ⟨b, hb, own1⟩ := L1.at_ i _ h1
            rw [ha] at hb; cases hb
            cases own1 with
            | @lst vs _ hl ml rl =>
              refine h M1 H1 a vs ts xs us t ts' Q hl ml rl (by rw [rl.length]; exact hsz) (As.shs hus) eg fun v vs' z => ?_
              obtain ⟨z1, z2⟩ := z (.lst vs')
              obtain ⟨L2', g2, l2⟩ := L1.mut (a := a) (o := .lst vs') (s' := .ow ts') h1 rfl rfl ha ⟨a, rfl, .lst upd_same ml z2⟩
              exact w _ _ (g1.trans g2 (fun b z => .inl (l1.owns z)) L.dom) (l1.trans l2) L2' v z1
        · cases e1
      · cases e1
  · cases e
theorem se_lm {id : String} {name : Str} {r : V → List V → Hp → VK → Prop} {g : List Tr → List Tr → Option (Tr × List Tr)} {i : Nat} {x : Str} {e : Expr} {es : List Expr} {fs : Av} {p apos cpos : Pos} (slot : Slot "list" name id) (hty : typeOf (.builtin id) = pure (.type "method_descriptor")) (hmt : MtR X id r) (h : LmOk G X r g)
    (hN : X.N[i]? = some x) (hv : Vis X.env.scope x) (hd : (x == ("__debug__" : Str)) = false) (hcd : (x == ("__classdict__" : Str)) = false) (ha : PA X (e :: es) (RA G X W fs))
    (hbase : attributeBase (.Name x p) name X.env (eval (.Name x p) X.env) = eval (.Name x p) X.env)
    (hfew : ((backTo cpos (starEach (e :: es) X.env)).all (fun x => !x.1) && (backToKw cpos (keywordEach [] X.env)).all (fun x => x.1.isSome)
      && decide ((e :: es).length + ([] : List Keyword).length + (if ([] : List Keyword).isEmpty then 0 else 1) < 30)) = true)
    (hline : (apos.endLine == cpos.line) = true) (hs : starEach (e :: es) X.env = (false, eval e X.env) :: starEach es X.env) (hplain : (backTo cpos (starEach es X.env)).any (·.1) = false) :
    PE X (.Call (.Attribute (.Name x p) name apos) (e :: es) [] cpos) (RE G X W (lmE i g fs)) :=
  pe_imp (pe_bm PySem.F.plainAttrs_list slot hty hmt (pe_var hN hv hd hcd) ha hbase hfew hline hs hplain) fun _ _ _ => re_lm h
theorem re_lm0 {r : V → List V → Hp → VK → Prop} {g : List Tr → List Tr → Option (Tr × List Tr)} {i : Nat} (h : LmOk G X r g) {σ : L2.St} {H : Hp} {Q : VK} (q : RE G X W (lmE i g nilA) σ H Q) : tBM0 X.K "list" r (tVar i) σ H Q := by
  obtain ⟨v, h1, h2, M, ρ, o, L, e, w⟩ := re_lm h q
  cases e
  exact ⟨v, h1, h2, w.ok L [] .nil⟩
theorem se_lm0 {id : String} {name : Str} {r : V → List V → Hp → VK → Prop} {g : List Tr → List Tr → Option (Tr × List Tr)} {i : Nat} {x : Str} {p apos cpos : Pos} (slot : Slot "list" name id) (hty : typeOf (.builtin id) = pure (.type "method_descriptor")) (hmt : MtR X id r) (h : LmOk G X r g)
    (hN : X.N[i]? = some x) (hv : Vis X.env.scope x) (hd : (x == ("__debug__" : Str)) = false) (hcd : (x == ("__classdict__" : Str)) = false)
    (hbase : attributeBase (.Name x p) name X.env (eval (.Name x p) X.env) = eval (.Name x p) X.env) (hline : (apos.endLine == cpos.line) = true) :
    PE X (.Call (.Attribute (.Name x p) name apos) [] [] cpos) (RE G X W (lmE i g nilA)) :=
  pe_imp (pe_bm0 PySem.F.plainAttrs_list slot hty hmt (pe_var hN hv hd hcd) hbase hline) fun _ _ _ => re_lm0 h
def mAppend (ts us : List Tr) : Option (Tr × List Tr) := match us with
  | [t] => if ts.length < sizeLine then some (.non, ts ++ [t]) else none
  | _ => none
theorem ok_append : LmOk G X rAppend mAppend := by
  intro M H a vs ts xs us t ts' Q h m r hz rx e q
  unfold mAppend at e
  match us, rx, e with
  | [], _, e => cases e
  | _ :: _ :: _, _, e => cases e
  | [u], rx, e =>
    dsimp only at e
    split at e
    · rename_i c
      cases e
      cases rx with
      | cons hx rx =>
        cases rx
        have hn : H a ≠ none := by rw [h]; exact fun z => nomatch z
        exact ⟨a, vs, _, rfl, rfl, h, by rw [r.length]; exact c, q _ _ fun o => ⟨.non, stays o m hn (r.append (.cons hx .nil))⟩⟩
    · cases e
def mExtend (ts us : List Tr) : Option (Tr × List Tr) := match us with
  | [.lst zs] => if ts.length + zs.length ≤ sizeLine then some (.non, ts ++ zs) else none
  | _ => none
theorem ok_extend : LmOk G X rExtend mExtend := by
  intro M H a vs ts xs us t ts' Q h m r hz rx e q
  unfold mExtend at e
  split at e
  · rename_i zs
    split at e
    · rename_i c
      cases e
      cases rx with
      | cons hx rx =>
        cases rx
        cases hx with
        | @lst b ws _ hb nb rb =>
          have hn : H a ≠ none := by rw [h]; exact fun z => nomatch z
          exact ⟨a, b, vs, ws, rfl, rfl, h, hb, by rw [r.length, rb.length]; exact c, q _ _ fun o => ⟨.non, stays o m hn (r.append rb)⟩⟩
    · cases e
  · cases e
def mPop (ts us : List Tr) : Option (Tr × List Tr) := match us with
  | [] => (ts[ts.length - 1]?).map fun t => (t, ts.dropLast)
  | _ => none
theorem ok_pop : LmOk G X rPop mPop := by
  intro M H a vs ts xs us t ts' Q h m r hz rx e q
  unfold mPop at e
  split at e
  · cases rx
    cases eg : ts[ts.length - 1]? with
    | none => rw [eg] at e; cases e
    | some u =>
      rw [eg] at e
      cases e
      obtain ⟨v, hv, rv⟩ := r.get eg
      have hn : H a ≠ none := by rw [h]; exact fun z => nomatch z
      exact ⟨a, vs, v, rfl, rfl, h, by rw [r.length]; exact hv, q _ _ fun o => ⟨stay o m hn rv, stays o m hn r.dropLast⟩⟩
  · cases e
def mPopAt (ts us : List Tr) : Option (Tr × List Tr) := match us with
  | [.int i] => match seqIndex? i ts.length with
    | none => none
    | some k => (ts[k]?).map fun t => (t, ts.eraseIdx k)
  | _ => none
theorem seqIx_fit {i : Int} {n k : Nat} (h : seqIndex? i n = some k) (hn : n ≤ sizeLine) : -(2 ^ 63) ≤ i ∧ i < 2 ^ 63 := by
  unfold seqIndex? at h
  have hz := sizeLine_eq
  by_cases c0 : i < 0
  · simp only [c0, if_true] at h
    split at h
    · rename_i c
      simp only [Bool.and_eq_true, decide_eq_true_eq] at c
      omega
    · cases h
  · simp only [c0, if_false] at h
    split at h
    · rename_i c
      simp only [Bool.and_eq_true, decide_eq_true_eq] at c
      omega
    · cases h
theorem ok_popAt : LmOk G X rPopAt mPopAt := by
  intro M H a vs ts xs us t ts' Q h m r hz rx e q
  unfold mPopAt at e
  split at e
  · rename_i i
    cases ek : seqIndex? i ts.length with
    | none => rw [ek] at e; cases e
    | some k =>
      rw [ek] at e
      dsimp only at e
      cases eg : ts[k]? with
      | none => rw [eg] at e; cases e
      | some u =>
        rw [eg] at e
        cases e
        obtain ⟨v, hv, rv⟩ := r.get eg
        cases rx with
        | cons hx rx =>
          cases rx
          have hxi := Rep.int_eq hx
          subst hxi
          have hn : H a ≠ none := by rw [h]; exact fun z => nomatch z
          have hf := seqIx_fit ek (by rw [← r.length]; exact hz)
          exact ⟨a, vs, i, k, v, rfl, rfl, h, hf.1, hf.2, by rw [r.length]; exact ek, hv, q _ _ fun o => ⟨stay o m hn rv, stays o m hn (r.eraseIdx k)⟩⟩
  · cases e
def mInsert (ts us : List Tr) : Option (Tr × List Tr) := match us with
  | [.int i, t] => if ts.length < sizeLine ∧ 0 ≤ i ∧ i < 2 ^ 63 then some (.non, ts.take i.toNat ++ [t] ++ ts.drop i.toNat) else none
  | _ => none
theorem ok_insert : LmOk G X (fun x vs H Q => ∃ (l : Addr) (xs : List V) (i : Int) (y : V), x = .ref l ∧ vs = [.int i, y] ∧ H l = some (.lst xs) ∧ xs.length < sizeLine ∧ 0 ≤ i ∧ i < 2 ^ 63 ∧
    Q .non (upd H l (.lst (xs.take i.toNat ++ [y] ++ xs.drop i.toNat)))) mInsert := by
  intro M H a vs ts xs us t ts' Q h m r hz rx e q
  unfold mInsert at e
  split at e
  · rename_i i u
    split at e
    · rename_i c
      cases e
      cases rx with
      | cons hx rx =>
        cases rx with
        | cons hy rx =>
          cases rx
          have hxi := Rep.int_eq hx
          subst hxi
          have hn : H a ≠ none := by rw [h]; exact fun z => nomatch z
          exact ⟨a, vs, i, _, rfl, rfl, h, by rw [r.length]; exact c.1, c.2.1, c.2.2, q _ _ fun o => ⟨.non, stays o m hn (((r.take _).append (.cons hy .nil)).append (r.drop _))⟩⟩
    · cases e
  · cases e
def rRemD (K : PySem.W.Frag) : V → List V → Hp → VK → Prop := fun x vs H Q => ∃ (l : Addr) (xs : List V) (y : V) (ds : List PyData) (d : PyData) (j : Nat), x = .ref l ∧ vs = [y] ∧ H l = some (.lst xs) ∧ DpAll K H xs ds ∧ Dp K H y d ∧
  PyData.plainAll ds = true ∧ SeqAt.shaped d = true ∧ SeqAt.dataPlace ds d = some j ∧ Q .non (upd H l (.lst (xs.eraseIdx j)))
theorem mt_removeD (hu : X.A.units + 65 < cLine) : MtR X "list.remove" (rRemD X.K) := by
  intro pins s σ H x vs v us Q I rx rv h
  obtain ⟨l, xs, y, ds, d, j, rfl, rfl, hH, hxs, hy, hp, sd, hj, q⟩ := h
  cases rx
  obtain ⟨u, rfl, ru⟩ := rv.one
  obtain ⟨z, its, n, r, hl, e⟩ := I.lstM hH
  obtain ⟨bs, r1⟩ := Dp.reads I d y u hy ru
  obtain ⟨as, r2⟩ := Dp.readsAll I ds xs its hxs r
  refine SeqAt.remove_list_data (l := l) (vs := its.toArray) ⟨_, e, rfl, n, rfl⟩ r2 r1 hp (PyData.plain_of_canLay0 _ (SeqAt.canLay_of_shaped sd)) (room_in_shaped sd hu) hj (by rw [List.size_toArray, ← hl]; exact z) ?_
  refine ⟨.non, _, I.lset (its' := its.eraseIdx j) (t' := s.toks) hH e ?_ (r.eraseIdx j) ?_, rfl, q⟩
  · show its.toArray.eraseIdxIfInBounds j = (its.eraseIdx j).toArray
    rw [List.eraseIdxIfInBounds_toArray]
  · have := len_erase xs j
    omega
def mRemove (ts us : List Tr) : Option (Tr × List Tr) := match us with
  | [t] => if (ts.all shp && shp t) = true then (match ts.findIdx? fun z => eqT z t with
    | some j => some (.non, ts.eraseIdx j)
    | none => none) else none
  | _ => none
end
end TV
namespace TV
open PySem PySem.Spec PyProof.Rows L2
section
variable {G : GS} {X : Cx} {W : WX}
theorem canAll_of : ∀ {ts : List Tr}, ts.all shp = true → PyData.canLayAll0 (dats ts) = true
  | [], _ => by simp [dats, PyData.canLayAll0]
  | t :: ts, h => by
    simp only [List.all_cons, Bool.and_eq_true] at h
    simp only [dats, PyData.canLayAll0, Bool.and_eq_true]
    exact ⟨SeqAt.canLay_of_shaped h.1, canAll_of h.2⟩
theorem place_dats (t : Tr) (ts : List Tr) : SeqAt.dataPlace (dats ts) (dat t) = ts.findIdx? fun z => eqT z t := by
  unfold SeqAt.dataPlace
  rw [dats_map, List.findIdx?_map]; rfl
theorem count_dats (t : Tr) (ts : List Tr) : (dats ts).countP (fun y => PyData.eqv y (dat t)) = ts.countP fun z => eqT z t := by
  rw [dats_map, List.countP_map]; rfl
theorem ok_remove : LmOk G X (rRemD X.K) mRemove := by
  intro M H a vs ts xs us t ts' Q h m r hz rx e q
  unfold mRemove at e
  split at e
  · rename_i u
    split at e
    · rename_i c
      simp only [Bool.and_eq_true] at c
      split at e
      · rename_i j hj
        cases e
        cases rx with
        | cons hx rx =>
          cases rx
          have hn : H a ≠ none := by rw [h]; exact fun z => nomatch z
          have hc := canAll_of c.1
          exact ⟨a, vs, _, dats ts, dat u, j, rfl, rfl, h, Reps.dp r hc, RTop.dp (.inl hx) c.2, PyData.plainAll_of_canLay0 _ hc, c.2, by rw [place_dats]; exact hj, q _ _ fun o => ⟨.non, stays o m hn (r.eraseIdx j)⟩⟩
      · cases e
    · cases e
  · cases e
def VmOk (G : GS) (X : Cx) (T : String) (r : V → List V → Hp → VK → Prop) (p : Tr → Bool) (g : Tr → List Tr → Option Nw) : Prop :=
  (∀ (M : Addr → Prop) (H : Hp) (x : V) (t : Tr), RTop (kg X G) M H x t → p t = true → tyV X.K T x H) ∧
  ∀ (M : Addr → Prop) (H : Hp) (x : V) (xs : List V) (t : Tr) (us : List Tr) (n : Nw) (Q : VK), (∀ a, M a → H a ≠ none) → RTop (kg X G) M H x t → RTops (kg X G) M H xs us → g t us = some n →
    (∀ v M' H', Go0 M H M' H' → (∀ a, M' a → H' a ≠ none) → NewAt (kg X G) H M' H' v n → Q v H') → r x xs H Q
def vmE (p : Tr → Bool) (g : Tr → List Tr → Option Nw) (f : Ev) (fs : Av) : Ev := fun ρ => andThen (f ρ) fun r ρ1 => match r.tr ρ1 with
  | none => none
  | some t0 => if p t0 = true then (andThen (fs ρ1) fun rs ρ2 => match r.tr ρ2, trs ρ2 rs with
    | some t, some us => match g t us with
      | some n => some (.ok n.rs ρ2)
      | none => none
    | _, _ => none) else none
theorem re_vm {T : String} {r : V → List V → Hp → VK → Prop} {p : Tr → Bool} {g : Tr → List Tr → Option Nw} {f : Ev} {fs : Av} (h : VmOk G X T r p g) {σ : L2.St} {H : Hp} {Q : VK} (q : RE G X W (vmE p g f fs) σ H Q) : tBM X.K T r (RE G X W f) (RA G X W fs) σ H Q := by
  obtain ⟨M, ρ, o, L, e, w⟩ := q
  refine RE.step L e w fun ra va M1 H1 ρ1 o2 g1 l1 L1 R1 e2 w2 => ?_
  cases e0 : ra.tr ρ1 with
  | none => rw [e0] at e2; cases e2
  | some t0 =>
    rw [e0] at e2
    dsimp only at e2
    split at e2
    · rename_i c
      refine ⟨h.1 M1 H1 va t0 (R1.top L1 e0) c, ?_⟩
      refine RA.stepO L1 e2 w2 fun rs xs M2 H2 ρ2 g2 l2 L2' As e3 => ?_
      have R1' := R1.go L1 g2 l2
      split at e3
      · rename_i t us ht hus
        cases eg : g t us with
        | none => rw [eg] at e3; cases e3
        | some n =>
          rw [eg] at e3
          cases e3
          refine h.2 M2 H2 va xs t us n Q L2'.dom (R1'.top L2' ht) (As.trs L2' hus) eg fun v M' H' gg dd nn => ?_
          exact w2 M' H' (g2.trans (O1 := fun _ => False) gg (fun _ z => z.elim) L1.dom) l2 (L2'.go0 gg dd) v ((nn.res L2').from fun a z => g2.there a (g1.there a z))
      · cases e3
    · cases e2
theorem se_vm {T id : String} {name : Str} {r : V → List V → Hp → VK → Prop} {p : Tr → Bool} {g : Tr → List Tr → Option Nw} {f : Ev} {o e : Expr} {es : List Expr} {fs : Av} {apos cpos : Pos} (pa : PlainAttrs T) (slot : Slot T name id) (hty : typeOf (.builtin id) = pure (.type "method_descriptor")) (hmt : MtR X id r) (h : VmOk G X T r p g)
    (ho : PE X o (RE G X W f)) (ha : PA X (e :: es) (RA G X W fs))
    (hbase : attributeBase o name X.env (eval o X.env) = eval o X.env)
    (hfew : ((backTo cpos (starEach (e :: es) X.env)).all (fun x => !x.1) && (backToKw cpos (keywordEach [] X.env)).all (fun x => x.1.isSome)
      && decide ((e :: es).length + ([] : List Keyword).length + (if ([] : List Keyword).isEmpty then 0 else 1) < 30)) = true)
    (hline : (apos.endLine == cpos.line) = true) (hs : starEach (e :: es) X.env = (false, eval e X.env) :: starEach es X.env) (hplain : (backTo cpos (starEach es X.env)).any (·.1) = false) :
    PE X (.Call (.Attribute o name apos) (e :: es) [] cpos) (RE G X W (vmE p g f fs)) :=
  pe_imp (pe_bm pa slot hty hmt ho ha hbase hfew hline hs hplain) fun _ _ _ => re_vm h
def isLst : Tr → Bool
  | .lst _ => true
  | .scr _ => true
  | _ => false
theorem ty_lst {M : Addr → Prop} {H : Hp} {x : V} {t : Tr} (r : RTop (kg X G) M H x t) (p : isLst t = true) : tyV X.K "list" x H := by
  cases t <;> try cases p
  · obtain ⟨a, vs, rfl, h, _⟩ := r.lst; exact .inl ⟨rfl, vs, SqL.of h⟩
  · obtain ⟨a, rfl, h⟩ := r.scr; exact .inl ⟨rfl, _, h⟩
def rCntD (K : PySem.W.Frag) : V → List V → Hp → VK → Prop := fun x vs H Q => ∃ (l : Addr) (xs : List V) (y : V) (ds : List PyData) (d : PyData), x = .ref l ∧ vs = [y] ∧ SqL K H l xs ∧ DpAll K H xs ds ∧ Dp K H y d ∧
  PyData.plainAll ds = true ∧ SeqAt.shaped d = true ∧ Q (.int ((ds.countP fun z => PyData.eqv z d : Nat) : Int)) H
theorem mt_countD (hu : X.A.units + 65 < cLine) : MtR X "list.count" (rCntD X.K) := by
  intro pins s σ H x xs v us Q I rx rv h
  obtain ⟨l, xs, y, ds, d, rfl, rfl, hH, hxs, hy, hp, sd, q⟩ := h
  cases rx
  obtain ⟨u, rfl, ru⟩ := rv.one
  obtain ⟨its, r, pl, hz⟩ := I.list hH
  obtain ⟨bs, r1⟩ := Dp.reads I d y u hy ru
  obtain ⟨as, r2⟩ := Dp.readsAll I ds xs its hxs r
  exact SeqAt.count_list_data (l := l) (vs := its.toArray) pl.isList r2 r1 hp (PyData.plain_of_canLay0 _ (SeqAt.canLay_of_shaped sd)) (room_in_shaped sd hu) ⟨.int _, H, I.tok _, ⟨_, rfl⟩, q⟩
def gCount (t : Tr) (us : List Tr) : Option Nw := match t, us with
  | .lst ts, [u] => if (ts.all shp && shp u) = true then some (.s (.int ((ts.countP fun z => eqT z u : Nat) : Int))) else none
  | _, _ => none
theorem ok_count : VmOk G X "list" (rCntD X.K) isLst gCount := by
  refine ⟨fun M H x t r p => ty_lst r p, fun M H x xs t us n Q d rx rs e q => ?_⟩
  unfold gCount at e
  split at e
  · rename_i ts u
    split at e
    · rename_i c
      simp only [Bool.and_eq_true] at c
      cases e
      obtain ⟨a, vs, rfl, h, r⟩ := rx.lst
      obtain ⟨y, rfl, ry⟩ := rs.one
      have hc := canAll_of c.1
      refine ⟨a, vs, y, dats ts, dat u, rfl, rfl, SqL.of h, Reps.dp r hc, ry.dp c.2, PyData.plainAll_of_canLay0 _ hc, c.2, ?_⟩
      rw [count_dats]
      exact fin0 d q (.int _)
    · cases e
  · cases e
theorem se_count {o e : Expr} {f : Ev} {fs : Av} {apos cpos : Pos} (hu : X.A.units + 65 < cLine) (ho : PE X o (RE G X W f)) (ha : PA X [e] (RA G X W fs))
    (hbase : attributeBase o "count" X.env (eval o X.env) = eval o X.env := by rfl)
    (hfew : ((backTo cpos (starEach [e] X.env)).all (fun x => !x.1) && (backToKw cpos (keywordEach [] X.env)).all (fun x => x.1.isSome)
      && decide (([e] : List Expr).length + ([] : List Keyword).length + (if ([] : List Keyword).isEmpty then 0 else 1) < 30)) = true := by rfl)
    (hline : (apos.endLine == cpos.line) = true := by rfl) (hs : starEach [e] X.env = (false, eval e X.env) :: starEach [] X.env := by rfl) (hplain : (backTo cpos (starEach [] X.env)).any (·.1) = false := by rfl) :
    PE X (.Call (.Attribute o "count" apos) [e] [] cpos) (RE G X W (vmE isLst gCount f fs)) :=
  se_vm PySem.F.plainAttrs_list PySem.F.slot_list_count PySem.F.type_list_count (mt_countD hu) ok_count ho ha hbase hfew hline hs hplain
def gIndex (t : Tr) (us : List Tr) : Option Nw := match t, us with
  | .lst ts, [u] => if (shp (.lst ts) && shp u) = true then (match ts.findIdx? fun z => eqT z u with
    | some j => some (.s (.int (j : Nat)))
    | none => none) else none
  | _, _ => none
theorem ok_index : VmOk G X "list" (rIndexD X.K) isLst gIndex := by
  refine ⟨fun M H x t r p => ty_lst r p, fun M H x xs t us n Q d rx rs e q => ?_⟩
  unfold gIndex at e
  split at e
  · rename_i ts u
    split at e
    · rename_i c
      simp only [Bool.and_eq_true] at c
      split at e
      · rename_i j hj
        cases e
        have hD := dp_lst rx c.1
        obtain ⟨a, vs, rfl, h, r⟩ := rx.lst
        obtain ⟨y, rfl, ry⟩ := rs.one
        obtain ⟨h1, h2, h3⟩ := List.findIdx?_eq_some_iff_getElem.mp hj
        have hl : (dats ts).length = ts.length := by rw [dats_map, List.length_map]
        have hg : ∀ (m : Nat) (hm : m < ts.length), (dats ts)[m]? = some (dat ts[m]) := fun m hm => by
          rw [dats_map, List.getElem?_map, List.getElem?_eq_getElem hm]; rfl
        have hs2 : SeqAt.shaped (.list (dats ts)) = true := by have := c.1; unfold shp at this; rwa [dat] at this
        refine ⟨a, y, dat u, dats ts, j, dat ts[j], rfl, rfl, hD, ry.dp c.2, hs2, c.2, hg j h1, h2, fun m z' hm e' => ?_, fin0 d q (.int _)⟩
        rw [hg m (by omega)] at e'
        cases e'
        have := h3 m hm
        simpa [eqT] using this
      · cases e
    · cases e
  · cases e
end
end TV
namespace TV
open PySem PySem.Spec PyProof.Rows L2 HT
section
variable {X : Cx}
def tTupF (t : TA) : TE := fun σ H Q => t σ H fun xs H1 => xs.length ≤ sizeLine ∧ ∀ p o, H1 p = none → o.dict = none → Q (.ref p) (upd H1 p (.frz o (.tup xs)))
theorem pe_tupF {es : List Expr} {t : TA} {pos : Pos} {x1} (h : PA X es t) : PE X (.Tuple es x1 pos) (tTupF t) := by
  refine ⟨fun pins s σ H Q I hq => ?_⟩
  refine wpAny_Tuple_spliced (thn (h.run pos pins s σ H _ I hq) fun us s1 ⟨xs, H1, I1, r, z, q⟩ => ⟨by rw [← r.length]; exact z, ?_⟩)
  have hf : H1 s1.heap.objs.size = none := I1.hok.fresh (Nat.le_refl _)
  refine ⟨.ref s1.heap.objs.size, upd H1 s1.heap.objs.size (.frz { cls := .type "tuple", data := .seq us.toArray } (.tup xs)), I1.laid (t' := s1.toks) (fun b u e => Heap.get?_push_of_some _ e) (Nat.le_refl _) ?_, rfl, q _ _ hf rfl⟩
  exact ⟨Heap.get?_push_size _ rfl, z, us, r, ⟨_, Heap.get?_push_size _ rfl, rfl, _, rfl⟩⟩
def rCatF (K : PySem.W.Frag) : R2 := fun x y H Q => ∃ a b xs ys, x = .ref a ∧ y = .ref b ∧ SqT K H a xs ∧ SqT K H b ys ∧ xs.length + ys.length ≤ sizeLine ∧
  (xs = [] → Q (.ref b) H) ∧ (xs ≠ [] → ys = [] → Q (.ref a) H) ∧ (xs ≠ [] → ys ≠ [] → ∀ p o, H p = none → o.dict = none → Q (.ref p) (upd H p (.frz o (.tup (xs ++ ys)))))
theorem op_catF : OpR X (binaryOp .Add) (rCatF X.K) := by
  intro pins s σ H x y v u Q I rx ry h
  obtain ⟨a, b, xs, ys, rfl, rfl, ha, hb, hz, q0, q1, q2⟩ := h
  cases rx
  cases ry
  obtain ⟨its, r1, p1, _⟩ := I.tuple ha
  obtain ⟨its2, r2, p2, _⟩ := I.tuple hb
  by_cases hx : xs = []
  · subst hx
    cases r1
    exact cat_tup0 p1 p2 ⟨.ref b, H, I, rfl, q0 rfl⟩
  · refine HT.cat_tup p1 p2 (fun z => hx (r1.nil_iff.mp z)) (fun z => ⟨.ref a, H, I, rfl, q1 hx (r2.nil_iff.mp z)⟩) (fun z => ?_) (by rw [← r1.length, ← r2.length]; exact hz)
    refine ⟨.ref s.heap.objs.size, _, I.laid (t' := s.toks) (o := .frz { cls := .type "tuple", data := .seq (its ++ its2).toArray } (.tup (xs ++ ys))) (fun b ob q => Heap.get?_push_of_some _ q) (Nat.le_refl _) ?_, rfl, q2 hx (fun w => z (r2.nil_iff.mpr w)) _ _ (I.hok.fresh (Nat.le_refl _)) rfl⟩
    exact ⟨Heap.get?_push_size _ rfl, by rw [List.length_append]; exact hz, _, r1.append r2, IsTup.new _ _⟩
def tyF (x : V) (H : Hp) : Prop := ∃ a o xs, x = .ref a ∧ H a = some (.frz o (.tup xs)) ∧ o.dict = none
def tBMF (r : V → List V → Hp → VK → Prop) (to : TE) (t : TA) : TE := fun σ H Q => to σ H fun x H1 => tyF x H1 ∧ t σ H1 fun xs H2 => r x xs H2 Q
theorem pe_bmF {o e : Expr} {es : List Expr} {to : TE} {t : TA} {name : Str} {apos cpos : Pos} {id : String} {r : V → List V → Hp → VK → Prop} (slot : Slot "tuple" name id) (hty : typeOf (.builtin id) = pure (.type "method_descriptor")) (hm : MtR X id r) (ho : PE X o to) (ha : PA X (e :: es) t)
    (hbase : attributeBase o name X.env (eval o X.env) = eval o X.env)
    (hfew : ((backTo cpos (starEach (e :: es) X.env)).all (fun x => !x.1) && (backToKw cpos (keywordEach [] X.env)).all (fun x => x.1.isSome)
      && decide ((e :: es).length + ([] : List Keyword).length + (if ([] : List Keyword).isEmpty then 0 else 1) < 30)) = true)
    (hline : (apos.endLine == cpos.line) = true) (hs : starEach (e :: es) X.env = (false, eval e X.env) :: starEach es X.env) (hplain : (backTo cpos (starEach es X.env)).any (·.1) = false) :
    PE X (.Call (.Attribute o name apos) (e :: es) [] cpos) (tBMF r to t) := by
  refine ⟨fun pins s σ H Q I h => ?_⟩
  refine wpAny_Call_method_late hbase hfew hline rfl (thn (ho.run pins s σ H _ I h) fun v s1 ⟨x, H1, I1, r1, ty, q1⟩ => ?_)
  obtain ⟨a, ob, xs, rfl, hH, hd⟩ := ty
  cases r1
  obtain ⟨he, _, its, _, o2, e2, c2, _⟩ := (show ObjOk X.prog X.w H1 s1.heap a (.frz ob (.tup xs)) from I1.hok a _ hH)
  rw [he] at e2; cases e2
  refine ⟨"tuple", id, PySem.F.plainAttrs_tuple, slot, hty, ⟨ob, he, c2⟩, fun b eb => by cases eb; exact ⟨ob, he, hd⟩, ?_⟩
  have hA := ha.run cpos pins s1 σ H1 _ I1 q1
  rw [hs] at hA ⊢
  refine Calls.callWith_builtin (by show (false || (backTo cpos (starEach es X.env)).any (·.1)) = false; rw [hplain] <;> rfl) (Calls.evalArgs_plain ?_)
  exact thn hA fun us s2 ⟨vs, H2, I2, r2, q2⟩ => hm pins s2 σ H2 (.ref a) vs _ us Q I2 rfl r2 q2
def rCntTD (K : PySem.W.Frag) : V → List V → Hp → VK → Prop := fun x vs H Q => ∃ (l : Addr) (xs : List V) (y : V) (ds : List PyData) (d : PyData), x = .ref l ∧ vs = [y] ∧ SqT K H l xs ∧ DpAll K H xs ds ∧ Dp K H y d ∧
  PyData.plainAll ds = true ∧ SeqAt.shaped d = true ∧ Q (.int ((ds.countP fun z => PyData.eqv z d : Nat) : Int)) H
theorem mt_countTD (hu : X.A.units + 65 < cLine) : MtR X "tuple.count" (rCntTD X.K) := by
  intro pins s σ H x xs v us Q I rx rv h
  obtain ⟨l, xs, y, ds, d, rfl, rfl, hH, hxs, hy, hp, sd, q⟩ := h
  cases rx
  obtain ⟨u, rfl, ru⟩ := rv.one
  obtain ⟨its, r, pl, hz⟩ := I.tuple hH
  obtain ⟨bs, r1⟩ := Dp.reads I d y u hy ru
  obtain ⟨as, r2⟩ := Dp.readsAll I ds xs its hxs r
  refine SeqAt.count_tuple_data (l := l) (vs := its.toArray) ?_ r2 r1 hp (PyData.plain_of_canLay0 _ (SeqAt.canLay_of_shaped sd)) (room_in_shaped sd hu) ⟨.int _, H, I.tok _, ⟨_, rfl⟩, q⟩
  obtain ⟨o, h1, h2, n, h3⟩ := pl
  exact ⟨o, h1, h2, n, h3⟩
end
section
variable {G : GS} {X : Cx} {W : WX}
theorem new_tupF {K : KG} {M : Addr → Prop} {H : Hp} {o : Obj} {vs : List V} {ts : List Tr} {p : Addr} (f : K.f = true) (z : o.dict = none) (np : H p = none) (d : ∀ a, M a → H a ≠ none) (r : Reps K M H vs ts) : NewAt K H M (upd H p (.frz o (.tup vs))) (.ref p) (.s (.tup ts)) :=
  .ftup upd_same f z (fun z => d p z np) (r.go0 (go_tup np))
theorem ok_addTF (hf : G.f = true) : OpOk G X (rCatF X.K) addT := by
  intro M H x y tx ty n Q d rx ry e q
  cases tx <;> cases ty <;> try cases e
  rename_i i j
  unfold addT at e
  dsimp only at e
  by_cases c : i.length + j.length ≤ sizeLine
  · rw [if_pos c] at e; cases e
    obtain ⟨a, vs, rfl, ha, ra⟩ := rx.tup
    obtain ⟨b, ws, rfl, hb, rb⟩ := ry.tup
    refine ⟨a, b, vs, ws, rfl, rfl, ha, hb, by rw [ra.length, rb.length]; exact c, fun e => ?_, fun _ e => ?_, fun _ _ p o np dn => q _ M _ (go_tup np) (dom_tup d) (new_tupF hf dn np d (ra.append rb))⟩
    · have e2 := ra.nil_iff.mp e
      subst e2
      exact fin0 d q ry.tup_rep
    · have e2 := rb.nil_iff.mp e
      subst e2
      refine fin0 d q ?_
      rw [List.append_nil]
      exact rx.tup_rep
  · rw [if_neg c] at e; cases e
theorem se_addF {a b : Expr} {fa fb : Ev} {pos : Pos} (hf : G.f = true) (ha : PE X a (RE G X W fa)) (hb : PE X b (RE G X W fb)) : PE X (.BinOp a .Add b pos) (RE G X W (binE gAdd fa fb)) := by
  refine se_op (op_add.or (op_add_str.or (op_catF.or op_cat))) (OpOk.imp (ok_addI.or (ok_addS.or ((ok_addTF hf).or ok_addL))) fun x y n e => ?_) ha hb
  cases x <;> cases y <;> first | (cases e; done) | exact e | (unfold gAdd at e; dsimp only at e; split at e <;> first | (cases e; done) | (rename_i c; simp only [addI, gI, addS, addT, addL, if_pos c]; exact e))
theorem se_tupF (hf : G.f = true) {x1 : Nat} {es : List Expr} {fs : Av} {pos : Pos} (h : PA X es (RA G X W fs)) : PE X (.Tuple es x1 pos) (RE G X W (tupE fs)) := by
  refine pe_imp (pe_tupF h) fun σ H Q ⟨M, ρ, o, L, e, w⟩ => ?_
  refine RA.stepO L e w fun rs vs M1 H1 ρ1 g1 l1 L1 As e1 => ?_
  cases es : shs rs with
  | none => rw [es] at e1; cases e1
  | some ts =>
    rw [es] at e1
    dsimp only at e1
    split at e1
    · rename_i c
      cases e1
      have rp := As.shs es
      refine ⟨by rw [rp.length]; exact c, fun p ob np dn => ?_⟩
      have gt := go_tup (M := M1) (o := .frz ob (.tup vs)) np
      refine w M1 _ (g1.trans (O1 := fun _ => False) gt (fun _ z => z.elim) L.dom) l1 (L1.go0 gt (dom_tup L1.dom)) _ ?_
      exact (NewAt.res (n := .s (.tup ts)) (new_tupF hf dn np L1.dom rp) L1).from g1.there
    · cases e1
def gMulZ : Tr → Tr → Option Nw
  | .int i, .int j => if mulOk i j = true then some (.s (.int (i * j))) else none
  | .lst x, .int j => if (fitN 9223372036854775807 j && Nat.ble (x.length * j.toNat) 16777216) = true then some (.l (List.replicate j.toNat x).flatten) else none
  | _, _ => none
theorem se_mulZ {a b : Expr} {fa fb : Ev} {pos : Pos} (ha : PE X a (RE G X W fa)) (hb : PE X b (RE G X W fb)) : PE X (.BinOp a .Mult b pos) (RE G X W (binE gMulZ fa fb)) := by
  refine se_op (op_mulA.or op_rep) (OpOk.imp (ok_mulI.or ok_mulL) fun x y n e => ?_) ha hb
  cases x <;> cases y <;> first | (cases e; done) | skip
  · rename_i i j
    unfold gMulZ at e
    dsimp only at e
    by_cases c : mulOk i j = true
    · rw [if_pos c] at e; cases e
      simp [gI, c]
    · rw [if_neg c] at e; cases e
  · unfold gMulZ at e
    dsimp only at e
    split at e
    · rename_i c; simp only [gI, if_pos c]; exact e
    · cases e
def isTup : Tr → Bool
  | .tup _ => true
  | _ => false
def gCountT (t : Tr) (us : List Tr) : Option Nw := match t, us with
  | .tup ts, [u] => if (ts.all shp && shp u) = true then some (.s (.int ((ts.countP fun z => eqT z u : Nat) : Int))) else none
  | _, _ => none
theorem re_countF (hz : G.z = true) (hl : G.l = []) {f : Ev} {fs : Av} {σ : L2.St} {H : Hp} {Q : VK} (q : RE G X W (vmE isTup gCountT f fs) σ H Q) : tBMF (rCntTD X.K) (RE G X W f) (RA G X W fs) σ H Q := by
  obtain ⟨M, ρ, o, L, e, w⟩ := q
  refine RE.step L e w fun ra va M1 H1 ρ1 o2 g1 l1 L1 R1 e2 w2 => ?_
  cases e0 : ra.tr ρ1 with
  | none => rw [e0] at e2; cases e2
  | some t0 =>
    rw [e0] at e2
    dsimp only at e2
    split at e2
    · rename_i c
      refine ⟨?_, ?_⟩
      · have rt := R1.top L1 e0
        cases t0 <;> try (cases c; done)
        cases rt.tup_rep with
        | tup h z m r => have z : G.z = false := z; rw [hz] at z; cases z
        | ftup h f z m r => exact ⟨_, _, _, rfl, h, z⟩
        | ktup h g r => have g : _ ∈ G.l := g; rw [hl] at g; cases g
      refine RA.stepO L1 e2 w2 fun rs xs M2 H2 ρ2 g2 l2 L2' As e3 => ?_
      have R1' := R1.go L1 g2 l2
      split at e3
      · rename_i t us ht hus
        unfold gCountT at e3
        split at e3
        · rename_i n hn
          split at hn
          · rename_i ts u
            split at hn
            · rename_i c
              simp only [Bool.and_eq_true] at c
              cases hn
              cases e3
              have rx := R1'.top L2' ht
              obtain ⟨a, vs, rfl, h, r⟩ := rx.tup
              obtain ⟨y, rfl, ry⟩ := (As.trs L2' hus).one
              have hc := canAll_of c.1
              refine ⟨a, vs, y, dats ts, dat u, rfl, rfl, h, Reps.dp r hc, ry.dp c.2, PyData.plainAll_of_canLay0 _ hc, c.2, ?_⟩
              rw [count_dats]
              exact w2 _ _ g2 l2 L2' _ (Rep.int _)
            · cases hn
          · cases hn
        · cases e3
      · cases e3
    · cases e2
theorem se_countF {o e : Expr} {f : Ev} {fs : Av} {apos cpos : Pos} (hz : G.z = true) (hl : G.l = []) (hu : X.A.units + 65 < cLine) (ho : PE X o (RE G X W f)) (ha : PA X [e] (RA G X W fs))
    (hbase : attributeBase o "count" X.env (eval o X.env) = eval o X.env := by rfl)
    (hfew : ((backTo cpos (starEach [e] X.env)).all (fun x => !x.1) && (backToKw cpos (keywordEach [] X.env)).all (fun x => x.1.isSome)
      && decide (([e] : List Expr).length + ([] : List Keyword).length + (if ([] : List Keyword).isEmpty then 0 else 1) < 30)) = true := by rfl)
    (hline : (apos.endLine == cpos.line) = true := by rfl) (hs : starEach [e] X.env = (false, eval e X.env) :: starEach [] X.env := by rfl) (hplain : (backTo cpos (starEach [] X.env)).any (·.1) = false := by rfl) :
    PE X (.Call (.Attribute o "count" apos) [e] [] cpos) (RE G X W (vmE isTup gCountT f fs)) :=
  pe_imp (pe_bmF PySem.F.slot_tuple_count PySem.F.type_tuple_count (mt_countTD hu) ho ha hbase hfew hline hs hplain) fun _ _ _ => re_countF hz hl
end
section
variable {k : PySem.W.Frag} {l : List Tr} {M : Addr → Prop} {H : Hp}
mutual
theorem Rep.unz : ∀ {v : V} {t : Tr}, Rep ⟨k, [], true, true⟩ M H v t → Rep ⟨k, l, false, true⟩ M H v t
  | _, _, .non => .non
  | _, _, .bl b => .bl b
  | _, _, .int b => .int b
  | _, _, .str b => .str b
  | _, _, .tup h z n r => .tup h rfl n (Reps.unz r)
  | _, _, .ftup h _ z n r => .ftup h rfl z n (Reps.unz r)
  | _, _, .ktup h g r => nomatch g
  | _, _, .lst h n r => .lst h n (Reps.unz r)
  | _, _, .dk h n e r => .dk h n e (Reps.unz r)
  | _, _, .dt h n e r => .dt h n e (Reps.unz r)
  | _, _, .scr h n => .scr h n
  | _, _, .kscr h => .kscr h
  | _, _, .adr a => .adr a
theorem Reps.unz : ∀ {v : List V} {t : List Tr}, Reps ⟨k, [], true, true⟩ M H v t → Reps ⟨k, l, false, true⟩ M H v t
  | _, _, .nil => .nil
  | _, _, .cons h r => .cons (Rep.unz h) (Reps.unz r)
end
theorem Own.unz {a : Addr} {t : Tr} (h : Own ⟨k, [], true, true⟩ M H a t) : Own ⟨k, l, false, true⟩ M H a t := by
  cases h with
  | lst h m r => exact .lst h m r.unz
  | dk h m e r => exact .dk h m e r.unz
  | dt h m e r => exact .dt h m e r.unz
theorem NewAt.unz {H0 : Hp} {v : V} {n : Nw} (h : NewAt ⟨k, [], true, true⟩ H0 M H v n) : NewAt ⟨k, l, false, true⟩ H0 M H v n := by
  cases n with
  | s t => exact Rep.unz h
  | l ts => obtain ⟨p, h1, h2, h3⟩ := h; exact ⟨p, h1, h2, h3.unz⟩
  | k ts => obtain ⟨p, h1, h2, h3⟩ := h; exact ⟨p, h1, h2, h3.unz⟩
  | d ts => obtain ⟨p, h1, h2, h3⟩ := h; exact ⟨p, h1, h2, h3.unz⟩
theorem SlAt.unz {ov : Option (Option V)} {s : Sl} (h : SlAt ⟨k, [], true, true⟩ M H ov s) : SlAt ⟨k, l, false, true⟩ M H ov s := by
  cases s with
  | no => trivial
  | sh t => obtain ⟨v, h1, h2⟩ := h; exact ⟨v, h1, h2.unz⟩
  | ow ts => obtain ⟨a, h1, h2⟩ := h; exact ⟨a, h1, h2.unz⟩
  | ok ts => obtain ⟨a, h1, h2⟩ := h; exact ⟨a, h1, h2.unz⟩
  | ot ts => obtain ⟨a, h1, h2⟩ := h; exact ⟨a, h1, h2.unz⟩
theorem Rel.unz {σ : L2.St} {ρ : En} (L : Rel ⟨k, [], true, true⟩ M H σ ρ) : Rel ⟨k, l, false, true⟩ M H σ ρ := ⟨L.len, L.dom, fun i s e => (L.at_ i s e).unz, L.inj⟩
def intSl : Sl → Bool
  | .no => true
  | .sh (.int _) => true
  | _ => false
theorem SlAt.intz {K K' : KG} {ov : Option (Option V)} {s : Sl} (a : SlAt K M H ov s) (hs : intSl s = true) : SlAt K' M H ov s := by
  cases s with
  | no => trivial
  | sh t =>
    cases t <;> try (cases hs; done)
    obtain ⟨v, h1, h2⟩ := a
    exact ⟨v, h1, by cases h2; exact .int _⟩
  | ow _ => cases hs
  | ok _ => cases hs
  | ot _ => cases hs
theorem Rel.intz {K K' : KG} {σ : L2.St} {ρ : En} (L : Rel K M H σ ρ) (h : ρ.all intSl = true) : Rel K' M H σ ρ :=
  ⟨L.len, L.dom, fun i s e => (L.at_ i s e).intz (List.all_eq_true.mp h s (List.mem_of_getElem? e)), L.inj⟩
end
section
variable {l : List Tr} {P : Program} {w : World} {K : PySem.W.Frag} {mg : Str → Option Value} {base : Heap}
def onlyInts (F : Fv) : Fv := fun args => if args.all intSl = true then F args else none
theorem FnOk.unz {k : Nat} {f : Addr} {fd : FuncData} {ps : List Str} {np : Nat} {F : Fv} (h : FnOk P w K mg base (L2N.CX P w) k f fd ps (spF ⟨[], true, true⟩ K mg np F)) : FnOk P w K mg base (L2N.CX P w) k f fd ps (spF ⟨l, false, true⟩ K mg np (onlyInts F)) := by
  have i : ∀ vs H Q E, spF ⟨l, false, true⟩ K mg np (onlyInts F) vs H Q E → spF ⟨[], true, true⟩ K mg np F vs H Q E := fun vs H Q E ⟨M, args, o, hl, L, e, q⟩ => by
    unfold onlyInts at e
    split at e
    · rename_i c
      refine ⟨M, args, o, hl, L.intz c, e, ?_⟩
      cases o with
      | rt n outs => exact fun v M' H' g na Lo lo => q v M' H' g na.unz Lo.unz lo
      | ex c => exact q
    · cases e
  exact L2.FnOk.imp h i
end
end TV
namespace TV
open PySem PySem.Spec PyProof.Rows L2
section
variable {G : GS} {X : Cx} {W : WX} {P : List Nat}
def isNonT : Tr → Bool
  | .non => true
  | _ => false
theorem RTop.non_iff {K : KG} {M : Addr → Prop} {H : Hp} {x : V} {t : Tr} (r : RTop K M H x t) : decide (x = .non) = isNonT t := by
  rcases r with r | ⟨a, rfl, o⟩
  · cases r <;> rfl
  · cases o <;> rfl
def isB (neg b : Bool) : Bool := if neg = true then !b else b
def gIsN (neg : Bool) (a b : Tr) : Option Nw := match b with
  | .non => some (.s (.bl (isB neg (isNonT a))))
  | _ => none
def gIsB (neg : Bool) (a b : Tr) : Option Nw := match a, b with
  | .bl x, .bl y => some (.s (.bl (isB neg (decide (x = y)))))
  | _, _ => none
def gIsO (neg : Bool) (a b : Tr) : Option Nw := match b with
  | .non => some (.s (.bl (isB neg (isNonT a))))
  | .bl y => match a with
    | .bl x => some (.s (.bl (isB neg (decide (x = y)))))
    | _ => none
  | _ => none
theorem ok_isN : OpOk G X (fun x y H Q => y = .non ∧ Q (.bl (decide (x = .non))) H) (gIsN false) := by
  intro M H x y tx ty n Q d rx ry e q
  cases ty <;> try cases e
  exact ⟨ry.non, by rw [rx.non_iff]; exact fin0 d q (.bl _)⟩
theorem ok_notN : OpOk G X (fun x y H Q => y = .non ∧ Q (.bl (!decide (x = .non))) H) (gIsN true) := by
  intro M H x y tx ty n Q d rx ry e q
  cases ty <;> try cases e
  exact ⟨ry.non, by rw [rx.non_iff]; exact fin0 d q (.bl _)⟩
theorem ok_isBl : OpOk G X rIsB (gIsB false) := by
  intro M H x y tx ty n Q d rx ry e q
  cases tx <;> cases ty <;> try cases e
  exact ⟨_, _, rx.bl, ry.bl, fin0 d q (.bl _)⟩
theorem ok_notBl : OpOk G X rNotB (gIsB true) := by
  intro M H x y tx ty n Q d rx ry e q
  cases tx <;> cases ty <;> try cases e
  exact ⟨_, _, rx.bl, ry.bl, fin0 d q (.bl _)⟩
theorem gIs_imp {neg : Bool} (a b : Tr) (n : Nw) (e : gIsO neg a b = some n) : (match gIsN neg a b with | some n => some n | none => gIsB neg a b) = some n := by
  cases b <;> try (cases e; done)
  · exact e
  · cases a <;> first | exact e | cases e
section
variable {a b : Expr} {fa fb : Ev} {pos : Pos} (ha : PE X a (RE G X W fa)) (hb : PE X b (RE G X W fb))
include ha hb
theorem se_is (hm : behindInMarks .Is b = false := by rfl) : PE X (.Compare a [.Is] [b] pos) (RE G X W (binE (gIsO false) fa fb)) := se_cmp (op_isN.or op_isBl) (OpOk.imp (ok_isN.or ok_isBl) gIs_imp) ha hb hm
theorem st_is (hm : behindInMarks .Is b = false := by rfl) : PT X (.Compare a [.Is] [b] pos) (RT G X W (tsb (binE (gIsO false) fa fb))) := st_cmp (op_isN.or op_isBl) (OpOk.imp (ok_isN.or ok_isBl) gIs_imp) ha hb hm
theorem se_isNot (hm : behindInMarks .IsNot b = false := by rfl) : PE X (.Compare a [.IsNot] [b] pos) (RE G X W (binE (gIsO true) fa fb)) := se_cmp (op_notN.or op_notBl) (OpOk.imp (ok_notN.or ok_notBl) gIs_imp) ha hb hm
theorem st_isNot (hm : behindInMarks .IsNot b = false := by rfl) : PT X (.Compare a [.IsNot] [b] pos) (RT G X W (tsb (binE (gIsO true) fa fb))) := st_cmp (op_notN.or op_notBl) (OpOk.imp (ok_notN.or ok_notBl) gIs_imp) ha hb hm
end
def chnE (g h : Tr → Tr → Option Nw) (fa fb fc : Ev) : Ev := fun ρ => andThen (fa ρ) fun ra ρ1 => andThen (fb ρ1) fun rb ρ2 =>
  match ra, rb with
  | .sh ta, .sh tb => match g ta tb with
    | some (.s (.bl false)) => some (.ok (.sh (.bl false)) ρ2)
    | some (.s (.bl true)) => andThen (fc ρ2) fun rc ρ3 => match rc.tr ρ3 with
      | some tc => match h tb tc with
        | some n => some (.ok n.rs ρ3)
        | none => none
      | none => none
    | _ => none
  | _, _ => none
theorem re_chn {r r' : R2} {g h : Tr → Tr → Option Nw} {fa fb fc : Ev} (hg : OpOk G X r g) (hh : OpOk G X r' h) {σ : L2.St} {H : Hp} {Q : VK} (q : RE G X W (chnE g h fa fb fc) σ H Q) : tChain r r' (RE G X W fa) (RE G X W fb) (RE G X W fc) σ H Q := by
  obtain ⟨M, ρ, o, L, e, w⟩ := q
  refine RE.step L e w fun ra va M1 H1 ρ1 o2 g1 l1 L1 R1 e2 w2 => ?_
  refine RE.step L1 e2 w2 fun rb vb M2 H2 ρ2 o3 g2 l2 L2' R2 e3 w3 => ?_
  have R1' := R1.go L1 g2 l2
  split at e3
  · rename_i ta tb
    split at e3
    · rename_i hb
      cases e3
      refine hg M2 H2 va vb ta tb _ _ L2'.dom (.inl R1') (.inl R2) hb fun v M' H' gg dd nn => ?_
      cases nn
      exact ⟨false, rfl, w3 M' H' gg.of0 .refl (L2'.go0 gg dd) _ (Rep.bl _)⟩
    · rename_i hb
      refine hg M2 H2 va vb ta tb _ _ L2'.dom (.inl R1') (.inl R2) hb fun v M' H' gg dd nn => ?_
      cases nn
      refine ⟨true, rfl, ?_⟩
      have L3 := L2'.go0 gg dd
      have R2' : Rep (kg X G) M' H' vb tb := Rep.go0 R2 gg
      have w4 := w3.later (ρ1 := ρ2) gg.of0 .refl L2'.dom
      show RE G X W fc σ H' _
      refine RE.stepO L3 e3 w4 fun rc vc M3 H3 ρ3 g3 l3 L3' R3 e4 => ?_
      cases et : rc.tr ρ3 with
      | none => rw [et] at e4; cases e4
      | some tc =>
        rw [et] at e4
        dsimp only at e4
        cases eh : h tb tc with
        | none => rw [eh] at e4; cases e4
        | some n =>
          rw [eh] at e4
          cases e4
          refine hh M3 H3 vb vc tb tc n Q L3'.dom (.inl (R2'.go g3 L3.sub)) (R3.top L3' et) eh fun v M'' H'' g5 d5 nn => ?_
          refine w4 M'' H'' (g3.trans (O1 := fun _ => False) g5 (fun _ z => z.elim) L3.dom) l3 (L3'.go0 g5 d5) v ((nn.res L3').from fun a z => ?_)
          exact g3.there a (gg.there a (g2.there a (g1.there a z)))
    · cases e3
  · cases e3
theorem se_chn {op op' : CmpOp} {r r' : R2} {g h : Tr → Tr → Option Nw} {a b c : Expr} {fa fb fc : Ev} {pos : Pos} (ho : OpR X (compareOp op) r) (ho' : OpR X (compareOp op') r') (hg : OpOk G X r g) (hh : OpOk G X r' h) (ha : PE X a (RE G X W fa)) (hb : PE X b (RE G X W fb)) (hc : PE X c (RE G X W fc))
    (hm : lastMarks [op, op'] [b, c] = false := by with_unfolding_all rfl) : PE X (.Compare a [op, op'] [b, c] pos) (RE G X W (chnE g h fa fb fc)) := pe_imp (pe_chain ho ho' ha hb hc hm) fun _ _ _ => re_chn hg hh
theorem st_chn {op op' : CmpOp} {r r' : R2} {g h : Tr → Tr → Option Nw} {a b c : Expr} {fa fb fc : Ev} {pos : Pos} (ho : OpR X (compareOp op) r) (ho' : OpR X (compareOp op') r') (hg : OpOk G X r g) (hh : OpOk G X r' h) (ha : PE X a (RE G X W fa)) (hb : PE X b (RE G X W fb)) (hc : PE X c (RE G X W fc))
    (hm : lastMarks [op, op'] [b, c] = false := by with_unfolding_all rfl) : PT X (.Compare a [op, op'] [b, c] pos) (RT G X W (tsb (chnE g h fa fb fc))) :=
  pt_imp (pt_chain ho ho' ha hb hc hm) fun σ H Q q => by
    obtain ⟨M, ρ, o, L, e, w⟩ := q
    refine re_chn hg hh ⟨M, ρ, _, L, (by
      cases ef : chnE g h fa fb fc ρ with
      | none => rw [show tsb (chnE g h fa fb fc) ρ = none by unfold tsb; rw [ef]; rfl] at e; cases e
      | some x => rfl : chnE g h fa fb fc ρ = some ((chnE g h fa fb fc ρ).getD (.ex "" ρ))), ?_⟩
    cases ef : chnE g h fa fb fc ρ with
    | none => rw [show tsb (chnE g h fa fb fc) ρ = none by unfold tsb; rw [ef]; rfl] at e; cases e
    | some x =>
      cases x with
      | ex c ρ1 =>
        have : o = .ex c ρ1 := by unfold tsb at e; rw [ef] at e; cases e; rfl
        subst this
        exact w
      | ok rr ρ1 =>
        unfold tsb at e
        rw [ef] at e
        simp only [andThen_ok] at e
        split at e
        · rename_i b
          cases e
          exact fun M' H' g' l' L' v R => ⟨b, Rep.bl_eq R, w M' H' g' l' L'⟩
        · cases e
theorem PIp.imp {op : Operator} {t t' : TIp} (h : PIp X op t) (i : ∀ x y H Q, t' x y H Q → t x y H Q) : PIp X op t' := fun pins s σ H x y v u Q I r1 r2 q => h pins s σ H x y v u Q I r1 r2 (i _ _ _ _ q)
def augS (P : List Nat) (i : Nat) (g : Int → Int → Option Int) (f : Ev) : Sv := fun ρ => match ρ[i]? with
  | some (.sh (.int a)) => thenS (f ρ) fun r ρ1 => match r with
    | .sh (.int b) => match g a b with
      | some c => if i ∈ P ∨ ¬ i < ρ1.length then none else some (.nx (ρ1.set i (.sh (.int c))))
      | none => none
    | _ => none
  | _ => none
theorem re_aug {i : Nat} {t : TIp} {g : Int → Int → Option Int} {f : Ev} (ht : ∀ (a b c : Int) H (Q : VK), g a b = some c → Q (.int c) H → t (.int a) (.int b) H Q) {σ : L2.St} {H : Hp} {D : Ends} (q : RS G X W P (augS P i g f) D σ H) : tAug i (RE G X W f) t D σ H := by
  obtain ⟨M, ρ, o, L, e, w⟩ := q
  unfold augS at e
  split at e
  · rename_i a ha
    obtain ⟨v, h1, h2⟩ := L.at_ i _ ha
    have hv := Rep.int_eq h2
    subst hv
    refine ⟨_, h1, ?_⟩
    refine RE.stepS L e w fun r v M1 H1 ρ1 g1 l1 L1 R e1 => ?_
    split at e1
    · rename_i b
      split at e1
      · rename_i c hc
        split at e1
        · cases e1
        · rename_i hi
          rw [not_or, Classical.not_not] at hi
          cases e1
          have hb := Rep.int_eq R
          subst hb
          refine ht a b c _ _ hc ?_
          exact w _ M1 H1 (.put g1 l1 hi.1 (fun z => by cases z)) (L1.put hi.2 ⟨_, rfl, .int _⟩ fun z => by cases z)
      · cases e1
    · cases e1
  · cases e
theorem ss_augI {i : Nat} {x : Str} {e : Expr} {f : Ev} {op : Operator} {t : TIp} {g : Int → Int → Option Int} {pos pos' : Pos} (ho : PIp X op t) (ht : ∀ (a b c : Int) H (Q : VK), g a b = some c → Q (.int c) H → t (.int a) (.int b) H Q) (hN : X.N.Nodup) (hi : X.N[i]? = some x) (hx : Loc X.env.scope x) (he : PE X e (RE G X W f))
    (hf : X.fn x = true ∨ X.env.scope.names.lookup x = some .local := by first | exact .inl rfl | exact .inr rfl | assumption) : PS X (.AugAssign (.Name x pos') op e pos) (RS G X W P (augS P i g f)) := ps_imp (ps_aug hN hi hx he ho hf) fun _ _ _ => re_aug ht
def iAdd (a b : Int) : Option Int := some (a + b)
def iSub (a b : Int) : Option Int := some (a - b)
theorem ss_augAdd {i : Nat} {x : Str} {e : Expr} {f : Ev} {pos pos' : Pos} (hN : X.N.Nodup) (hi : X.N[i]? = some x) (hx : Loc X.env.scope x) (he : PE X e (RE G X W f))
    (hf : X.fn x = true ∨ X.env.scope.names.lookup x = some .local := by first | exact .inl rfl | exact .inr rfl | assumption) : PS X (.AugAssign (.Name x pos') .Add e pos) (RS G X W P (augS P i iAdd f)) := ss_augI ip_add (fun a b c H Q h q => by cases h; exact ⟨a, b, rfl, rfl, q⟩) hN hi hx he hf
theorem ss_augSub {i : Nat} {x : Str} {e : Expr} {f : Ev} {pos pos' : Pos} (hN : X.N.Nodup) (hi : X.N[i]? = some x) (hx : Loc X.env.scope x) (he : PE X e (RE G X W f))
    (hf : X.fn x = true ∨ X.env.scope.names.lookup x = some .local := by first | exact .inl rfl | exact .inr rfl | assumption) : PS X (.AugAssign (.Name x pos') .Sub e pos) (RS G X W P (augS P i iSub f)) := ss_augI ip_sub (fun a b c H Q h q => by cases h; exact ⟨a, b, rfl, rfl, q⟩) hN hi hx he hf
end
end TV
namespace TV
open PySem PySem.Spec PyProof.Rows L2
def keepR (ρ : En) : Rs → Option (Rs × En)
  | .sl i => match (Rs.sl i).fz ρ with
    | some (t, ρ') => some (.sh t, ρ')
    | none => none
  | r => some (r, ρ)
def consK (f : Ev) (fs : Av) : Av := fun ρ => andThen (f ρ) fun r ρ1 => match keepR ρ1 r with
  | none => none
  | some (a, ρ2) => andThen (fs ρ2) fun as ρ3 => some (.ok (a :: as) ρ3)
def Rs.isNew : Rs → Bool
  | .fr _ => true
  | .fk _ => true
  | .ft _ => true
  | _ => false
def Rs.isSl : Rs → Bool
  | .sl _ => true
  | _ => false
inductive KeptAt (K : KG) (H0 : Hp) (M : Addr → Prop) (H : Hp) (σ : L2.St) (ρ : En) : List V → List Rs → Prop where
  | nil : KeptAt K H0 M H σ ρ [] []
  | cons {v : V} {vs : List V} {r : Rs} {rs : List Rs} (h : ResAt K H0 M H σ ρ v r) (ns : r.isSl = false) (t : KeptAt K H0 M H σ ρ vs rs) (d : r.isNew = true → ∀ (k : Nat) (w : V) (q : Rs), vs[k]? = some w → rs[k]? = some q → q.isNew = true → w ≠ v) : KeptAt K H0 M H σ ρ (v :: vs) (r :: rs)
def RK (G : GS) (X : Cx) (W : WX) (f : Av) : TA := fun σ H Q => ∃ (M : Addr → Prop) (ρ : En) (o : Ou (List Rs)), Rel (kg X G) M H σ ρ ∧ f ρ = some o ∧ Wn G X W σ M H ρ o fun rs M' H' ρ' => ∀ vs, KeptAt (kg X G) H M' H' σ ρ' vs rs → Q vs H'
section
variable {K : KG} {M M1 : Addr → Prop} {H0 H0' H H1 : Hp} {σ : L2.St} {ρ ρ1 ρ2 : En} {v : V} {r a : Rs} {vs : List V} {rs : List Rs}
theorem KeptAt.from (h : KeptAt K H0 M H σ ρ vs rs) (t : ∀ a, H0' a ≠ none → H0 a ≠ none) : KeptAt K H0' M H σ ρ vs rs := by
  induction h with
  | nil => exact .nil
  | cons h ns _ d ih => exact .cons (h.from t) ns ih d
theorem KeptAt.newAt (h : KeptAt K H0 M H σ ρ vs rs) : ∀ (k : Nat) (w : V) (q : Rs), vs[k]? = some w → rs[k]? = some q → q.isNew = true → ∃ p, w = .ref p ∧ H0 p = none ∧ ¬ Owns σ ρ p := by
  induction h with
  | nil => intro k w q e; simp at e
  | @cons v vs r rs h ns t d ih =>
    intro k w q e1 e2 e3
    cases k with
    | zero =>
      simp at e1 e2
      subst e1; subst e2
      cases r with
      | sh _ => cases e3
      | sl _ => cases e3
      | fr _ => obtain ⟨p, h1, h2, h3, _⟩ := h; exact ⟨p, h1, h2, h3⟩
      | fk _ => obtain ⟨p, h1, h2, h3, _⟩ := h; exact ⟨p, h1, h2, h3⟩
      | ft _ => obtain ⟨p, h1, h2, h3, _⟩ := h; exact ⟨p, h1, h2, h3⟩
    | succ k => exact ih k w q (by simpa using e1) (by simpa using e2) e3
theorem keep_ok (d : ∀ a, M a → H a ≠ none) (g : Go (Owns σ ρ) M H M1 H1) (l : Less ρ ρ1) (L : Rel K M1 H1 σ ρ1) (R : ResAt K H M1 H1 σ ρ1 v r) (e : keepR ρ1 r = some (a, ρ2)) :
    ∃ M2, Go (Owns σ ρ) M H M2 H1 ∧ Less ρ1 ρ2 ∧ Rel K M2 H1 σ ρ2 ∧ ResAt K H M2 H1 σ ρ2 v a ∧ a.isSl = false := by
  cases r with
  | sl i =>
    unfold keepR at e
    dsimp only at e
    cases q : (Rs.sl i).fz ρ1 with
    | none => rw [q] at e; cases e
    | some p =>
      obtain ⟨t, ρ'⟩ := p
      rw [q] at e
      cases e
      obtain ⟨M2, g2, l2, L2', rp, _⟩ := fz_ok d g l L R q
      exact ⟨M2, g2, l2, L2', rp, rfl⟩
  | sh _ => cases e; exact ⟨M1, g, .refl, L, R, rfl⟩
  | fr _ => cases e; exact ⟨M1, g, .refl, L, R, rfl⟩
  | fk _ => cases e; exact ⟨M1, g, .refl, L, R, rfl⟩
  | ft _ => cases e; exact ⟨M1, g, .refl, L, R, rfl⟩
theorem ResAt.there (h : ResAt K H0 M H σ ρ v r) (n : r.isNew = true) : ∃ p, v = .ref p ∧ H p ≠ none := by
  have f : ∀ {p : Addr} {t : Tr}, Own K M H p t → H p ≠ none := fun o => by cases o <;> (rename_i e _ _ _; first | (rw [‹H _ = some _›]; exact fun z => nomatch z))
  cases r with
  | sh _ => cases n
  | sl _ => cases n
  | fr _ => obtain ⟨p, h1, _, _, o⟩ := h; cases o with | lst e m r => exact ⟨p, h1, by rw [e]; exact fun z => nomatch z⟩
  | fk _ => obtain ⟨p, h1, _, _, o⟩ := h; cases o with | dk e m _ r => exact ⟨p, h1, by rw [e]; exact fun z => nomatch z⟩
  | ft _ => obtain ⟨p, h1, _, _, o⟩ := h; cases o with | dt e m _ r => exact ⟨p, h1, by rw [e]; exact fun z => nomatch z⟩
end
section
variable {G : GS} {X : Cx} {W : WX} {P : List Nat}
theorem sk_nil : PA X [] (RK G X W nilA) := pa_imp pa_nil fun σ H Q ⟨M, ρ, o, L, e, w⟩ => by
  cases e
  exact w.ok L [] .nil
theorem sk_cons {e : Expr} {es : List Expr} {f : Ev} {fs : Av} (he : PE X e (RE G X W f)) (hr : PA X es (RK G X W fs)) (hs : starEach (e :: es) X.env = (false, eval e X.env) :: starEach es X.env := by rfl) : PA X (e :: es) (RK G X W (consK f fs)) := by
  refine pa_imp (pa_cons he hr hs) fun σ H Q ⟨M, ρ, o, L, e, w⟩ => ?_
  refine RE.stepO L e w fun r v M1 H1 ρ1 g1 l1 L1 R1 e1 => ?_
  cases ea : keepR ρ1 r with
  | none => rw [ea] at e1; cases e1
  | some p =>
    obtain ⟨a, ρ2⟩ := p
    rw [ea] at e1
    dsimp only at e1
    obtain ⟨M2, g2, l2, L2', A, na⟩ := keep_ok L.dom g1 l1 L1 R1 ea
    have w2 := w.later g2 (l1.trans l2) L.dom
    obtain ⟨o1, e2⟩ := andThen_some e1
    rw [e2] at e1
    cases o1 with
    | ex c ρ3 => cases e1; exact ⟨M2, ρ2, _, L2', e2, w2⟩
    | ok rs ρ3 =>
      cases e1
      refine ⟨M2, ρ2, _, L2', e2, fun M3 H3 g3 l3 L3 vs As => ?_⟩
      refine w2 M3 H3 g3 l3 L3 (v :: vs) (.cons (A.go L2' g3 l3) na (As.from g2.there) fun hn k w' q e4 e5 e6 z => ?_)
      obtain ⟨p, h1, h2⟩ := A.there hn
      obtain ⟨p', h1', h2', _⟩ := As.newAt k w' q e4 e5 e6
      rw [h1'] at z
      rw [h1] at z
      cases z
      exact h2 h2'
theorem RK.stepS {f : Av} {k : List Rs → En → Option So} {Q : List V → Hp → Prop} {σ : L2.St} {ρ : En} {M : Addr → Prop} {H : Hp} {D : Ends} {o : So} (L : Rel (kg X G) M H σ ρ) (e : thenS (f ρ) k = some o) (h : Ws G X W P σ M H ρ o D)
    (q : ∀ r vs M1 H1 ρ1, Go (Owns σ ρ) M H M1 H1 → Less ρ ρ1 → Rel (kg X G) M1 H1 σ ρ1 → KeptAt (kg X G) H M1 H1 σ ρ1 vs r → k r ρ1 = some o → Q vs H1) : RK G X W f σ H Q := by
  cases ef : f ρ with
  | none => rw [ef] at e; cases e
  | some o1 =>
    rw [ef] at e
    cases o1 with
    | ex c ρ1 => cases e; exact ⟨M, ρ, _, L, ef, fun C M' H' m g l L' => h C σ M' H' m (.expr g l) L'⟩
    | ok r ρ1 => exact ⟨M, ρ, _, L, ef, fun M1 H1 g l L1 vs R => q r vs M1 H1 ρ1 g l L1 R e⟩
end
def putAll (P : List Nat) : List Nat → List Rs → En → Option En
  | [], [], ρ => some ρ
  | i :: is, r :: rs, ρ => if i ∈ P ∨ ¬ i < ρ.length then none else match r.into i ρ with
    | some ρ' => putAll P is rs ρ'
    | none => none
  | _, _, _ => none
def setAll : List Nat → List V → L2.St → L2.St
  | i :: is, v :: vs, σ => setAll is vs (σ.set i (some v))
  | _, _, σ => σ
section
variable {K : KG} {M : Addr → Prop} {H H0 : Hp} {P : List Nat}
theorem ResAt.put {σ : L2.St} {ρ : En} {i : Nat} {v w : V} {s : Sl} {r : Rs} (h : ResAt K H0 M H σ ρ w r) (ns : r.isSl = false) (d : s.own = true → r.isNew = true → w ≠ v) : ResAt K H0 M H (σ.set i (some v)) (ρ.set i s) w r := by
  have f : ∀ {p : Addr}, w = .ref p → r.isNew = true → ¬ Owns σ ρ p → ¬ Owns (σ.set i (some v)) (ρ.set i s) p := fun {p} e hn n ⟨j, z⟩ => by
    rcases ownAt_set2 z with ⟨_, o, e2⟩ | ⟨_, z⟩
    · exact d o hn (by rw [e]; exact (Option.some.inj e2).symm)
    · exact n ⟨j, z⟩
  cases r with
  | sh _ => exact h
  | sl _ => cases ns
  | fr _ => obtain ⟨p, h1, h2, h3, o⟩ := h; exact ⟨p, h1, h2, f h1 rfl h3, o⟩
  | fk _ => obtain ⟨p, h1, h2, h3, o⟩ := h; exact ⟨p, h1, h2, f h1 rfl h3, o⟩
  | ft _ => obtain ⟨p, h1, h2, h3, o⟩ := h; exact ⟨p, h1, h2, f h1 rfl h3, o⟩
theorem KeptAt.put {σ : L2.St} {ρ : En} {i : Nat} {v : V} {s : Sl} {vs : List V} {rs : List Rs} (h : KeptAt K H0 M H σ ρ vs rs) (d : s.own = true → ∀ (k : Nat) (w : V) (q : Rs), vs[k]? = some w → rs[k]? = some q → q.isNew = true → w ≠ v) : KeptAt K H0 M H (σ.set i (some v)) (ρ.set i s) vs rs := by
  induction h with
  | nil => exact .nil
  | cons h ns t d' ih => exact .cons (h.put ns fun o n => d o 0 _ _ rfl rfl n) ns (ih fun o k w q e1 e2 => d o (k + 1) w q (by simpa using e1) (by simpa using e2)) d'
theorem into_kept {σ : L2.St} {ρ ρ' : En} {i : Nat} {v : V} {r : Rs} (L : Rel K M H σ ρ) (R : ResAt K H0 M H σ ρ v r) (ns : r.isSl = false) (hi : i < ρ.length) (e : r.into i ρ = some ρ') :
    ∃ s, ρ' = ρ.set i s ∧ s.own = r.isNew ∧ Rel K M H (σ.set i (some v)) ρ' ∧ (s.own = true → ∀ a, v = .ref a → H0 a = none) := by
  cases r with
  | sh t => cases e; exact ⟨_, rfl, rfl, L.put hi ⟨v, rfl, R⟩ (fun z => by cases z), fun z => by cases z⟩
  | sl _ => cases ns
  | fr ts => cases e; obtain ⟨p, rfl, h0, n, o⟩ := R; exact ⟨_, rfl, rfl, L.put hi ⟨p, rfl, o⟩ (fun _ a e => by cases e; exact n), fun _ a e => by cases e; exact h0⟩
  | fk ts => cases e; obtain ⟨p, rfl, h0, n, o⟩ := R; exact ⟨_, rfl, rfl, L.put hi ⟨p, rfl, o⟩ (fun _ a e => by cases e; exact n), fun _ a e => by cases e; exact h0⟩
  | ft ts => cases e; obtain ⟨p, rfl, h0, n, o⟩ := R; exact ⟨_, rfl, rfl, L.put hi ⟨p, rfl, o⟩ (fun _ a e => by cases e; exact n), fun _ a e => by cases e; exact h0⟩
theorem put_ok {σ0 : L2.St} {ρ0 : En} {M0 : Addr → Prop} : ∀ {is : List Nat} {rs : List Rs} {vs : List V} {σ : L2.St} {ρ ρ' : En}, Stp P σ0 ρ0 M0 H0 σ ρ M H → (∀ a, M0 a → H0 a ≠ none) → Rel K M H σ ρ → KeptAt K H0 M H σ ρ vs rs → putAll P is rs ρ = some ρ' →
    vs.length = is.length ∧ Stp P σ0 ρ0 M0 H0 (setAll is vs σ) ρ' M H ∧ Rel K M H (setAll is vs σ) ρ'
  | [], [], _, _, _, _, s, d, L, k, e => by cases k; cases e; exact ⟨rfl, s, L⟩
  | [], _ :: _, _, _, _, _, _, _, _, _, e => by simp [putAll] at e
  | _ :: _, [], _, _, _, _, _, _, _, _, e => by simp [putAll] at e
  | i :: is, r :: rs, _, σ, ρ, ρ', s, d, L, k, e => by
    cases k with
    | @cons v vs _ _ R ns t dd =>
      unfold putAll at e
      split at e
      · cases e
      · rename_i c
        rw [not_or, Classical.not_not] at c
        cases ei : r.into i ρ with
        | none => rw [ei] at e; cases e
        | some ρ1 =>
          rw [ei] at e
          obtain ⟨x, e1, ox, L1, hx⟩ := into_kept L R ns c.2 ei
          have t1 : KeptAt K H0 M H (σ.set i (some v)) ρ1 vs rs := by rw [e1]; exact t.put fun o => dd (ox ▸ o)
          have s1 : Stp P σ0 ρ0 M0 H0 (σ.set i (some v)) ρ1 M H := by
            refine ⟨s.go, fun a ⟨j, z⟩ => ?_, fun j hj => ?_⟩
            · rw [e1] at z
              rcases ownAt_set2 z with ⟨_, o, e2⟩ | ⟨_, z⟩
              · exact .inr (hx o a (Option.some.inj e2))
              · exact s.sub a ⟨j, z⟩
            · have n : j ≠ i := fun z => c.1 (z ▸ hj)
              rw [e1, List.getElem?_set_ne (Ne.symm n), List.getElem?_set_ne (Ne.symm n)]
              exact s.fix j hj
          obtain ⟨h1, h2, h3⟩ := put_ok s1 d L1 t1 e
          exact ⟨by simp [h1], h2, h3⟩
end
def parS (P : List Nat) (is : List Nat) (fs : Av) : Sv := fun ρ => thenS (fs ρ) fun rs ρ1 => if rs.length ≤ sizeLine then (match putAll P is rs ρ1 with
  | some ρ2 => some (.nx ρ2)
  | none => none) else none
section
variable {G : GS} {X : Cx} {W : WX} {P : List Nat}
theorem KeptAt.len {K : KG} {M : Addr → Prop} {H H0 : Hp} {σ : L2.St} {ρ : En} {vs : List V} {rs : List Rs} (h : KeptAt K H0 M H σ ρ vs rs) : vs.length = rs.length := by
  induction h with
  | nil => rfl
  | cons _ _ _ _ ih => simp [ih]
theorem re_par {is : List Nat} {fs : Av} {σ : L2.St} {H : Hp} {D : Ends} (q : RS G X W P (parS P is fs) D σ H) : RK G X W fs σ H fun vs H1 => vs.length = is.length ∧ vs.length ≤ sizeLine ∧ D.nx (setAll is vs σ) H1 ∧ ∀ p o, H1 p = none → D.nx (setAll is vs σ) (upd H1 p (.tup o)) := by
  obtain ⟨M, ρ, o, L, e, w⟩ := q
  refine RK.stepS L e w fun rs vs M1 H1 ρ1 g1 l1 L1 As e1 => ?_
  split at e1
  · rename_i hz
    cases ep : putAll P is rs ρ1 with
    | none => rw [ep] at e1; cases e1
    | some ρ2 =>
      rw [ep] at e1
      cases e1
      have s0 := Stp.expr (P := P) g1 l1
      obtain ⟨h1, h2, h3⟩ := put_ok s0 L.dom L1 As ep
      refine ⟨h1, by rw [As.len]; exact hz, w _ M1 H1 h2 h3, fun p o np => ?_⟩
      have gt := go_tup (M := M1) (o := .tup o) np
      exact w _ M1 _ (h2.trans (.go0 gt) L.dom) (h3.go0 gt (dom_tup L1.dom))
  · cases e1
theorem vs_two {vs : List V} (h : vs.length = 2) : ∃ v w, vs = [v, w] := by
  match vs, h with
  | [v, w], _ => exact ⟨v, w, rfl⟩
theorem vs_three {vs : List V} (h : vs.length = 3) : ∃ v w x, vs = [v, w, x] := by
  match vs, h with
  | [v, w, x], _ => exact ⟨v, w, x, rfl⟩
theorem ss_par2 {i j : Nat} {x y : Str} {a b : Expr} {fs : Av} {px py pt pos : Pos} {kt k2 pt2} (hc : X.calm = true) (hN : X.N.Nodup) (hi : X.N[i]? = some x) (hj : X.N[j]? = some y) (hij : i ≠ j)
    (hx : X.env.scope.names.lookup x = some .local) (hy : X.env.scope.names.lookup y = some .local) (ha : PA X [a, b] (RK G X W fs))
    (hw : swappedStores [.Tuple [.Name x px, .Name y py] kt pt] (.Tuple [a, b] k2 pt2) X.env = pure (some [x, y]))
    (hs : swapsWithSole [.Tuple [.Name x px, .Name y py] kt pt] (.Tuple [a, b] k2 pt2) pos.line X.env = pure false := by rfl) :
    PS X (.Assign [.Tuple [.Name x px, .Name y py] kt pt] (.Tuple [a, b] k2 pt2) pos) (RS G X W P (parS P [i, j] fs)) :=
  ps_imp (ps_par hc hN hi hj hij hx hy ha hw hs) fun D σ H q => by
    obtain ⟨M, ρ, o, L, e, w⟩ := re_par q
    refine ⟨M, ρ, o, L, e, w.mono fun rs M1 H1 ρ1 g1 l1 L1 q vs As => ?_⟩
    obtain ⟨h1, _, h2, _⟩ := q vs As
    obtain ⟨v, w, rfl⟩ := vs_two h1
    exact ⟨v, w, rfl, h2⟩
theorem ss_par3 {i j l : Nat} {x y z : Str} {a b c : Expr} {fs : Av} {px py pz pt pos : Pos} {kt k2 pt2} (hc : X.calm = true) (hN : X.N.Nodup) (hi : X.N[i]? = some x) (hj : X.N[j]? = some y) (hl : X.N[l]? = some z) (hij : i ≠ j) (hil : i ≠ l) (hjl : j ≠ l)
    (hx : X.env.scope.names.lookup x = some .local) (hy : X.env.scope.names.lookup y = some .local) (hz : X.env.scope.names.lookup z = some .local) (ha : PA X [a, b, c] (RK G X W fs))
    (hw : swappedStores [.Tuple [.Name x px, .Name y py, .Name z pz] kt pt] (.Tuple [a, b, c] k2 pt2) X.env = pure (some [x, y, z]))
    (hs : swapsWithSole [.Tuple [.Name x px, .Name y py, .Name z pz] kt pt] (.Tuple [a, b, c] k2 pt2) pos.line X.env = pure false := by rfl) :
    PS X (.Assign [.Tuple [.Name x px, .Name y py, .Name z pz] kt pt] (.Tuple [a, b, c] k2 pt2) pos) (RS G X W P (parS P [i, j, l] fs)) :=
  ps_imp (L2.ps_par3 hc hN hi hj hl hij hil hjl hx hy hz ha hw hs) fun D σ H q => by
    obtain ⟨M, ρ, o, L, e, w⟩ := re_par q
    refine ⟨M, ρ, o, L, e, w.mono fun rs M1 H1 ρ1 g1 l1 L1 q vs As => ?_⟩
    obtain ⟨h1, _, h2, _⟩ := q vs As
    obtain ⟨v, w, x, rfl⟩ := vs_three h1
    exact ⟨v, w, x, rfl, h2⟩
def gSets (is : List Nat) : TGs := fun vs σ H Q => vs.length = is.length ∧ Q (setAll is vs σ) H
theorem gs_nil : PGs X [] (gSets []) := pgs_imp pgs_nil fun vs σ H Q ⟨h, q⟩ => by
  cases vs with
  | nil => exact ⟨rfl, q⟩
  | cons _ _ => simp at h
theorem gs_cons {i : Nat} {is : List Nat} {x : Str} {p : Pos} {es : List Expr} (hN : X.N.Nodup) (hi : X.N[i]? = some x) (hx : Loc X.env.scope x) (h : PGs X es (gSets is)) (hf : X.fn x = true ∨ X.env.scope.names.lookup x = some .local := by first | exact .inl rfl | exact .inr rfl | assumption)
    (hs : (assignEach (.Name x p :: es) X.env).map (·.2) = assign (.Name x p) X.env :: (assignEach es X.env).map (·.2) := by rfl) : PGs X (.Name x p :: es) (gSets (i :: is)) := pgs_imp (pgs_cons (pg_name hN hi hx hf) h hs) fun vs σ H Q ⟨h, q⟩ => by
  cases vs with
  | nil => simp at h
  | cons v vs => exact ⟨v, vs, rfl, by simpa using h, q⟩
theorem ss_parN {is : List Nat} {tgs es : List Expr} {fs : Av} {pt pos : Pos} {kt k2 pt2} (hc : X.calm = true) (hg : PGs X tgs (gSets is)) (ha : PA X es (RK G X W fs))
    (hn : (assignEach tgs X.env).length = is.length := by rfl) (hst : (assignEach tgs X.env).findIdx? (·.1) = none := by rfl)
    (hs : swapsWithSole [.Tuple tgs kt pt] (.Tuple es k2 pt2) pos.line X.env = pure false := by rfl) (hw : swappedStores [.Tuple tgs kt pt] (.Tuple es k2 pt2) X.env = pure none := by rfl)
    (h1 : (assignEach [.Tuple tgs kt pt] X.env).map (·.2) = [assign (.Tuple tgs kt pt) X.env] := by rfl) :
    PS X (.Assign [.Tuple tgs kt pt] (.Tuple es k2 pt2) pos) (RS G X W P (parS P is fs)) :=
  ps_imp (ps_asg (pe_tup ha) (pg_tup hc hg hn hst) hs hw h1) fun D σ H q => by
    obtain ⟨M, ρ, o, L, e, w⟩ := re_par q
    refine ⟨M, ρ, o, L, e, w.mono fun rs M1 H1 ρ1 g1 l1 L1 q vs As => ?_⟩
    obtain ⟨h1, hz, _, h2⟩ := q vs As
    exact ⟨hz, fun p np => ⟨p, vs, rfl, SqT.of upd_same, h1, h1, h2 p vs np⟩⟩
end
end TV
namespace TV
open PySem PySem.Spec PyProof.Rows L2
def stoSl (ban : Tr → Bool) (s : Sl) (k t : Tr) : Option Sl := match s with
  | .ow ts => match k with
    | .int i => match ixN ts.length i with
      | some j => some (.ow (ts.set j t))
      | none => none
    | _ => none
  | .ok kvs => match toKey k with
    | some k => if kvs.length < sizeLine then some (.ok (putT kvs k t)) else none
    | none => none
  | .ot kvs => match k with
    | .tup ks => if ban k = true then none else match toKeys ks with
      | some k => if kvs.length < sizeLine then some (.ot (putT kvs k t)) else none
      | none => none
    | _ => none
  | _ => none
def rSetO : TSet := fun o i v H Q => rSetL o i v H Q ∨ rSetD o i v H Q
section
variable {G : GS} {X : Cx} {W : WX} {P : List Nat}
theorem set_own (hu : X.A.units + 1 < cLine) : PSet X rSetO := fun pins s σ H o i v ov iv u Q I ro ri rv h => h.elim (set_list pins s σ H o i v ov iv u Q I ro ri rv) (set_dict hu pins s σ H o i v ov iv u Q I ro ri rv)
theorem own_dk {K : KG} {M : Addr → Prop} {H : Hp} {a : Addr} {kvs : List (Key × V)} {tks : List (Key × Tr)} {v : V} {t : Tr} {k : Key} (m : M a) (h : H a ≠ none) (e : kvs.map (·.1) = tks.map (·.1)) (r : Reps K M H (kvs.map (·.2)) (tks.map (·.2))) (rv : Rep K M H v t) : Own K M (upd H a (.dK (putK kvs k v))) a (.dk (putT tks k t)) := by
  obtain ⟨e2, r2⟩ := put_rel (k := k) e r rv
  exact .dk upd_same m e2 (stays _ m h r2)
theorem own_dt {K : KG} {M : Addr → Prop} {H : Hp} {a : Addr} {kvs : List (List Key × V)} {tks : List (List Key × Tr)} {v : V} {t : Tr} {k : List Key} (m : M a) (h : H a ≠ none) (e : kvs.map (·.1) = tks.map (·.1)) (r : Reps K M H (kvs.map (·.2)) (tks.map (·.2))) (rv : Rep K M H v t) : Own K M (upd H a (.dT (putK kvs k v))) a (.dt (putT tks k t)) := by
  obtain ⟨e2, r2⟩ := put_rel (k := k) e r rv
  exact .dt upd_same m e2 (stays _ m h r2)
theorem map_len {α β γ : Type} {l : List (α × β)} {m : List (α × γ)} (e : l.map (·.1) = m.map (·.1)) : l.length = m.length := by
  have := congrArg List.length e
  rwa [List.length_map, List.length_map] at this
theorem sto_ok {ban : Tr → Bool} {M : Addr → Prop} {H : Hp} {σ : L2.St} {ρ : En} {i : Nat} {a : Addr} {s s' : Sl} {k v : V} {tk t : Tr} {R : Hp → Prop} (hf : G.f = false) (hb : ∀ x ∈ G.l, ban x = true) (L : Rel (kg X G) M H σ ρ) (hi : ρ[i]? = some s) (ha : σ[i]? = some (some (.ref a))) (rk : Rep (kg X G) M H k tk) (rv : Rep (kg X G) M H v t) (e : stoSl ban s tk t = some s')
    (q : ∀ H', Rel (kg X G) M H' σ (ρ.set i s') → Go (Owns σ ρ) M H M H' → Less ρ (ρ.set i s') → R H') : rSetO (.ref a) k v H R := by
  have at_ := L.at_ i s hi
  cases s with
  | no => cases e
  | sh _ => cases e
  | ow ts =>
    obtain ⟨b, h1, own⟩ := at_
    rw [ha] at h1; cases h1
    unfold stoSl at e
    dsimp only at e
    split at e
    · rename_i j
      have hk := Rep.int_eq rk
      subst hk
      cases ej : ixN ts.length j with
      | none => rw [ej] at e; cases e
      | some n =>
        rw [ej] at e
        cases e
        cases own with
        | @lst vs _ h m r =>
          have hn : H a ≠ none := by rw [h]; exact fun z => nomatch z
          obtain ⟨L2', g2, l2⟩ := L.mut (o := .lst (vs.set n v)) (s' := .ow (ts.set n t)) hi rfl rfl ha ⟨a, rfl, .lst upd_same m (stays _ m hn (Reps.set rv n r))⟩
          exact .inl ⟨a, vs, j, n, rfl, rfl, h, by rw [r.length]; exact ej, q _ L2' g2 l2⟩
    · cases e
  | ok kvs =>
    obtain ⟨b, h1, own⟩ := at_
    rw [ha] at h1; cases h1
    unfold stoSl at e
    dsimp only at e
    cases ek : toKey tk with
    | none => rw [ek] at e; cases e
    | some kk =>
      rw [ek] at e
      dsimp only at e
      split at e
      · rename_i c
        cases e
        have hk := RTop.key (.inl rk) ek
        subst hk
        cases own with
        | @dk vs _ h m e1 r =>
          have hn : H a ≠ none := by rw [h]; exact fun z => nomatch z
          obtain ⟨L2', g2, l2⟩ := L.mut (o := .dK (putK vs kk v)) (s' := .ok (putT kvs kk t)) hi rfl rfl ha ⟨a, rfl, own_dk m hn e1 r rv⟩
          exact .inr ⟨a, _, rfl, .inl ⟨vs, kk, h, rfl, by rw [map_len e1]; exact c, rfl⟩, q _ L2' g2 l2⟩
      · cases e
  | ot kvs =>
    obtain ⟨b, h1, own⟩ := at_
    rw [ha] at h1; cases h1
    unfold stoSl at e
    dsimp only at e
    split at e
    · rename_i ks
      split at e
      · cases e
      · rename_i nb
        cases ek : toKeys ks with
        | none => rw [ek] at e; cases e
        | some kk =>
          rw [ek] at e
          dsimp only at e
          split at e
          · rename_i c
            cases e
            cases own with
            | @dt vs _ h m e1 r =>
              have hn : H a ≠ none := by rw [h]; exact fun z => nomatch z
              obtain ⟨L2', g2, l2⟩ := L.mut (o := .dT (putK vs kk v)) (s' := .ot (putT kvs kk t)) hi rfl rfl ha ⟨a, rfl, own_dt m hn e1 r rv⟩
              cases rk with
              | @tup p ws _ hp hz mp rp =>
                have ew := rp.keys ek
                subst ew
                exact .inr ⟨a, _, rfl, .inr ⟨vs, kk, p, h, rfl, hp, by rw [map_len e1]; exact c, rfl⟩, q _ L2' g2 l2⟩
              | ftup hp f hz mp rp => have f : G.f = true := f; rw [hf] at f; cases f
              | ktup hp g rp => exact absurd (hb _ g) nb
          · cases e
    · cases e
def stoS (ban : Tr → Bool) (i : Nat) (fk fv : Ev) : Sv := fun ρ => thenS (fv ρ) fun rv ρ1 => match rv.fz ρ1 with
  | none => none
  | some (t, ρ2) => match ρ2[i]? with
    | none => none
    | some s0 => if s0.own = true then thenS (fk ρ2) fun rk ρ3 => match rk, ρ3[i]? with
      | .sh tk, some s => match stoSl ban s tk t with
        | some s' => some (.nx (ρ3.set i s'))
        | none => none
      | _, _ => none else none
theorem ss_sto {ban : Tr → Bool} {i : Nat} {x : Str} {p pos pos' : Pos} {k e : Expr} {fk fv : Ev} (hf : G.f = false) (hb : ∀ x ∈ G.l, ban x = true) (hu : X.A.units + 1 < cLine) (hN : X.N[i]? = some x) (hv : Vis X.env.scope x) (he : PE X e (RE G X W fv)) (hk : PE X k (RE G X W fk))
    (hd : (x == ("__debug__" : Str)) = false := by decide) (hcd : (x == ("__classdict__" : Str)) = false := by decide)
    (ha : ∀ v, assign (.Subscript (.Name x p) k pos') X.env v = (do
      let ov ← holding [v] (eval (.Name x p) X.env)
      let iv ← holding [v, ov] (eval k X.env)
      standAt pos'
      holding [v, ov, iv] (setItem ov iv v)
      release [v, ov, iv] []) := by intro _; rfl)
    (hs : swapsWithSole [.Subscript (.Name x p) k pos'] e pos.line X.env = pure false := by rfl) (hw : swappedStores [.Subscript (.Name x p) k pos'] e X.env = pure none := by rfl)
    (h1 : (assignEach [.Subscript (.Name x p) k pos'] X.env).map (·.2) = [assign (.Subscript (.Name x p) k pos') X.env] := by rfl) :
    PS X (.Assign [.Subscript (.Name x p) k pos'] e pos) (RS G X W P (stoS ban i fk fv)) := by
  refine ps_imp (ps_asg he (pg_sub (pe_var hN hv hd hcd) hk (set_own hu) ha) hs hw h1) fun D σ H ⟨M, ρ, o, L, e, w⟩ => ?_
  refine RE.stepS L e w fun rv v M1 H1 ρ1 g1 l1 L1 R1 e1 => ?_
  cases ez : rv.fz ρ1 with
  | none => rw [ez] at e1; cases e1
  | some pr =>
    obtain ⟨t, ρ2⟩ := pr
    rw [ez] at e1
    dsimp only at e1
    obtain ⟨M2, g2, l2, L2', rp, _⟩ := fz_ok L.dom g1 l1 L1 R1 ez
    cases es : ρ2[i]? with
    | none => rw [es] at e1; cases e1
    | some s0 =>
      rw [es] at e1
      dsimp only at e1
      split at e1
      · rename_i hown
        obtain ⟨a, _, ha, _, _⟩ := (L2'.at_ i s0 es).own hown
        refine ⟨.ref a, ha, ?_⟩
        have s2 := Stp.expr (P := P) g2 (l1.trans l2)
        refine RE.stepS L2' e1 (w.later s2 L.dom) fun rk kv M3 H3 ρ3 g3 l3 L3 R3 e3 => ?_
        split at e3
        · rename_i tk s hi3
          cases est : stoSl ban s tk t with
          | none => rw [est] at e3; cases e3
          | some s' =>
            rw [est] at e3
            cases e3
            refine sto_ok hf hb L3 ‹ρ3[i]? = some s› ha R3 (rp.go g3 L2'.sub) est fun H' L4 g4 l4 => ?_
            exact w σ M3 H' (s2.trans ((Stp.expr (P := P) g3 l3).trans (Stp.expr g4 l4) L2'.dom) L.dom) L4
        · cases e3
      · cases e1
def stoK (i : Nat) (fk : Av) (fv : Ev) : Sv := fun ρ => thenS (fv ρ) fun rv ρ1 => match rv.fz ρ1 with
  | none => none
  | some (t, ρ2) => match ρ2[i]? with
    | some (.ot _) => thenS (fk ρ2) fun rk ρ3 => match shs rk with
      | none => none
      | some ks => match toKeys ks, ρ3[i]? with
        | some k, some (.ot kvs) => if kvs.length < sizeLine ∧ k.length ≤ sizeLine then some (.nx (ρ3.set i (.ot (putT kvs k t)))) else none
        | _, _ => none
    | _ => none
theorem toKeys_len : ∀ {ts : List Tr} {ks : List Key}, toKeys ts = some ks → ks.length = ts.length
  | [], _, e => by cases e; rfl
  | t :: ts, ks, e => by
    unfold toKeys at e
    cases q : toKey t with
    | none => rw [q] at e; cases e
    | some k =>
      cases q2 : toKeys ts with
      | none => rw [q, q2] at e; cases e
      | some r => rw [q, q2] at e; cases e; simp [toKeys_len q2]
theorem ss_stoK {i : Nat} {x : Str} {p pos pos' pk : Pos} {nk : Nat} {ks : List Expr} {e : Expr} {fk : Av} {fv : Ev} (hu : X.A.units + 1 < cLine) (hN : X.N[i]? = some x) (hv : Vis X.env.scope x) (he : PE X e (RE G X W fv)) (hk : PA X ks (RA G X W fk))
    (hd : (x == ("__debug__" : Str)) = false := by decide) (hcd : (x == ("__classdict__" : Str)) = false := by decide)
    (ha : ∀ v, assign (.Subscript (.Name x p) (.Tuple ks nk pk) pos') X.env v = (do
      let ov ← holding [v] (eval (.Name x p) X.env)
      let iv ← holding [v, ov] (eval (.Tuple ks nk pk) X.env)
      standAt pos'
      holding [v, ov, iv] (setItem ov iv v)
      release [v, ov, iv] []) := by intro _; rfl)
    (hs : swapsWithSole [.Subscript (.Name x p) (.Tuple ks nk pk) pos'] e pos.line X.env = pure false := by rfl) (hw : swappedStores [.Subscript (.Name x p) (.Tuple ks nk pk) pos'] e X.env = pure none := by rfl)
    (h1 : (assignEach [.Subscript (.Name x p) (.Tuple ks nk pk) pos'] X.env).map (·.2) = [assign (.Subscript (.Name x p) (.Tuple ks nk pk) pos') X.env] := by rfl) :
    PS X (.Assign [.Subscript (.Name x p) (.Tuple ks nk pk) pos'] e pos) (RS G X W P (stoK i fk fv)) := by
  refine ps_imp (ps_asg he (pg_sub (pe_var hN hv hd hcd) (pe_tup hk) (set_own hu) ha) hs hw h1) fun D σ H ⟨M, ρ, o, L, e, w⟩ => ?_
  refine RE.stepS L e w fun rv v M1 H1 ρ1 g1 l1 L1 R1 e1 => ?_
  cases ez : rv.fz ρ1 with
  | none => rw [ez] at e1; cases e1
  | some pr =>
    obtain ⟨t, ρ2⟩ := pr
    rw [ez] at e1
    dsimp only at e1
    obtain ⟨M2, g2, l2, L2', rp, _⟩ := fz_ok L.dom g1 l1 L1 R1 ez
    split at e1
    · rename_i kvs0 es
      obtain ⟨a, ha, _⟩ := L2'.at_ i _ es
      refine ⟨.ref a, ha, ?_⟩
      have s2 := Stp.expr (P := P) g2 (l1.trans l2)
      refine RA.stepS L2' e1 (w.later s2 L.dom) fun rk kv M3 H3 ρ3 g3 l3 L3 R3 e3 => ?_
      cases esh : shs rk with
      | none => rw [esh] at e3; cases e3
      | some kts =>
        rw [esh] at e3
        dsimp only at e3
        split at e3
        · rename_i k kvs hk hi3
          split at e3
          · rename_i c
            cases e3
            have rks := R3.shs esh
            have ek := rks.keys hk
            subst ek
            refine ⟨by rw [List.length_map]; exact c.2, fun b nb => ?_⟩
            have gt := go_tup (M := M3) (o := .tup (k.map kV)) nb
            have L4 := L3.go0 gt (dom_tup L3.dom)
            obtain ⟨a', ha', own⟩ := L4.at_ i _ hi3
            rw [ha] at ha'; cases ha'
            have rp4 := (rp.go g3 L2'.sub).go0 gt
            cases own with
            | @dt vs _ h m e1 r =>
              have hn : upd H3 b (.tup (k.map kV)) a ≠ none := by rw [h]; exact fun z => nomatch z
              obtain ⟨L5, g5, l5⟩ := L4.mut (o := .dT (putK vs k v)) (s' := .ot (putT kvs k t)) hi3 rfl rfl ha ⟨a, rfl, own_dt m hn e1 r rp4⟩
              refine .inr ⟨a, _, rfl, .inr ⟨vs, k, b, h, rfl, upd_same, by rw [map_len e1]; exact c.1, rfl⟩, ?_⟩
              exact w σ M3 _ (s2.trans (((Stp.expr (P := P) g3 l3).trans (.go0 gt) L2'.dom).trans (Stp.expr g5 l5) L2'.dom) L.dom) L5
          · cases e3
        · cases e3
    · cases e1
end
end TV
namespace TV
open PySem PySem.Spec PyProof.Rows L2
section
variable {prog : Program} {w : World} {κ : Type} [DecidableEq κ] {knd : HeapKind prog w κ} {A : Around} {E : Value → Shared → Prop} {s : Shared}
theorem wpAny_Dict_H {env : Env} {keys : List (Option Expr)} {values : List Expr} {pos : Pos} {Q : Value → Shared → Prop} (hu : knd.room A) (hall : keys.all (·.isSome) = true) (hl : keys.length = values.length) (h0 : keys ≠ []) (hlen : keys.length ≤ 15)
    (h : wpAny (model prog w) A (evalPairs (pairTrees keys values env pos)) (fun vs s₁ => ∃ ps, CarriesH knd s₁.heap vs ps ∧ s₁.heap.DictOfH knd s.heap.objs.size [] ∧
      ∀ h' tk, h'.DictOfH knd s.heap.objs.size (storedAllH [] ps) → Heap.SameBut s.heap.objs.size s₁.heap h' → Q (.ref s.heap.objs.size) { s₁ with heap := h', toks := tk }) E
      { s with heap := s.heap.push { cls := .type "dict", data := .dict #[] } }) :
    wpAny (model prog w) A (eval (.Dict keys values pos) env) Q E s := by
  have hn := pairTrees_length keys values env pos hall hl
  have hp0 : pairTrees keys values env pos ≠ [] := by
    intro he
    rw [he] at hn
    exact h0 (List.length_eq_zero_iff.mp hn.symm)
  rw [arm_eval_Dict, zip_pairTrees keys values env pos hall hl, dictDisplay_pairs (pairTrees keys values env pos) hp0 (by omega)]
  exact wpAny_bind (wpAny_standAt (wpAny_bind (wpAny_subDictH (knd := knd) (Q := fun d s' => wpAny (model prog w) A (pure (Value.ref d)) Q E s') hu (by omega)
    (wpAny_mono h (fun vs s₁ h₁ => by obtain ⟨ps, hc, hm, hq⟩ := h₁; exact ⟨ps, hc, hm, fun h' tk a b => wpAny_pure (hq h' tk a b)⟩) fun _ _ e => e))))
end
abbrev TKV := Addr × List Key × V
def mergeT (kvs : List (List Key × V)) (more : List TKV) : List (List Key × V) := more.foldl (fun acc e => putK acc e.2.1 e.2.2) kvs
theorem mergeT_len : ∀ (more : List TKV) (kvs : List (List Key × V)), (mergeT kvs more).length ≤ kvs.length + more.length
  | [], kvs => by show kvs.length ≤ kvs.length + 0; omega
  | p :: r, kvs => by
    have h1 := mergeT_len r (putK kvs p.2.1 p.2.2)
    have h2 := length_putK kvs p.2.1 p.2.2
    show (mergeT (putK kvs p.2.1 p.2.2) r).length ≤ _
    rw [List.length_cons]; omega
theorem KT.mergeT {H : Hp} : ∀ {more : List TKV} {rs : List (List Key × Addr × Value)} {kvs : List (List Key × V)} {xs : List (List Key × Addr × Value)},
    Paired (fun (e : TKV) (q : List Key × Addr × Value) => e.2.1 = q.1 ∧ e.1 = q.2.1 ∧ H e.1 = some (.tup (e.2.1.map kV)) ∧ RelV e.2.2 q.2.2) more rs → KT H kvs xs → KT H (TV.mergeT kvs more) (storedAllH xs rs)
  | _, _, _, _, .nil, r => r
  | _, _, _, _, .cons (a := p) (b := q) h t, r => by
    obtain ⟨h1, h2, h3, h4⟩ := h
    obtain ⟨pa, pk, pv⟩ := p
    obtain ⟨qk, qa, qv⟩ := q
    dsimp only at h1 h2 h3 h4
    subst h1; subst h2
    have z := KT.mergeT t (r.put pk h3 h4)
    exact z
def tDispT (trs : List (TE × TE)) : TE := fun σ H Q => ∀ p, H p = none → tPairs trs σ (upd H p (.dT [])) fun ps H2 => H2 p = some (.dT []) ∧ ∃ kvs : List TKV, ps = kvs.map (fun e => (V.ref e.1, e.2.2)) ∧ (∀ e ∈ kvs, H2 e.1 = some (.tup (e.2.1.map kV))) ∧ kvs.length ≤ 15 ∧ Q (.ref p) (upd H2 p (.dT (mergeT [] kvs)))
theorem carriesT {P : Program} {w : World} {H : Hp} {h : Heap} (ok : HOk P w H h) : ∀ {kvs : List TKV} {ws : List (Value × Value)}, VV (kvs.map fun e => (V.ref e.1, e.2.2)) ws → (∀ e ∈ kvs, H e.1 = some (.tup (e.2.1.map kV))) →
    ∃ rs, CarriesH (tupleKind (mixKind P w)) h ws rs ∧ Paired (fun (e : TKV) (q : List Key × Addr × Value) => e.2.1 = q.1 ∧ e.1 = q.2.1 ∧ H e.1 = some (.tup (e.2.1.map kV)) ∧ RelV e.2.2 q.2.2) kvs rs
  | [], _, r, _ => by rw [List.map_nil] at r; cases r; exact ⟨[], True.intro, .nil⟩
  | e :: kvs, _, r, hk => by
    rw [List.map_cons] at r
    cases r with
    | @cons a b as bs h0 t =>
      obtain ⟨rs, c, q⟩ := carriesT ok t fun x hx => hk x (List.mem_cons_of_mem _ hx)
      obtain ⟨b1, b2⟩ := b
      obtain ⟨h1, h2⟩ := h0
      cases (show b1 = Value.ref e.1 from h1)
      have he := hk e List.mem_cons_self
      exact ⟨(e.2.1, e.1, b2) :: rs, ⟨rfl, rfl, key_of ok he, c⟩, .cons ⟨rfl, rfl, he, h2⟩ q⟩
section
variable {X : Cx}
theorem pe_dispT {pos : Pos} {keys : List (Option Expr)} {values : List Expr} {trs : List (TE × TE)} (hu : X.A.units + 1 < cLine) (h : PPs X pos keys values trs) (hall : keys.all (·.isSome) = true) (hl : keys.length = values.length) (h0 : keys ≠ [])
    (h15 : keys.length ≤ 15) : PE X (.Dict keys values pos) (tDispT trs) := by
  refine ⟨fun pins s σ H Q I q => ?_⟩
  have hn := I.hok.fresh (Nat.le_refl s.heap.objs.size)
  have I1 := I.laid (a := s.heap.objs.size) (o := .dT []) (h' := s.heap.push { cls := .type "dict", data := .dict #[] }) (t' := s.toks) (fun _ _ q => Heap.get?_push_of_some _ q) (Nat.le_refl _) (dt_empty s.heap I.big)
  refine wpAny_Dict_H (knd := tupleKind (mixKind X.prog X.w)) (show X.A.units < cLine by omega) hall hl h0 h15 (thn (h.run pins _ σ _ _ I1 (q _ hn)) fun ws s2 ⟨ps, H2, I2, rel, e, kvs, ep, hk, hle, q2⟩ => ?_)
  subst ep
  obtain ⟨rs, c, rk⟩ := carriesT I2.hok rel hk
  obtain ⟨z, hd, xs0, r0, dd⟩ := dt_of I2.hok e
  cases r0
  refine ⟨rs, c, dd, fun h' tk dd' hs => ⟨.ref s.heap.objs.size, _, ?_, rfl, q2⟩⟩
  have hz : (mergeT [] kvs).length ≤ sizeLine := by
    have h1 := mergeT_len kvs []
    rw [List.length_nil] at h1
    rw [sizeLine_eq]; omega
  obtain ⟨o, es, ep, ho, h2, h3, h4, _, h5⟩ := dd'
  refine d_write I2 (by rw [e]; exact True.intro) hs ⟨o, ho⟩ ⟨hz, hd, _, L2.KT.keeps (TV.KT.mergeT (kvs := []) (xs := []) rk .nil) fun b ys eb => ?_, o, es, ep, ho, h2, h3, h4, h5⟩
  rw [upd_ne (ne_of eb e (fun z => nomatch z))]
  exact eb
end
def prsT : List (Av × Ev) → En → Option (Ou (List (List Key × Tr)))
  | [], ρ => some (.ok [] ρ)
  | (fk, fv) :: r, ρ => andThen (fk ρ) fun rs ρ1 => match shs rs with
    | none => none
    | some ks => match toKeys ks with
      | none => none
      | some k => if k.length ≤ sizeLine then (andThen (fv ρ1) fun rv ρ2 => match rv.fz ρ2 with
        | none => none
        | some (t, ρ3) => andThen (prsT r ρ3) fun kvs ρ4 => some (.ok ((k, t) :: kvs) ρ4)) else none
def dspT (l : List (Av × Ev)) : Ev := fun ρ => andThen (prsT l ρ) fun kvs ρ1 => if kvs.length ≤ 15 then some (.ok (.ft (kvs.foldl (fun acc kv => putT acc kv.1 kv.2) [])) ρ1) else none
def prsK : List (Ev × Ev) → En → Option (Ou (List (Key × Tr)))
  | [], ρ => some (.ok [] ρ)
  | (fk, fv) :: r, ρ => andThen (fk ρ) fun rk ρ1 => match rk with
    | .sh t0 => match toKey t0 with
      | none => none
      | some k => andThen (fv ρ1) fun rv ρ2 => match rv.fz ρ2 with
        | none => none
        | some (t, ρ3) => andThen (prsK r ρ3) fun kvs ρ4 => some (.ok ((k, t) :: kvs) ρ4)
    | _ => none
def dspK (l : List (Ev × Ev)) : Ev := fun ρ => andThen (prsK l ρ) fun kvs ρ1 => if kvs.length ≤ 15 then some (.ok (.fk (kvs.foldl (fun acc kv => putT acc kv.1 kv.2) [])) ρ1) else none
section
variable {G : GS} {X : Cx} {W : WX}
theorem merge_relT {K : KG} {M : Addr → Prop} {H : Hp} : ∀ {more : List TKV} {tm : List (List Key × Tr)} {kvs : List (List Key × V)} {tks : List (List Key × Tr)}, more.map (·.2.1) = tm.map (·.1) → Reps K M H (more.map (·.2.2)) (tm.map (·.2)) → kvs.map (·.1) = tks.map (·.1) → Reps K M H (kvs.map (·.2)) (tks.map (·.2)) →
    (mergeT kvs more).map (·.1) = (tm.foldl (fun acc kv => putT acc kv.1 kv.2) tks).map (·.1) ∧ Reps K M H ((mergeT kvs more).map (·.2)) ((tm.foldl (fun acc kv => putT acc kv.1 kv.2) tks).map (·.2))
  | [], [], _, _, _, _, e, r => ⟨e, r⟩
  | [], _ :: _, _, _, e1, _, _, _ => by simp at e1
  | _ :: _, [], _, _, e1, _, _, _ => by simp at e1
  | p :: more, q :: tm, kvs, tks, e1, r1, e, r => by
    simp only [List.map_cons, List.cons.injEq] at e1
    obtain ⟨e0, e1⟩ := e1
    cases r1 with
    | cons h t =>
      obtain ⟨a, b⟩ := put_rel (k := p.2.1) e r h
      have a : (putK kvs p.2.1 p.2.2).map (·.1) = (putT tks q.1 q.2).map (·.1) := by rw [← e0]; exact a
      have b : Reps K M H ((putK kvs p.2.1 p.2.2).map (·.2)) ((putT tks q.1 q.2).map (·.2)) := by rw [← e0]; exact b
      have z := merge_relT e1 t a b
      exact z
theorem re_prsT {α : Type} : ∀ {l : List (Av × Ev)} {σ : L2.St} {M : Addr → Prop} {H : Hp} {ρ : En} {k : List (List Key × Tr) → En → Option (Ou α)} {o : Ou α} {P : α → (Addr → Prop) → Hp → En → Prop} {Q : List (V × V) → Hp → Prop}, Rel (kg X G) M H σ ρ → andThen (prsT l ρ) k = some o → Wn G X W σ M H ρ o P →
    (∀ (kvs : List TKV) (tks : List (List Key × Tr)) (M1 : Addr → Prop) (H1 : Hp) (ρ1 : En), Go (Owns σ ρ) M H M1 H1 → Less ρ ρ1 → Rel (kg X G) M1 H1 σ ρ1 → kvs.map (·.2.1) = tks.map (·.1) → Reps (kg X G) M1 H1 (kvs.map (·.2.2)) (tks.map (·.2)) → (∀ e ∈ kvs, H1 e.1 = some (.tup (e.2.1.map kV)) ∧ ¬ M1 e.1) → k tks ρ1 = some o → Q (kvs.map fun e => (V.ref e.1, e.2.2)) H1) →
    tPairs (l.map fun p => (tTup (RA G X W p.1), RE G X W p.2)) σ H Q
  | [], σ, M, H, ρ, k, o, P, Q, L, e, w, q => q [] [] M H ρ .refl .refl L rfl .nil (by simp) e
  | (fk, fv) :: l, σ, M, H, ρ, k, o, P, Q, L, e, w, q => by
    show tTup (RA G X W fk) σ H _
    unfold prsT at e
    have ass : ∀ {β γ : Type} {x : Option (Ou β)} {f : β → En → Option (Ou (List (List Key × Tr)))}, andThen (andThen x f) k = andThen x fun a ρ => andThen (f a ρ) k := fun {β γ x f} => by
      cases x with
      | none => rfl
      | some y => cases y <;> rfl
    rw [ass (γ := Unit)] at e
    refine RA.stepO L e w fun rs vs M1 H1 ρ1 g1 l1 L1 As e1 => ?_
    cases esh : shs rs with
    | none => rw [esh] at e1; cases e1
    | some kts =>
      rw [esh] at e1
      dsimp only at e1
      cases ek : toKeys kts with
      | none => rw [ek] at e1; cases e1
      | some ks =>
        rw [ek] at e1
        dsimp only at e1
        split at e1
        · rename_i c
          have rks := As.shs esh
          have ev := rks.keys ek
          subst ev
          refine ⟨by rw [List.length_map]; exact c, fun b nb => ?_⟩
          have gt := go_tup (M := M1) (o := .tup (ks.map kV)) nb
          have L2' := L1.go0 gt (dom_tup L1.dom)
          have g2 := g1.trans (O1 := fun _ => False) gt (fun _ z => z.elim) L.dom
          have w2 := w.later g2 l1 L.dom
          rw [ass (γ := Unit)] at e1
          refine RE.stepO L2' e1 w2 fun rv v M3 H3 ρ3 g3 l3 L3 R3 e3 => ?_
          cases ez : rv.fz ρ3 with
          | none => rw [ez] at e3; cases e3
          | some pr =>
            obtain ⟨t, ρ4⟩ := pr
            rw [ez] at e3
            dsimp only at e3
            obtain ⟨M4, g4, l4, L4, rp, _⟩ := fz_ok L2'.dom g3 l3 L3 R3 ez
            rw [ass (γ := Unit)] at e3
            have w4 := w2.later g4 (l3.trans l4) L2'.dom
            have bb : ¬ Owns σ ρ1 b := fun z => L1.dom b (L1.sub b z) nb
            have nm : ¬ M1 b := fun z => L1.dom b z nb
            have hb4 : H3 b = some (.tup (ks.map kV)) := g4.keep b _ upd_same bb
            have nm4 : ¬ M4 b := fun z => (g4.new b z).elim nm fun z => by rw [upd_same] at z; cases z
            refine re_prsT L4 e3 w4 fun kvs tks M5 H5 ρ5 g5 l5 L5 ek5 rk5 hk5 e5 => ?_
            have gg := g2.trans (g4.trans g5 (fun a z => .inl ((l3.trans l4).owns z)) L2'.dom) (fun a z => .inl (l1.owns z)) L.dom
            refine q ((b, ks, v) :: kvs) ((ks, t) :: tks) M5 H5 ρ5 gg (l1.trans ((l3.trans l4).trans l5)) L5 (by simp [ek5]) (.cons (rp.go g5 L4.sub) rk5) (fun x hx => ?_) e5
            rcases List.mem_cons.mp hx with rfl | hx
            · exact ⟨g5.keep _ _ hb4 fun z => nm4 (L4.sub _ z), fun z => (g5.new _ z).elim nm4 fun z => by rw [hb4] at z; cases z⟩
            · exact hk5 x hx
        · cases e1
theorem se_dspT {pos : Pos} {keys : List (Option Expr)} {values : List Expr} {l : List (Av × Ev)} (hu : X.A.units + 1 < cLine) (h : PPs X pos keys values (l.map fun p => (tTup (RA G X W p.1), RE G X W p.2))) (hall : keys.all (·.isSome) = true := by rfl) (hl : keys.length = values.length := by rfl) (h0 : keys ≠ [] := by simp)
    (h15 : keys.length ≤ 15 := by decide) : PE X (.Dict keys values pos) (RE G X W (dspT l)) := by
  refine pe_imp (pe_dispT hu h hall hl h0 h15) fun σ H Q ⟨M, ρ, o, L, e, w⟩ p np => ?_
  have gp := go_mut (M := M) (o := .dT []) np
  have Lp := L.go0 gp (dom_mut L.dom)
  have wp := w.later gp.of0 .refl L.dom
  have nOwn : ¬ Owns σ ρ p := fun z => L.dom p (L.sub p z) np
  refine re_prsT Lp e wp fun kvs tks M1 H1 ρ1 g1 l1 L1 ek rk hk e1 => ?_
  split at e1
  · rename_i c
    cases e1
    have hp1 : H1 p = some (.dT []) := g1.keep p _ upd_same nOwn
    have mp1 : M1 p := g1.old p (.inr rfl) nOwn
    have hlen : kvs.length = tks.length := by
      have := congrArg List.length ek
      rwa [List.length_map, List.length_map] at this
    refine ⟨hp1, kvs, rfl, fun x hx => (hk x hx).1, by omega, ?_⟩
    have hn1 : H1 p ≠ none := by rw [hp1]; exact fun z => nomatch z
    have gu := go_upd (M := M1) (o := .dT (mergeT [] kvs)) hn1
    obtain ⟨m1, m2⟩ := merge_relT (K := kg X G) (M := M1) (H := H1) ek rk (kvs := []) (tks := []) rfl .nil
    have nOwn1 : ¬ Owns σ ρ1 p := fun z => nOwn (l1.owns z)
    have L2' : Rel (kg X G) M1 (upd H1 p (.dT (mergeT [] kvs))) σ ρ1 := L1.go gu (fun a e => by subst e; exact mp1) (fun a e => by subst e; exact nOwn1) fun a z => gu.there a (L1.dom a z)
    have gfin : Go (Owns σ ρ) M H M1 (upd H1 p (.dT (mergeT [] kvs))) := by
      have ga := gp.of0.trans (O := Owns σ ρ) g1 (fun a z => .inl z) L.dom
      exact ga.trans gu (fun a e => .inr (by rw [show a = p from e]; exact np)) L.dom
    refine w M1 _ gfin l1 L2' _ ⟨p, rfl, np, nOwn1, .dt upd_same mp1 m1 (stays _ mp1 hn1 m2)⟩
  · cases e1
end
end TV
namespace TV
open PySem PySem.Spec PyProof.Rows L2
inductive TyK where
  | non | bl | int | str | tup | lst | dict
deriving DecidableEq
def TyK.name : TyK → String
  | .non => "NoneType"
  | .bl => "bool"
  | .int => "int"
  | .str => "str"
  | .tup => "tuple"
  | .lst => "list"
  | .dict => "dict"
def tyT : Tr → Option TyK
  | .non => some .non
  | .bl _ => some .bl
  | .int _ => some .int
  | .str _ => some .str
  | .tup _ => some .tup
  | .lst _ => some .lst
  | .dk _ => some .dict
  | .dt _ => some .dict
  | .scr _ => some .lst
  | .adr _ => none
def subK : TyK → TyK → Bool
  | .bl, .int => true
  | a, b => decide (a = b)
theorem kit_sub (a b : TyK) (hb : b ≠ .non) : kitB a.name b.name = some (subK a b) := by
  cases b <;> first | exact absurd rfl hb | (cases a <;> decide +kernel)
theorem RTop.tyX {K : KG} {M : Addr → Prop} {H : Hp} {v : V} {t : Tr} {a : TyK} (r : RTop K M H v t) (e : tyT t = some a) : TyX K.k H v (.type a.name) := by
  have own : ∀ {p : Addr} {t : Tr} {a : TyK}, Own K M H p t → tyT t = some a → TyX K.k H (.ref p) (.type a.name) := fun o e => by
    cases o with
    | lst h m r => cases e; exact .base (.lst h)
    | dk h m _ r => cases e; exact .base (.dK h)
    | dt h m _ r => cases e; exact .base (.dT h)
  rcases r with r | ⟨p, rfl, o⟩
  · cases r with
    | non => cases e; exact .base .non
    | bl b => cases e; exact .base (.bl b)
    | int i => cases e; exact .base (.int i)
    | str x => cases e; exact .base (.str x)
    | tup h z m r => cases e; exact .base (.tup h)
    | ftup h f z m r => cases e; exact .fTuple h
    | ktup h g r => obtain ⟨o, its, n, h1, h2, _⟩ := h; cases e; exact .kTuple h1 h2
    | lst h m r => cases e; exact .base (.lst h)
    | dk h m _ r => cases e; exact .base (.dK h)
    | dt h m _ r => cases e; exact .base (.dT h)
    | scr h m => cases e; exact .base (.frz h)
    | kscr h => obtain ⟨o, its, n, h1, h2, _⟩ := h; cases e; exact .kList h1 h2
    | adr a => cases e
  · exact own o e
def isiE (b : TyK) (f : Ev) : Ev := fun ρ => andThen (f ρ) fun r ρ1 => match r.tr ρ1 with
  | none => none
  | some t => match tyT t with
    | none => none
    | some a => some (.ok (.sh (.bl (subK a b))) ρ1)
section
variable {G : GS} {X : Cx} {W : WX}
theorem re_isi {b : TyK} (hb : b ≠ .non) {f : Ev} {σ : L2.St} {H : Hp} {Q : VK} (q : RE G X W (isiE b f) σ H Q) : tCB (rIsi X.K) (tCons (RE G X W f) (tCons (tC (.ty b.name)) tNil)) σ H Q := by
  obtain ⟨M, ρ, o, L, e, w⟩ := q
  refine RE.stepO L e w fun r v M1 H1 ρ1 g1 l1 L1 R1 e1 => ?_
  cases et : r.tr ρ1 with
  | none => rw [et] at e1; cases e1
  | some t =>
    rw [et] at e1
    dsimp only at e1
    cases ea : tyT t with
    | none => rw [ea] at e1; cases e1
    | some a =>
      rw [ea] at e1
      cases e1
      exact ⟨v, .ty b.name, _, _, _, rfl, .ty _, (R1.top L1 et).tyX ea, kit_ty (kit_sub a b hb), w M1 H1 g1 l1 L1 _ (Rep.bl _)⟩
theorem se_isi {b : TyK} {e : Expr} {f : Ev} {x : Str} {p pT pos : Pos} (hb : b ≠ .non := by decide) (hg : Gl X "isinstance") (hm : X.mg "isinstance" = none) (he : PE X e (RE G X W f)) (hgT : Gl X x) (hmT : X.mg x = none) (hv : bootBuiltins x = some (.type b.name))
    (hn : x ≠ "__name__" := by decide) (hdb : (x == ("__debug__" : Str)) = false := by decide)
    (hs : starEach [e, .Name x pT] X.env = (false, eval e X.env) :: starEach [.Name x pT] X.env := by rfl) (hs2 : starEach [.Name x pT] X.env = (false, eval (.Name x pT) X.env) :: starEach [] X.env := by rfl) (hpl : (backTo pos (starEach [.Name x pT] X.env)).any (·.1) = false := by rfl) :
    PE X (.Call (.Name "isinstance" p) [e, .Name x pT] [] pos) (RE G X W (isiE b f)) :=
  pe_imp (pe_callB call_isi hg hm (by rfl) (pa_cons he (pa_cons (pe_bltn (v := .ty b.name) hgT hmT hv rfl hn hdb) pa_nil hs2) hs) (by decide) (by decide) hs hpl) fun _ _ _ => re_isi hb
end
def raiS (c : Str) : Sv := fun ρ => some (.ex c ρ)
section
variable {G : GS} {X : Cx} {W : WX} {P : List Nat}
theorem ss_raise {C : Addr} {x : Str} {e : Expr} {pos : Pos} (hc : X.calm = true) (tk : L2N.Takes X W) (gC : X.mg x = some (.ref C)) (he : L2N.PMk X e (fun _ H Q => Q (.ref C) none H)) : PS X (.Raise (some e) none pos) (RS G X W P (raiS x)) :=
  ps_imp (L2N.ps_raise hc tk he) fun D σ H ⟨M, ρ, o, L, e, w⟩ => by
    cases e
    exact w C σ M H gC .refl L
def tryS (i : Nat) (word : Str → Option Tr) (body : Sv) : Sv := fun ρ => match body ρ with
  | some (.ex c ρ1) => match word c with
    | some t => some (.rt (.sh t) (ρ1.set i .no))
    | none => none
  | some (.nx ρ1) => some (.nx ρ1)
  | some (.rt r ρ1) => some (.rt r ρ1)
  | _ => none
def tWord (i : Nat) (a : Addr) (t : Tr) : TS := fun D σ H => σ[i]? = some (some (.ref a)) ∧ ∀ (v : V) (H' : Hp), (∀ K M, Rep K M H v t) → (∀ b o, H b = some o → H' b = some o) → D.rt v H'
end
end TV
namespace TV
open PySem PySem.Spec PyProof.Rows L2
def tryW (n i : Nat) (word : Str → Option Str) (body : Sv) : Sv := fun ρ => match body ρ with
  | some (.ex c ρ1) => match word c with
    | some t => if ρ1.length = n then some (.rt (.sh (.str t)) (ρ1.set i .no)) else none
    | none => none
  | some (.nx ρ1) => some (.nx ρ1)
  | some (.rt r ρ1) => some (.rt r ρ1)
  | _ => none
def tWrd (n i : Nat) (a : Addr) (t : Str) : TS := fun D σ H => σ.length = n ∧ σ[i]? = some (some (.ref a)) ∧ H a = none ∧ ∀ H', (∀ b o, H b = some o → H' b = some o) → D.rt (.str t) H'
def tSui (mg : Str → Option Value) (n i : Nat) (word : Str → Option Str) : Addr → Value → Option Addr → TS := fun a cls d D σ H =>
  ∃ c C t, cls = .ref C ∧ d = none ∧ mg c = some (.ref C) ∧ word c = some t ∧ tWrd n i a t D σ H
section
variable {G : GS} {X : Cx} {W : WX} {P : List Nat}
theorem ss_try {n i : Nat} {word : Str → Option Str} {f : Sv} {x nm : Str} {B : Value} {body suite : List Stmt} {b₀ : Stmt} {np pos pos' : Pos} (hn : n = X.N.length) (hP : i ∉ P) (hs : X.stack = X.env :: X.outer) (hf : X.env.frame = some X.env.locals) (hN : X.N.Nodup) (hi : X.N[i]? = some nm) (hln : X.env.kindOf nm = some .local) (hc : Names X x B) (tk : L2N.Takes X W)
    (hw : ∀ c C t, X.mg c = some (.ref C) → word c = some t → PySem.W.exmOne X.K (.ref C) B = some true)
    (hb : ∀ (W : WX) (pn : List (Addr × Obj)) (xe : Value → Shared → Prop), L2N.Takes (X.tr pn xe) W → PassesOwn (model X.prog X.w) X.A X.env xe → PSs (X.tr pn xe) body (RS G (X.tr pn xe) W P f))
    (hsu : ∀ (a : Addr) (oe : Obj) (pn : List (Addr × Obj)) (c : Str) (C : Addr) (t : Str), X.mg c = some (.ref C) → word c = some t → L2N.Zn (.ref C) none oe → (∃ vs, oe.data = .fields vs) → PSs (X.suite a ((a, oe) :: pn)) (b₀ :: suite) (tWrd n i a t)) :
    PS X (.Try body [.ExceptHandler (some (.Name x np)) (some nm) (b₀ :: suite) pos'] [] [] pos) (RS G X W P (tryW n i word f)) := by
  refine ps_imp (L2N.ps_try_as (tb := fun W => RS G X W P f) (ts := tSui X.mg n i word) (Wout := W) hs hf hN hi hln hc tk hb fun a oe cls d pn hz hd => ⟨fun pins s σ H D I h => ?_⟩) fun D σ H ⟨M, ρ, o, L, e, w⟩ => ?_
  · obtain ⟨c, C, t, rfl, rfl, h1, h2, h3⟩ := h
    exact (hsu a oe pn c C t h1 h2 hz hd).run pins s σ H D I h3
  · unfold tryW at e
    cases eb : f ρ with
    | none => rw [eb] at e; cases e
    | some ob =>
      rw [eb] at e
      cases ob with
      | nx ρ1 => cases e; exact ⟨M, ρ, _, L, eb, w⟩
      | rt r ρ1 => cases e; exact ⟨M, ρ, _, L, eb, w⟩
      | bk ρ1 => cases e
      | ct ρ1 => cases e
      | ex c ρ1 =>
        dsimp only at e
        cases ew : word c with
        | none => rw [ew] at e; cases e
        | some t =>
          rw [ew] at e
          dsimp only at e
          split at e
          · rename_i hl
            cases e
            refine ⟨M, ρ, _, L, eb, fun C σ' M' H' hm s L' => ⟨true, hw c C t hm ew, fun _ a na => ?_, fun z => nomatch z⟩⟩
            have hlen : σ'.length = n := by rw [L'.len]; exact hl
            have hi' : i < X.N.length := (List.getElem?_eq_some_iff.mp hi).1
            refine ⟨c, C, t, rfl, rfl, hm, ew, by rw [List.length_set]; exact hlen, List.getElem?_set_self (by omega), na, fun H'' hk => ?_⟩
            have g2 : Go0 M' H' M' H'' := by
              refine ⟨fun b o e _ => hk b o e, fun b z => ?_, fun _ z => .inl z, fun _ z _ => z⟩
              cases q : H' b with
              | none => exact absurd q z
              | some o =>
                rw [hk b o q]
                exact fun z => nomatch z
            have d2 : ∀ b, M' b → H'' b ≠ none := fun b z => g2.there b (L'.dom b z)
            -- the slot of the name is given away
            let σ2 := σ'.set i none
            have L2' : Rel (kg X G) M' H'' σ2 (ρ1.set i .no) := by
              have L3 := (L'.go0 g2 d2).kill1 (i := i)
              refine ⟨by show (σ'.set i none).length = _; rw [List.length_set]; exact L3.len, L3.dom, fun j x ex => ?_, fun j k b h1 h2 => ?_⟩
              · rcases getSet ex with ⟨_, rfl, _⟩ | ⟨nj, _⟩
                · trivial
                · show SlAt _ _ _ (σ'.set i none)[j]? _
                  rw [List.getElem?_set_ne (Ne.symm nj)]
                  exact L3.at_ j x ex
              · have fx : ∀ {j : Nat}, OwnAt σ2 (ρ1.set i .no) j b → OwnAt σ' (ρ1.set i .no) j b := fun {j} ⟨h1, h2⟩ => by
                  refine ⟨?_, h2⟩
                  have h1 : (σ'.set i none)[j]? = some (some (V.ref b)) := h1
                  rcases getSet h1 with ⟨_, z, _⟩ | ⟨_, z⟩
                  · cases z
                  · exact z
                exact L3.inj j k b (fx h1) (fx h2)
            have s2 : Stp P σ ρ M H σ2 (ρ1.set i .no) M' H'' := by
              have sA := s.trans (.go0 g2) L.dom
              refine ⟨sA.go, fun b ⟨j, z⟩ => ?_, fun j hj => ?_⟩
              · obtain ⟨h1, x, h2, h3⟩ := z
                have h1 : (σ'.set i none)[j]? = some (some (V.ref b)) := h1
                rcases getSet h2 with ⟨_, rfl, _⟩ | ⟨nj, h2⟩
                · cases h3
                · rw [List.getElem?_set_ne (Ne.symm nj)] at h1
                  exact sA.sub b ⟨j, h1, x, h2, h3⟩
              · have nj : j ≠ i := fun z => hP (z ▸ hj)
                refine ⟨?_, fun x ex o => ?_⟩
                · show (σ'.set i none)[j]? = _
                  rw [List.getElem?_set_ne (Ne.symm nj)]
                  exact (sA.fix j hj).1
                · rw [List.getElem?_set_ne (Ne.symm nj)] at ex
                  exact (sA.fix j hj).2 x ex o
            exact w _ σ2 M' H'' s2 L2' (Rep.str t)
          · cases e
theorem sui_of {n i : Nat} {a : Addr} {t : Str} {f : Sv} {ρ' : En} {suite : List Stmt} (h : PSs X suite (RS G X W [] f)) (e : f ((List.replicate n Sl.no).set i (.sh (.adr a))) = some (.rt (.sh (.str t)) ρ')) : PSs X suite (tWrd n i a t) := by
  refine pss_imp h fun D σ H ⟨hl, hi, na, q⟩ => ?_
  refine ⟨fun _ => False, _, _, ⟨by rw [List.length_set, List.length_replicate]; exact hl, fun _ z => z.elim, fun j x ex => ?_, fun j k b h1 h2 => ?_⟩, e, fun v σ' M' H' s L' R => ?_⟩
  · rcases getSet ex with ⟨rfl, rfl, _⟩ | ⟨nj, ex⟩
    · exact ⟨_, hi, .adr a⟩
    · rw [List.getElem?_replicate] at ex
      split at ex
      · cases ex; trivial
      · cases ex
  · exfalso
    obtain ⟨_, x, ex, ox⟩ := h1
    rcases getSet ex with ⟨_, rfl, _⟩ | ⟨nj, ex⟩
    · cases ox
    · rw [List.getElem?_replicate] at ex
      split at ex
      · cases ex; cases ox
      · cases ex
  · have hv : v = .str t := by cases R; rfl
    subst hv
    refine q H' fun b o eo => s.go.keep b o eo fun z => ?_
    obtain ⟨j, _, x, ex, ox⟩ := z
    rcases getSet ex with ⟨_, rfl, _⟩ | ⟨nj, ex⟩
    · cases ox
    · rw [List.getElem?_replicate] at ex
      split at ex
      · cases ex; cases ox
      · cases ex
def isxE (i : Nat) (a : Addr) (b : Bool) : Ev := fun ρ => match ρ[i]? with
  | some (.sh (.adr x)) => if x = a then some (.ok (.sh (.bl b)) ρ) else none
  | _ => none
theorem se_isx {i : Nat} {a D Cc : Addr} {oe : Obj} {pn : List (Addr × Obj)} {b : Bool} {x y : Str} {p px py pos : Pos} (C : ExcC X.K D) (hz : L2N.Zn (.ref D) none oe) (hf : ∃ vs, oe.data = .fields vs) (hg : Gl X "isinstance") (hm : X.mg "isinstance" = none)
    (hN : X.N[i]? = some x) (hv : Vis X.env.scope x) (hd : (x == ("__debug__" : Str)) = false) (hcd : (x == ("__classdict__" : Str)) = false) (hgy : Gl X y) (hmy : X.mg y = some (.ref Cc)) (hdy : (y == ("__debug__" : Str)) = false) (hk : PySem.W.kitOne X.K (.ref D) (.ref Cc) = some b)
    (hs : starEach [.Name x px, .Name y py] X.env = (false, eval (.Name x px) X.env) :: starEach [.Name y py] X.env := by rfl) (hs2 : starEach [.Name y py] X.env = (false, eval (.Name y py) X.env) :: starEach [] X.env := by rfl) (hpl : (backTo pos (starEach [.Name y py] X.env)).any (·.1) = false := by rfl) :
    PE (X.suite a ((a, oe) :: pn)) (.Call (.Name "isinstance" p) [.Name x px, .Name y py] [] pos) (RE G (X.suite a ((a, oe) :: pn)) W (isxE i a b)) := by
  refine pe_imp (pe_callB (X := X.suite a ((a, oe) :: pn)) (call_isE C hz.zc hf) hg hm (by rfl) (pa_cons (pe_var hN hv hd hcd) (pa_cons (pe_glob (v := .ref Cc) hgy hmy rfl hdy) pa_nil hs2) hs) (by decide) (by decide) hs hpl) fun σ H Q ⟨M, ρ, o, L, e, w⟩ => ?_
  unfold isxE at e
  split at e
  · rename_i z hi
    split at e
    · rename_i c
      cases e
      obtain ⟨v, h1, h2⟩ := L.at_ i _ hi
      have hv : v = .ref a := by cases h2; rw [c]
      subst hv
      exact ⟨_, h1, .ref Cc, .ref Cc, b, rfl, fun u r => r, hk, w.ok L _ (Rep.bl _)⟩
    · cases e
  · cases e
end
end TV
namespace TV
open PySem PySem.Spec PyProof.Rows L2
theorem hu65 {A : Around} {k : Nat} (hr : Room k A) : A.units + 65 < cLine := by have := hr.un; omega
theorem hu64 {A : Around} {k : Nat} (hr : Room k A) : A.units + 64 < cLine := by have := hr.un; omega
theorem hu1 {A : Around} {k : Nat} (hr : Room k A) : A.units + 1 < cLine := by have := hr.un; omega
def Cal (P : Program) (w : World) (K : PySem.W.Frag) (mg : Str → Option Value) (base : Heap) (G : GS) (k : Nat) (x : Str) (ps : List Str) (F : Fv) : Prop :=
  (∃ f fd, FnOk P w K mg base (L2N.CX P w) k f fd ps (spF G K mg ps.length F) ∧ mg x = some (.ref f) ∧ PySem.W.keepIn K (.ref f) = true ∧ Binds K fd ps []) ∧ ∀ args o, F args = some o → args.length = ps.length
section
variable {G : GS} {X : Cx} {W : WX} {k : Nat} {ps : List Str} {F : Fv} {x : Str} {p pos : Pos} {e : Expr} {es : List Expr} {fs : Av}
theorem se_cal (C : Cal X.prog X.w X.K X.mg X.base G k x ps F) (hr : Room k X.A) (tk : L2N.Takes X W) (ha : PA X (e :: es) (RA G X W fs)) (hg : Gl X x := by rfl) (hdb : (x == ("__debug__" : Str)) = false := by decide) (he : starEach (e :: es) X.env = (false, eval e X.env) :: starEach es X.env := by rfl) (hpl : (backTo pos (starEach es X.env)).any (·.1) = false := by rfl) :
    PE X (.Call (.Name x p) (e :: es) [] pos) (RE G X W (callE F fs)) := by
  obtain ⟨⟨f, fd, h1, h2, h3, h4⟩, hF⟩ := C
  exact se_call h1 hF hr hg h2 h3 h4 tk ha hdb he hpl
end
theorem cal_mk {G : GS} {P : Program} {w : World} {K : PySem.W.Frag} {mg : Str → Option Value} {base : Heap} {x : Str} {st : Stmt} {f : Addr} {fd : FuncData} {N ps : List Str} {k : Nat} {ip : List Nat} {body : Sv} (F : FunD K x x (defArgs st) (defBody st) (defScope st) [] [] f fd) (hg : mg x = some (.ref f)) (S : FnScope N ps (defScope st))
    (hbd : ∀ (kV doc pm : Value) (an : Option Addr) (cdv ct : Value) (us : List Value), us.length = ps.length → bindArgs (PySem.W.fnOf x x (defArgs st) (defBody st) (defScope st) .none kV doc pm an cdv ct) ⟨us, []⟩ = pure (ps.zip us))
    (hb : ∀ (cdv : Value) (A : Around) (outer : List Env) (s : Shared) (H : Hp) (E : XK), Room k (A.deeper (envOfC x (defScope st) s.heap.objs.size f cdv)) →
      PSs (cxOf (L2N.CX P w) P w K mg base N x (defScope st) f cdv A outer s H E) (defBody st) (RS G (cxOf (L2N.CX P w) P w K mg base N x (defScope st) f cdv A outer s H E) (WF E) ip body)) :
    Cal P w K mg base G (k + 1) x ps (runF ps.length N.length ip body) := by
  have B : Binds K fd ps [] := F.bindsN hbd
  obtain ⟨oc, od, dV, kV, doc, pm, an, cdv, ct, osl, e, lk, hcd, hD, _⟩ := F.ex
  have hD : dV = .none := by
    rcases hD with ⟨_, h⟩ | ⟨h, _⟩
    · exact h
    · exact absurd rfl h
  subst hD
  exact ⟨⟨f, fd, fn_mirror ⟨⟨oc, od, kV, doc, pm, an, cdv, ct, osl, e, lk, hcd⟩, F.kp⟩ S hb, hg, F.kp, B⟩, fun _ _ h => runF_len h⟩
theorem cal_none {G : GS} {P : Program} {w : World} {K : PySem.W.Frag} {mg : Str → Option Value} {base : Heap} {x : Str} {st : Stmt} {f : Addr} {fd : FuncData} {ps : List Str} {k : Nat} (F : FunD K x x (defArgs st) (defBody st) (defScope st) [] [] f fd) (hg : mg x = some (.ref f))
    (hbd : ∀ (kV doc pm : Value) (an : Option Addr) (cdv ct : Value) (us : List Value), us.length = ps.length → bindArgs (PySem.W.fnOf x x (defArgs st) (defBody st) (defScope st) .none kV doc pm an cdv ct) ⟨us, []⟩ = pure (ps.zip us)) :
    Cal P w K mg base G k x ps (fun _ => none) :=
  ⟨⟨f, fd, ⟨fun _ _ _ _ h => (by obtain ⟨_, _, _, _, _, e, _⟩ := h; cases e), fun _ _ _ _ _ _ _ _ _ _ _ _ _ h => (by obtain ⟨_, _, _, _, _, e, _⟩ := h; cases e)⟩, hg, F.kp, F.bindsN hbd⟩, fun _ _ e => (by cases e)⟩
theorem fn_mk {G : GS} {P : Program} {w : World} {K : PySem.W.Frag} {mg : Str → Option Value} {base : Heap} {x : Str} {st : Stmt} {f : Addr} {fd : FuncData} {N ps : List Str} {k : Nat} {ip : List Nat} {body : Sv} (F : FunD K x x (defArgs st) (defBody st) (defScope st) [] [] f fd) (S : FnScope N ps (defScope st))
    (hb : ∀ (cdv : Value) (A : Around) (outer : List Env) (s : Shared) (H : Hp) (E : XK), Room k (A.deeper (envOfC x (defScope st) s.heap.objs.size f cdv)) →
      PSs (cxOf (L2N.CX P w) P w K mg base N x (defScope st) f cdv A outer s H E) (defBody st) (RS G (cxOf (L2N.CX P w) P w K mg base N x (defScope st) f cdv A outer s H E) (WF E) ip body)) :
    FnOk P w K mg base (L2N.CX P w) (k + 1) f fd ps (spF G K mg ps.length (runF ps.length N.length ip body)) := by
  obtain ⟨oc, od, dV, kV, doc, pm, an, cdv, ct, osl, e, lk, hcd, hD, _⟩ := F.ex
  have hD : dV = .none := by
    rcases hD with ⟨_, h⟩ | ⟨h, _⟩
    · exact h
    · exact absurd rfl h
  subst hD
  exact fn_mirror ⟨⟨oc, od, kV, doc, pm, an, cdv, ct, osl, e, lk, hcd⟩, F.kp⟩ S hb
theorem Cal.unz {P : Program} {w : World} {K : PySem.W.Frag} {mg : Str → Option Value} {base : Heap} {l : List Tr} {k : Nat} {x : Str} {ps : List Str} {F : Fv} (C : Cal P w K mg base ⟨[], true, true⟩ k x ps F) : Cal P w K mg base ⟨l, false, true⟩ k x ps (onlyInts F) := by
  obtain ⟨⟨f, fd, h1, h2, h3, h4⟩, hF⟩ := C
  refine ⟨⟨f, fd, FnOk.unz h1, h2, h3, h4⟩, fun args o e => ?_⟩
  unfold onlyInts at e
  split at e
  · exact hF args o e
  · cases e
theorem Cal.mono {P : Program} {w : World} {K : PySem.W.Frag} {mg : Str → Option Value} {base : Heap} {G : GS} {j k : Nat} {x : Str} {ps : List Str} {F : Fv} (C : Cal P w K mg base G j x ps F) (h : j ≤ k) : Cal P w K mg base G k x ps F := by
  obtain ⟨⟨f, fd, h1, h2, h3, h4⟩, hF⟩ := C
  exact ⟨⟨f, fd, h1.mono h, h2, h3, h4⟩, hF⟩
theorem Cal.part {P : Program} {w : World} {K : PySem.W.Frag} {mg : Str → Option Value} {base : Heap} {G : GS} {k : Nat} {x : Str} {ps : List Str} {F F' : Fv} (C : Cal P w K mg base G k x ps F) (h : ∀ args o, F' args = some o → F args = some o) : Cal P w K mg base G k x ps F' := by
  obtain ⟨⟨f, fd, h1, h2, h3, h4⟩, hF⟩ := C
  refine ⟨⟨f, fd, L2.FnOk.imp h1 fun vs H Q E ⟨M, args, o, a, b, c, d⟩ => ⟨M, args, o, a, b, h _ _ c, d⟩, h2, h3, h4⟩, fun args o e => hF args o (h _ _ e)⟩
def blkB (N : List Str) (sc scope : Scope) (own : List (Str × Nat)) : Bool :=
  (match scope.kind with | .function => true | _ => false) && scope.names.all (fun y => decide (scope.names.lookup y.1 = some y.2)) && own.all (fun p => decide (N[p.2]? = some p.1)) &&
  scope.names.all (fun y => !decide (y.2 = .free) || (decide (sc.names.lookup y.1 = some .cell) || decide (sc.names.lookup y.1 = some .free))) &&
  scope.names.all (fun y => !(decide (y.2 = .local) || decide (y.2 = .cell)) || ((own.map (·.1)).contains y.1 || !N.contains y.1))
theorem blk_ok {N : List Str} {sc scope : Scope} {own : List (Str × Nat)} (h : blkB N sc scope own = true) : BlkOk N sc scope own := by
  unfold blkB at h
  simp only [Bool.and_eq_true, List.all_eq_true] at h
  obtain ⟨⟨⟨⟨h1, h2⟩, h3⟩, h4⟩, h5⟩ := h
  refine ⟨?_, fun y hy => of_decide_eq_true (h2 y hy), fun p hp => of_decide_eq_true (h3 p hp), fun y hy e => ?_, fun y hy e => ?_⟩
  · cases q : scope.kind <;> first | rfl | (rw [q] at h1; cases h1)
  · have := h4 y hy
    rw [e] at this
    simpa using this
  · have := h5 y hy
    rcases e with e | e <;> (rw [e] at this; simpa using this)
mutual
def tups : Tr → List Tr
  | .tup ts => .tup ts :: tupsL ts
  | _ => []
def tupsL : List Tr → List Tr
  | [] => []
  | t :: ts => tups t ++ tupsL ts
end
def vOf : Value → V
  | .bool b => .bl b
  | .int i _ => .int i
  | .str x _ => .str x
  | .ref a => .ref a
  | _ => .non
mutual
def conB (K : PySem.W.Frag) : Nat → Value → Tr → Bool
  | 0, _, _ => false
  | n + 1, v, t => match t with
    | .non => (match v with | .none => true | _ => false)
    | .bl b => (match v with | .bool c => b == c | _ => false)
    | .int i => (match v with | .int j _ => decide (i = j) | _ => false)
    | .str x => (match v with | .str y _ => decide (x = y) | _ => false)
    | .tup ts => (match v with
      | .ref a => (match K.lookup a with
        | some ⟨.type c, _, .seq its _, _⟩ => decide (c = "tuple") && (decide (its.size ≤ sizeLine) && conL K n its.toList ts)
        | _ => false)
      | _ => false)
    | _ => false
def conL (K : PySem.W.Frag) : Nat → List Value → List Tr → Bool
  | 0, _, _ => false
  | _ + 1, [], [] => true
  | n + 1, v :: vs, t :: ts => conB K n v t && conL K n vs ts
  | _ + 1, _, _ => false
end
section
variable {K : KG}
mutual
theorem con_ok : ∀ (n : Nat) (v : Value) (t : Tr), conB K.k n v t = true → (∀ u ∈ tups t, u ∈ K.g) → RelV (vOf v) v ∧ ∀ M H, Rep K M H (vOf v) t
  | 0, _, _, h, _ => by simp [conB] at h
  | n + 1, v, t, h, hg => by
    cases t with
    | non => cases v <;> first | (simp [conB] at h; done) | exact ⟨rfl, fun _ _ => .non⟩
    | bl b =>
      cases v <;> first | (simp [conB] at h; done) | skip
      simp [conB] at h; subst h; exact ⟨rfl, fun _ _ => .bl _⟩
    | int i =>
      cases v <;> first | (simp [conB] at h; done) | skip
      simp [conB] at h; subst h; exact ⟨⟨_, rfl⟩, fun _ _ => .int _⟩
    | str x =>
      cases v <;> first | (simp [conB] at h; done) | skip
      simp [conB] at h; subst h; exact ⟨⟨_, rfl⟩, fun _ _ => .str _⟩
    | tup ts =>
      cases v <;> first | (simp [conB] at h; done) | skip
      rename_i a
      unfold conB at h
      dsimp only at h
      cases q : K.k.lookup a with
      | none => rw [q] at h; cases h
      | some o =>
        rw [q] at h
        obtain ⟨oc, od, dt, osl⟩ := o
        cases oc <;> cases dt <;> first | (cases h; done) | skip
        rename_i c its m
        simp only [Bool.and_eq_true, decide_eq_true_eq] at h
        obtain ⟨h1, h2, h3⟩ := h
        subst h1
        obtain ⟨r1, r2⟩ := conL_ok n its.toList ts h3 fun u hu => hg u (by rw [tups]; exact List.mem_cons_of_mem _ hu)
        exact ⟨rfl, fun M H => .ktup ⟨_, its, m, q, rfl, rfl, h2, r1⟩ (hg _ (by rw [tups]; exact List.mem_cons_self)) (r2 M H)⟩
    | _ => simp [conB] at h
theorem conL_ok : ∀ (n : Nat) (vs : List Value) (ts : List Tr), conL K.k n vs ts = true → (∀ u ∈ tupsL ts, u ∈ K.g) → Vals (vs.map vOf) vs ∧ ∀ M H, Reps K M H (vs.map vOf) ts
  | 0, _, _, h, _ => by simp [conL] at h
  | n + 1, [], [], _, _ => ⟨.nil, fun _ _ => .nil⟩
  | n + 1, [], _ :: _, h, _ => by simp [conL] at h
  | n + 1, _ :: _, [], h, _ => by simp [conL] at h
  | n + 1, v :: vs, t :: ts, h, hg => by
    simp only [conL, Bool.and_eq_true] at h
    obtain ⟨a1, a2⟩ := con_ok n v t h.1 fun u hu => hg u (by rw [tupsL]; exact List.mem_append_left _ hu)
    obtain ⟨b1, b2⟩ := conL_ok n vs ts h.2 fun u hu => hg u (by rw [tupsL]; exact List.mem_append_right _ hu)
    exact ⟨.cons a1 b1, fun M H => .cons (a2 M H) (b2 M H)⟩
end
end
def Con (K : PySem.W.Frag) (mg : Str → Option Value) (G : GS) (x : Str) (t : Tr) : Prop := ∃ (u : Value) (v : V), mg x = some u ∧ RelV v u ∧ ∀ M H, Rep ⟨K, G.l, G.z, G.f⟩ M H v t
theorem se_con {G : GS} {X : Cx} {W : WX} {x : Str} {t : Tr} {pos : Pos} (C : Con X.K X.mg G x t) (hg : Gl X x := by rfl) (hd : (x == ("__debug__" : Str)) = false := by decide) : PE X (.Name x pos) (RE G X W (conE t)) := by
  obtain ⟨u, v, h1, h2, h3⟩ := C
  exact se_glob hg h1 h2 h3 hd
abbrev Fx := PySem.W.Frag → Bool
def fFree (x : Str) : Fx := fun K => (He.Fa.free x).ok K
def fGlo (x : Str) : Fx := fun K => (He.Fa.glo x).ok K
def fBfn (x : Str) (id : String) : Fx := fun K => He.eqO (PySem.W.nsIn K mainGlobals x) (some (some (.builtin id)))
def fCon (x : Str) (t : Tr) : Fx := fun K => match PySem.W.nsIn K mainGlobals x with
  | some (some u) => conB K 60 u t
  | _ => false
def fExc (x : Str) : Fx := fun K => (He.Fa.glo x).ok K && (He.Fa.exc x).ok K
def fExm (x y : Str) : Fx := fun K => (He.Fa.exm x y true).ok K
def fIsx (x : Str) : Fx := fun K => He.eqO (PySem.W.findIn K (.ref (He.ga K x)) "__getattribute__") (some (some (.builtin "BaseException.__getattribute__"))) && (He.eqO (PySem.W.findIn K (.ref (He.ga K x)) "__getattr__") (some none) &&
  (decide (PySem.W.subIn K (.ref (He.ga K x)) (.type "BaseException") = some true) && (PySem.W.hasDictIn K (He.ga K x) && (He.eqO (PySem.W.findIn K (.ref (He.ga K x)) "__class__") (some (some (.builtin "object.__class__"))) &&
  (He.eqO (PySem.W.specialIn K (.builtin "object.__class__") "__get__") (some (some (.builtin "getset_descriptor.__get__"))) && (decide (PySem.W.takesIn K (.builtin "object.__class__") = some true) && decide (PySem.W.mroIn K (He.ga K x) (.type "object") = some true)))))))
def fKit (x y : Str) (b : Bool) : Fx := fun K => decide (PySem.W.kitOne K (.ref (He.ga K x)) (.ref (He.ga K y)) = some b)
section
variable {K : PySem.W.Frag} {h : Heap} {mg : Str → Option Value} (X : K.In h) (Gn : h.Ns mainGlobals mg)
include X Gn in
theorem free_of {x : Str} (c : fFree x K = true) : mg x = none := He.free_ok X Gn c
include X Gn in
theorem glo_of {x : Str} (c : fGlo x K = true) : mg x = some (.ref (He.ga K x)) := He.glo_ok X Gn c
include X Gn in
theorem bfn_of {x : Str} {id : String} (c : fBfn x id K = true) : mg x = some (.builtin id) := PySem.W.mg_of X Gn (He.eqO_ok c)
include X Gn in
theorem con_of {G : GS} {x : Str} {t : Tr} (c : fCon x t K = true) (hg : ∀ u ∈ tups t, u ∈ G.l) : Con K mg G x t := by
  unfold fCon at c
  cases q : PySem.W.nsIn K mainGlobals x with
  | none => rw [q] at c; cases c
  | some o =>
    rw [q] at c
    cases o with
    | none => cases c
    | some u =>
      obtain ⟨h1, h2⟩ := con_ok (K := ⟨K, G.l, G.z, G.f⟩) 60 u t c hg
      exact ⟨u, vOf u, PySem.W.mg_of X Gn q, h1, h2⟩
theorem isx_of {x : Str} (c : fIsx x K = true) : ExcC K (He.ga K x) := by
  obtain ⟨c1, c⟩ := He.ba c
  obtain ⟨c2, c⟩ := He.ba c
  obtain ⟨c3, c⟩ := He.ba c
  obtain ⟨c4, c⟩ := He.ba c
  obtain ⟨c5, c⟩ := He.ba c
  obtain ⟨c6, c⟩ := He.ba c
  obtain ⟨c7, c8⟩ := He.ba c
  exact ⟨He.eqO_ok c1, He.eqO_ok c2, of_decide_eq_true c3, c4, He.eqO_ok c5, He.eqO_ok c6, of_decide_eq_true c7, of_decide_eq_true c8⟩
theorem kit_of {x y : Str} {b : Bool} (c : fKit x y b K = true) : PySem.W.kitOne K (.ref (He.ga K x)) (.ref (He.ga K y)) = some b := of_decide_eq_true c
theorem exm_of {x y : Str} (c : fExm x y K = true) : PySem.W.exmOne K (.ref (He.ga K x)) (.ref (He.ga K y)) = some true := He.exm_ok c
end
def ExcX (K : PySem.W.Frag) (mg : Str → Option Value) (x : Str) : Prop := ∃ C, mg x = some (.ref C) ∧ PySem.W.excIn K C He.veBase "ValueError.__new__" = true ∧ PySem.W.keepIn K (.ref C) = true ∧ PySem.W.subIn K (.ref C) (.type "BaseException") = some true ∧ PySem.W.typeIn K (.ref C) = some (.type "type")
theorem exc_of {K : PySem.W.Frag} {h : Heap} {mg : Str → Option Value} (X : K.In h) (Gn : h.Ns mainGlobals mg) {x : Str} (c : fExc x K = true) : ExcX K mg x := by
  obtain ⟨c1, c2⟩ := He.ba c
  obtain ⟨e1, e2, e3, e4⟩ := He.exc_ok c2
  exact ⟨_, He.glo_ok X Gn c1, e1, e2, e3, e4⟩
theorem ss_rai {G : GS} {X : Cx} {W : WX} {P : List Nat} {x m : Str} {j : Nat} {p p2 pos pos' : Pos} (C : ExcX X.K X.mg x) (hc : X.calm = true) (tk : L2N.Takes X W) (hg : Gl X x := by rfl) (hdb : (x == ("__debug__" : Str)) = false := by decide) :
    PS X (.Raise (some (.Call (.Name x p) [.Constant (.str m) j p2] [] pos)) none pos') (RS G X W P (raiS x)) := by
  obtain ⟨C, h1, h2, h3, h4, h5⟩ := C
  exact ss_raise hc tk h1 (L2N.pmk_own PySem.F.excBase_ValueError h2 h1 h3 (raises_own h4 h5) hg hdb)
def wordL (l : List (Str × Str)) (c : Str) : Option Str := (l.find? fun p => decide (p.1 = c)).map (·.2)
theorem word_mem {l : List (Str × Str)} {c t : Str} (h : wordL l c = some t) : (c, t) ∈ l := by
  unfold wordL at h
  cases q : l.find? (fun p => decide (p.1 = c)) with
  | none => rw [q] at h; cases h
  | some p =>
    rw [q] at h
    cases h
    have h0 := List.find?_some q
    have h1 : p.1 = c := by simpa using h0
    have h2 := List.mem_of_find?_eq_some q
    obtain ⟨p1, p2⟩ := p
    dsimp only at h1
    subst h1
    exact h2
def obsX (fx : List Fx) (fn : List He.DefD) (K : PySem.W.Frag) : He.AlD := ((fx.all fun f => f K) && fn.all fun d => d.ok K, fn.map fun d => He.fnW K d.at_)
def SaysX (fx : List Fx) (fn : List He.DefD) (K : PySem.W.Frag) : Prop := obsX fx fn K = He.valD fn
def obsXG (n : Nat) (fx : List Fx) (fn : List He.DefD) (g : Addr → Option Obj) : He.AlD := obsX fx fn (He.frG g (He.asD g n))
def hookX (n : Nat) (fx : List Fx) (fn : List He.DefD) : PySem.W.Hook where
  α := He.AlD
  obs := fun s => obsXG n fx fn s.heap.get?
  val := fun _ => He.valD fn
  says := fun _ h => ∃ K : PySem.W.Frag, K.In h ∧ SaysX fx fn K
  of := fun _ _ e => ⟨_, He.frG_in, e⟩
  keeps := fun _ _ _ ⟨K, hK, c⟩ k => ⟨K, PySem.W.Frag.In.keeps hK k, c⟩
theorem obsXG_eq {n : Nat} {fx : List Fx} {fn : List He.DefD} {g : Addr → Option Obj} {s : Shared} (h : ∀ a, g a = s.heap.get? a) : obsXG n fx fn g = (hookX n fx fn).obs s := by
  have e : g = s.heap.get? := funext h
  rw [e] <;> rfl
section
variable {fx : List Fx} {fn : List He.DefD} {K : PySem.W.Frag}
theorem SaysX.fact (c : SaysX fx fn K) (i : Nat) {f : Fx} (h : fx[i]? = some f := by rfl) : f K = true := by
  have c1 := (He.ba (show ((fx.all fun f => f K) && fn.all fun d => d.ok K) = true from congrArg (fun z : He.AlD => z.1) c)).1
  exact List.all_eq_true.mp c1 f (List.mem_of_getElem? h)
theorem SaysX.def_ (c : SaysX fx fn K) (i : Nat) {d : He.DefD} (h : fn[i]? = some d := by rfl) : ∃ fd, FunD K d.name d.qual d.params d.body d.scope (d.dvs K) (d.kws K) (He.fAd K d.at_) fd := by
  have c2 := (He.ba (show ((fx.all fun f => f K) && fn.all fun d => d.ok K) = true from congrArg (fun z : He.AlD => z.1) c)).2
  have e : fn.map (fun d => He.fnW K d.at_) = fn.map He.DefD.val := congrArg (fun z : He.AlD => z.2) c
  have e2 : (fn.map fun d => He.fnW K d.at_)[i]? = (fn.map He.DefD.val)[i]? := by rw [e]
  rw [List.getElem?_map, List.getElem?_map, h] at e2
  exact He.DefD.funD (Option.some.inj e2) (List.all_eq_true.mp c2 d (List.mem_of_getElem? h))
end
theorem FnOk.noX {P : Program} {w : World} {K : PySem.W.Frag} {mg : Str → Option Value} {base : Heap} {k : Nat} {f : Addr} {fd : FuncData} {ps : List Str} {sp : Sp} (F : FnOk P w K mg base (L2N.CX P w) k f fd ps sp) :
    FnOk P w K mg base L2.CX0 k f fd ps (fun vs H Q _ => sp vs H Q fun _ _ _ => False) :=
  ⟨fun vs H Q E q => F.len vs H Q _ q, fun A outer s H args us vs Q E hr he hb hv hs => codeAny_mono (F.run A outer s H args us vs Q _ hr he hb hv hs) fun r s' z => by
    cases r with
    | ok fl => cases fl <;> exact z
    | error e => obtain ⟨_, _, _, _, _, _, _, _, _, _, _, _, z⟩ := z; exact z.elim⟩
def LawOk (F : Fv) : Prop := ∀ ns : List Int, ns.length ≤ 63 → ∃ outs, F [.sh (.scr ns)] = some (.rt (.s (.bl true)) outs)
theorem law_sp {G : GS} {K : PySem.W.Frag} {mg : Str → Option Value} {F : Fv} (hF : LawOk F) {H : Hp} {a : Addr} {ns : List Int} (hl : ns.length ≤ 63) (hO : Only H) (hS : SqL K H a (ns.map V.int)) : spF G K mg 1 F [.ref a] H (fun v _ => v = .bl true) fun _ _ _ => False := by
  obtain ⟨outs, e⟩ := hF ns hl
  refine ⟨fun _ => False, [.sh (.scr ns)], _, rfl, ⟨rfl, fun _ z => z.elim, fun i s es => ?_, fun i j b h1 h2 => ?_⟩, e, fun v M' H' g na Lo lo => ?_⟩
  · cases i with
    | zero =>
      cases es
      refine ⟨.ref a, rfl, ?_⟩
      rcases hS with (h | ⟨o, h⟩) | h
      · rcases hO a with z | ⟨o, xs, z⟩
        · rw [z] at h; cases h
        · rw [z] at h; cases h
      · exact .scr h id
      · exact .kscr h
    | succ i => simp at es
  · obtain ⟨_, x, ex, ox⟩ := h1
    cases i with
    | zero => cases ex; cases ox
    | succ i => simp at ex
  · cases na; rfl
end TV
namespace TV
open PySem PySem.Spec PyProof.Rows L2
section
variable {ρ : En} {t : Tr} {i j : Nat}
@[simp] theorem tr_sh : (Rs.sh t).tr ρ = some t := rfl
@[simp] theorem tr_fr {ts : List Tr} : (Rs.fr ts).tr ρ = some (.lst ts) := rfl
@[simp] theorem tr_fk {ts : List (Key × Tr)} : (Rs.fk ts).tr ρ = some (.dk ts) := rfl
@[simp] theorem tr_ft {ts : List (List Key × Tr)} : (Rs.ft ts).tr ρ = some (.dt ts) := rfl
@[simp] theorem tr_sl : (Rs.sl i).tr ρ = (match ρ[i]? with | some s => s.tr | none => none) := rfl
@[simp] theorem str_sh : (Sl.sh t).tr = some t := rfl
@[simp] theorem str_ow {ts : List Tr} : (Sl.ow ts).tr = some (.lst ts) := rfl
@[simp] theorem str_ok {ts : List (Key × Tr)} : (Sl.ok ts).tr = some (.dk ts) := rfl
@[simp] theorem str_ot {ts : List (List Key × Tr)} : (Sl.ot ts).tr = some (.dt ts) := rfl
@[simp] theorem own_no : Sl.own .no = false := rfl
@[simp] theorem own_sh : (Sl.sh t).own = false := rfl
@[simp] theorem own_ow {ts : List Tr} : (Sl.ow ts).own = true := rfl
@[simp] theorem own_ok {ts : List (Key × Tr)} : (Sl.ok ts).own = true := rfl
@[simp] theorem own_ot {ts : List (List Key × Tr)} : (Sl.ot ts).own = true := rfl
@[simp] theorem rs_s : (Nw.s t).rs = .sh t := rfl
@[simp] theorem rs_l {ts : List Tr} : (Nw.l ts).rs = .fr ts := rfl
@[simp] theorem rs_k {ts : List (Key × Tr)} : (Nw.k ts).rs = .fk ts := rfl
@[simp] theorem rs_d {ts : List (List Key × Tr)} : (Nw.d ts).rs = .ft ts := rfl
@[simp] theorem fz_sh : (Rs.sh t).fz ρ = some (t, ρ) := rfl
@[simp] theorem fz_fr {ts : List Tr} : (Rs.fr ts).fz ρ = some (.lst ts, ρ) := rfl
@[simp] theorem fz_fk {ts : List (Key × Tr)} : (Rs.fk ts).fz ρ = some (.dk ts, ρ) := rfl
@[simp] theorem fz_ft {ts : List (List Key × Tr)} : (Rs.ft ts).fz ρ = some (.dt ts, ρ) := rfl
@[simp] theorem fz_sl : (Rs.sl i).fz ρ = (match ρ[i]? with | some s => (match s.tr with | some t => some (t, ρ.set i (.sh t)) | none => none) | none => none) := rfl
@[simp] theorem into_sh : (Rs.sh t).into i ρ = some (ρ.set i (.sh t)) := rfl
@[simp] theorem into_fr {ts : List Tr} : (Rs.fr ts).into i ρ = some (ρ.set i (.ow ts)) := rfl
@[simp] theorem into_fk {ts : List (Key × Tr)} : (Rs.fk ts).into i ρ = some (ρ.set i (.ok ts)) := rfl
@[simp] theorem into_ft {ts : List (List Key × Tr)} : (Rs.ft ts).into i ρ = some (ρ.set i (.ot ts)) := rfl
@[simp] theorem into_sl : (Rs.sl j).into i ρ = (match (Rs.sl j).fz ρ with | some (t, ρ') => some (ρ'.set i (.sh t)) | none => none) := rfl
@[simp] theorem argR_f {r : Rs} : argR false ρ r = (match r.fz ρ with | some (t, ρ') => some (.sh t, ρ') | none => none) := rfl
@[simp] theorem argR_sl : argR true ρ (.sl i) = some (.sl i, ρ) := rfl
@[simp] theorem argR_sh : argR true ρ (.sh t) = some (.sh t, ρ) := rfl
@[simp] theorem shs_nil : shs [] = some [] := rfl
@[simp] theorem shs_sh {r : List Rs} : shs (.sh t :: r) = (shs r).map (t :: ·) := rfl
@[simp] theorem trs_nil : trs ρ [] = some [] := rfl
@[simp] theorem trs_cons {r : Rs} {rs : List Rs} : trs ρ (r :: rs) = (match r.tr ρ, trs ρ rs with | some t, some ts => some (t :: ts) | _, _ => none) := rfl
@[simp] theorem keepR_sh : keepR ρ (.sh t) = some (.sh t, ρ) := rfl
@[simp] theorem keepR_fr {ts : List Tr} : keepR ρ (.fr ts) = some (.fr ts, ρ) := rfl
@[simp] theorem keepR_fk {ts : List (Key × Tr)} : keepR ρ (.fk ts) = some (.fk ts, ρ) := rfl
@[simp] theorem keepR_ft {ts : List (List Key × Tr)} : keepR ρ (.ft ts) = some (.ft ts, ρ) := rfl
@[simp] theorem keepR_sl : keepR ρ (.sl i) = (match (Rs.sl i).fz ρ with | some (t, ρ') => some (.sh t, ρ') | none => none) := rfl
@[simp] theorem varE_ : varE i ρ = (match ρ[i]? with | some (.sh t) => some (.ok (.sh t) ρ) | some .no => none | some _ => some (.ok (.sl i) ρ) | none => none) := rfl
@[simp] theorem conE_ : conE t ρ = some (.ok (.sh t) ρ) := rfl
@[simp] theorem binE_ {g : Tr → Tr → Option Nw} {fa fb : Ev} : binE g fa fb ρ = andThen (fa ρ) fun ra ρ1 => andThen (fb ρ1) fun rb ρ2 => match ra.tr ρ2, rb.tr ρ2 with | some ta, some tb => (match g ta tb with | some n => some (.ok n.rs ρ2) | none => none) | _, _ => none := rfl
@[simp] theorem nilA_ : nilA ρ = some (.ok [] ρ) := rfl
@[simp] theorem consA_ {h : Bool} {f : Ev} {fs : Av} : consA h f fs ρ = andThen (f ρ) fun r ρ1 => match argR h ρ1 r with | none => none | some (a, ρ2) => andThen (fs ρ2) fun as ρ3 => some (.ok (a :: as) ρ3) := rfl
@[simp] theorem consK_ {f : Ev} {fs : Av} : consK f fs ρ = andThen (f ρ) fun r ρ1 => match keepR ρ1 r with | none => none | some (a, ρ2) => andThen (fs ρ2) fun as ρ3 => some (.ok (a :: as) ρ3) := rfl
@[simp] theorem tupE_ {fs : Av} : tupE fs ρ = andThen (fs ρ) fun rs ρ1 => match shs rs with | none => none | some ts => if ts.length ≤ sizeLine then some (.ok (.sh (.tup ts)) ρ1) else none := rfl
@[simp] theorem lstE_ {fs : Av} : lstE fs ρ = andThen (fs ρ) fun rs ρ1 => match shs rs with | none => none | some ts => if ts.length ≤ sizeLine then some (.ok (.fr ts) ρ1) else none := rfl
@[simp] theorem bltE_ {g : List Tr → Option Nw} {fs : Av} : bltE g fs ρ = andThen (fs ρ) fun rs ρ1 => match trs ρ1 rs with | none => none | some ts => match g ts with | none => none | some n => some (.ok n.rs ρ1) := rfl
@[simp] theorem ifE_ {c : Tv} {f g : Ev} : ifE c f g ρ = andThen (c ρ) fun b ρ1 => if b = true then f ρ1 else g ρ1 := rfl
@[simp] theorem negE_ {f : Ev} : negE f ρ = andThen (f ρ) fun r ρ1 => match r with | .sh (.int i) => some (.ok (.sh (.int (-i))) ρ1) | _ => none := rfl
@[simp] theorem andE_ {f g : Ev} : andE f g ρ = andThen (f ρ) fun r ρ1 => match r with | .sh (.bl b) => if b = true then g ρ1 else some (.ok (.sh (.bl false)) ρ1) | _ => none := rfl
@[simp] theorem orE_ {f g : Ev} : orE f g ρ = andThen (f ρ) fun r ρ1 => match r with | .sh (.bl b) => if b = true then some (.ok (.sh (.bl true)) ρ1) else g ρ1 | _ => none := rfl
@[simp] theorem notE_ {f : Ev} : notE f ρ = andThen (f ρ) fun r ρ1 => match r with | .sh (.bl b) => some (.ok (.sh (.bl (!b))) ρ1) | _ => none := rfl
@[simp] theorem isiE_ {b : TyK} {f : Ev} : isiE b f ρ = andThen (f ρ) fun r ρ1 => match r.tr ρ1 with | none => none | some t => match tyT t with | none => none | some a => some (.ok (.sh (.bl (subK a b))) ρ1) := rfl
@[simp] theorem chnE_ {g h : Tr → Tr → Option Nw} {fa fb fc : Ev} : chnE g h fa fb fc ρ = andThen (fa ρ) fun ra ρ1 => andThen (fb ρ1) fun rb ρ2 =>
  match ra, rb with
  | .sh ta, .sh tb => (match g ta tb with
    | some (.s (.bl false)) => some (.ok (.sh (.bl false)) ρ2)
    | some (.s (.bl true)) => andThen (fc ρ2) fun rc ρ3 => match rc.tr ρ3 with
      | some tc => (match h tb tc with
        | some n => some (.ok n.rs ρ3)
        | none => none)
      | none => none
    | _ => none)
  | _, _ => none := rfl
@[simp] theorem vmE_ {p : Tr → Bool} {g : Tr → List Tr → Option Nw} {f : Ev} {fs : Av} : vmE p g f fs ρ = andThen (f ρ) fun r ρ1 => match r.tr ρ1 with
  | none => none
  | some t0 => if p t0 = true then (andThen (fs ρ1) fun rs ρ2 => match r.tr ρ2, trs ρ2 rs with
    | some t, some us => (match g t us with
      | some n => some (.ok n.rs ρ2)
      | none => none)
    | _, _ => none) else none := rfl
@[simp] theorem lmE_ {g : List Tr → List Tr → Option (Tr × List Tr)} {fs : Av} : lmE i g fs ρ = (match ρ[i]? with
  | some (.ow _) => andThen (fs ρ) fun rs ρ1 => (match shs rs, ρ1[i]? with
    | some us, some (.ow ts) => if ts.length ≤ sizeLine then (match g ts us with
      | some (t, ts') => some (.ok (.sh t) (ρ1.set i (.ow ts')))
      | none => none) else none
    | _, _ => none)
  | _ => none) := rfl
@[simp] theorem rg1E_ {fa : Ev} : rg1E fa ρ = andThen (fa ρ) fun r ρ1 => match r with | .sh (.int b) => if uptN 16777216 b = true then some (.ok (.fr (upTo 0 b.toNat)) ρ1) else none | _ => none := rfl
@[simp] theorem rg2E_ {fa fb : Ev} : rg2E fa fb ρ = andThen (fa ρ) fun ra ρ1 => andThen (fb ρ1) fun rb ρ2 => match ra, rb with | .sh (.int a), .sh (.int b) => if (uptN 16777216 a && uptN 16777216 b) = true then some (.ok (.fr (upTo a (b - a).toNat)) ρ2) else none | _, _ => none := rfl
@[simp] theorem callE_ {F : Fv} {fs : Av} : callE F fs ρ = andThen (fs ρ) fun rs ρ1 => if (slotsOf rs).Nodup then (match hand ρ1 rs with
  | none => none
  | some args => (match F args with
    | none => none
    | some (.rt n outs) => if outs.length = args.length then some (.ok n.rs (takeBack rs outs ρ1)) else none
    | some (.ex c) => some (.ex c (kill (slotsOf rs) ρ1)))) else none := rfl
@[simp] theorem hand_nilS : hand ρ [] = some [] := rfl
@[simp] theorem hand_shS {rs : List Rs} : hand ρ (.sh t :: rs) = (hand ρ rs).map (.sh t :: ·) := rfl
@[simp] theorem hand_slS {rs : List Rs} : hand ρ (.sl i :: rs) = (match ρ[i]? with | some s => (hand ρ rs).map (s :: ·) | none => none) := rfl
@[simp] theorem slotsOf_nil : slotsOf [] = [] := rfl
@[simp] theorem slotsOf_sh {rs : List Rs} : slotsOf (.sh t :: rs) = slotsOf rs := rfl
@[simp] theorem slotsOf_sl {rs : List Rs} : slotsOf (.sl i :: rs) = i :: slotsOf rs := rfl
@[simp] theorem takeBack_nil : takeBack [] [] ρ = ρ := rfl
@[simp] theorem takeBack_sh {rs : List Rs} {s : Sl} {outs : En} : takeBack (.sh t :: rs) (s :: outs) ρ = takeBack rs outs ρ := rfl
@[simp] theorem takeBack_sl {rs : List Rs} {s : Sl} {outs : En} : takeBack (.sl i :: rs) (s :: outs) ρ = takeBack rs outs (ρ.set i s) := rfl
@[simp] theorem tsb_ {f : Ev} : tsb f ρ = andThen (f ρ) fun r ρ1 => match r with | .sh (.bl b) => some (.ok b ρ1) | _ => none := rfl
@[simp] theorem tst_ {f : Ev} : tst f ρ = andThen (f ρ) fun r ρ1 => match r.tr ρ1 with | none => none | some t => match truT t with | none => none | some b => some (.ok b ρ1) := rfl
@[simp] theorem notT_ {f : Tv} : notT f ρ = andThen (f ρ) fun b ρ1 => some (.ok (!b) ρ1) := rfl
@[simp] theorem andT_ {f g : Tv} : andT f g ρ = andThen (f ρ) fun b ρ1 => if b = true then g ρ1 else some (.ok false ρ1) := rfl
@[simp] theorem orT_ {f g : Tv} : orT f g ρ = andThen (f ρ) fun b ρ1 => if b = true then some (.ok true ρ1) else g ρ1 := rfl
@[simp] theorem itE_ {f : Ev} : itE f ρ = andThen (f ρ) fun r ρ1 => match r.fz ρ1 with | none => none | some (t, ρ2) => match items t with | some ts => some (.ok ts ρ2) | none => none := rfl
theorem rng1E_ {fs : Av} : rng1E fs ρ = andThen (fs ρ) fun rs ρ1 => match rs with | [.sh (.int j)] => if smallI j = true then some (.ok (upTo 0 j.toNat) ρ1) else none | _ => none := rfl
theorem rng2E_ {fs : Av} : rng2E fs ρ = andThen (fs ρ) fun rs ρ1 => match rs with | [.sh (.int i), .sh (.int j)] => if (smallI i && smallI j) = true then some (.ok (upTo i (j - i).toNat) ρ1) else none | _ => none := rfl
theorem rng3E_ {fs : Av} : rng3E fs ρ = andThen (fs ρ) fun rs ρ1 => match rs with | [.sh (.int i), .sh (.int j), .sh (.int c)] => (match rngN i j c with | some n => some (.ok (upFrom i c n) ρ1) | none => none) | _ => none := rfl
@[simp] theorem skipS_ : skipS ρ = some (.nx ρ) := rfl
@[simp] theorem brkS_ : brkS ρ = some (.bk ρ) := rfl
@[simp] theorem cntS_ : cntS ρ = some (.ct ρ) := rfl
@[simp] theorem retN_ : retN ρ = some (.rt (.sh .non) ρ) := rfl
@[simp] theorem retS_ {f : Ev} : retS f ρ = thenS (f ρ) fun r ρ1 => some (.rt r ρ1) := rfl
@[simp] theorem expS_ {f : Ev} : expS f ρ = thenS (f ρ) fun _ ρ1 => some (.nx ρ1) := rfl
@[simp] theorem raiS_ {c : Str} : raiS c ρ = some (.ex c ρ) := rfl
@[simp] theorem seqS_ {f g : Sv} : seqS f g ρ = (match f ρ with | none => none | some (.nx ρ1) => g ρ1 | some o => some o) := rfl
@[simp] theorem ifS_ {c : Tv} {f g : Sv} : ifS c f g ρ = thenS (c ρ) fun b ρ1 => if b = true then f ρ1 else g ρ1 := rfl
@[simp] theorem setS_ {P : List Nat} {f : Ev} : setS P i f ρ = thenS (f ρ) fun r ρ1 => if i ∈ P ∨ ¬ i < ρ1.length then none else match r.into i ρ1 with | some ρ2 => some (.nx ρ2) | none => none := rfl
@[simp] theorem augS_ {P : List Nat} {g : Int → Int → Option Int} {f : Ev} : augS P i g f ρ = (match ρ[i]? with
  | some (.sh (.int a)) => thenS (f ρ) fun r ρ1 => (match r with
    | .sh (.int b) => (match g a b with
      | some c => if i ∈ P ∨ ¬ i < ρ1.length then none else some (.nx (ρ1.set i (.sh (.int c))))
      | none => none)
    | _ => none)
  | _ => none) := rfl
@[simp] theorem iAdd_ {a b : Int} : iAdd a b = some (a + b) := rfl
@[simp] theorem iSub_ {a b : Int} : iSub a b = some (a - b) := rfl
@[simp] theorem asgS_ {P : List Nat} {tg : Tg} {f : Ev} : asgS P tg f ρ = thenS (f ρ) fun r ρ1 => match r.fz ρ1 with | none => none | some (t, ρ2) => match asgT P tg t ρ2 with | some ρ3 => some (.nx ρ3) | none => none := rfl
@[simp] theorem parS_ {P is : List Nat} {fs : Av} : parS P is fs ρ = thenS (fs ρ) fun rs ρ1 => if rs.length ≤ sizeLine then (match putAll P is rs ρ1 with | some ρ2 => some (.nx ρ2) | none => none) else none := rfl
@[simp] theorem putAll_nil {P : List Nat} : putAll P [] [] ρ = some ρ := rfl
@[simp] theorem putAll_cons {P is : List Nat} {r : Rs} {rs : List Rs} : putAll P (i :: is) (r :: rs) ρ = if i ∈ P ∨ ¬ i < ρ.length then none else match r.into i ρ with | some ρ' => putAll P is rs ρ' | none => none := rfl
@[simp] theorem stoS_ {ban : Tr → Bool} {fk fv : Ev} : stoS ban i fk fv ρ = thenS (fv ρ) fun rv ρ1 => match rv.fz ρ1 with
  | none => none
  | some (t, ρ2) => match ρ2[i]? with
    | none => none
    | some s0 => if s0.own = true then thenS (fk ρ2) fun rk ρ3 => (match rk, ρ3[i]? with
      | .sh tk, some s => (match stoSl ban s tk t with
        | some s' => some (.nx (ρ3.set i s'))
        | none => none)
      | _, _ => none) else none := rfl
@[simp] theorem stoK_ {fk : Av} {fv : Ev} : stoK i fk fv ρ = thenS (fv ρ) fun rv ρ1 => match rv.fz ρ1 with
  | none => none
  | some (t, ρ2) => match ρ2[i]? with
    | some (.ot _) => thenS (fk ρ2) fun rk ρ3 => (match shs rk with
      | none => none
      | some ks => (match toKeys ks, ρ3[i]? with
        | some k, some (.ot kvs) => if kvs.length < sizeLine ∧ k.length ≤ sizeLine then some (.nx (ρ3.set i (.ot (putT kvs k t)))) else none
        | _, _ => none))
    | _ => none := rfl
@[simp] theorem forS_ {P : List Nat} {src : Iv} {tg : Tg} {ks : List Nat} {body : Sv} : forS P src tg ks body ρ = thenS (src ρ) fun ts ρ1 => forL P tg ks body ts (kill ks ρ1) := rfl
@[simp] theorem whileS_ {c : Tv} {ks : List Nat} {body : Sv} {n : Nat} : whileS c ks body n ρ = whileL c ks body n (kill ks ρ) := rfl
@[simp] theorem compE_ {vs : List Nat} {src : Iv} {tg : Tg} {ct : Tv} {elt : Ev} : compE vs src tg ct elt ρ = andThen (src ρ) fun ts ρ1 => match compL vs tg ct elt ts [] (kill vs ρ1) with | some (acc, ρ2) => some (.ok (.fr acc) (restore vs ρ1 ρ2)) | none => none := rfl
@[simp] theorem yesT_ : yesT ρ = some (.ok true ρ) := rfl
@[simp] theorem kill_nil : kill [] ρ = ρ := rfl
@[simp] theorem kill_cons {ks : List Nat} : kill (i :: ks) ρ = kill ks (ρ.set i .no) := rfl
@[simp] theorem restore_nil {ρ' : En} : restore [] ρ' ρ = ρ := rfl
@[simp] theorem restore_cons {ks : List Nat} {ρ' : En} : restore (i :: ks) ρ' ρ = (match ρ'[i]? with | some s => (restore ks ρ' ρ).set i s | none => restore ks ρ' ρ) := rfl
@[simp] theorem asgT_nm {P : List Nat} : asgT P (.nm i) t ρ = if i ∈ P ∨ ¬ i < ρ.length then none else some (ρ.set i (.sh t)) := by simp only [asgT]
@[simp] theorem asgT_tp {P : List Nat} {gs : List Tg} {ts : List Tr} : asgT P (.tp gs) (.tup ts) ρ = if gs.length = ts.length then asgTs P gs ts ρ else none := by simp only [asgT]
@[simp] theorem asgTs_nil {P : List Nat} : asgTs P [] [] ρ = some ρ := by rw [asgTs]
@[simp] theorem asgTs_cons {P : List Nat} {g : Tg} {gs : List Tg} {ts : List Tr} : asgTs P (g :: gs) (t :: ts) ρ = match asgT P g t ρ with | some ρ' => asgTs P gs ts ρ' | none => none := by rw [asgTs] <;> (cases asgT P g t ρ <;> rfl)
@[simp] theorem dspT_ {l : List (Av × Ev)} : dspT l ρ = andThen (prsT l ρ) fun kvs ρ1 => if kvs.length ≤ 15 then some (.ok (.ft (kvs.foldl (fun acc kv => putT acc kv.1 kv.2) [])) ρ1) else none := rfl
@[simp] theorem items_lst {ts : List Tr} : items (.lst ts) = some ts := rfl
@[simp] theorem items_tup {ts : List Tr} : items (.tup ts) = some ts := rfl
@[simp] theorem items_scr {ns : List Int} : items (.scr ns) = some (ns.map Tr.int) := rfl
end
@[simp] theorem szl : sizeLine = 16777216 := sizeLine_eq
end TV
namespace TV
open PySem PySem.Spec PyProof.Rows L2
theorem forL_fold {S : Type} (enc : S → En) (st : S → Tr → S) (Inv : S → Prop) {P : List Nat} {tg : Tg} {ks : List Nat} {body : Sv} : ∀ (ts : List Tr) (s : S), Inv s →
    (∀ s, Inv s → ∀ t ∈ ts, ∃ ρ1 ρ2, asgT P tg t (enc s) = some ρ1 ∧ (body ρ1 = some (.nx ρ2) ∨ body ρ1 = some (.ct ρ2)) ∧ kill ks ρ2 = enc (st s t) ∧ Inv (st s t)) →
    forL P tg ks body ts (enc s) = some (.nx (enc (ts.foldl st s))) ∧ Inv (ts.foldl st s)
  | [], s, hi, _ => ⟨rfl, hi⟩
  | t :: ts, s, hi, h => by
    obtain ⟨ρ1, ρ2, h1, h2, h3, h4⟩ := h s hi t List.mem_cons_self
    have ih := forL_fold enc st Inv (P := P) (tg := tg) (ks := ks) (body := body) ts (st s t) h4 fun s hs u hu => h s hs u (List.mem_cons_of_mem _ hu)
    unfold forL
    rw [h1]
    dsimp only
    rcases h2 with h2 | h2
    · rw [h2]
      dsimp only
      rw [h3]
      exact ih
    · rw [h2]
      dsimp only
      rw [h3]
      exact ih
def loopN {S : Type} (cond : S → Bool) (step : S → S) : Nat → S → S
  | 0, s => s
  | n + 1, s => if cond s = true then loopN cond step n (step s) else s
theorem whileL_loop {S : Type} (enc : S → En) (cond : S → Bool) (step : S → S) (Inv : S → Prop) (μ : S → Nat) {c : Tv} {ks : List Nat} {body : Sv}
    (hc : ∀ s, Inv s → c (enc s) = some (.ok (cond s) (enc s)))
    (hb : ∀ s, Inv s → cond s = true → ∃ ρ, (body (enc s) = some (.nx ρ) ∨ body (enc s) = some (.ct ρ)) ∧ kill ks ρ = enc (step s) ∧ Inv (step s) ∧ μ (step s) < μ s) :
    ∀ (m : Nat) (n : Nat) (s : S), Inv s → μ s ≤ m → m < n → whileL c ks body n (enc s) = some (.nx (enc (loopN cond step m s))) ∧ Inv (loopN cond step m s) ∧ cond (loopN cond step m s) = false := by
  intro m
  induction m with
  | zero =>
    intro n s hi hm hn
    obtain ⟨n, rfl⟩ : ∃ k, n = k + 1 := ⟨n - 1, by omega⟩
    have c0 : cond s = false := by
      cases q : cond s with
      | false => rfl
      | true =>
        obtain ⟨_, _, _, _, h⟩ := hb s hi q
        omega
    unfold whileL
    rw [hc s hi]
    rw [thenS_ok, c0, if_neg Bool.false_ne_true]
    exact ⟨rfl, hi, c0⟩
  | succ m ih =>
    intro n s hi hm hn
    obtain ⟨n, rfl⟩ : ∃ k, n = k + 1 := ⟨n - 1, by omega⟩
    unfold whileL loopN
    rw [hc s hi]
    cases q : cond s with
    | false =>
      rw [thenS_ok, if_neg Bool.false_ne_true]
      rw [if_neg Bool.false_ne_true]
      exact ⟨rfl, hi, q⟩
    | true =>
      obtain ⟨ρ, h1, h2, h3, h4⟩ := hb s hi q
      rw [thenS_ok, if_pos rfl]
      rw [if_pos rfl]
      rcases h1 with h1 | h1
      · rw [h1]
        dsimp only
        rw [h2]
        exact ih n (step s) h3 (by omega) (by omega)
      · rw [h1]
        dsimp only
        rw [h2]
        exact ih n (step s) h3 (by omega) (by omega)
theorem compL_map {vs : List Nat} {tg : Tg} {ct : Tv} {elt : Ev} {ρ : En} (p : Tr → Bool) (f : Tr → Tr) : ∀ (ts acc : List Tr), acc.length + ts.length ≤ sizeLine →
    (∀ t ∈ ts, ∃ ρ1 ρ2, asgT [] tg t ρ = some ρ1 ∧ ct ρ1 = some (.ok (p t) ρ2) ∧ kill vs ρ2 = ρ ∧ (p t = true → ∃ r ρ3 ρ4, elt ρ2 = some (.ok r ρ3) ∧ r.fz ρ3 = some (f t, ρ4) ∧ kill vs ρ4 = ρ)) →
    compL vs tg ct elt ts acc ρ = some (acc ++ (ts.filter p).map f, ρ)
  | [], acc, _, _ => by simp [compL]
  | t :: ts, acc, hl, h => by
    obtain ⟨ρ1, ρ2, h1, h2, h3, h4⟩ := h t List.mem_cons_self
    rw [List.length_cons] at hl
    unfold compL
    rw [h1]
    dsimp only
    rw [h2]
    cases q : p t with
    | false =>
      dsimp only
      rw [h3, compL_map p f ts acc (by omega) fun u hu => h u (List.mem_cons_of_mem _ hu)]
      simp [q]
    | true =>
      obtain ⟨r, ρ3, ρ4, h5, h6, h7⟩ := h4 q
      dsimp only
      rw [h5]
      dsimp only
      rw [h6]
      dsimp only
      rw [if_pos (by omega), h7, compL_map p f ts (acc ++ [f t]) (by rw [List.length_append, List.length_singleton]; omega) fun u hu => h u (List.mem_cons_of_mem _ hu)]
      simp [q]
abbrev ti (ns : List Int) : List Tr := ns.map Tr.int
def takeM : Fv := runF 2 2 [0] (seqS (ifS (tsb (binE gEq (bltE (f1 gLen) (consA true (varE 0) nilA)) (conE (.int 0)))) (retS (conE (.int 0))) skipS)
 (retS (binE gMod (bltE (f1 gInt) (consA true (lmE 0 mPop nilA) nilA)) (varE 1))))
def takeR (ds : List Int) (b : Int) : Int := match ds.getLast? with
  | none => 0
  | some d => d % b
theorem shp_int (i : Int) : shp (.int i) = true := rfl
theorem eqT_int (i j : Int) : eqT (.int i) (.int j) = decide (i = j) := by
  by_cases h : i = j <;> simp [eqT, dat, PyData.eqv, h]
theorem ti_cons (x : Int) (s : List Int) : ti (x :: s) = .int x :: ti s := rfl
theorem dats_ti (s : List Int) : dats (ti s) = s.map PyData.int := by
  rw [dats_map, List.map_map]
  exact List.map_congr_left fun x _ => by simp [dat]
theorem canAll_ints : ∀ s : List Int, PyData.canLayAll0 (s.map PyData.int) = true
  | [] => by simp [PyData.canLayAll0]
  | x :: s => by simp [PyData.canLayAll0, PyData.canLay0, canAll_ints s]
theorem depthAll_ints : ∀ s : List Int, PyData.depthAll (s.map PyData.int) ≤ 1
  | [] => by simp [PyData.depthAll]
  | x :: s => by
    have := depthAll_ints s
    simp [PyData.depthAll, PyData.depth]
    try omega
theorem shp_ti (s : List Int) : shp (.lst (ti s)) = true := by
  have h := depthAll_ints s
  unfold shp SeqAt.shaped
  rw [dat, dats_ti]
  simp [PyData.canLay0, canAll_ints, PyData.depth]
  try omega
theorem shp_tup_ti (s : List Int) : shp (.tup (ti s)) = true := by
  have h := depthAll_ints s
  unfold shp SeqAt.shaped
  rw [dat, dats_ti]
  simp [PyData.canLay0, canAll_ints, PyData.depth]
  try omega
theorem all_shp_ti (s : List Int) : (ti s).all shp = true := by
  rw [List.all_map]
  exact List.all_eq_true.mpr fun x _ => rfl
theorem memT_ti (a : Int) : ∀ s : List Int, memT (.int a) (ti s) = decide (a ∈ s)
  | [] => rfl
  | x :: s => by
    have ih := memT_ti a s
    unfold memT at ih ⊢
    rw [ti_cons, List.any_cons, ih, eqT_int]
    by_cases h : x = a
    · simp [h]
    · simp [h, Ne.symm h]
theorem gIn_ti (a : Int) (s : List Int) : gIn false (.int a) (.lst (ti s)) = some (.s (.bl (decide (a ∈ s)))) := by
  unfold gIn
  simp [shp_int, shp_ti, memT_ti]
theorem count_ti (a : Int) : ∀ s : List Int, ((ti s).countP fun z => eqT z (.int a)) = s.count a
  | [] => rfl
  | x :: s => by
    rw [ti_cons, List.countP_cons, count_ti a s, List.count_cons, eqT_int]
    by_cases h : x = a <;> simp [h]
theorem gCount_ti (a : Int) (s : List Int) : gCount (.lst (ti s)) [.int a] = some (.s (.int (s.count a : Nat))) := by
  unfold gCount
  simp only [all_shp_ti, shp_int, Bool.and_self, if_true, count_ti]
theorem find_ti (a : Int) : ∀ s : List Int, a ∈ s → ∃ j, ((ti s).findIdx? fun z => eqT z (.int a)) = some j ∧ (ti s).eraseIdx j = ti (s.erase a)
  | [], h => by simp at h
  | x :: s, h => by
    by_cases e : x = a
    · exact ⟨0, by simp [List.findIdx?_cons, eqT_int, e], by simp [e]⟩
    · obtain ⟨j, h1, h2⟩ := find_ti a s (by rcases List.mem_cons.mp h with z | z; exact absurd z.symm e; exact z)
      refine ⟨j + 1, by simp [List.findIdx?_cons, eqT_int, e, h1], ?_⟩
      rw [List.erase_cons_tail (by simpa using e)]
      simp [h2]
theorem mRemove_ti (a : Int) (s : List Int) (h : a ∈ s) : mRemove (ti s) [.int a] = some (.non, ti (s.erase a)) := by
  obtain ⟨j, h1, h2⟩ := find_ti a s h
  unfold mRemove
  simp only [all_shp_ti, shp_int, Bool.and_self, if_true, h1, h2]
theorem mPop0_ti (a : Int) (s : List Int) : mPopAt (ti (a :: s)) [.int 0] = some (.int a, ti s) := by
  simp [mPopAt, seqIndex?]
theorem gEq_int (a b : Int) : gEq (.int a) (.int b) = some (.s (.bl (decide (a = b)))) := by
  simp [gEq, shp_int, eqT_int]
theorem gNe_int (a b : Int) : gNe (.int a) (.int b) = some (.s (.bl (!decide (a = b)))) := by
  simp [gNe, shp_int, eqT_int]
theorem ti_len (s : List Int) : (ti s).length = s.length := List.length_map _
theorem takeM_nil (b : Int) : takeM [.ow [], .sh (.int b)] = some (.rt (.s (.int 0)) [.ow [], .no]) := by
  simp [takeM, runF, inP, List.range_succ, gLen, f1, gEq, shp_int, eqT_int, exitV, outsOf]
theorem takeM_snoc (xs : List Int) (d b : Int) (hb : 0 < b) (hl : xs.length < 16777216) : takeM [.ow (ti (xs ++ [d])), .sh (.int b)] = some (.rt (.s (.int (d % b))) [.ow (ti xs), .no]) := by
  have h1 : ¬ ((xs.length : Int) + 1 = 0) := by omega
  have h2 : xs.length + 1 ≤ 16777216 := by omega
  simp [takeM, runF, inP, List.range_succ, gLen, f1, gEq, shp_int, eqT_int, exitV, outsOf, gInt, gMod, gI, posI_iff.mpr hb, mPop, h1, h2]
theorem takeM_ok (ds : List Int) (b : Int) (hb : 0 < b) (hl : ds.length ≤ 16777216) : takeM [.ow (ti ds), .sh (.int b)] = some (.rt (.s (.int (takeR ds b))) [.ow (ti ds.dropLast), .no]) := by
  rcases List.eq_nil_or_concat ds with rfl | ⟨xs, d, rfl⟩
  · exact takeM_nil b
  · rw [List.concat_eq_append] at hl ⊢
    have h : xs.length < 16777216 := by simp at hl; omega
    rw [takeM_snoc xs d b hb h]
    simp [takeR]
theorem takeR_lt (ds : List Int) (b : Int) (hb : 0 < b) : 0 ≤ takeR ds b ∧ takeR ds b < b := by
  unfold takeR
  split
  · exact ⟨Int.le_refl _, hb⟩
  · exact ⟨Int.emod_nonneg _ (by omega), Int.emod_lt_of_pos _ hb⟩
@[simp] theorem gAdd_int (i j : Int) : gAdd (.int i) (.int j) = some (.s (.int (i + j))) := rfl
@[simp] theorem gSub_int (i j : Int) : gSub (.int i) (.int j) = some (.s (.int (i - j))) := rfl
@[simp] theorem gLt_int (i j : Int) : gLt (.int i) (.int j) = some (.s (.bl (decide (i < j)))) := rfl
@[simp] theorem gLe_int (i j : Int) : gLe (.int i) (.int j) = some (.s (.bl (decide (i ≤ j)))) := rfl
@[simp] theorem gGt_int (i j : Int) : gGt (.int i) (.int j) = some (.s (.bl (decide (j < i)))) := rfl
@[simp] theorem gGe_int (i j : Int) : gGe (.int i) (.int j) = some (.s (.bl (decide (j ≤ i)))) := rfl
@[simp] theorem gInt_int (i : Int) : gInt (.int i) = some (.s (.int i)) := rfl
@[simp] theorem gInt_bl (b : Bool) : gInt (.bl b) = some (.s (.int (if b then 1 else 0))) := rfl
@[simp] theorem gLen_lst (s : List Tr) : gLen (.lst s) = some (.s (.int (s.length : Nat))) := rfl
@[simp] theorem gLen_tup (s : List Tr) : gLen (.tup s) = some (.s (.int (s.length : Nat))) := rfl
theorem gMod_int {i j : Int} (h : 0 < j) : gMod (.int i) (.int j) = some (.s (.int (i % j))) := by simp [gMod, gI, posI_iff.mpr h]
theorem gDiv_int {i j : Int} (h : divOk j = true) : gDiv (.int i) (.int j) = some (.s (.int (i / j))) := by simp [gDiv, gI, h]
theorem gMul_int {i j : Int} (h : mulOk i j = true) : gMul (.int i) (.int j) = some (.s (.int (i * j))) := by simp [gMul, h]
theorem gIx_lst {s : List Tr} {i : Nat} {t : Tr} (h : s[i]? = some t) : gIx (.lst s) (.int (i : Nat)) = some (.s t) := by
  have hl : i < s.length := (List.getElem?_eq_some_iff.mp h).1
  have e : (i : Int) < (s.length : Int) := by omega
  simp [gIx, isDict, gIxS, atI, ixN, e, h]
theorem gIx_tup {s : List Tr} {i : Nat} {t : Tr} (h : s[i]? = some t) : gIx (.tup s) (.int (i : Nat)) = some (.s t) := by
  have hl : i < s.length := (List.getElem?_eq_some_iff.mp h).1
  have e : (i : Int) < (s.length : Int) := by omega
  simp [gIx, isDict, gIxS, atI, ixN, e, h]
theorem ti_get {s : List Int} {i : Nat} {a : Int} (h : s[i]? = some a) : (ti s)[i]? = some (.int a) := by simp [h]
def onI (p : Int → Bool) : Tr → Bool
  | .int x => p x
  | _ => false
def mapI (f : Int → Tr) : Tr → Tr
  | .int x => f x
  | _ => .non
@[simp] theorem onI_int (p : Int → Bool) (x : Int) : onI p (.int x) = p x := rfl
@[simp] theorem mapI_int (f : Int → Tr) (x : Int) : mapI f (.int x) = f x := rfl
theorem filter_ti (p : Int → Bool) (s : List Int) : (ti s).filter (onI p) = ti (s.filter p) := by
  rw [List.filter_map]
  rfl
theorem map_ti (f : Int → Tr) (s : List Int) : (ti s).map (mapI f) = s.map f := by
  rw [List.map_map]
  rfl
def upI (n : Nat) : List Int := (List.range n).map fun i => ((i : Nat) : Int)
theorem upTo_ti (n : Nat) : TV.upTo 0 n = ti (upI n) := by
  unfold TV.upTo upI ti
  rw [List.map_map]
  exact List.map_congr_left fun x _ => by simp
theorem upI_len (n : Nat) : (upI n).length = n := by simp [upI]
theorem compL_ints {vs : List Nat} {tg : Tg} {ct : Tv} {elt : Ev} {ρ : En} (p : Int → Bool) (s : List Int) (hl : s.length ≤ 16777216)
    (h : ∀ x ∈ s, ∃ ρ1, asgT [] tg (.int x) ρ = some ρ1 ∧ ct ρ1 = some (.ok (p x) ρ1) ∧ kill vs ρ1 = ρ ∧ elt ρ1 = some (.ok (.sh (.int x)) ρ1)) :
    compL vs tg ct elt (ti s) [] ρ = some (ti (s.filter p), ρ) := by
  have := compL_map (vs := vs) (tg := tg) (ct := ct) (elt := elt) (ρ := ρ) (onI p) id (ti s) [] (by simpa using hl) fun t ht => by
    obtain ⟨x, hx, rfl⟩ := List.mem_map.mp ht
    obtain ⟨ρ1, h1, h2, h3, h4⟩ := h x hx
    exact ⟨ρ1, ρ1, h1, h2, h3, fun _ => ⟨_, ρ1, ρ1, h4, rfl, h3⟩⟩
  rw [this, filter_ti]
  simp
theorem compL_intsM {vs : List Nat} {tg : Tg} {ct : Tv} {elt : Ev} {ρ : En} (p : Int → Bool) (f : Int → Tr) (s : List Int) (hl : s.length ≤ 16777216)
    (h : ∀ x ∈ s, ∃ ρ1, asgT [] tg (.int x) ρ = some ρ1 ∧ ct ρ1 = some (.ok (p x) ρ1) ∧ kill vs ρ1 = ρ ∧ (p x = true → ∃ r ρ3 ρ4, elt ρ1 = some (.ok r ρ3) ∧ r.fz ρ3 = some (f x, ρ4) ∧ kill vs ρ4 = ρ)) :
    compL vs tg ct elt (ti s) [] ρ = some ((s.filter p).map f, ρ) := by
  have := compL_map (vs := vs) (tg := tg) (ct := ct) (elt := elt) (ρ := ρ) (onI p) (mapI f) (ti s) [] (by simpa using hl) fun t ht => by
    obtain ⟨x, hx, rfl⟩ := List.mem_map.mp ht
    obtain ⟨ρ1, h1, h2, h3, h4⟩ := h x hx
    exact ⟨ρ1, ρ1, h1, h2, h3, h4⟩
  rw [this, filter_ti, map_ti]
  simp
theorem small_ok (n : Nat) (h : n ≤ 100000) : smallI (n : Int) = true := smallI_iff.mpr ⟨by omega, by omega⟩
theorem smallI_ok {i : Int} (h1 : -1000000000000000 ≤ i) (h2 : i ≤ 1000000000000000) : smallI i = true := smallI_iff.mpr ⟨by omega, by omega⟩
theorem mulOk_ok {i j : Int} (h1 : -1000000000000000 ≤ i) (h2 : i ≤ 1000000000000000) : mulOk i j = true := mulOk_iff.mpr (.inr (.inl ⟨by omega, by omega⟩))
theorem mulOk_ok2 {i j : Int} (h1 : -1000000000000000 ≤ j) (h2 : j ≤ 1000000000000000) : mulOk i j = true := mulOk_iff.mpr (.inl ⟨by omega, by omega⟩)
theorem divOk_ok {j : Int} (h1 : 0 < j) (h2 : j < 1073741824) : divOk j = true := divOk_iff.mpr ⟨h1, .inl h2⟩
theorem posI_ok {j : Int} (h1 : 0 < j) : posI j = true := posI_iff.mpr h1
theorem nnI_ok {j : Int} (h1 : 0 ≤ j) : nnI j = true := nnI_iff.mpr h1
theorem uptN_ok {m : Nat} {j : Int} (h1 : 0 ≤ j) (h2 : j ≤ (m : Int)) : uptN m j = true := uptN_iff.mpr ⟨h1, h2⟩
theorem rng1_ok {fs : Av} {ρ ρ1 : En} {j : Int} (h : fs ρ = some (.ok [.sh (.int j)] ρ1)) (hs : smallI j = true) : rng1E fs ρ = some (.ok (TV.upTo 0 j.toNat) ρ1) := by
  unfold rng1E
  rw [h]
  exact if_pos hs
theorem rng1_nat {fs : Av} {ρ ρ1 : En} {n : Nat} (h : fs ρ = some (.ok [.sh (.int n)] ρ1)) (hn : n ≤ 100000) : rng1E fs ρ = some (.ok (TV.upTo 0 n) ρ1) := rng1_ok h (small_ok n hn)
theorem gAdd_lst {x y : List Tr} (h : x.length + y.length ≤ 16777216) : gAdd (.lst x) (.lst y) = some (.l (x ++ y)) := by
  show (if x.length + y.length ≤ sizeLine then some (Nw.l (x ++ y)) else none) = _
  exact if_pos (by rw [sizeLine_eq]; exact h)
theorem forL_step {P : List Nat} {tg : Tg} {ks : List Nat} {body : Sv} {t : Tr} {ts : List Tr} {ρ ρ1 ρ2 : En} {o : Option So} (a : asgT P tg t ρ = some ρ1) (b : body ρ1 = some (.nx ρ2)) (c : forL P tg ks body ts (kill ks ρ2) = o) : forL P tg ks body (t :: ts) ρ = o := by
  rw [forL, a]
  dsimp only
  rw [b]
  exact c
end TV
namespace TV
open PySem PySem.Spec PyProof.Rows L2
theorem forL_inv (I : Nat → En → Prop) {P : List Nat} {tg : Tg} {ks : List Nat} {body : Sv} : ∀ (ts : List Tr) (i : Nat) (ρ : En), I i ρ →
    (∀ (j : Nat) (t : Tr) (ρ : En), ts[j]? = some t → I (i + j) ρ → ∃ ρ1 ρ2, asgT P tg t ρ = some ρ1 ∧ (body ρ1 = some (.nx ρ2) ∨ body ρ1 = some (.ct ρ2)) ∧ I (i + j + 1) (kill ks ρ2)) →
    ∃ ρ', forL P tg ks body ts ρ = some (.nx ρ') ∧ I (i + ts.length) ρ'
  | [], i, ρ, h, _ => ⟨ρ, rfl, h⟩
  | t :: ts, i, ρ, h, st => by
    obtain ⟨ρ1, ρ2, h1, h2, h3⟩ := st 0 t ρ rfl h
    obtain ⟨ρ', e, h4⟩ := forL_inv I (P := P) (tg := tg) (ks := ks) (body := body) ts (i + 1) (kill ks ρ2) h3 fun j u ρ hu hi => by
      have e : i + 1 + j = i + (j + 1) := by omega
      rw [e] at hi ⊢
      exact st (j + 1) u ρ hu hi
    refine ⟨ρ', ?_, by rw [List.length_cons, show i + (ts.length + 1) = i + 1 + ts.length by omega]; exact h4⟩
    rw [forL, h1]
    dsimp only
    rcases h2 with h2 | h2 <;> rw [h2] <;> exact e
def drB0 : Sv := (ifS (tsb (binE gGt (varE 5) (conE (.int 0)))) (seqS (expS (lmE 1 mAppend (consA false (binE gMod (bltE (f1 gInt) (consA true (varE 5) nilA)) (conE (.int 997))) nilA)))
 (setS [] 5 (binE gDiv (varE 5) (conE (.int 997))))) skipS)
def drB1 : Sv := (seqS (setS [] 5 (bltE (f1 gAbs) (consA true (varE 2) nilA)))
 (seqS (ifS (tsb (binE gLt (varE 5) (binE gPow (conE (.int 10)) (conE (.int 18))))) (seqS (setS [] 6 (binE gMod (bltE (f1 gInt) (consA true (binE gAdd (binE gMul (varE 5) (conE (.int 48271))) (conE (.int 11))) nilA)) (conE (.int 2147483647))))
 (seqS (expS (lmE 1 mAppend (consA false (binE gMod (bltE (f1 gInt) (consA true (binE gAdd (binE gMul (varE 6) (conE (.int 69621))) (varE 5)) nilA)) (conE (.int 2147483629))) nilA)))
 (seqS (expS (lmE 1 mAppend (consA false (binE gMod (bltE (f1 gInt) (consA true (binE gAdd (varE 6) (binE gDiv (varE 5) (conE (.int 7)))) nilA)) (conE (.int 1000003))) nilA)))
 (setS [] 5 (conE (.int 0)))))) skipS)
 (forS [] (rng1E (consA false (conE (.int 60)) nilA)) (.nm 4) [2, 3, 4, 6]
 drB0)))
def drB2 : Sv := (seqS (setS [] 3 (binE gMod (bltE (f1 gInt) (consA true (binE gAdd (binE gMul (varE 3) (conE (.int 48271))) (conE (.int 69621))) nilA)) (conE (.int 2147483647))))
 (expS (lmE 1 mAppend (consA false (binE gDiv (varE 3) (conE (.int 5))) nilA))))
def drawsM : Fv := runF 1 7 [] (seqS (setS [] 1 (lstE nilA))
 (seqS (forS [] (itE (varE 0)) (.nm 2) [2, 3, 4, 5, 6]
 drB1)
 (seqS (setS [] 3 (conE (.int 1)))
 (seqS (ifS (tsb (binE gGt (bltE (f1 gLen) (consA true (varE 0) nilA)) (conE (.int 0)))) (setS [] 3 (binE gAdd (conE (.int 1)) (bltE (f1 gAbs) (consA true (binE gIx (varE 0) (conE (.int 0))) nilA)))) skipS)
 (seqS (forS [] (rng1E (consA false (conE (.int 900)) nilA)) (.nm 4) [0, 2, 4, 5, 6]
 drB2)
 (retS (revE (varE 1))))))))
def DrI (z w : Sl) (n : Nat) (ρ : En) : Prop := ∃ (ds : List Int) (m : Int), ds.length ≤ n ∧ ρ = [z, .ow (ti ds), .no, .no, .no, .sh (.int m), .no]
theorem dr0 {z : Sl} {n i : Nat} {t : Tr} {ρ : En} (hn : n ≤ 100000) (h : DrI z .no n ρ) : ∃ ρ1 ρ2, asgT [] (.nm 4) t ρ = some ρ1 ∧ (drB0 ρ1 = some (.nx ρ2) ∨ drB0 ρ1 = some (.ct ρ2)) ∧ DrI z .no (n + 1) (kill [2, 3, 4, 6] ρ2) := by
  obtain ⟨ds, m, hl, rfl⟩ := h
  refine ⟨[z, .ow (ti ds), .no, .no, .sh t, .sh (.int m), .no], ?_⟩
  by_cases c : 0 < m
  · refine ⟨[z, .ow (ti (ds ++ [m % 997])), .no, .no, .sh t, .sh (.int (m / 997)), .no], by simp, .inl ?_, ds ++ [m % 997], m / 997, by simp; omega, by simp⟩
    have hl2 : ds.length < 16777216 := by omega
    have hl3 : ds.length ≤ 16777216 := by omega
    have c1 : posI 997 = true := rfl
    have c2 : divOk 997 = true := rfl
    simp [drB0, c, gMod, gDiv, gI, c1, c2, mAppend, hl2, hl3]
  · refine ⟨[z, .ow (ti ds), .no, .no, .sh t, .sh (.int m), .no], by simp, .inl ?_, ds, m, by omega, by simp⟩
    simp [drB0, c]
theorem dr0_all {z : Sl} {ds : List Int} {m : Int} (hl : ds.length ≤ 90000) : ∃ (ds' : List Int) (m' : Int), ds'.length ≤ ds.length + 60 ∧ forL [] (.nm 4) [2, 3, 4, 6] drB0 (TV.upTo 0 60) [z, .ow (ti ds), .no, .no, .no, .sh (.int m), .no] = some (.nx [z, .ow (ti ds'), .no, .no, .no, .sh (.int m'), .no]) := by
  obtain ⟨ρ', e, ds', m', h1, rfl⟩ := forL_inv (fun j ρ => DrI z .no (ds.length + j) ρ) (P := []) (tg := .nm 4) (ks := [2, 3, 4, 6]) (body := drB0) (TV.upTo 0 60) 0 [z, .ow (ti ds), .no, .no, .no, .sh (.int m), .no] ⟨ds, m, by omega, rfl⟩ fun j t ρ hj h => by
    have hj : j < 60 := by have := (List.getElem?_eq_some_iff.mp hj).1; simpa [TV.upTo] using this
    have := dr0 (i := 0) (t := t) (n := ds.length + (0 + j)) (by omega) h
    rw [show ds.length + (0 + j) + 1 = ds.length + (0 + j + 1) by omega] at this
    exact this
  exact ⟨ds', m', by simpa [TV.upTo] using h1, e⟩
def DrO (z : Sl) (n : Nat) (ρ : En) : Prop := ∃ ds : List Int, ds.length ≤ n ∧ ρ = [z, .ow (ti ds), .no, .no, .no, .no, .no]
theorem dr1 {z : Sl} {n : Nat} {c : Int} {ρ : En} (hn : n ≤ 80000) (h : DrO z n ρ) : ∃ ρ1 ρ2, asgT [] (.nm 2) (.int c) ρ = some ρ1 ∧ (drB1 ρ1 = some (.nx ρ2) ∨ drB1 ρ1 = some (.ct ρ2)) ∧ DrO z (n + 62) (kill [2, 3, 4, 5, 6] ρ2) := by
  obtain ⟨ds, hl, rfl⟩ := h
  refine ⟨[z, .ow (ti ds), .sh (.int c), .no, .no, .no, .no], ?_⟩
  generalize ha : (if c < 0 then -c else c) = a
  have k1 : powOk 10 18 = true := rfl
  have k2 : posI 2147483647 = true := rfl
  have k3 : posI 2147483629 = true := rfl
  have k4 : posI 1000003 = true := rfl
  have k5 : divOk 7 = true := rfl
  have k6 : ∀ i, mulOk i 48271 = true := fun i => mulOk_ok2 (by decide) (by decide)
  have k7 : ∀ i, mulOk i 69621 = true := fun i => mulOk_ok2 (by decide) (by decide)
  have rg : ∀ ρ, rng1E (consA false (conE (.int 60)) nilA) ρ = some (.ok (TV.upTo 0 60) ρ) := fun ρ => rng1_nat (n := 60) rfl (by decide)
  have l1 : ds.length < 16777216 := by omega
  have l2 : ds.length + 1 < 16777216 := by omega
  have l3 : ds.length ≤ 16777216 := by omega
  have l4 : ds.length + 1 ≤ 16777216 := by omega
  by_cases b : a < 10 ^ 18
  · have b' : a < 1000000000000000000 := by omega
    generalize hf : (a * 48271 + 11) % 2147483647 = f
    obtain ⟨ds', m', h1, e⟩ := dr0_all (z := z) (ds := ds ++ [(f * 69621 + a) % 2147483629] ++ [(f + a / 7) % 1000003]) (m := 0) (by simp; omega)
    refine ⟨[z, .ow (ti ds'), .no, .no, .no, .sh (.int m'), .no], by simp, .inl ?_, ds', by simp at h1; omega, by simp⟩
    have e' : forL [] (.nm 4) [2, 3, 4, 6] drB0 (TV.upTo 0 60) [z, .ow (ti ds ++ [.int ((f * 69621 + a) % 2147483629)] ++ [.int ((f + a / 7) % 1000003)]), .no, .no, .no, .sh (.int 0), .no] = some (.nx [z, .ow (ti ds'), .no, .no, .no, .sh (.int m'), .no]) := by
      rw [← e]; simp
    simp only [List.append_assoc, List.cons_append, List.nil_append] at e'
    simp only [drB1, seqS_, setS_, bltE_, consA_, nilA_, varE_, binE_, conE_, ifS_, tsb_, List.getElem?_cons_succ, List.getElem?_cons_zero, andThen_ok, thenS_ok, argR_sh, trs_cons, trs_nil, tr_sh, f1_one, gAbs, ha, rs_s, into_sh, List.not_mem_nil, false_or, List.length_cons, List.length_nil, List.set_cons_succ, List.set_cons_zero, gLt_int, gPow, gI, k1, onlyIf_true, Option.map_some]
    simp [b', k2, k3, k4, k5, k6, k7, hf, gMod, gDiv, gMul, gI, mAppend, l1, l2, l3, l4, rg, e']
  · have b' : ¬ a < 1000000000000000000 := by omega
    obtain ⟨ds', m', h1, e⟩ := dr0_all (z := z) (ds := ds) (m := a) (by omega)
    refine ⟨[z, .ow (ti ds'), .no, .no, .no, .sh (.int m'), .no], by simp, .inl ?_, ds', by omega, by simp⟩
    simp only [drB1, seqS_, setS_, bltE_, consA_, nilA_, varE_, binE_, conE_, ifS_, tsb_, List.getElem?_cons_succ, List.getElem?_cons_zero, andThen_ok, thenS_ok, argR_sh, trs_cons, trs_nil, tr_sh, f1_one, gAbs, ha, rs_s, into_sh, List.not_mem_nil, false_or, List.length_cons, List.length_nil, List.set_cons_succ, List.set_cons_zero, gLt_int, gPow, gI, k1, onlyIf_true, Option.map_some]
    simp [b', rg, e]
theorem dr2 {n : Nat} {t : Tr} {ρ : En} (hn : n ≤ 80000) (h : ∃ (ds : List Int) (m : Int), ds.length ≤ n ∧ ρ = [.no, .ow (ti ds), .no, .sh (.int m), .no, .no, .no]) :
    ∃ ρ1 ρ2, asgT [] (.nm 4) t ρ = some ρ1 ∧ (drB2 ρ1 = some (.nx ρ2) ∨ drB2 ρ1 = some (.ct ρ2)) ∧ ∃ (ds : List Int) (m : Int), ds.length ≤ n + 1 ∧ kill [0, 2, 4, 5, 6] ρ2 = [.no, .ow (ti ds), .no, .sh (.int m), .no, .no, .no] := by
  obtain ⟨ds, m, hl, rfl⟩ := h
  have l1 : ds.length < 16777216 := by omega
  have l3 : ds.length ≤ 16777216 := by omega
  have k2 : posI 2147483647 = true := rfl
  have k5 : divOk 5 = true := rfl
  have k6 : ∀ i, mulOk i 48271 = true := fun i => mulOk_ok2 (by decide) (by decide)
  generalize hf : (m * 48271 + 69621) % 2147483647 = f
  refine ⟨[.no, .ow (ti ds), .no, .sh (.int m), .sh t, .no, .no], [.no, .ow (ti (ds ++ [f / 5])), .no, .sh (.int f), .sh t, .no, .no], by simp, .inl ?_, ds ++ [f / 5], f, by simp; omega, by simp⟩
  simp [drB2, k2, k5, k6, gMod, gDiv, gMul, gI, mAppend, l1, l3, hf]
theorem draws_ok (ns : List Int) (hn : ns.length ≤ 63) : ∃ ds : List Int, ds.length ≤ 100000 ∧ drawsM [.sh (.scr ns)] = some (.rt (.l (ti ds)) [.no]) := by
  obtain ⟨ρ1, e1, ds1, hl1, rfl⟩ := forL_inv (fun j ρ => DrO (.sh (.scr ns)) (j * 62) ρ) (P := []) (tg := .nm 2) (ks := [2, 3, 4, 5, 6]) (body := drB1) (ns.map Tr.int) 0 [.sh (.scr ns), .ow (ti []), .no, .no, .no, .no, .no] ⟨[], by simp, rfl⟩ fun j t ρ hj h => by
    have hj2 := (List.getElem?_eq_some_iff.mp hj).1
    rw [List.length_map] at hj2
    rw [List.getElem?_map] at hj
    cases q : ns[j]? with
    | none => rw [q] at hj; cases hj
    | some c =>
      rw [q] at hj
      cases hj
      have := dr1 (c := c) (by omega) h
      rw [show (0 + j) * 62 + 62 = (0 + j + 1) * 62 by omega] at this
      exact this
  rw [List.length_map] at hl1
  obtain ⟨ts, hts, rg⟩ : ∃ ts : List Tr, ts.length = 900 ∧ ∀ ρ, rng1E (consA false (conE (.int 900)) nilA) ρ = some (.ok ts ρ) := ⟨TV.upTo 0 900, by simp [TV.upTo], fun ρ => rng1_nat (n := 900) rfl (by decide)⟩
  have tail : ∀ m : Int, ∃ (ds : List Int) (m' : Int), ds.length ≤ 100000 ∧ forL [] (.nm 4) [0, 2, 4, 5, 6] drB2 ts [.no, .ow (ti ds1), .no, .sh (.int m), .no, .no, .no] = some (.nx [.no, .ow (ti ds), .no, .sh (.int m'), .no, .no, .no]) := fun m => by
    obtain ⟨ρ2, e2, ds2, m2, hl2, rfl⟩ := forL_inv (fun j ρ => ∃ (ds : List Int) (m : Int), ds.length ≤ 4000 + j ∧ ρ = [.no, .ow (ti ds), .no, .sh (.int m), .no, .no, .no]) (P := []) (tg := .nm 4) (ks := [0, 2, 4, 5, 6]) (body := drB2) ts 0 [.no, .ow (ti ds1), .no, .sh (.int m), .no, .no, .no] ⟨ds1, m, by omega, rfl⟩ fun j t ρ hj h => by
      have hj : j < 900 := by have := (List.getElem?_eq_some_iff.mp hj).1; omega
      exact dr2 (n := 4000 + (0 + j)) (by omega) h
    exact ⟨ds2, m2, by omega, e2⟩
  have e1' : forL [] (.nm 2) [2, 3, 4, 5, 6] drB1 (ns.map Tr.int) [.sh (.scr ns), .ow [], .no, .no, .no, .no, .no] = some (.nx [.sh (.scr ns), .ow (ti ds1), .no, .no, .no, .no, .no]) := e1
  by_cases hz : ns.length = 0
  · obtain ⟨ds, m', hl, e2⟩ := tail 1
    refine ⟨ds.reverse, by simpa using hl, ?_⟩
    have p : ¬ 0 < ns.length := by omega
    simp [drawsM, runF, inP, List.range_succ, e1', gLen, rg, e2, exitV, outsOf, revE, listT, p]
  · cases q : ns[0]? with
    | none => rw [List.getElem?_eq_none_iff] at q; omega
    | some c =>
      generalize ha : (if c < 0 then -c else c) = a
      obtain ⟨ds, m', hl, e2⟩ := tail (1 + a)
      refine ⟨ds.reverse, by simpa using hl, ?_⟩
      have p : 0 < ns.length := by omega
      have q2 : atI ns 0 = some c := by
        unfold atI ixN
        simp [p]
        exact (List.getElem?_eq_some_iff.mp q).2
      simp [drawsM, runF, inP, List.range_succ, e1', gLen, rg, e2, exitV, outsOf, revE, listT, p, gIx, isDict, gIxS, q2, gAbs, ha]
end TV
namespace TV
open PySem PySem.Spec PyProof.Rows L2
theorem szLe {n : Nat} (h : n ≤ 16777216) : (n ≤ sizeLine) = True := eq_true (by rw [sizeLine_eq]; exact h)
theorem szLt {n : Nat} (h : n < 16777216) : (n < sizeLine) = True := eq_true (by rw [sizeLine_eq]; exact h)
theorem ltT {a b : Int} (h : a < b) : (a < b) = True := eq_true h
theorem ltF {a b : Int} (h : b ≤ a) : (a < b) = False := eq_false (by omega)
theorem leT {a b : Int} (h : a ≤ b) : (a ≤ b) = True := eq_true h
theorem leF {a b : Int} (h : b < a) : (a ≤ b) = False := eq_false (by omega)
theorem eqIT {a b : Int} (h : a = b) : (a = b) = True := eq_true h
theorem eqIF {a b : Int} (h : a < b ∨ b < a) : (a = b) = False := eq_false (by omega)
@[simp] theorem argR_frT {ρ : En} {ts : List Tr} : argR true ρ (.fr ts) = some (.sh (.lst ts), ρ) := rfl
@[simp] theorem argR_fkT {ρ : En} {ts : List (Key × Tr)} : argR true ρ (.fk ts) = some (.sh (.dk ts), ρ) := rfl
@[simp] theorem argR_ftT {ρ : En} {ts : List (List Key × Tr)} : argR true ρ (.ft ts) = some (.sh (.dt ts), ρ) := rfl
@[simp] theorem isLst_lst (ts : List Tr) : isLst (.lst ts) = true := rfl
@[simp] theorem isTup_tup (ts : List Tr) : isTup (.tup ts) = true := rfl
@[simp] theorem truT_non : truT .non = some false := rfl
@[simp] theorem truT_bl (b : Bool) : truT (.bl b) = some b := rfl
@[simp] theorem truT_int (i : Int) : truT (.int i) = some (i != 0) := rfl
@[simp] theorem truT_tup (ts : List Tr) : truT (.tup ts) = some (!ts.isEmpty) := rfl
@[simp] theorem truT_lst (ts : List Tr) : truT (.lst ts) = some (!ts.isEmpty) := rfl
@[simp] theorem tyT_non : tyT .non = some .non := rfl
@[simp] theorem tyT_bl (b : Bool) : tyT (.bl b) = some .bl := rfl
@[simp] theorem tyT_int (i : Int) : tyT (.int i) = some .int := rfl
@[simp] theorem tyT_str (x : Str) : tyT (.str x) = some .str := rfl
@[simp] theorem tyT_tup (ts : List Tr) : tyT (.tup ts) = some .tup := rfl
@[simp] theorem tyT_lst (ts : List Tr) : tyT (.lst ts) = some .lst := rfl
@[simp] theorem subK_same (a : TyK) : subK a a = true := by cases a <;> rfl
@[simp] theorem subK_bi : subK .bl .int = true := rfl
theorem subK_eq {a b : TyK} (h : a ≠ b) (h2 : ¬ (a = .bl ∧ b = .int)) : subK a b = false := by
  cases a <;> cases b <;> first | rfl | exact absurd rfl h | exact absurd ⟨rfl, rfl⟩ h2
@[simp] theorem gIsO_int (i : Int) : gIsO false (.int i) .non = some (.s (.bl false)) := rfl
@[simp] theorem gIsO_bl (i : Bool) : gIsO false (.bl i) .non = some (.s (.bl false)) := rfl
@[simp] theorem gIsO_str (i : Str) : gIsO false (.str i) .non = some (.s (.bl false)) := rfl
@[simp] theorem gIsO_tup (ts : List Tr) : gIsO false (.tup ts) .non = some (.s (.bl false)) := rfl
@[simp] theorem gIsO_lst (ts : List Tr) : gIsO false (.lst ts) .non = some (.s (.bl false)) := rfl
@[simp] theorem gIsO_non : gIsO false .non .non = some (.s (.bl true)) := rfl
theorem shp_bl (b : Bool) : shp (.bl b) = true := by cases b <;> rfl
theorem shp_non : shp .non = true := rfl
theorem eqT_bl (a b : Bool) : eqT (.bl a) (.bl b) = (a == b) := by cases a <;> cases b <;> rfl
@[simp] theorem gEq_bl (a b : Bool) : gEq (.bl a) (.bl b) = some (.s (.bl (a == b))) := by unfold gEq; rw [shp_bl, shp_bl, eqT_bl]; rfl
@[simp] theorem gNe_bl (a b : Bool) : gNe (.bl a) (.bl b) = some (.s (.bl (!(a == b)))) := by unfold gNe; rw [shp_bl, shp_bl, eqT_bl]; rfl
theorem seq_nx {f g : Sv} {ρ ρ1 : En} {o : Option So} (h : f ρ = some (.nx ρ1)) (k : g ρ1 = o) : seqS f g ρ = o := by rw [seqS_, h]; exact k
theorem set_ok {P : List Nat} {i : Nat} {f : Ev} {ρ ρ1 ρ2 : En} {r : Rs} (h : f ρ = some (.ok r ρ1)) (hi : i ∉ P) (hl : i < ρ1.length) (k : r.into i ρ1 = some ρ2) : setS P i f ρ = some (.nx ρ2) := by
  rw [setS_, h, thenS_ok, if_neg (by intro z; rcases z with z | z; exact hi z; exact z hl), k]
theorem if_yes {c : Tv} {f g : Sv} {ρ ρ1 : En} {o : Option So} (h : c ρ = some (.ok true ρ1)) (k : f ρ1 = o) : ifS c f g ρ = o := by rw [ifS_, h]; exact k
theorem if_no {c : Tv} {f g : Sv} {ρ ρ1 : En} {o : Option So} (h : c ρ = some (.ok false ρ1)) (k : g ρ1 = o) : ifS c f g ρ = o := by rw [ifS_, h]; exact k
theorem if_skip {c : Tv} {f : Sv} {ρ ρ1 : En} (h : c ρ = some (.ok false ρ1)) : ifS c f skipS ρ = some (.nx ρ1) := by rw [ifS_, h]; rfl
theorem for_ok {P : List Nat} {src : Iv} {tg : Tg} {ks : List Nat} {body : Sv} {ρ ρ1 : En} {ts : List Tr} {o : Option So} (h : src ρ = some (.ok ts ρ1)) (k : forL P tg ks body ts (kill ks ρ1) = o) : forS P src tg ks body ρ = o := by rw [forS_, h]; exact k
theorem call_ok {F : Fv} {fs : Av} {ρ ρ1 : En} {rs : List Rs} {args outs : En} {n : Nw} (h : fs ρ = some (.ok rs ρ1)) (nd : (slotsOf rs).Nodup) (ha : hand ρ1 rs = some args) (hF : F args = some (.rt n outs)) (hl : outs.length = args.length) :
    callE F fs ρ = some (.ok n.rs (takeBack rs outs ρ1)) := by
  rw [callE_, h, andThen_ok, if_pos nd, ha]
  dsimp only
  rw [hF]
  dsimp only
  rw [if_pos hl]
theorem run_rt {np n : Nat} {P : List Nat} {body : Sv} {args ρ ρ' : En} {r : Rs} {v : Nw} (h1 : args.length = np) (h2 : inP P args = true) (h3 : ∀ j ∈ P, j < np) (hb : body (args ++ List.replicate (n - np) .no) = some (.rt r ρ)) (he : exitV np P ρ r = some (v, ρ')) :
    runF np n P body args = some (.rt v (outsOf np P ρ')) := by
  unfold runF
  rw [if_pos ⟨h1, h2, h3⟩, hb]
  dsimp only
  rw [he]
theorem compL_enc {α : Type} (enc : α → Tr) (p : α → Bool) (g : α → Tr) {vs : List Nat} {tg : Tg} {ct : Tv} {elt : Ev} {ρ : En} : ∀ (xs : List α) (acc : List Tr), acc.length + xs.length ≤ sizeLine →
    (∀ x ∈ xs, ∃ ρ1 ρ2, asgT [] tg (enc x) ρ = some ρ1 ∧ ct ρ1 = some (.ok (p x) ρ2) ∧ kill vs ρ2 = ρ ∧ (p x = true → ∃ r ρ3 ρ4, elt ρ2 = some (.ok r ρ3) ∧ r.fz ρ3 = some (g x, ρ4) ∧ kill vs ρ4 = ρ)) →
    compL vs tg ct elt (xs.map enc) acc ρ = some (acc ++ (xs.filter p).map g, ρ)
  | [], acc, _, _ => by simp [compL]
  | t :: ts, acc, hl, h => by
    obtain ⟨ρ1, ρ2, h1, h2, h3, h4⟩ := h t List.mem_cons_self
    rw [List.length_cons] at hl
    rw [List.map_cons]
    unfold compL
    rw [h1]
    dsimp only
    rw [h2]
    cases q : p t with
    | false =>
      dsimp only
      rw [h3, compL_enc enc p g ts acc (by omega) fun u hu => h u (List.mem_cons_of_mem _ hu)]
      simp [q]
    | true =>
      obtain ⟨r, ρ3, ρ4, h5, h6, h7⟩ := h4 q
      dsimp only
      rw [h5]
      dsimp only
      rw [h6]
      dsimp only
      rw [if_pos (by omega), h7, compL_enc enc p g ts (acc ++ [g t]) (by rw [List.length_append, List.length_singleton]; omega) fun u hu => h u (List.mem_cons_of_mem _ hu)]
      simp [q]
theorem comp_ok {vs : List Nat} {src : Iv} {tg : Tg} {ct : Tv} {elt : Ev} {ρ ρ1 ρ2 : En} {ts us : List Tr} (h : src ρ = some (.ok ts ρ1)) (k : compL vs tg ct elt ts [] (kill vs ρ1) = some (us, ρ2)) (e : restore vs ρ1 ρ2 = ρ1) : compE vs src tg ct elt ρ = some (.ok (.fr us) ρ1) := by
  rw [compE_, h, andThen_ok, k]
  dsimp only
  rw [e]
theorem draw_ok (ds : List Int) (hl : ds.length ≤ 100000) (b : Int) (hb : 0 < b) : ∃ (v : Int) (ds' : List Int), 0 ≤ v ∧ v < b ∧ ds'.length ≤ 100000 ∧ takeM [.ow (ti ds), .sh (.int b)] = some (.rt (.s (.int v)) [.ow (ti ds'), .no]) :=
  ⟨takeR ds b, ds.dropLast, (takeR_lt ds b hb).1, (takeR_lt ds b hb).2, by rw [List.length_dropLast]; omega, takeM_ok ds b hb (by omega)⟩
theorem ti_eraseIdx : ∀ (s : List Int) (k : Nat), (ti s).eraseIdx k = ti (s.eraseIdx k)
  | [], _ => by simp
  | x :: s, 0 => by simp
  | x :: s, k + 1 => by
    have := ti_eraseIdx s k
    rw [ti_cons, List.eraseIdx_cons_succ, List.eraseIdx_cons_succ, this, ti_cons]
theorem mPopAt_ti {v : Int} {s : List Int} {a : Int} {k : Nat} (hv : v = (k : Int)) (h : s[k]? = some a) : mPopAt (ti s) [.int v] = some (.int a, ti (s.eraseIdx k)) := by
  have hk := (List.getElem?_eq_some_iff.mp h).1
  subst hv
  unfold mPopAt
  have e : seqIndex? ((k : Nat) : Int) (ti s).length = some k := by
    unfold seqIndex?
    have h1 : ¬ ((k : Nat) : Int) < 0 := by omega
    have h2 : (0 : Int) ≤ (k : Nat) := by omega
    simp [h1, h2, hk]
  dsimp only
  rw [e]
  dsimp only
  rw [ti_eraseIdx]
  simp [h]
theorem while_step {c : Tv} {ks : List Nat} {body : Sv} {n : Nat} {ρ ρ1 ρ2 : En} {o : Option So} (hc : c ρ = some (.ok true ρ1)) (hb : body ρ1 = some (.nx ρ2)) (k : whileL c ks body n (kill ks ρ2) = o) : whileL c ks body (n + 1) ρ = o := by
  rw [whileL, hc, thenS_ok, if_pos rfl, hb]
  exact k
theorem while_end {c : Tv} {ks : List Nat} {body : Sv} {n : Nat} {ρ ρ1 : En} (hc : c ρ = some (.ok false ρ1)) : whileL c ks body (n + 1) ρ = some (.nx ρ1) := by
  rw [whileL, hc, thenS_ok, if_neg Bool.false_ne_true]
end TV
namespace TV
open PySem PySem.Spec PyProof.Rows L2 HotX L2H
theorem takes0N {X : Cx} : L2N.Takes X (fun _ _ _ _ => False) := fun _ _ ⟨_, _, _, _, _, _, _, _, _, _, _, _, _, _, _, _, w⟩ => w.elim
section
variable {prog : Program} {w : World} {A : Around} {E : Value → Shared → Prop} {s : Shared}
theorem next_end_hot {it l x1 : Addr} {i : Nat} {items : Array Value} {Q : Option Value → Shared → Prop} (hot : HotAt A x1 s.heap) (hne : x1 ≠ it) (hit : s.heap.IsListIter it l i) (hl : s.heap.IsList l items) (hx : items[i]? = none)
    (hQ : ∀ h', Heap.ExtBut it s.heap h' → Q none { s with heap := h' }) : wpAny (model prog w) A (pyNext (.ref it)) Q E s := by
  obtain ⟨o, ho, hc, hd⟩ := id hit; obtain ⟨ol, hol, _, nl, hdl⟩ := hl; obtain ⟨hh, o1, vs1, h1, d1, c1⟩ := hot
  unfold pyNext
  refine wpAny_bind (wpAny_attempt (wpAny_callSpecial?_slot (name := Str.ofString "__next__") hit.typeIs slot_listiter_next (wpAny_call_entry slot_listiter_next hit.typeIs entry_listiter_next ?_ (args_listiter_next _))))
  show wpAny _ _ (field (.ref it) 0 >>= _) _ _ s; refine wpAny_bind (wpAny_field ho hd (x := .ref l) rfl ?_)
  show wpAny _ _ (if (Value.ref l == Value.none) = true then _ else _) _ _ s; rw [if_neg (show ¬ ((Value.ref l == Value.none) = true) from Bool.false_ne_true)]
  show wpAny _ _ (field (.ref it) 1 >>= _) _ _ s; refine wpAny_bind (wpAny_field ho hd (x := .int i 0) rfl ?_)
  show wpAny _ _ (seqItems? (.ref l) >>= _) _ _ s; refine wpAny_bind (wpAny_seqItems hol hdl ?_)
  simp only [Int.toNat_natCast, hx]; refine wpAny_bind (wpAny_rule (wpAny_bind (wpAny_setField ho hd (by simp) ?_)))
  show wpAny _ _ (newExc (.type "StopIteration") [] >>= _) _ _ _; refine wpAny_bind ?_; simp only [newExc, newTuple]; refine wpAny_bind (wpAny_newObj_type ?_ (by size_fits))
  refine wpAny_bind (m := firstArgMember _ _) (wpAny_of_eq (a := Value.none) (by first | rfl | (simp only [firstArgMember]; rfl)) ?_); refine wpAny_newObj_type ?_ (by size_fits)
  have h1' : (s.heap.update it (Obj.mapFields (·.setIfInBounds 0 .none))).get? x1 = some o1 := by rw [Heap.get?_update_other _ _ (Ne.symm hne)]; exact h1
  refine raiseNew_hot (x1 := x1) ⟨hh, o1, vs1, Heap.get?_push_of_some _ (Heap.get?_push_of_some _ h1'), d1, c1⟩ (Nat.ne_of_lt (Heap.lt_size (Heap.get?_push_of_some _ h1'))) (Heap.get?_push_size _ rfl) rfl (by first | (simp; done) | (simp; omega)) ?_
  refine wpAny_bind (wpAny_isInstance (T := "StopIteration") (b := true) ⟨_, Heap.get?_update_self _ (Heap.get?_push_size _ rfl) rfl, rfl⟩ isSubtype_stop ?_)
  refine wpAny_pure (hQ _ fun b o nb e => ?_)
  have e' : (s.heap.update it (Obj.mapFields (·.setIfInBounds 0 .none))).get? b = some o := by rw [Heap.get?_update_other _ _ (Ne.symm nb)]; exact e
  rw [Heap.get?_update_other _ _ (Nat.ne_of_gt (Heap.lt_size (Heap.get?_push_of_some _ e')))]
  exact Heap.get?_push_of_some _ (Heap.get?_push_of_some _ e')
end
structure TurnZ (P : Program) (w : World) (K : PySem.W.Frag) (tg : Expr) (J : It) (fp : List Addr) (it : Addr) (tn : Nat → Heap → Prop) : Prop where
  ob : ∀ i h, tn i h → ∀ b ∈ fp, ∃ o, h.get? b = some o ∧ ∀ v, o.data ≠ .cell v
  kp : ∀ i h h', tn i h → (∀ b ∈ fp, ∀ o, h.get? b = some o → h'.get? b = some o) → tn i h'
  it_ : ∀ (X : Cx), X.prog = P → X.w = w → X.K = K → ∀ (i : Nat) (pins : List (Addr × Obj)) (s : Shared) (σ : L2.St) (H : Hp) (E : Value → Shared → Prop), Inv X pins σ H s → (∀ b ∈ fp, FpOk X pins H b) → tn i s.heap → J.go i H →
    wpAny (model P w) X.A (pyNext (.ref it)) (fun r s1 => ∃ u, r = some u ∧ wpAny (model P w) X.A (letOwnedTupleGo tg (.ref it) u) (fun _ s2 => ∃ x H', Inv X pins σ H' s2 ∧ RelV x u ∧ J.yld i H x H' ∧ tn (i + 1) s2.heap ∧ ∀ b ∈ fp, H' b = none) E s1) E s
  dn : ∀ (X : Cx), X.prog = P → X.w = w → X.K = K → ∀ (i : Nat) (pins : List (Addr × Obj)) (s : Shared) (σ : L2.St) (H : Hp) (E : Value → Shared → Prop), Inv X pins σ H s → (∀ b ∈ fp, FpOk X pins H b) → tn i s.heap → J.stop i H → (∃ x1, x1 ∉ fp ∧ HotAt X.A x1 s.heap) →
    wpAny (model P w) X.A (pyNext (.ref it)) (fun r s1 => r = none ∧ Inv X pins σ H s1) E s
  sf : ∀ (A : Around) (i : Nat) (s : Shared) (Q : Value → Shared → Prop) (E : Value → Shared → Prop), tn i s.heap → Q (.ref it) s → wpAny (model P w) A (pyIter (.ref it)) Q E s
theorem turnZ_list {P : Program} {w : World} {K : PySem.W.Frag} {tg : Expr} (a it : Addr) : TurnZ P w K tg (Itl K a) [it] it (fun i h => h.IsListIter it a i) where
  ob i h st b hb := by
    obtain rfl : b = it := List.mem_singleton.mp hb
    obtain ⟨o, e, c, d⟩ := st
    exact ⟨o, e, fun v z => by rw [d] at z; cases z⟩
  kp i h h' st k := st.at fun o e => k it List.mem_cons_self o e
  it_ := by
    rintro X rfl rfl rfl i pins s σ H E I hf st ⟨xs, x, hq, hx⟩
    obtain ⟨its, rv, p, hz⟩ := I.list hq; obtain ⟨u, hu, ru⟩ := rv.get hx; obtain ⟨f0, f1, f2, f3, f4, f5⟩ := hf it List.mem_cons_self
    refine wpAny_pyNext_list_item st p.isList (x := u) (by simpa using hu) fun h' st' sb => ?_
    have I' : Inv X pins σ H { s with heap := h' } := I.turned (t' := s.toks) (fun b o hb e => (sb.2 b hb).trans e) f0 f1 f3 f4 f5
    obtain ⟨o, e, c, d⟩ := id st'
    exact ⟨u, rfl, go_of (s := { s with heap := h' }) e c d (by decide) ⟨x, H, I', ru, ⟨rfl, fun ys hy => (by rw [I.list_inj hy hq]; exact hx)⟩, st', fun b hb => (hf b hb).1⟩⟩
  dn := by
    rintro X rfl rfl rfl i pins s σ H E I hf st ⟨xs, hq, hx⟩ ⟨x1, hn, hot⟩
    obtain ⟨its, rv, p, hz⟩ := I.list hq; obtain ⟨f0, f1, f2, f3, f4, f5⟩ := hf it List.mem_cons_self
    have hl := rv.length
    exact next_end_hot hot (fun z => hn (z ▸ List.mem_cons_self)) st p.isList (by simp; omega) fun h' eb => ⟨rfl, I.turned (t' := s.toks) (fun b o hb e => eb b o hb e) f0 f1 f3 f4 f5⟩
  sf _ _ _ _ _ st h := wpAny_pyIter_listiter st h
def CameZ (X : Cx) (pins : List (Addr × Obj)) (σ : L2.St) (tg : Expr) (R : It → Hp → Prop) (itv : Value) (s2 : Shared) : Prop :=
  ∃ (it : Addr) (fp : List Addr) (tn : Nat → Heap → Prop) (J : It) (H' : Hp), itv = .ref it ∧ Inv X pins σ H' s2 ∧ TurnZ X.prog X.w X.K tg J fp it tn ∧ tn 0 s2.heap ∧ (∀ b ∈ fp, FpOk X pins H' b) ∧ R J H'
structure PIZ (X : Cx) (tg iter : Expr) (wi : TI) : Prop where
  run : ∀ (pins : List (Addr × Obj)) (s : Shared) (σ : L2.St) (H : Hp) (R : It → Hp → Prop), Inv X pins σ H s → wi σ H R → wpAny (model X.prog X.w) X.A (eval iter X.env) (fun v s1 => wpAny (model X.prog X.w) X.A (pyIter v) (CameZ X pins σ tg R) X.xe s1) X.xe s
theorem piz_list {X : Cx} {tg l : Expr} {tl : TE} (hl : PE X l tl) : PIZ X tg l (iList X.K tl) := ⟨fun pins s σ H R I h => thn (hl.run pins s σ H _ I h) fun v s1 ⟨x, H1, I1, r1, a, e, ⟨xs, hq⟩, q⟩ => by
  subst e; cases r1; obtain ⟨its, rv, p, hz⟩ := I1.list hq
  refine wpAny_pyIter_list p.isList ⟨s1.heap.objs.size, [s1.heap.objs.size], _, _, H1, rfl, I1.kept (t' := s1.toks) fun b o e => Heap.get?_push_of_some _ e, turnZ_list a _, ⟨_, Heap.get?_push_size _ rfl, rfl, rfl⟩, fun b hb => ?_, q⟩
  obtain rfl : b = s1.heap.objs.size := List.mem_singleton.mp hb
  exact I1.fpOk (Nat.le_refl _) (I1.hok.fresh (Nat.le_refl _))⟩
theorem lcz {X : Cx} {pins : List (Addr × Obj)} {s : Shared} {σ : L2.St} {H : Hp} {Q : VK} {elt tg iter : Expr} {ifs : List Expr} {scope : Scope} {own : List (Str × Nat)} {pos pos' : Pos} {wi : TI} {g : TG} {tt : TT} {te : TE} {use : Option (Value → Sem Unit)} {Qf : Value → Shared → Prop}
    (hc : HotC X) (hN : X.N.Nodup) (I : Inv X pins σ H s) (hi : PIZ X tg iter wi) (ok : BlkOk X.N X.env.scope scope own)
    (hg : ∀ (s : Shared) (H : Hp) (C : Addr) (cl : List (Str × Addr)) (fp : List Addr), PG (X.blk s H scope (compEnvC scope cl C X.env) fp) tg g) (ht : ∀ (s : Shared) (H : Hp) (C : Addr) (cl : List (Str × Addr)) (fp : List Addr), PTs (X.blk s H scope (compEnvC scope cl C X.env) fp) ifs tt)
    (he : ∀ (s : Shared) (H : Hp) (C : Addr) (cl : List (Str × Addr)) (fp : List Addr), PE (X.blk s H scope (compEnvC scope cl C X.env) fp) elt te) (hs : ∀ x, foldedSetIterable iter X.env x = pure x) (h : tLc wi g tt te (own.map (·.2)) σ H Q)
    (hRR : ∀ D C s' m H', Inv X pins σ H' s' → Q (.ref D) H' → s'.heap.Ns C m → FpOk X pins H' C → compPost (model X.prog X.w) X.A X.xe use Qf (.ref D) C (.ok .next) s') :
    wpAny (model X.prog X.w) X.A (comprehension (.ListComp elt [⟨tg, iter, ifs, 0⟩] scope pos) scope X.env pos' (newList []) false (eval iter X.env) use) Qf X.xe s := by
  have cl0 : ∀ y ∈ scope.names, y.2 = .free → ∃ c, X.env.cells.lookup y.1 = some c := fun y hy e => (ok.free y hy e).elim (fun k => I.ok.has _ (.inl k)) fun k => I.ok.has _ (.inr k)
  obtain ⟨px, ⟨hot1, vx, dx, cx⟩, hpx⟩ := hc
  refine wpAny_comprehension_free (use := use) rfl hs (closure_ok cl0) ok.kind (fun y hy e => (by rw [ok.uniq y hy, e])) (thn (hi.run pins s σ H _ I h) fun xv za hx => thn hx fun itv zb hb => ?_)
  obtain ⟨it, fp, tn, J, Hb, rfl, Ib, T, tb, fb, q⟩ := hb
  refine wpAny_newObj_type (newEnv_comp ?_) (Nat.zero_le _)
  generalize hD : zb.heap.objs.size = D
  obtain ⟨W, ⟨n0, w0⟩, turn⟩ := q D (Ib.hok.fresh (Nat.le_of_eq hD))
  generalize hzc : ({ zb with heap := zb.heap.push { cls := .type "list", data := .seq ([] : List Value).toArray } } : Shared) = zc
  have Ic : Inv X pins σ (upd Hb D (.lst [])) zc := by
    subst hzc
    exact Ib.laid (t' := zb.toks) (fun b o e => Heap.get?_push_of_some _ e) (Nat.le_of_eq hD) ⟨Nat.zero_le _, [], 0, .nil, by rw [← hD]; exact Heap.get?_push_size _ rfl⟩
  have hzh : zc.heap = zb.heap.push { cls := .type "list", data := .seq ([] : List Value).toArray } := by rw [← hzc]
  have lt : ∀ b ∈ fp, b < zb.heap.objs.size := fun b m => let ⟨o, e, _⟩ := T.ob _ _ tb b m; Heap.lt_size e
  have fc : ∀ b ∈ fp, FpOk X pins (upd Hb D (.lst [])) b ∧ b < zc.heap.objs.size := fun b m =>
    ⟨⟨by rw [upd_ne (by rw [← hD]; exact Nat.ne_of_lt (lt b m))]; exact (fb b m).1, (fb b m).2⟩, by rw [hzh, Heap.size_push]; exact Nat.lt_succ_of_lt (lt b m)⟩
  have tc : tn 0 zc.heap := T.kp _ _ _ tb fun b _ o e => by rw [hzh]; exact Heap.get?_push_of_some _ e
  have Id := block_start Ic ok hN fc
  have pg := hg zc (upd Hb D (.lst [])) zc.heap.objs.size (cellsFrom (zc.heap.objs.size + 1) scope.names (cloFrom X.env.cells scope.names [])) fp
  have pt := ht zc (upd Hb D (.lst [])) zc.heap.objs.size (cellsFrom (zc.heap.objs.size + 1) scope.names (cloFrom X.env.cells scope.names [])) fp
  have pe := he zc (upd Hb D (.lst [])) zc.heap.objs.size (cellsFrom (zc.heap.objs.size + 1) scope.names (cloFrom X.env.cells scope.names [])) fp
  show codeAny _ _ (.compStart (.ListComp elt [⟨tg, iter, ifs, 0⟩] scope pos) 0 (.ref it) (.ref D) (compEnvC scope (cellsFrom (zc.heap.objs.size + 1) scope.names (cloFrom X.env.cells scope.names [])) zc.heap.objs.size X.env)) (compPost (model X.prog X.w) X.A X.xe use Qf (.ref D) zc.heap.objs.size) { zc with heap := pushCells (zc.heap.push { cls := .type "dict", data := .dict #[] }) scope.names }
  have nf : ∀ b ∈ fp, (upd Hb D (.lst [])) b = none := fun b m => (fc b m).1.1
  generalize hce : compEnvC scope (cellsFrom (zc.heap.objs.size + 1) scope.names (cloFrom X.env.cells scope.names [])) zc.heap.objs.size X.env = ce at Id pg pt pe ⊢
  have cL : ce.locals = zc.heap.objs.size := by subst hce; rfl
  generalize hHc : upd Hb D (.lst []) = Hc at Ic Id pg pt pe w0 nf fc
  generalize hzd : ({ zc with heap := pushCells (zc.heap.push { cls := .type "dict", data := .dict #[] }) scope.names } : Shared) = zd at Id ⊢
  have td : tn 0 zd.heap := T.kp _ _ _ tc fun b _ o e => by rw [← hzd]; exact pushCells_keeps _ _ _ _ (Heap.get?_push_of_some _ e)
  -- the exception that is handled stands through the block
  have P1 := Ic.pin px (List.mem_append_left _ hpx)
  have nfr : px.1 ∉ frs X.stack := fun hm => (List.mem_cons.mp (Ic.stkSub px.1 hm)).elim P1.2.2.1 P1.2.2.2.1
  have nfp : px.1 ∉ fp := fun hm => (fc px.1 hm).1.2.2.2.2.2 px (List.mem_append_left _ hpx) rfl
  have hots : ∀ {pins' σ' H' s'}, Inv (X.blk zc Hc scope ce fp) pins' σ' H' s' → HotAt X.A px.1 s'.heap := fun {pins' σ' H' s'} I' => ⟨hot1, px.2, vx, I'.base.keep px.1 px.2 P1.1 P1.2.1 nfr nfp, dx, cx⟩
  have stat : ∀ {σ' : L2.St} {H' : Hp} {s' : Shared}, Inv (X.blk zc Hc scope ce fp) [] σ' H' s' → (∀ b ∈ fp, H' b = none) → ∀ b ∈ fp, FpOk (X.blk zc Hc scope ce fp) [] H' b := fun I' hn b m =>
    ⟨hn b m, (I'.ok.exf b m).1, I'.ok.exfs b m, .inl m, fun x c e => (I'.ok.exf b m).2 x c e, fun p hp => absurd (show p ∈ ([] : List (Addr × Obj)) ++ [] from hp) (by simp)⟩
  have loop : codeAny (model X.prog X.w) X.A (.compLoop (.ListComp elt [⟨tg, iter, ifs, 0⟩] scope pos) 0 (.ref it) (.ref D) ce) (compPost (model X.prog X.w) X.A X.xe use Qf (.ref D) zc.heap.objs.size) zd := by
    refine compLoop_any (fun n s' => ∃ i H', Inv (X.blk zc Hc scope ce fp) [] (wipe σ (own.map (·.2))) H' s' ∧ tn i s'.heap ∧ (∀ b ∈ fp, H' b = none) ∧ W i n H') ?_ n0 ⟨0, Hc, Id, td, nf, w0⟩
    rintro n ze ⟨i, He, Ie, te_, ne, we⟩
    rcases turn i n He we with ⟨stop, qq⟩ | ⟨go, Nx, hNx, step⟩
    · refine thnF (T.dn (X.blk zc Hc scope ce fp) rfl rfl rfl i [] ze _ He (fun _ _ => False) Ie (stat Ie ne) te_ stop ⟨px.1, nfp, hots Ie⟩) fun r zf ⟨hr, If⟩ => ?_
      subst hr
      have Ig : Inv X pins σ He zf := Ic.call' (ch := fp) If.os If.base If.hok If.bare fun b m => ⟨(fc b m).1.2.2.2.1, (fc b m).1.2.1, (fc b m).1.2.2.2.2.1, (fc b m).1.2.2.2.2.2⟩
      have nC : He zc.heap.objs.size = none := by have z : He ce.locals = none := If.free; rwa [cL] at z
      obtain ⟨m, hn, _⟩ := If.loc
      have hn : zf.heap.Ns ce.locals m := hn
      rw [cL] at hn
      exact hRR D zc.heap.objs.size zf m He Ig qq hn (Ic.fpOk (Nat.le_refl _) nC)
    · refine thnF (T.it_ (X.blk zc Hc scope ce fp) rfl rfl rfl i [] ze _ He (fun _ _ => False) Ie (stat Ie ne) te_ go) fun r zf ⟨u, hr, hf⟩ => ?_
      subst hr
      refine thnF hf fun _ zg ⟨x, Hg, Ig, rg, yg, tg_, ng⟩ => ?_
      have Ig' := Ig.pinned (stat Ig ng) (T.ob _ _ tg_)
      refine thnF (pg.run _ zg _ Hg x u _ Ig' rg (step x Hg yg)) fun _ zh ⟨σh, Hh, Ih, hwh, qh⟩ => thnF (pt.run _ zh σh Hh _ Ih qh) fun b zi ⟨Hi, Ii, qi⟩ => ?_
      have fin : ∀ {s' : Shared} {H' : Hp}, Inv (X.blk zc Hc scope ce fp) ([] ++ pinsAt fp zg.heap) σh H' s' → Nx H' → ∃ m, m < n ∧ ∃ i H', Inv (X.blk zc Hc scope ce fp) [] (wipe σ (own.map (·.2))) H' s' ∧ tn i s'.heap ∧ (∀ b ∈ fp, H' b = none) ∧ W i m H' := fun {s' H'} I' nx => by
        obtain ⟨m', hm, w'⟩ := hNx H' nx
        have pin' : ∀ b ∈ fp, ∀ o, zg.heap.get? b = some o → s'.heap.get? b = some o ∧ H' b = none := fun b m o e => let z := I'.pin (b, o) (List.mem_append_right _ (List.mem_append_right _ (mem_pinsAt m e))); ⟨z.1, z.2.1⟩
        refine ⟨m', hm, i + 1, H', (I'.unpinned (pins := [])).weak (by rw [← hwh, wipe_length]) (fun j v e => (by rw [← hwh] at e; exact (wipe_some e).1)), T.kp _ _ _ tg_ fun b m o e => (pin' b m o e).1, fun b m => ?_, w'⟩
        obtain ⟨o, e, _⟩ := T.ob _ _ tg_ b m
        exact (pin' b m o e).2
      cases b with
      | false => simp only [Bool.false_eq_true, if_false] at qi ⊢; exact fin Ii qi
      | true =>
        simp only [if_true] at qi ⊢
        exact thnF (pe.run _ zi σh Hi _ Ii qi) fun z zj ⟨yv, Hj, Ij, rj, acc, hDj, hzj, nx⟩ => app_ok (X := X.blk zc Hc scope ce fp) Ij hDj hzj rj fun zk Ik => fin Ik nx
  exact codeAny_compStart_list loop (T.sf X.A 0 _ _ _ td loop)
theorem pe_lcz {X : Cx} {elt tg iter : Expr} {ifs : List Expr} {scope : Scope} {own : List (Str × Nat)} {pos : Pos} {wi : TI} {g : TG} {tt : TT} {te : TE} (hc : HotC X) (hN : X.N.Nodup) (hi : PIZ X tg iter wi) (ok : BlkOk X.N X.env.scope scope own)
    (hg : ∀ (s : Shared) (H : Hp) (C : Addr) (cl : List (Str × Addr)) (fp : List Addr), PG (X.blk s H scope (compEnvC scope cl C X.env) fp) tg g) (ht : ∀ (s : Shared) (H : Hp) (C : Addr) (cl : List (Str × Addr)) (fp : List Addr), PTs (X.blk s H scope (compEnvC scope cl C X.env) fp) ifs tt)
    (he : ∀ (s : Shared) (H : Hp) (C : Addr) (cl : List (Str × Addr)) (fp : List Addr), PE (X.blk s H scope (compEnvC scope cl C X.env) fp) elt te) (hs : ∀ x, foldedSetIterable iter X.env x = pure x := by intro _; rfl) :
    PE X (.ListComp elt [⟨tg, iter, ifs, 0⟩] scope pos) (tLc wi g tt te (own.map (·.2))) := ⟨fun pins s σ H Q I h => by
  rw [eval_ListComp]
  refine lcz hc hN I hi ok hg ht he hs h fun D C z m H' I' q hn ⟨f0, f1, f2, f3, f4, f5⟩ => ⟨m, hn, fun h'' sb => ?_⟩
  exact ⟨.ref D, H', I'.turned (t' := z.toks) (fun b o hb e => (sb.2 b hb).trans e) f0 f1 f3 f4 f5, rfl, q⟩⟩
section
variable {G : GS} {X : Cx} {W : WX} {P : List Nat}
def itLE (f : Ev) : Iv := fun ρ => andThen (f ρ) fun r ρ1 => match r.fz ρ1 with
  | some (.lst ts, ρ2) => some (.ok ts ρ2)
  | _ => none
theorem siz_it {tg e : Expr} {f : Ev} (h : PE X e (RE G X W f)) : PIZ X tg e (RI G X W (itLE f)) := by
  have h0 := piz_list (tg := tg) h
  refine ⟨fun pins s σ H R I ⟨M, ρ, o, L, e, w⟩ => h0.run pins s σ H R I ?_⟩
  unfold itLE at e
  cases ef : f ρ with
  | none => rw [ef] at e; cases e
  | some of =>
    rw [ef] at e
    cases of with
    | ex c ρ1 => cases e; exact ⟨M, ρ, _, L, ef, w⟩
    | ok r ρ1 =>
      simp only [andThen_ok] at e
      split at e
      · rename_i ts ρ2 ez
        cases e
        refine ⟨M, ρ, _, L, ef, fun M1 H1 g1 l1 L1 v R1 => ?_⟩
        obtain ⟨M2, g2, l2, L2', rp, _⟩ := fz_ok L.dom g1 l1 L1 R1 ez
        obtain ⟨a, vs, rfl, hq, _⟩ := RTop.lst (.inl rp)
        exact ⟨a, rfl, ⟨vs, SqL.of hq⟩, w M2 H1 g2 (l1.trans l2) L2' _ (it_lst rp)⟩
      · cases e
theorem se_lcz {elt tg iter : Expr} {ifs : List Expr} {scope : Scope} {own : List (Str × Nat)} {pos : Pos} {fi : Iv} {g : Tg} {ct : Tv} {f : Ev} (hc : HotC X) (hN : X.N.Nodup) (hi : PIZ X tg iter (RI G X W fi)) (ok : BlkOk X.N X.env.scope scope own)
    (hg : ∀ (s : Shared) (H : Hp) (C : Addr) (cl : List (Str × Addr)) (fp : List Addr), PG (X.blk s H scope (compEnvC scope cl C X.env) fp) tg (RG G (X.blk s H scope (compEnvC scope cl C X.env) fp) [] g))
    (ht : ∀ (s : Shared) (H : Hp) (C : Addr) (cl : List (Str × Addr)) (fp : List Addr), PTs (X.blk s H scope (compEnvC scope cl C X.env) fp) ifs (RT G (X.blk s H scope (compEnvC scope cl C X.env) fp) W0 ct))
    (he : ∀ (s : Shared) (H : Hp) (C : Addr) (cl : List (Str × Addr)) (fp : List Addr), PE (X.blk s H scope (compEnvC scope cl C X.env) fp) elt (RE G (X.blk s H scope (compEnvC scope cl C X.env) fp) W0 f))
    (hv : ∀ i ∈ g.slots, i ∈ own.map (·.2)) (hs : ∀ x, foldedSetIterable iter X.env x = pure x := by intro _; rfl) :
    PE X (.ListComp elt [⟨tg, iter, ifs, 0⟩] scope pos) (RE G X W (compE (own.map (·.2)) fi g ct f)) :=
  pe_imp (pe_lcz (g := RG G X [] g) (tt := RT G X W0 ct) (te := RE G X W0 f) hc hN hi ok hg ht he hs) fun _ _ _ => re_lc hv
theorem call_isP {a D : Addr} {oe : Obj} (hp : (a, oe) ∈ X.pn) (C : ExcC X.K D) (hz : L2N.Zn (.ref D) none oe) (hf : ∃ vs, oe.data = .fields vs) : CallR X (.builtin "isinstance") (rIsE X.K D a) := by
  rintro pins s σ H xs us Q I r ⟨c, cv, b, rfl, hcv, e, q⟩
  cases r with
  | cons rx rr => cases rr with
    | cons rt rr =>
      cases rr; cases rx
      obtain rfl := hcv _ rt
      obtain ⟨vs, hv⟩ := hf
      have J : PySem.W.InstAt s.heap a oe D none := by
        obtain ⟨oc, od, oda, osl⟩ := oe
        obtain ⟨h1, h2, _⟩ := hz
        dsimp only at h1 h2 hv
        subst h1 h2 hv
        exact ⟨(I.pin _ (List.mem_append_left _ hp)).1, rfl, rfl, trivial⟩
      exact PySem.W.kia_one (PySem.W.handS_kitx_exc C.hg C.hk C.hs C.hd C.ha C.hn C.ht C.hm) I.kIn J e (fun z => nomatch z) fun tk => ⟨.bl b, H, I.kept (t' := tk) fun _ _ z => z, rfl, q⟩
theorem se_isp {i : Nat} {a D Cc : Addr} {oe : Obj} {b : Bool} {x y : Str} {p px py pos : Pos} (hp : (a, oe) ∈ X.pn) (C : ExcC X.K D) (hz : L2N.Zn (.ref D) none oe) (hf : ∃ vs, oe.data = .fields vs) (hm : X.mg "isinstance" = none)
    (hmy : X.mg y = some (.ref Cc)) (hk : PySem.W.kitOne X.K (.ref D) (.ref Cc) = some b) (hg : Gl X "isinstance" := by rfl)
    (hN : X.N[i]? = some x := by rfl) (hv : Vis X.env.scope x := by first | exact Or.inl rfl | exact Or.inr (Or.inl rfl) | exact Or.inr (Or.inr rfl)) (hd : (x == ("__debug__" : Str)) = false := by decide) (hcd : (x == ("__classdict__" : Str)) = false := by decide) (hgy : Gl X y := by rfl) (hdy : (y == ("__debug__" : Str)) = false := by decide)
    (hs : starEach [.Name x px, .Name y py] X.env = (false, eval (.Name x px) X.env) :: starEach [.Name y py] X.env := by rfl) (hs2 : starEach [.Name y py] X.env = (false, eval (.Name y py) X.env) :: starEach [] X.env := by rfl) (hpl : (backTo pos (starEach [.Name y py] X.env)).any (·.1) = false := by rfl) :
    PE X (.Call (.Name "isinstance" p) [.Name x px, .Name y py] [] pos) (RE G X W (isxE i a b)) := by
  refine pe_imp (pe_callB (call_isP hp C hz hf) hg hm (by rfl) (pa_cons (pe_var hN hv hd hcd) (pa_cons (pe_glob (v := .ref Cc) hgy hmy rfl hdy) pa_nil hs2) hs) (by decide) (by decide) hs hpl) fun σ H Q ⟨M, ρ, o, L, e, w⟩ => ?_
  unfold isxE at e
  split at e
  · rename_i z hi
    split at e
    · rename_i c
      cases e
      obtain ⟨v, h1, h2⟩ := L.at_ i _ hi
      obtain rfl : v = .ref a := by cases h2; rw [c]
      exact ⟨_, h1, .ref Cc, .ref Cc, b, rfl, fun u r => r, hk, w.ok L _ (Rep.bl _)⟩
    · cases e
  · cases e
end
structure FnE (P : Program) (w : World) (K : PySem.W.Frag) (mg : Str → Option Value) (base : Heap) (k : Nat) (f : Addr) (fd : FuncData) (x : Str) (D : Addr) (t : Str) : Prop where
  run : ∀ (A : Around) (outer : List Env) (s : Shared) (H : Hp) (args : Args) (Q : VK) (E : XK) (p : Addr × Obj), RoomH k A → Hot1 A p → L2N.Zn (.ref D) none p.2 → PinOk outer H s p → Env0 P w K mg base A outer s H → BindsTo s fd args [(x, .ref p.1)] →
    (∀ H', (∀ b o, H b = some o → H' b = some o) → Q (.str t) H') → codeAny (model P w) A (.call (.ref f) args) (CR (L2N.CX P w) outer P w H s Q E) s
theorem word_of {G : GS} {X : Cx} {n : Nat} {a : Addr} {t : Str} {f : Sv} {ρ' : En} {body : List Stmt} {Q : VK} {H : Hp} {σ : L2.St} (h : PSs X body (RS G X W0 [] f)) (hl : σ.length = n) (hi : σ[0]? = some (some (.ref a))) (e : f ((List.replicate n Sl.no).set 0 (.sh (.adr a))) = some (.rt (.sh (.str t)) ρ'))
    (q : ∀ H', (∀ b o, H b = some o → H' b = some o) → Q (.str t) H') : RS G X W0 [] f { nx := fun _ H' => Q .non H', rt := Q } σ H := by
  have no : ∀ {b : Addr} {j : Nat} {σ : L2.St}, ¬ OwnAt σ ((List.replicate n Sl.no).set 0 (.sh (.adr a))) j b := fun ⟨_, x, ex, ox⟩ => by
    rcases getSet ex with ⟨_, rfl, _⟩ | ⟨nj, ex⟩
    · cases ox
    · rw [List.getElem?_replicate] at ex
      split at ex
      · cases ex; cases ox
      · cases ex
  refine ⟨fun _ => False, _, _, ⟨by rw [List.length_set, List.length_replicate]; exact hl, fun _ z => z.elim, fun j x ex => ?_, fun j k b h1 h2 => (no h1).elim⟩, e, fun v σ' M' H' s L' R => ?_⟩
  · rcases getSet ex with ⟨rfl, rfl, _⟩ | ⟨nj, ex⟩
    · exact ⟨_, hi, .adr a⟩
    · rw [List.getElem?_replicate] at ex
      split at ex
      · cases ex; trivial
      · cases ex
  · have hv : v = .str t := by cases R; rfl
    subst hv
    exact q H' fun b o eo => s.go.keep b o eo fun ⟨j, z⟩ => no z
theorem fn_E {G : GS} {P : Program} {w : World} {K : PySem.W.Frag} {mg : Str → Option Value} {base : Heap} {k : Nat} {f : Addr} {fd : FuncData} {x name : Str} {st : Stmt} {N : List Str} {D : Addr} {t : Str} (F : FunD K name name (defArgs st) (defBody st) (defScope st) [] [] f fd) (S : FnScope N [x] (defScope st)) (Wm : Addr → Sv)
    (hb : ∀ (cdv : Value) (A : Around) (outer : List Env) (s : Shared) (H : Hp) (E : XK) (p : Addr × Obj), Hot1 A p → L2N.Zn (.ref D) none p.2 → (∃ vs, p.2.data = .fields vs) → RoomH k (A.deeper (envOfC name (defScope st) s.heap.objs.size f cdv)) →
      PSs (cxH (L2N.CX P w) P w K mg base N name (defScope st) f cdv A outer s H E p) (defBody st) (RS G (cxH (L2N.CX P w) P w K mg base N name (defScope st) f cdv A outer s H E p) W0 [] (Wm p.1)))
    (he : ∀ a, ∃ ρ', Wm a ((List.replicate N.length Sl.no).set 0 (.sh (.adr a))) = some (.rt (.sh (.str t)) ρ')) : FnE P w K mg base (k + 1) f fd x D t := by
  obtain ⟨oc, od, dV, kV, doc, pm, an, cdv, ct, osl, rfl, lk, hcd, hD, _⟩ := F.ex
  refine ⟨fun A outer s H args Q E p hr hot hz hpin e0 hbd q => ?_⟩
  have KX : K.In s.heap := e0.mod.kin.keeps fun b o e => (e0.bs b o e).1
  have lim : s.heap.NoLimit := e0.mod.nolimit.keeps fun b o e => (e0.bs b o e).1
  have hkind : ∀ y ∈ [(x, Value.ref p.1)], (defScope st).names.lookup y.1 = some .local ∨ ((defScope st).names.lookup y.1 = some .cell ∧ ((cellsFrom (s.heap.objs.size + 1) (defScope st).names []).lookup y.1).isSome = true) := fun y hy => by
    obtain rfl : y = (x, Value.ref p.1) := List.mem_singleton.mp hy
    exact (S.par x List.mem_cons_self).imp id fun q => ⟨q, PySem.W.cellsFrom_some _ _ _ (.inl q)⟩
  refine codeAny_call_function hr.depth (KX _ _ lk) rfl S.co S.gen rfl (PySem.W.codeRec_of KX hcd) (hbd _ _ _ _ ?_)
  refine wpAny_newFunctionEnv_cells S.kind hkind fun env he1 z x1 => ?_
  subst he1
  refine ⟨lim.keeps x1.toInCall.keep, codeAny_func ?_⟩
  obtain ⟨ρ', hm⟩ := he p.1
  have pb := hb cdv A outer s H E p hot hz (hot.2.imp fun _ h => h.1) (hr.deeper _)
  have I : Inv (cxH (L2N.CX P w) P w K mg base N name (defScope st) f cdv A outer s H E p) [] (L2.start N [.ref p.1]) H z := inv_startH (ps := [x]) (us := [.ref p.1]) S hpin e0 rfl (.cons rfl .nil) x1
  have rd := word_of (σ := L2.start N [.ref p.1]) (H := H) (Q := Q) pb I.len (by unfold L2.start; rfl) hm q
  refine wpAny_mono (pb.run [] z (L2.start N [.ref p.1]) H _ I rd) (fun fl s' hs => ?_) fun e s' hs => hs
  have fin : ∀ {σ' : L2.St} {H' : Hp} {v : V} {u : Value}, Inv (cxH (L2N.CX P w) P w K mg base N name (defScope st) f cdv A outer s H E p) [] σ' H' s' → RelV v u → Q v H' → CE outer P w H s Q u s' := fun {σ' H' v u} J rv q => ⟨v, H', J.os, J.bare, J.base, J.hok, rv, q⟩
  cases fl with
  | ret u => obtain ⟨v, σ', H', J, rv, q⟩ := hs; exact fin J rv q
  | next => obtain ⟨σ', H', J, q⟩ := hs; exact fin (v := V.non) (u := Value.none) J rfl q
  | brk => obtain ⟨_, _, _, q⟩ := hs; exact False.elim q
  | cont => obtain ⟨_, _, _, q⟩ := hs; exact False.elim q
def hotE (i : Nat) (a : Addr) (t : Str) : Ev := fun ρ => match ρ[i]? with
  | some (.sh (.adr x)) => if x = a then some (.ok (.sh (.str t)) ρ) else none
  | _ => none
theorem se_hot {G : GS} {X : Cx} {W : WX} {k i : Nat} {f a D : Addr} {fd : FuncData} {oe : Obj} {x y v : Str} {t : Str} {q pv pos : Pos} (F : FnE X.prog X.w X.K X.mg X.base k f fd y D t) (hr : RoomH k X.A) (hot : Hot1 X.A (a, oe)) (hp : (a, oe) ∈ X.pn) (hz : L2N.Zn (.ref D) none oe) (hm : X.mg x = some (.ref f)) (hk : PySem.W.keepIn X.K (.ref f) = true) (hb : Binds X.K fd [y] [])
    (hg : Gl X x := by rfl) (hN : X.N[i]? = some v := by rfl) (hv : Vis X.env.scope v := by first | exact Or.inl rfl | exact Or.inr (Or.inl rfl) | exact Or.inr (Or.inr rfl)) (hd : (v == ("__debug__" : Str)) = false := by decide) (hcd : (v == ("__classdict__" : Str)) = false := by decide) (hdb : (x == ("__debug__" : Str)) = false := by decide)
    (he : starEach [.Name v pv] X.env = (false, eval (.Name v pv) X.env) :: starEach [] X.env := by rfl) (hpl : (backTo pos (starEach [] X.env)).any (·.1) = false := by rfl) :
    PE X (.Call (.Name x q) [.Name v pv] [] pos) (RE G X W (hotE i a t)) := ⟨fun pins s σ H Q I ⟨M, ρ, o, L, e, w⟩ => by
  unfold hotE at e
  split at e
  · rename_i b hi
    split at e
    · rename_i c
      subst c
      cases e
      obtain ⟨u0, hu0, ru0⟩ := L.at_ i _ hi
      obtain rfl : u0 = .ref b := by cases ru0; rfl
      refine wpAny_Call_Name_kw (ld_glob I hg hm ?_ hdb)
      have ha : PA X [.Name v pv] (tCons (tVar i) tNil) := pa_cons (pe_var hN hv hd hcd) pa_nil
      refine PySem.W.callWith_K (h₀ := X.base) I.ok.mod.kin hk (thn (ha.run pos pins s σ H (fun vs H1 => vs = [V.ref b] ∧ H1 = H) I ⟨_, hu0, rfl, rfl⟩) fun us s1 ⟨vs, H1, I1, r, ev, eH⟩ => ⟨I1.kIn, ?_⟩) he hpl
      subst ev; subst eH
      cases r with
      | cons ru rn =>
        cases rn; cases ru
        have bd := hb s1 [.ref b] I1.kIn rfl
        have P1 := I1.pin (b, oe) (List.mem_append_left _ hp)
        have hpin : PinOk X.stack H1 s1 (b, oe) := ⟨P1.1, P1.2.1, fun hm => (List.mem_cons.mp (I1.stkSub b hm)).elim P1.2.2.1 P1.2.2.2.1, P1.2.2.2.2⟩
        refine wpAny_call (codeAny_mono (F.run X.A X.stack s1 H1 ⟨[.ref b], []⟩ Q (fun _ _ _ => False) (b, oe) hr hot hz hpin I1.env0 bd fun H' hkp => ?_) fun r s' hq => ?_)
        · have g2 : Go0 M H1 M H' := ⟨fun b o e _ => hkp b o e, fun b z => (by
            cases q : H1 b with
            | none => exact absurd q z
            | some o => rw [hkp b o q]; exact fun z => nomatch z), fun _ z => .inl z, fun _ z _ => z⟩
          have d2 : ∀ b, M b → H' b ≠ none := fun b z => g2.there b (L.dom b z)
          exact w M H' g2.of0 .refl (L.go0 g2 d2) _ (Rep.str t)
        · cases r with
          | error e => obtain ⟨_, _, _, _, _, _, _, _, _, _, _, _, z⟩ := hq; exact z.elim
          | ok fl => cases fl with
            | ret u => exact I1.after hq
            | next => exact False.elim hq
            | brk => exact False.elim hq
            | cont => exact False.elim hq
    · cases e
  · cases e⟩
theorem hot_suite {X : Cx} {a : Addr} {oe : Obj} {pn : List (Addr × Obj)} {c : Value} {d : Option Addr} (hz : L2N.Zn c d oe) (hf : ∃ vs, oe.data = .fields vs) : Hot1 (X.suite a ((a, oe) :: pn)).A (a, oe) := ⟨rfl, let ⟨vs, h⟩ := hf; ⟨vs, h, hz.2.2 vs h⟩⟩
theorem hotC_of {X : Cx} {p : Addr × Obj} (h : Hot1 X.A p) (hp : p ∈ X.pn) : HotC X := ⟨p, h, hp⟩
def CalE (P : Program) (w : World) (K : PySem.W.Frag) (mg : Str → Option Value) (base : Heap) (k : Nat) (x y : Str) (D : Addr) (t : Str) : Prop := ∃ f fd, FnE P w K mg base k f fd y D t ∧ mg x = some (.ref f) ∧ PySem.W.keepIn K (.ref f) = true ∧ Binds K fd [y] []
theorem se_hotc {G : GS} {X : Cx} {W : WX} {k i : Nat} {a D : Addr} {oe : Obj} {x y v : Str} {t : Str} {q pv pos : Pos} (C : CalE X.prog X.w X.K X.mg X.base k x y D t) (hr : RoomH k X.A) (hot : Hot1 X.A (a, oe)) (hp : (a, oe) ∈ X.pn) (hz : L2N.Zn (.ref D) none oe)
    (hg : Gl X x := by rfl) (hN : X.N[i]? = some v := by rfl) (hv : Vis X.env.scope v := by first | exact Or.inl rfl | exact Or.inr (Or.inl rfl) | exact Or.inr (Or.inr rfl)) (hd : (v == ("__debug__" : Str)) = false := by decide) (hcd : (v == ("__classdict__" : Str)) = false := by decide) (hdb : (x == ("__debug__" : Str)) = false := by decide)
    (he : starEach [.Name v pv] X.env = (false, eval (.Name v pv) X.env) :: starEach [] X.env := by rfl) (hpl : (backTo pos (starEach [] X.env)).any (·.1) = false := by rfl) :
    PE X (.Call (.Name x q) [.Name v pv] [] pos) (RE G X W (hotE i a t)) := by
  obtain ⟨f, fd, h1, h2, h3, h4⟩ := C
  exact se_hot h1 hr hot hp hz h2 h3 h4 hg hN hv hd hcd hdb he hpl
end TV
namespace TV
open PySem PySem.Spec PyProof.Rows L2
section
variable {G : GS} {X : Cx} {W : WX}
def starA (f : Ev) (fs : Av) : Av := fun ρ => andThen (f ρ) fun r ρ1 => match r.fz ρ1 with
  | none => none
  | some (t, ρ2) => match seqT t with
    | none => none
    | some ts => andThen (fs ρ2) fun as ρ3 => some (.ok (ts.map Rs.sh ++ as) ρ3)
theorem args_shs {K : KG} {M : Addr → Prop} {H : Hp} {σ : L2.St} : ∀ {vs : List V} {ts : List Tr}, Reps K M H vs ts → ArgsAt K M H σ vs (ts.map Rs.sh)
  | _, _, .nil => .nil
  | _, _, .cons h r => .cons h (args_shs r)
theorem args_app {K : KG} {M : Addr → Prop} {H : Hp} {σ : L2.St} : ∀ {vs ws : List V} {rs qs : List Rs}, ArgsAt K M H σ vs rs → ArgsAt K M H σ ws qs → ArgsAt K M H σ (vs ++ ws) (rs ++ qs)
  | _, _, _, _, .nil, h => h
  | _, _, _, _, .cons a b, h => .cons a (args_app b h)
theorem sa_star {e : Expr} {es : List Expr} {p : Pos} {f : Ev} {fs : Av} (he : PE X e (RE G X W f)) (hr : PA X es (RA G X W fs)) (hs : starEach (.Starred e p :: es) X.env = (true, eval e X.env) :: starEach es X.env := by rfl) : PA X (.Starred e p :: es) (RA G X W (starA f fs)) := by
  refine pa_imp (StX.pa_star he hr hs) fun σ H Q ⟨M, ρ, o, L, e, w⟩ => ?_
  refine RE.stepO L e w fun r v M1 H1 ρ1 g1 l1 L1 R1 e1 => ?_
  cases ez : r.fz ρ1 with
  | none => rw [ez] at e1; cases e1
  | some q =>
    obtain ⟨t, ρ2⟩ := q
    rw [ez] at e1
    dsimp only at e1
    cases es : seqT t with
    | none => rw [es] at e1; cases e1
    | some ts =>
      rw [es] at e1
      dsimp only at e1
      obtain ⟨M2, g2, l2, L2', rp, _⟩ := fz_ok L.dom g1 l1 L1 R1 ez
      obtain ⟨a, vs, rfl, h, rs⟩ := RTop.seqT (.inl rp) es
      have w2 := w.later g2 (l1.trans l2) L.dom
      refine ⟨a, vs, rfl, h.symm, RA.stepO L2' e1 w2 fun qs ws M3 H3 ρ3 g3 l3 L3 As e3 => ?_⟩
      cases e3
      exact w2 M3 H3 g3 l3 L3 (vs ++ ws) (args_app (args_shs (rs.go g3 L2'.sub)) As)
def optE : Option Ev → En → Option (Ou (Option Int))
  | none, ρ => some (.ok none ρ)
  | some f, ρ => andThen (f ρ) fun r ρ1 => match r with
    | .sh (.int i) => some (.ok (some i) ρ1)
    | _ => none
def RO (G : GS) (X : Cx) (W : WX) (f : Option Ev) : TO := fun σ H Q => ∃ (M : Addr → Prop) (ρ : En) (o : Ou (Option Int)), Rel (kg X G) M H σ ρ ∧ optE f ρ = some o ∧ Wn G X W σ M H ρ o fun l M' H' ρ' => Q l H'
theorem so_none : PO X none (RO G X W none) := ⟨fun pins s σ H Q I ⟨M, ρ, o, L, e, w⟩ => by
  cases e
  exact po_none.run pins s σ H Q I (w.ok L)⟩
theorem so_some {e : Expr} {f : Ev} (h : PE X e (RE G X W f)) : PO X (some e) (RO G X W (some f)) := ⟨fun pins s σ H Q I ⟨M, ρ, o, L, e, w⟩ => by
  refine (po_some h).run pins s σ H Q I ?_
  unfold optE at e
  refine RE.stepO L e w fun r v M1 H1 ρ1 g1 l1 L1 R1 e1 => ?_
  split at e1
  · rename_i i
    cases e1
    exact ⟨i, Rep.int_eq R1, w M1 H1 g1 l1 L1⟩
  · cases e1⟩
def cutT {α : Type} (ts : List α) (lo hi : Option Int) : List α := (ts.drop (HT.sIx ts.length 0 lo)).take (HT.sIx ts.length ts.length hi - HT.sIx ts.length 0 lo)
theorem Reps.cut {K : KG} {M : Addr → Prop} {H : Hp} {vs : List V} {ts : List Tr} (r : Reps K M H vs ts) (lo hi : Option Int) : Reps K M H (cutV vs lo hi) (cutT ts lo hi) := by
  unfold cutV cutT
  rw [r.length]
  exact (r.drop _).take _
def gSl : Tr → Option Int → Option Int → Option Nw
  | .lst ts, l, h => some (.l (cutT ts l h))
  | .tup ts, l, h => some (.s (.tup (cutT ts l h)))
  | _, _, _ => none
def slE (f : Ev) (lo hi : Option Ev) : Ev := fun ρ => andThen (f ρ) fun r ρ1 => andThen (optE lo ρ1) fun l ρ2 => andThen (optE hi ρ2) fun h ρ3 => match r.tr ρ3 with
  | none => none
  | some t => match gSl t l h with
    | none => none
    | some n => some (.ok n.rs ρ3)
theorem RO.stepO {α : Type} {σ : L2.St} {M : Addr → Prop} {H : Hp} {ρ : En} {f : Option Ev} {k : Option Int → En → Option (Ou α)} {o : Ou α} {P : α → (Addr → Prop) → Hp → En → Prop} {Q : Option Int → Hp → Prop} (L : Rel (kg X G) M H σ ρ) (e : andThen (optE f ρ) k = some o) (h : Wn G X W σ M H ρ o P)
    (q : ∀ l M1 H1 ρ1 o2, Go (Owns σ ρ) M H M1 H1 → Less ρ ρ1 → Rel (kg X G) M1 H1 σ ρ1 → k l ρ1 = some o2 → Wn G X W σ M1 H1 ρ1 o2 P → Q l H1) : RO G X W f σ H Q := by
  obtain ⟨o1, e1, h1⟩ := h.bind L e
  exact ⟨M, ρ, o1, L, e1, h1.mono fun l M1 H1 ρ1 g l1 L1 ⟨o2, e2, h2⟩ => q l M1 H1 ρ1 o2 g l1 L1 e2 h2⟩
theorem se_sl {e : Expr} {lo hi : Option Expr} {f : Ev} {fl fh : Option Ev} {p2 pos : Pos} (hz : G.z = false) (he : PE X e (RE G X W f)) (hl : PO X lo (RO G X W fl)) (hh : PO X hi (RO G X W fh)) : PE X (.Subscript e (.Slice lo hi none p2) pos) (RE G X W (slE f fl fh)) := by
  refine pe_imp (pe_slice (SlR.or sl_tupA sl_list) he hl hh) fun σ H Q ⟨M, ρ, o, L, e, w⟩ => ?_
  refine RE.step L e w fun r v M1 H1 ρ1 o2 g1 l1 L1 R1 e2 w2 => ?_
  refine RO.stepO L1 e2 w2 fun l M2 H2 ρ2 o3 g2 l2 L2' e3 w3 => ?_
  refine RO.stepO L2' e3 w3 fun h M3 H3 ρ3 o4 g3 l3 L3 e4 w4 => ?_
  have sb : ∀ a, Owns σ ρ2 a → Owns σ ρ1 a ∨ H1 a = none := fun a z => .inl (l2.owns z)
  have R3 := R1.go L1 (g2.trans g3 sb L1.dom) (l2.trans l3)
  cases et : r.tr ρ3 with
  | none => rw [et] at e4; cases e4
  | some t =>
    rw [et] at e4
    dsimp only at e4
    have rt := R3.top L3 et
    have tt : ∀ a, H a ≠ none → H3 a ≠ none := fun a n => g3.there a (g2.there a (g1.there a n))
    have back : ∀ {n : Nw} {M' : Addr → Prop} {H' : Hp} {u : V}, Wn G X W σ M3 H3 ρ3 (.ok n.rs ρ3) (fun r M' H' ρ' => ∀ v, ResAt (kg X G) H M' H' σ ρ' v r → Q v H') → Go0 M3 H3 M' H' → (∀ a, M' a → H' a ≠ none) → NewAt (kg X G) H3 M' H' u n → Q u H' := fun {n M' H' u} w4 gg dd nn =>
      w4 M' H' gg.of0 .refl (L3.go0 gg dd) u ((nn.res L3).from tt)
    cases t <;> try (cases e4; done)
    case tup ts =>
      cases e4
      obtain ⟨a, vs, rfl, hq, rs⟩ := rt.tup
      refine .inl ⟨a, vs, rfl, hq, fun c => ?_, fun _ p np => back (n := .s (.tup (cutT ts l h))) w4 (go_tup np) (dom_tup L3.dom) (new_tup hz np L3.dom (rs.cut l h))⟩
      have ec : cutT ts l h = ts := by
        unfold cutT
        rw [rs.length] at c
        rw [c.1, c.2]
        simp
      rw [ec] at w4
      exact back (n := .s (.tup ts)) w4 .refl L3.dom (rt.tup_rep)
    case lst ts =>
      cases e4
      obtain ⟨a, vs, rfl, hq, rs⟩ := rt.lst
      exact .inr ⟨a, vs, rfl, SqL.of hq, fun p np => back (n := .l (cutT ts l h)) w4 (go_mut np) (dom_mut L3.dom) (new_lst np (rs.cut l h))⟩
end
end TV
namespace TV
open PySem PySem.Spec PyProof.Rows L2 L2H
theorem hu64H {A : Around} {k : Nat} (hr : RoomH k A) : A.units + 64 < cLine := by have := hr.un; omega
theorem hu65H {A : Around} {k : Nat} (hr : RoomH k A) : A.units + 65 < cLine := by have := hr.un; omega
theorem hu1H {A : Around} {k : Nat} (hr : RoomH k A) : A.units + 1 < cLine := by have := hr.un; omega
theorem room_suite {X : Cx} {a : Addr} {pn : List (Addr × Obj)} {j k : Nat} (hr : Room k X.A) (h : j ≤ k) : RoomH j (X.suite a pn).A := ⟨by have := hr.dp; show X.A.depth + _ + _ < _; omega, by have := hr.un; show X.A.units + _ + _ < _; omega⟩
section
variable {G : GS} {X : Cx} {W : WX}
theorem se_index {o e : Expr} {f : Ev} {fs : Av} {apos cpos : Pos} (hu : X.A.units + 65 < cLine) (ho : PE X o (RE G X W f)) (ha : PA X [e] (RA G X W fs)) (hbase : attributeBase o "index" X.env (eval o X.env) = eval o X.env := by rfl)
    (hfew : ((backTo cpos (starEach [e] X.env)).all (fun x => !x.1) && (backToKw cpos (keywordEach [] X.env)).all (fun x => x.1.isSome) && decide (([e] : List Expr).length + ([] : List Keyword).length + (if ([] : List Keyword).isEmpty then 0 else 1) < 30)) = true := by rfl)
    (hline : (apos.endLine == cpos.line) = true := by rfl) (hs : starEach [e] X.env = (false, eval e X.env) :: starEach [] X.env := by rfl) (hplain : (backTo cpos (starEach [] X.env)).any (·.1) = false := by rfl) :
    PE X (.Call (.Attribute o "index" apos) [e] [] cpos) (RE G X W (vmE isLst gIndex f fs)) := se_vm PySem.F.plainAttrs_list PySem.F.slot_list_index PySem.F.type_list_index (mt_indexD hu) ok_index ho ha hbase hfew hline hs hplain
def insI (x : Int) : List Int → List Int
  | [] => [x]
  | y :: r => if x ≤ y then x :: y :: r else y :: insI x r
def srtI : List Int → List Int
  | [] => []
  | x :: r => insI x (srtI r)
theorem insI_perm (x : Int) : ∀ l : List Int, (insI x l).Perm (x :: l)
  | [] => .refl _
  | y :: r => by
    unfold insI
    split
    · exact .refl _
    · exact ((insI_perm x r).cons y).trans (.swap x y r)
theorem srtI_perm : ∀ l : List Int, (srtI l).Perm l
  | [] => .refl _
  | x :: r => (insI_perm x (srtI r)).trans ((srtI_perm r).cons x)
theorem insI_sorted (x : Int) : ∀ l : List Int, l.Pairwise (· ≤ ·) → (insI x l).Pairwise (· ≤ ·)
  | [], _ => List.pairwise_singleton _ _
  | y :: r, h => by
    obtain ⟨h1, h2⟩ := List.pairwise_cons.mp h
    unfold insI
    split
    · rename_i c
      refine List.pairwise_cons.mpr ⟨fun z hz => ?_, h⟩
      rcases List.mem_cons.mp hz with rfl | hz
      · exact c
      · exact Int.le_trans c (h1 z hz)
    · rename_i c
      refine List.pairwise_cons.mpr ⟨fun z hz => ?_, insI_sorted x r h2⟩
      rcases List.mem_cons.mp ((insI_perm x r).mem_iff.mp hz) with rfl | hz
      · omega
      · exact h1 z hz
theorem srtI_sorted : ∀ l : List Int, (srtI l).Pairwise (· ≤ ·)
  | [] => .nil
  | x :: r => insI_sorted x _ (srtI_sorted r)
theorem srtI_uniq {l m : List Int} (hp : m.Perm l) (hs : m.Pairwise (· ≤ ·)) : m = srtI l :=
  List.Perm.eq_of_pairwise (fun a b _ _ h1 h2 => Int.le_antisymm h1 h2) hs (srtI_sorted l) (hp.trans (srtI_perm l).symm)
def gSrt (t : Tr) : Option Nw := match listT t with
  | none => none
  | some ts => match intsT ts with
    | none => none
    | some ns => some (.l ((srtI ns).map .int))
theorem ok_srt : FnOkV G X (rSortedI X.K) (f1 gSrt) := fnV1 fun M H x t n Q d rx e q => by
  unfold gSrt at e
  cases el : listT t with
  | none => rw [el] at e; cases e
  | some ts =>
    rw [el] at e
    dsimp only at e
    cases ei : intsT ts with
    | none => rw [ei] at e; cases e
    | some ns =>
      rw [ei] at e
      cases e
      have main : ∀ a, x = .ref a → SqL X.K H a (ns.map V.int) → rSortedI X.K [x] H Q := fun a ex hq => by
        refine ⟨a, ns, by rw [ex], hq, fun ns' p hp hs np => ?_⟩
        rw [srtI_uniq hp hs]
        exact fin_lst d q (.of_ints _) p np
      have et := intsT_some ei
      subst et
      cases t <;> try (cases el; done)
      case lst us =>
        cases el
        obtain ⟨a, vs, rfl, h, r⟩ := rx.lst
        rw [Reps.ints r] at h
        exact main a rfl (SqL.of h)
      case scr ms =>
        obtain ⟨a, rfl, h⟩ := rx.scr
        have e2 : ms = ns := by
          have e3 : ms.map Tr.int = ns.map Tr.int := Option.some.inj el
          have := congrArg intsT e3
          rw [intsT_map, intsT_map] at this
          exact Option.some.inj this
        subst e2
        exact main a rfl h
theorem se_srt {p pos : Pos} {e : Expr} {es : List Expr} {fs : Av} (hg : Gl X "sorted") (hm : X.mg "sorted" = none) (ha : PA X (e :: es) (RA G X W fs)) (he : starEach (e :: es) X.env = (false, eval e X.env) :: starEach es X.env := by rfl) (hpl : (backTo pos (starEach es X.env)).any (·.1) = false := by rfl) :
    PE X (.Call (.Name "sorted" p) (e :: es) [] pos) (RE G X W (bltE (f1 gSrt) fs)) := se_blt cr_sortedI ok_srt hg hm (by rfl) ha (by decide) (by decide) he hpl
def pairsT : List Tr → Option (List (Key × Tr))
  | [] => some []
  | .tup [k, v] :: r => match toKey k, pairsT r with
    | some k, some kvs => some ((k, v) :: kvs)
    | _, _ => none
  | _ :: _ => none
def foldK (kvs : List (Key × Tr)) : List (Key × Tr) := kvs.foldl (fun acc kv => putT acc kv.1 kv.2) []
theorem pairs_reps {K : KG} {M : Addr → Prop} {H : Hp} : ∀ {ts : List Tr} {vs : List V} {tks : List (Key × Tr)}, Reps K M H vs ts → pairsT ts = some tks → ∃ (ps : List Addr) (kvs : List (Key × V)), vs = ps.map V.ref ∧ Paired (fun p kv => SqT K.k H p [kV kv.1, kv.2]) ps kvs ∧ kvs.map (·.1) = tks.map (·.1) ∧ Reps K M H (kvs.map (·.2)) (tks.map (·.2))
  | [], _, _, .nil, e => by cases e; exact ⟨[], [], rfl, .nil, rfl, .nil⟩
  | t :: ts, _, tks, .cons (v := v) (vs := vs) h r, e => by
    match t, h, e with
    | .tup [k, u], h, e =>
      unfold pairsT at e
      cases ek : toKey k with
      | none => rw [ek] at e; cases e
      | some kk =>
        rw [ek] at e
        cases er : pairsT ts with
        | none => rw [er] at e; cases e
        | some rest =>
          rw [er] at e
          cases e
          obtain ⟨ps, kvs, rfl, h1, h2, h3⟩ := pairs_reps r er
          obtain ⟨a, ws, rfl, hq, rs⟩ := RTop.tup (.inl h)
          cases rs with
          | cons hk rs => cases rs with
            | cons hu rs =>
              cases rs
              rename_i w1 w2
              have e1 := RTop.key (.inl hk) ek
              subst e1
              exact ⟨a :: ps, (kk, w2) :: kvs, rfl, .cons hq h1, by simp [h2], .cons hu h3⟩
theorem merge_relK {K : KG} {M : Addr → Prop} {H : Hp} : ∀ {more : List (Key × V)} {tm : List (Key × Tr)} {kvs : List (Key × V)} {tks : List (Key × Tr)}, more.map (·.1) = tm.map (·.1) → Reps K M H (more.map (·.2)) (tm.map (·.2)) → kvs.map (·.1) = tks.map (·.1) → Reps K M H (kvs.map (·.2)) (tks.map (·.2)) →
    (mergeK kvs more).map (·.1) = (tm.foldl (fun acc kv => putT acc kv.1 kv.2) tks).map (·.1) ∧ Reps K M H ((mergeK kvs more).map (·.2)) ((tm.foldl (fun acc kv => putT acc kv.1 kv.2) tks).map (·.2))
  | [], [], _, _, _, _, e, r => ⟨e, r⟩
  | [], _ :: _, _, _, e1, _, _, _ => by simp at e1
  | _ :: _, [], _, _, e1, _, _, _ => by simp at e1
  | p :: more, q :: tm, kvs, tks, e1, r1, e, r => by
    simp only [List.map_cons, List.cons.injEq] at e1
    obtain ⟨e0, e1⟩ := e1
    simp only [List.map_cons] at r1
    cases r1 with
    | cons h t =>
      obtain ⟨a, b⟩ := put_rel (k := p.1) e r h
      have a' : (putK kvs p.1 p.2).map (·.1) = (putT tks q.1 q.2).map (·.1) := by rw [← e0]; exact a
      have b' : Reps K M H ((putK kvs p.1 p.2).map (·.2)) ((putT tks q.1 q.2).map (·.2)) := by rw [← e0]; exact b
      exact merge_relK (more := more) (tm := tm) e1 t a' b'
def gDictOf (t : Tr) : Option Nw := match t with
  | .lst ts => (pairsT ts).map fun kvs => .k (foldK kvs)
  | _ => none
theorem ok_dictOf : FnOkV G X (fun xs H Q => ∃ (a : Addr) (ps : List Addr) (kvs : List (Key × V)), xs = [.ref a] ∧ SqL X.K H a (ps.map V.ref) ∧ Paired (fun p kv => SqT X.K H p [kV kv.1, kv.2]) ps kvs ∧ ∀ p, H p = none → Q (.ref p) (upd H p (.dK (mergeK [] kvs)))) (f1 gDictOf) := fnV1 fun M H x t n Q d rx e q => by
  cases t <;> try (cases e; done)
  rename_i ts
  unfold gDictOf at e
  dsimp only at e
  cases ep : pairsT ts with
  | none => rw [ep] at e; cases e
  | some tks =>
    rw [ep] at e
    cases e
    obtain ⟨a, vs, rfl, h, r⟩ := rx.lst
    obtain ⟨ps, kvs, rfl, h1, h2, h3⟩ := pairs_reps r ep
    refine ⟨a, ps, kvs, rfl, SqL.of h, h1, fun p np => ?_⟩
    obtain ⟨m1, m2⟩ := merge_relK (K := kg X G) (M := M) (H := H) (kvs := []) (tks := []) h2 h3 rfl .nil
    refine q _ _ _ (go_mut np) (dom_mut d) ⟨p, rfl, np, .dk upd_same (.inr rfl) m1 (m2.go0 (go_mut np))⟩
theorem se_dictOf {p pos : Pos} {e : Expr} {es : List Expr} {fs : Av} (hc : X.calm = true) (hg : Gl X "dict") (hm : X.mg "dict" = none) (ha : PA X (e :: es) (RA G X W fs)) (he : starEach (e :: es) X.env = (false, eval e X.env) :: starEach es X.env := by rfl) (hpl : (backTo pos (starEach es X.env)).any (·.1) = false := by rfl) :
    PE X (.Call (.Name "dict" p) (e :: es) [] pos) (RE G X W (bltE (f1 gDictOf) fs)) := se_ty (call_dictP hc) ok_dictOf hg hm (by rfl) ha (by decide) (by decide) he hpl
def keyT : Key → Tr
  | .inl i => .int i
  | .inr x => .str x
def itKE (f : Ev) : Iv := fun ρ => andThen (f ρ) fun r ρ1 => match r with
  | .fk kvs => some (.ok (kvs.map fun kv => keyT kv.1) ρ1)
  | _ => none
theorem it_keys {K : KG} {M : Addr → Prop} {H : Hp} {d : Addr} {od : Obj} {kvs : List (Key × V)} {tks : List (Key × Tr)} (h : H d = some (.frz od (.dK kvs))) (m : ¬ M d) (e : kvs.map (·.1) = tks.map (·.1)) : ItOk K (Itk d od kvs) (tks.map fun kv => keyT kv.1) M H where
  at_ := fun M2 H2 l dm i t et => by
    have hl : kvs.length = tks.length := by have := congrArg List.length e; simpa using this
    have h2 := l.1 _ _ h m
    rw [List.getElem?_map] at et
    cases q : tks[i]? with
    | none => rw [q] at et; cases et
    | some kt =>
      rw [q] at et
      cases et
      have hi := (List.getElem?_eq_some_iff.mp q).1
      refine ⟨⟨h2, by omega⟩, fun x H3 y => ?_⟩
      obtain ⟨rfl, k, v, hk, rfl⟩ := y
      have ek : k = kt.1 := by
        have := congrArg (fun l => l[i]?) e
        simp only [List.getElem?_map, hk, q, Option.map_some] at this
        exact Option.some.inj this
      subst ek
      refine ⟨M2, .refl, dm, ?_⟩
      obtain ⟨k0, t0⟩ := kt
      cases k0 with
      | inl i => exact .int i
      | inr x => exact .str x
  stop := fun M2 H2 l => ⟨l.1 _ _ h m, by rw [List.length_map]; have := congrArg List.length e; simp at this; omega⟩
theorem si_itK {tg e : Expr} {f : Ev} (he : PE X e (RE G X W f)) : PI X tg e (RI G X W (itKE f)) := ⟨fun pins s σ H R I ⟨M, ρ, o, L, e, w⟩ => by
  let Q : VK := fun v H1 => ∃ d kv, v = .ref d ∧ H1 d = some (.dK kv) ∧ ∀ od, R (Itk d od kv) (upd H1 d (.frz od (.dK kv)))
  have hq : RE G X W f σ H Q := by
    unfold itKE at e
    cases ef : f ρ with
    | none => rw [ef] at e; cases e
    | some of =>
      rw [ef] at e
      cases of with
      | ex c ρ1 => cases e; exact ⟨M, ρ, _, L, ef, w⟩
      | ok r ρ1 =>
        simp only [andThen_ok] at e
        split at e
        · rename_i tks
          cases e
          refine ⟨M, ρ, _, L, ef, fun M1 H1 g1 l1 L1 v R1 => ?_⟩
          obtain ⟨d, rfl, hd0, hno, ow⟩ := R1
          cases ow with
          | dk hd m er rr =>
            rename_i kv
            refine ⟨d, kv, rfl, hd, fun od => ?_⟩
            have kp : ∀ a o, H1 a = some o → ¬ M1 a → upd H1 d (.frz od (.dK kv)) a = some o := fun a o ea na => by
              have nad : a ≠ d := fun z => na (by rw [z]; exact m)
              rw [upd_ne nad]; exact ea
            have mm : ∀ a, ¬ M1 a → H1 a ≠ none → ¬ (M1 a ∧ a ≠ d) := fun a na _ z => na z.1
            have go : Go (Owns σ ρ) M H (fun a => M1 a ∧ a ≠ d) (upd H1 d (.frz od (.dK kv))) := ⟨fun a o ea na => by
                have := g1.keep a o ea na
                rw [upd_ne (fun z => by rw [z, hd0] at ea; cases ea)]; exact this, fun a na => by
                by_cases z : a = d
                · rw [z, upd_same]; exact fun q => nomatch q
                · rw [upd_ne z]; exact g1.there a na, fun a z => g1.new a z.1, fun a ma na => ⟨g1.old a ma na, fun z => L.dom a ma (z ▸ hd0)⟩⟩
            refine w _ _ go l1 ⟨L1.len, fun a z => (by rw [upd_ne z.2]; exact L1.dom a z.1), fun i s es => ?_, L1.inj⟩ _ (it_keys upd_same (fun z => z.2 rfl) er)
            have at_ := L1.at_ i s es
            have own : ∀ {a : Addr} {t : Tr}, s.own = true → σ[i]? = some (some (.ref a)) → Own (kg X G) M1 H1 a t → Own (kg X G) (fun a => M1 a ∧ a ≠ d) (upd H1 d (.frz od (.dK kv))) a t := fun {a t} ho hi ow => by
              have na : a ≠ d := fun z => hno ⟨i, z ▸ hi, s, es, ho⟩
              cases ow with
              | lst h m r => exact .lst (by rw [upd_ne na]; exact h) ⟨m, na⟩ (r.mono kp mm)
              | dk h m e r => exact .dk (by rw [upd_ne na]; exact h) ⟨m, na⟩ e (r.mono kp mm)
              | dt h m e r => exact .dt (by rw [upd_ne na]; exact h) ⟨m, na⟩ e (r.mono kp mm)
            cases s with
            | no => trivial
            | sh t => obtain ⟨v, h1, h2⟩ := at_; exact ⟨v, h1, h2.mono kp mm⟩
            | ow t => obtain ⟨a, h1, h2⟩ := at_; exact ⟨a, h1, own rfl h1 h2⟩
            | ok t => obtain ⟨a, h1, h2⟩ := at_; exact ⟨a, h1, own rfl h1 h2⟩
            | ot t => obtain ⟨a, h1, h2⟩ := at_; exact ⟨a, h1, own rfl h1 h2⟩
        · cases e
  refine thn (he.run pins s σ H Q I hq) fun u s1 ⟨x, H1, I1, rx, d, kv, ex, hd, q⟩ => ?_
  subst ex
  obtain rfl : u = Value.ref d := rx
  obtain ⟨od, I2⟩ := I1.lock hd trivial
  obtain ⟨hs, hgd, hx, es, ep, vs, hdt, hsz, kv2, hm⟩ := I2.frzK upd_same
  refine iter_keys hs hgd hx hdt (pi_one (tk := s1.toks) I2 _ (turn_keys _ hdt) ⟨_, Heap.get?_push_size _ rfl, rfl, ?_⟩ (q od))
  rw [hsz] <;> rfl⟩
end
theorem shpl3 (a b c : Bool) : shp (.lst [.bl a, .bl b, .bl c]) = true := by cases a <;> cases b <;> cases c <;> rfl
theorem shpl5 (a b c d e : Bool) : shp (.lst [.bl a, .bl b, .bl c, .bl d, .bl e]) = true := by cases a <;> cases b <;> cases c <;> cases d <;> cases e <;> rfl
end TV
namespace TV
open PySem PySem.Spec PyProof.Rows L2
section
variable {P : Program} {w : World} {A : Around} {E : Value → Shared → Prop} {s : Shared} {a : Addr}
theorem sorted_setN {S : Int → Bool} {n : Nat} {Q : Value → Shared → Prop} (R : SetR w s.heap a S n) (hh : A.handled = none)
    (hQ : ∀ s' p (out : Array Value) (c : Nat) (ns : List Int), (∀ b o, s.heap.get? b = some o → s'.heap.get? b = some o) → s'.gens = s.gens → s'.os = s.os → s.heap.objs.size ≤ p → s'.heap.get? p = some (seqObj "list" out c) → IntsAre out.toList ns → ns.Pairwise (· ≤ ·) → ns.Nodup → (∀ k, k ∈ ns ↔ S k = true) → ns.length = n → Q (.ref p) s') :
    wpAny (model P w) A (call (.builtin "sorted") [.ref a]) Q E s := by
  obtain ⟨o, es, ep, t, ho, hex, hd, g, nd, hm, hb, hf, hn, hr, hl⟩ := R
  refine Calls.call_function_entry kind_sorted plain_sorted entry_sorted (args_sorted1 _) ?_
  unfold Builtin.«sorted»
  refine wpAny_bind (m := checkCount "sorted" 1 1 _) (wpAny_pure ?_); refine wpAny_bind (collect_set (A := A.in1) hh ⟨o, ho, hex.1, hd⟩ hf hb hr hl fun z vs k1 hz g1 o1 pm => ?_)
  have hvl : vs.length = n := by rw [pm.length_eq, List.length_map, Array.length_toList]; exact hn
  have hI : IntsAre vs (vs.map Builtin.Re.reRawOf) := ints_of vs fun v hv => let ⟨e, he, q⟩ := List.mem_map.mp (pm.mem_iff.mp hv); let ⟨k, tk, h1, _⟩ := g e he; ⟨k, tk, by rw [← q]; exact h1⟩
  have pk : (vs.map Builtin.Re.reRawOf).Perm (es.toList.map keyOf) := by
    have q := pm.map Builtin.Re.reRawOf
    rwa [List.map_map] at q
  have hnb : n < 4096 := by rw [← hn]; exact hb
  have hsz : vs.length ≤ sizeLine := by rw [hvl, sizeLine_eq]; omega
  refine wpAny_bind (wpAny_newList ?_ hsz)
  have hoL : (z.heap.push (seqObj "list" vs.toArray 0)).get? z.heap.objs.size = some (seqObj "list" vs.toArray 0) := Heap.get?_push_size _ rfl
  refine wpAny_bind (wpAny_holding (wpAny_call_entry slot_list_sort ⟨_, hoL, rfl⟩ entry_list_sort (SrtO.list_sort_ord SrtO.swo_int hoL hsz (fun h2 => SrtO.ints_sortable hI h2) fun out h1 h2 => ⟨_, rfl, ?_⟩) (args_list_sort _)))
  obtain ⟨i1, i2, i3⟩ := SrtO.ints_out hI h1 h2
  obtain ⟨c, hc⟩ := sortedHeap_at (vs := vs) (out := out.toArray) hoL
  have pn := i2.trans pk
  refine wpAny_pure ⟨_, rfl, hQ _ z.heap.objs.size out.toArray c (out.map SrtO.iv) (fun b u e => ?_) g1 o1 hz hc i1 i3 (pn.nodup_iff.mpr nd) (fun k => by rw [pn.mem_iff, ← hm k]) (by rw [pn.length_eq, List.length_map, Array.length_toList]; exact hn)⟩
  have q := k1 b u e
  have hlt := Heap.lt_size q
  show (sortedHeap (z.heap.push (seqObj "list" vs.toArray 0)) z.heap.objs.size vs out.toArray).get? b = some u
  rw [sortedHeap_old (Nat.ne_of_lt hlt) (by rw [size_push']; exact Nat.lt_succ_of_lt hlt)]
  exact Heap.get?_push_of_some _ q
end
def rSortedSetN (w : World) : List V → Hp → VK → Prop := fun vs H Q => ∃ (a : Addr) (S : Int → Bool) (n : Nat), vs = [V.ref a] ∧ H a = some (SetO w a S n) ∧
  ∀ (ns : List Int) (p : Addr), ns.Pairwise (· ≤ ·) → ns.Nodup → (∀ k : Int, k ∈ ns ↔ S k = true) → H p = none → Q (.ref p) (upd H p (.lst (ns.map V.int)))
section
variable {X : Cx}
theorem cr_sortedSetN (hc : X.calm = true) : CallR X (.builtin "sorted") (rSortedSetN X.w) := by
  rintro pins s σ H vs us Q I r ⟨a, S, n, rfl, ha, q⟩
  have R := setO_get I ha
  have hb : n < 4096 := by obtain ⟨o, es, ep, t, _, _, _, _, _, _, hb, _, hn, _⟩ := R; rw [← hn]; exact hb
  rw [Vals.ref1 r]
  refine sorted_setN R (I.ok.hd hc) fun z p out c ns k g o hp hg hi hs hd hm hl => ?_
  have hn : H p = none := I.hok.fresh hp
  have J : Inv X pins σ (upd H p (.lst (ns.map V.int))) { s with heap := z.heap, gens := z.gens, drawn := z.drawn, toks := z.toks } :=
    I.call (ch := []) (Un.laid k hp hn) (I.hok.laid k hp ⟨by rw [List.length_map, hl, sizeLine_eq]; omega, out.toList, c, vals_of_ints hi, hg⟩) (by rw [g]; exact I.bare) (fun _ z => nomatch z)
  have e : z = { s with heap := z.heap, gens := z.gens, drawn := z.drawn, toks := z.toks } := by cases z; cases s; cases o; rfl
  rw [e]
  exact ⟨.ref p, _, J, rfl, q ns p hs hd hm hn⟩
end
def tSci (w : World) (wi : TI) (g : TG) (tt : TT) (te : TE) (vs : List Nat) : TE := fun σ H Q => wi σ H fun J H1 => ∀ D, H1 D = none → ∃ W : Nat → Nat → Hp → Prop, (∃ m, W 0 m (upd H1 D (SetO w D (fun _ => false) 0))) ∧ ∀ i m H, W i m H →
  (J.stop i H ∧ Q (.ref D) H) ∨ (J.go i H ∧ ∃ Nx : Hp → Prop, (∀ H', Nx H' → ∃ m', m' < m ∧ W (i + 1) m' H') ∧ ∀ x H', J.yld i H x H' → g x (wipe σ vs) H' fun σ2 H2 => wipe σ2 vs = wipe σ vs ∧ tt σ2 H2 fun b H3 =>
    if b = true then te σ2 H3 fun y H4 => ∃ (k : Int) (S : Int → Bool) (n : Nat), y = .int k ∧ H4 D = some (SetO w D S n) ∧ n + 1 < scanBound ∧ Nx (upd H4 D (SetO w D (fun j => S j || decide (j = k)) (if S k = true then n else n + 1))) else Nx H3)
theorem addI_ok {X : Cx} {pins : List (Addr × Obj)} {σ : L2.St} {H : Hp} {s : Shared} {E : Value → Shared → Prop} {D : Addr} {S : Int → Bool} {n : Nat} {k : Int} {tk : Tok} {Q : Value → Shared → Prop} (I : Inv X pins σ H s) (hD : H D = some (SetO X.w D S n)) (room : n + 1 < scanBound)
    (h : ∀ s', Inv X pins σ (upd H D (SetO X.w D (fun j => S j || decide (j = k)) (if S k = true then n else n + 1))) s' → Q .none s') : wpAny (model X.prog X.w) X.A (call (.builtin "set.add") [.ref D, .int k tk]) Q E s := by
  refine setR_add (setO_get I hD) room fun h' sb new => ?_
  have he : ∃ u, h'.get? D = some u := let ⟨o, _, _, _, ho, _⟩ := new; ⟨o, ho⟩
  exact h _ (I.write (e := D) (t' := s.toks + 1) (by rw [hD]; trivial) (.inl rfl) (fun b u hb hu => (sb.2 b hb).trans hu) he (setO_new new))
theorem scz {X : Cx} {pins : List (Addr × Obj)} {s : Shared} {σ : L2.St} {H : Hp} {Q : VK} {elt tg iter : Expr} {ifs : List Expr} {scope : Scope} {own : List (Str × Nat)} {pos pos' : Pos} {wi : TI} {g : TG} {tt : TT} {te : TE} {use : Option (Value → Sem Unit)} {Qf : Value → Shared → Prop}
    (hc : X.calm = true) (hN : X.N.Nodup) (I : Inv X pins σ H s) (hi : PI X tg iter wi) (ok : BlkOk X.N X.env.scope scope own)
    (hg : ∀ (s : Shared) (H : Hp) (C : Addr) (cl : List (Str × Addr)) (fp : List Addr), PG (X.blk s H scope (compEnvC scope cl C X.env) fp) tg g) (ht : ∀ (s : Shared) (H : Hp) (C : Addr) (cl : List (Str × Addr)) (fp : List Addr), PTs (X.blk s H scope (compEnvC scope cl C X.env) fp) ifs tt)
    (he : ∀ (s : Shared) (H : Hp) (C : Addr) (cl : List (Str × Addr)) (fp : List Addr), PE (X.blk s H scope (compEnvC scope cl C X.env) fp) elt te) (hs : ∀ x, foldedSetIterable iter X.env x = pure x) (h : tSci X.w wi g tt te (own.map (·.2)) σ H Q)
    (hRR : ∀ D C s' m H', Inv X pins σ H' s' → Q (.ref D) H' → s'.heap.Ns C m → FpOk X pins H' C → compPost (model X.prog X.w) X.A X.xe use Qf (.ref D) C (.ok .next) s') :
    wpAny (model X.prog X.w) X.A (comprehension (.SetComp elt [⟨tg, iter, ifs, 0⟩] scope pos) scope X.env pos' (newSet (.type "set")) false (eval iter X.env) use) Qf X.xe s := by
  have cl0 : ∀ y ∈ scope.names, y.2 = .free → ∃ c, X.env.cells.lookup y.1 = some c := fun y hy e => (ok.free y hy e).elim (fun k => I.ok.has _ (.inl k)) fun k => I.ok.has _ (.inr k)
  refine wpAny_comprehension_free (use := use) rfl hs (closure_ok cl0) ok.kind (fun y hy e => (by rw [ok.uniq y hy, e])) (thn (hi.run pins s σ H _ I h) fun xv za hx => thn hx fun itv zb hb => ?_)
  obtain ⟨it, fp, tn, J, Hb, rfl, Ib, T, tb, fb, q⟩ := hb
  refine PpSet.newSet_ok (newEnv_comp ?_)
  generalize hD : zb.heap.objs.size = D
  obtain ⟨W, ⟨n0, w0⟩, turn⟩ := q D (Ib.hok.fresh (Nat.le_of_eq hD))
  generalize hzc : ({ zb with heap := zb.heap.push { cls := .type "set", dict := none, data := .set #[] 0 (.fresh 0 0 (!X.w.params.followText "set-order")) } } : Shared) = zc
  have Ic : Inv X pins σ (upd Hb D (SetO X.w D (fun _ => false) 0)) zc := by
    subst hzc
    exact Ib.laid (t' := zb.toks) (fun b o e => Heap.get?_push_of_some _ e) (Nat.le_of_eq hD) (by rw [← hD]; exact setO_new (setR_fresh X.w))
  have hzh : zc.heap = zb.heap.push { cls := .type "set", dict := none, data := .set #[] 0 (.fresh 0 0 (!X.w.params.followText "set-order")) } := by rw [← hzc]
  have lt : ∀ b ∈ fp, b < zb.heap.objs.size := fun b m => let ⟨o, e, _⟩ := T.obj _ _ tb b m; Heap.lt_size e
  have fc : ∀ b ∈ fp, FpOk X pins (upd Hb D (SetO X.w D (fun _ => false) 0)) b ∧ b < zc.heap.objs.size := fun b m =>
    ⟨⟨by rw [upd_ne (by rw [← hD]; exact Nat.ne_of_lt (lt b m))]; exact (fb b m).1, (fb b m).2⟩, by rw [hzh, Heap.size_push]; exact Nat.lt_succ_of_lt (lt b m)⟩
  have tc : tn 0 zc.heap := T.keep _ _ _ tb fun b _ o e => by rw [hzh]; exact Heap.get?_push_of_some _ e
  have Id := block_start Ic ok hN fc
  have pg := hg zc (upd Hb D (SetO X.w D (fun _ => false) 0)) zc.heap.objs.size (cellsFrom (zc.heap.objs.size + 1) scope.names (cloFrom X.env.cells scope.names [])) fp
  have pt := ht zc (upd Hb D (SetO X.w D (fun _ => false) 0)) zc.heap.objs.size (cellsFrom (zc.heap.objs.size + 1) scope.names (cloFrom X.env.cells scope.names [])) fp
  have pe := he zc (upd Hb D (SetO X.w D (fun _ => false) 0)) zc.heap.objs.size (cellsFrom (zc.heap.objs.size + 1) scope.names (cloFrom X.env.cells scope.names [])) fp
  show codeAny _ _ (.compStart (.SetComp elt [⟨tg, iter, ifs, 0⟩] scope pos) 0 (.ref it) (.ref D) (compEnvC scope (cellsFrom (zc.heap.objs.size + 1) scope.names (cloFrom X.env.cells scope.names [])) zc.heap.objs.size X.env)) (compPost (model X.prog X.w) X.A X.xe use Qf (.ref D) zc.heap.objs.size) { zc with heap := pushCells (zc.heap.push { cls := .type "dict", data := .dict #[] }) scope.names }
  have nf : ∀ b ∈ fp, (upd Hb D (SetO X.w D (fun _ => false) 0)) b = none := fun b m => (fc b m).1.1
  generalize hce : compEnvC scope (cellsFrom (zc.heap.objs.size + 1) scope.names (cloFrom X.env.cells scope.names [])) zc.heap.objs.size X.env = ce at Id pg pt pe ⊢
  have cL : ce.locals = zc.heap.objs.size := by subst hce; rfl
  generalize hHc : upd Hb D (SetO X.w D (fun _ => false) 0) = Hc at Ic Id pg pt pe w0 nf fc
  generalize hzd : ({ zc with heap := pushCells (zc.heap.push { cls := .type "dict", data := .dict #[] }) scope.names } : Shared) = zd at Id ⊢
  have td : tn 0 zd.heap := T.keep _ _ _ tc fun b _ o e => by rw [← hzd]; exact pushCells_keeps _ _ _ _ (Heap.get?_push_of_some _ e)
  have stat : ∀ {σ' : L2.St} {H' : Hp} {s' : Shared}, Inv (X.blk zc Hc scope ce fp) [] σ' H' s' → (∀ b ∈ fp, H' b = none) → ∀ b ∈ fp, FpOk (X.blk zc Hc scope ce fp) [] H' b := fun I' hn b m =>
    ⟨hn b m, (I'.ok.exf b m).1, I'.ok.exfs b m, .inl m, fun x c e => (I'.ok.exf b m).2 x c e, fun p hp => absurd (show p ∈ ([] : List (Addr × Obj)) ++ [] from hp) (by simp)⟩
  have loop : codeAny (model X.prog X.w) X.A (.compLoop (.SetComp elt [⟨tg, iter, ifs, 0⟩] scope pos) 0 (.ref it) (.ref D) ce) (compPost (model X.prog X.w) X.A X.xe use Qf (.ref D) zc.heap.objs.size) zd := by
    refine PpSet.compLoopS_any (fun n s' => ∃ i H', Inv (X.blk zc Hc scope ce fp) [] (wipe σ (own.map (·.2))) H' s' ∧ tn i s'.heap ∧ (∀ b ∈ fp, H' b = none) ∧ W i n H') ?_ n0 ⟨0, Hc, Id, td, nf, w0⟩
    rintro n ze ⟨i, He, Ie, te_, ne, we⟩
    rcases turn i n He we with ⟨stop, qq⟩ | ⟨go, Nx, hNx, step⟩
    · refine thnF (T.done (X.blk zc Hc scope ce fp) rfl rfl rfl hc i [] ze _ He (fun _ _ => False) Ie (stat Ie ne) te_ stop) fun r zf ⟨hr, If⟩ => ?_
      subst hr
      have Ig : Inv X pins σ He zf := Ic.call' (ch := fp) If.os If.base If.hok If.bare fun b m => ⟨(fc b m).1.2.2.2.1, (fc b m).1.2.1, (fc b m).1.2.2.2.2.1, (fc b m).1.2.2.2.2.2⟩
      have nC : He zc.heap.objs.size = none := by have z : He ce.locals = none := If.free; rwa [cL] at z
      obtain ⟨m, hn, _⟩ := If.loc
      have hn : zf.heap.Ns ce.locals m := hn
      rw [cL] at hn
      exact hRR D zc.heap.objs.size zf m He Ig qq hn (Ic.fpOk (Nat.le_refl _) nC)
    · refine thnF (T.item (X.blk zc Hc scope ce fp) rfl rfl rfl hc i [] ze _ He (fun _ _ => False) Ie (stat Ie ne) te_ go) fun r zf ⟨u, hr, hf⟩ => ?_
      subst hr
      refine thnF hf fun _ zg ⟨x, Hg, Ig, rg, yg, tg_, ng⟩ => ?_
      have Ig' := Ig.pinned (stat Ig ng) (T.obj _ _ tg_)
      refine thnF (pg.run _ zg _ Hg x u _ Ig' rg (step x Hg yg)) fun _ zh ⟨σh, Hh, Ih, hwh, qh⟩ => thnF (pt.run _ zh σh Hh _ Ih qh) fun b zi ⟨Hi, Ii, qi⟩ => ?_
      have fin : ∀ {s' : Shared} {H' : Hp}, Inv (X.blk zc Hc scope ce fp) ([] ++ pinsAt fp zg.heap) σh H' s' → Nx H' → ∃ m, m < n ∧ ∃ i H', Inv (X.blk zc Hc scope ce fp) [] (wipe σ (own.map (·.2))) H' s' ∧ tn i s'.heap ∧ (∀ b ∈ fp, H' b = none) ∧ W i m H' := fun {s' H'} I' nx => by
        obtain ⟨m', hm, w'⟩ := hNx H' nx
        have pin' : ∀ b ∈ fp, ∀ o, zg.heap.get? b = some o → s'.heap.get? b = some o ∧ H' b = none := fun b m o e => let z := I'.pin (b, o) (List.mem_append_right _ (List.mem_append_right _ (mem_pinsAt m e))); ⟨z.1, z.2.1⟩
        refine ⟨m', hm, i + 1, H', (I'.unpinned (pins := [])).weak (by rw [← hwh, wipe_length]) (fun j v e => (by rw [← hwh] at e; exact (wipe_some e).1)), T.keep _ _ _ tg_ fun b m o e => (pin' b m o e).1, fun b m => ?_, w'⟩
        obtain ⟨o, e, _⟩ := T.obj _ _ tg_ b m
        exact (pin' b m o e).2
      cases b with
      | false => simp only [Bool.false_eq_true, if_false] at qi ⊢; exact fin Ii qi
      | true =>
        simp only [if_true] at qi ⊢
        refine thnF (pe.run _ zi σh Hi _ Ii qi) fun z zj ⟨yv, Hj, Ij, rj, cb, S0, n0', ey, hDj, hzj, nx⟩ => ?_
        subst ey
        obtain ⟨tk, rfl⟩ := (show ∃ tk, z = Value.int cb tk from rj)
        exact addI_ok (X := X.blk zc Hc scope ce fp) Ij hDj hzj fun zk Ik => fin Ik nx
  exact PpSet.codeAny_compStart_set loop (T.self X.A 0 _ _ _ td loop)
theorem pe_sci {X : Cx} {elt tg iter : Expr} {ifs : List Expr} {scope : Scope} {own : List (Str × Nat)} {pos : Pos} {wi : TI} {g : TG} {tt : TT} {te : TE} (hc : X.calm = true) (hN : X.N.Nodup) (hi : PI X tg iter wi) (ok : BlkOk X.N X.env.scope scope own)
    (hg : ∀ (s : Shared) (H : Hp) (C : Addr) (cl : List (Str × Addr)) (fp : List Addr), PG (X.blk s H scope (compEnvC scope cl C X.env) fp) tg g) (ht : ∀ (s : Shared) (H : Hp) (C : Addr) (cl : List (Str × Addr)) (fp : List Addr), PTs (X.blk s H scope (compEnvC scope cl C X.env) fp) ifs tt)
    (he : ∀ (s : Shared) (H : Hp) (C : Addr) (cl : List (Str × Addr)) (fp : List Addr), PE (X.blk s H scope (compEnvC scope cl C X.env) fp) elt te) (hs : ∀ x, foldedSetIterable iter X.env x = pure x := by intro _; rfl) :
    PE X (.SetComp elt [⟨tg, iter, ifs, 0⟩] scope pos) (tSci X.w wi g tt te (own.map (·.2))) := ⟨fun pins s σ H Q I h => by
  rw [PpSet.eval_SetComp]
  refine scz hc hN I hi ok hg ht he hs h fun D C z m H' I' q hn ⟨f0, f1, f2, f3, f4, f5⟩ => ⟨m, hn, fun h'' sb => ?_⟩
  exact ⟨.ref D, H', I'.turned (t' := z.toks) (fun b o hb e => (sb.2 b hb).trans e) f0 f1 f3 f4 f5, rfl, q⟩⟩
end TV
namespace TV
open PySem PySem.Spec PyProof.Rows L2
def insU (x : Int) : List Int → List Int
  | [] => [x]
  | y :: r => if x < y then x :: y :: r else if x = y then y :: r else y :: insU x r
def srtU : List Int → List Int
  | [] => []
  | x :: r => insU x (srtU r)
theorem insU_mem (x k : Int) : ∀ l : List Int, k ∈ insU x l ↔ k = x ∨ k ∈ l
  | [] => by simp [insU]
  | y :: r => by
    unfold insU
    split
    · simp
    · split
      · rename_i h; subst h; simp
      · simp only [List.mem_cons, insU_mem x k r]
        exact ⟨fun z => z.elim (fun z => .inr (.inl z)) fun z => z.elim .inl fun z => .inr (.inr z), fun z => z.elim (fun z => .inr (.inl z)) fun z => z.elim .inl fun z => .inr (.inr z)⟩
theorem srtU_mem (k : Int) : ∀ l : List Int, k ∈ srtU l ↔ k ∈ l
  | [] => by simp [srtU]
  | x :: r => by rw [srtU, insU_mem, srtU_mem k r, List.mem_cons]
theorem insU_lt (x : Int) : ∀ l : List Int, l.Pairwise (· < ·) → (insU x l).Pairwise (· < ·)
  | [], _ => List.pairwise_singleton _ _
  | y :: r, h => by
    obtain ⟨h1, h2⟩ := List.pairwise_cons.mp h
    unfold insU
    split
    · rename_i c
      refine List.pairwise_cons.mpr ⟨fun z hz => ?_, h⟩
      rcases List.mem_cons.mp hz with rfl | hz
      · exact c
      · exact Int.lt_trans c (h1 z hz)
    · split
      · exact h
      · refine List.pairwise_cons.mpr ⟨fun z hz => ?_, insU_lt x r h2⟩
        rcases (insU_mem x z r).mp hz with rfl | hz
        · omega
        · exact h1 z hz
theorem srtU_lt : ∀ l : List Int, (srtU l).Pairwise (· < ·)
  | [] => .nil
  | x :: r => insU_lt x _ (srtU_lt r)
theorem srtU_uniq {l m : List Int} (hs : m.Pairwise (· ≤ ·)) (hd : m.Nodup) (hm : ∀ k, k ∈ m ↔ k ∈ l) : m = srtU l := by
  have h1 := srtU_lt l
  have nd : (srtU l).Nodup := h1.imp fun {a b} h => by omega
  have pm : m.Perm (srtU l) := (List.perm_ext_iff_of_nodup hd nd).mpr fun a => by rw [hm, srtU_mem]
  exact List.Perm.eq_of_pairwise (fun a b _ _ h1 h2 => Int.le_antisymm h1 h2) hs (h1.imp fun {a b} h => by omega) pm
def compI (vs : List Nat) (tg : Tg) (ct : Tv) (elt : Ev) : List Tr → List Int → En → Option (List Int × En)
  | [], acc, ρ => some (acc, ρ)
  | t :: ts, acc, ρ => match asgT [] tg t ρ with
    | none => none
    | some ρ1 => match ct ρ1 with
      | some (.ok false ρ2) => compI vs tg ct elt ts acc (kill vs ρ2)
      | some (.ok true ρ2) => match elt ρ2 with
        | some (.ok r ρ3) => match r with
          | .sh (.int k) => if acc.length < 4000 then compI vs tg ct elt ts (acc ++ [k]) (kill vs ρ3) else none
          | _ => none
        | _ => none
      | _ => none
def srtScE (vs : List Nat) (src : Iv) (tg : Tg) (ct : Tv) (elt : Ev) : Ev := fun ρ => andThen (src ρ) fun ts ρ1 => match compI vs tg ct elt ts [] (kill vs ρ1) with
  | some (acc, ρ2) => some (.ok (.fr ((srtU acc).map Tr.int)) (restore vs ρ1 ρ2))
  | none => none
section
variable {G : GS} {X : Cx} {W : WX}
theorem re_sci {vs : List Nat} {fi : Iv} {g : Tg} {ct : Tv} {f : Ev} (hv : ∀ i ∈ g.slots, i ∈ vs) {σ : L2.St} {H : Hp} {Q : VK} (q : RE G X W (srtScE vs fi g ct f) σ H Q) :
    tSci X.w (RI G X W fi) (RG G X [] g) (RT G X W0 ct) (RE G X W0 f) vs σ H fun v H1 => rSortedSetN X.w [v] H1 Q := by
  obtain ⟨M, ρ, o, L, e, w⟩ := q
  -- the source
  have src : ∀ {R : It → Hp → Prop}, (∀ ts M1 H1 ρ1, Go (Owns σ ρ) M H M1 H1 → Less ρ ρ1 → Rel (kg X G) M1 H1 σ ρ1 → (match compI vs g ct f ts [] (kill vs ρ1) with
      | some (acc, ρ2) => some (Ou.ok (Rs.fr ((srtU acc).map Tr.int)) (restore vs ρ1 ρ2))
      | none => none) = some o → ∀ J, ItOk (kg X G) J ts M1 H1 → R J H1) → RI G X W fi σ H R := by
    intro R h
    unfold srtScE at e
    cases ef : fi ρ with
    | none => rw [ef] at e; cases e
    | some o1 =>
      rw [ef] at e
      cases o1 with
      | ex c ρ1 => cases e; exact ⟨M, ρ, _, L, ef, w⟩
      | ok ts ρ1 => exact ⟨M, ρ, _, L, ef, fun M1 H1 g1 l1 L1 => h ts M1 H1 ρ1 g1 l1 L1 e⟩
  refine src fun ts M1 H1 ρ1 g1 l1 L1 e1 J it D nD => ?_
  cases ec : compI vs g ct f ts [] (kill vs ρ1) with
  | none => rw [ec] at e1; cases e1
  | some pr =>
    obtain ⟨accF, ρF⟩ := pr
    rw [ec] at e1
    cases e1
    have hlw : (wipe σ vs).length = σ.length := wipe_length σ vs
    have hw : ∀ i : Nat, i ∉ vs → (wipe σ vs)[i]? = σ[i]? := fun i h => wipe_out h
    have Lw : Rel (kg X G) M1 H1 (wipe σ vs) (kill vs ρ1) := L1.wiped hlw hw
    have gD := go_mut (M := M1) (o := SetO X.w D (fun _ => false) 0) nD
    have LD := Lw.go0 gD (dom_mut Lw.dom)
    -- D is no slot's
    have nOwn : ∀ {σ' : L2.St} {ρ' : En}, (∀ a, Owns σ' ρ' a → Owns (wipe σ vs) (kill vs ρ1) a) → ¬ Owns σ' ρ' D := fun s z => Lw.dom D (Lw.sub D (s D z)) nD
    refine ⟨fun i m H' => ∃ (M' : Addr → Prop) (ρ' : En) (S : Int → Bool) (n : Nat) (acc : List Int), i ≤ ts.length ∧ m = (ts.drop i).length ∧ Go (fun a => Owns (wipe σ vs) (kill vs ρ1) a ∨ a = D) (wi M1 D) (upd H1 D (SetO X.w D (fun _ => false) 0)) M' H' ∧ Less (kill vs ρ1) ρ' ∧
        Rel (kg X G) M' H' (wipe σ vs) ρ' ∧ H' D = some (SetO X.w D S n) ∧ ((∀ k, S k = true ↔ k ∈ acc) ∧ n ≤ acc.length) ∧ M' D ∧ Later M1 H1 M' H' ∧ compI vs g ct f (ts.drop i) acc ρ' = some (accF, ρF),
      ⟨ts.length, wi M1 D, kill vs ρ1, fun _ => false, 0, [], Nat.zero_le _, rfl, .refl, .refl, LD, upd_same, ⟨fun k => by simp, Nat.le_refl _⟩, .inr rfl, gD.later fun _ z => z.elim, ec⟩, ?_⟩
    rintro i m H' ⟨M', ρ', S, n, acc, hle, rfl, gg, ll, LL, hD, rD, mD, lt, e'⟩
    cases hd : ts.drop i with
    | nil =>
      rw [hd] at e'
      cases e'
      have hi : i = ts.length := by
        have := congrArg List.length hd
        rw [List.length_drop] at this
        simp at this
        omega
      subst hi
      refine .inl ⟨it.stop _ _ lt, ?_⟩
      have gD2 : Go (Owns (wipe σ vs) (kill vs ρ1)) M1 H1 M' H' := Go.trans (O := Owns (wipe σ vs) (kill vs ρ1)) gD.of0 gg (fun a z => z.imp id fun (z : a = D) => by subst z; exact nD) Lw.dom
      have ow : ∀ a, Owns (wipe σ vs) (kill vs ρ1) a → Owns σ ρ a ∨ H a = none := fun a z => by
        obtain ⟨j, _, z⟩ := owns_wiped hw z
        exact .inl (l1.owns ⟨j, z⟩)
      have hl : ρ1.length = ρF.length := by
        have := L1.len
        have h2 := LL.len
        omega
      have lr : Less ρ (restore vs ρ1 ρF) := l1.trans fun j s es o => by
        rcases restore_at hl es with ⟨_, e2⟩ | ⟨n, e2⟩
        · exact ⟨s, e2, o⟩
        · obtain ⟨s', e3, o3⟩ := ll j s e2 o
          rw [kill_out n] at e3
          exact ⟨s', e3, o3⟩
      refine ⟨D, S, n, rfl, hD, fun ns p hs hd hm np => ?_⟩
      have en : ns = srtU accF := srtU_uniq hs hd fun k => by rw [hm k, rD.1 k]
      subst en
      have gp : Go0 M' H' (wi M' p) (upd H' p (.lst ((srtU accF).map V.int))) := go_mut np
      have gD3 := gD2.trans (O1 := fun _ => False) gp (fun _ z => z.elim) Lw.dom
      have L3 := LL.go0 gp (dom_mut LL.dom)
      refine w _ _ (g1.trans gD3 ow L.dom) lr (L1.restored hlw hw gD3 ll L3) _ ⟨p, rfl, ?_, fun z => ?_, .lst upd_same (.inr rfl) (.of_ints _)⟩
      · by_cases z : H p = none
        · exact z
        · exact absurd np (gD2.there p (g1.there p z))
      · obtain ⟨j, z⟩ := z
        have z2 := own_restored hl hw ll z
        exact (gD2.there p (L1.dom p (L1.sub p ⟨j, z2⟩))) np
    | cons t r =>
      obtain ⟨ht, hr, hlt⟩ := drop_cons hd
      rw [hd] at e'
      obtain ⟨go, yl⟩ := it.at_ _ _ lt LL.dom i t ht
      let N : Hp → Prop := fun H2 => ∃ (M2 : Addr → Prop) (ρ2 : En) (S2 : Int → Bool) (n2 : Nat) (acc2 : List Int), Go (fun a => Owns (wipe σ vs) (kill vs ρ1) a ∨ a = D) (wi M1 D) (upd H1 D (SetO X.w D (fun _ => false) 0)) M2 H2 ∧ Less (kill vs ρ1) ρ2 ∧
        Rel (kg X G) M2 H2 (wipe σ vs) ρ2 ∧ H2 D = some (SetO X.w D S2 n2) ∧ ((∀ k, S2 k = true ↔ k ∈ acc2) ∧ n2 ≤ acc2.length) ∧ M2 D ∧ Later M1 H1 M2 H2 ∧ compI vs g ct f r acc2 ρ2 = some (accF, ρF)
      refine .inr ⟨go, N, fun H2 ⟨M2, ρ2, S2, n2, acc2, a, b, c, d, e, f, g, h⟩ => ⟨(ts.drop (i + 1)).length, by rw [hr]; simp, M2, ρ2, S2, n2, acc2, by omega, rfl, a, b, c, d, e, f, g, by rw [hr]; exact h⟩, fun x H3 y => ?_⟩
      obtain ⟨M3, g3, d3, rp⟩ := yl x H3 y
      have g13 := gg.trans (O1 := fun _ => False) g3 (fun _ z => z.elim) LD.dom
      have L3 := LL.go0 g3 d3
      have lt3 := lt.trans (g3.later fun _ z => z.elim)
      have hD3 : H3 D = some (SetO X.w D S n) := g3.keep D _ hD id
      have mD3 := g3.old D mD id
      unfold compI at e'
      cases ea : asgT [] g t ρ' with
      | none => rw [ea] at e'; cases e'
      | some ρ4 =>
        rw [ea] at e'
        dsimp only at e'
        refine ⟨M3, ρ', t, ρ4, L3, rp, ea, fun σ4 a4 s4 L4 => ⟨wipe_agr a4 hv, ?_⟩⟩
        have hw4 : ∀ i : Nat, i ∉ vs → (wipe σ vs)[i]? = σ4[i]? := fun i h => (a4.2 i fun z => h (hv i z)).symm
        have ow4 : ∀ a, Owns σ4 ρ4 a → Owns (wipe σ vs) (kill vs ρ1) a := fun a z => by
          rcases s4.sub a z with z2 | z2
          · exact ll.owns z2
          · exact absurd z2 (L4.dom a (L4.sub a z))
        -- behind an expression of the turn, back at the wiped slots
        have back : ∀ {M5 : Addr → Prop} {H5 : Hp} {ρ5 : En}, Go (Owns σ4 ρ4) M3 H3 M5 H5 → Less ρ4 ρ5 → Rel (kg X G) M5 H5 σ4 ρ5 →
            Go (fun a => Owns (wipe σ vs) (kill vs ρ1) a ∨ a = D) (wi M1 D) (upd H1 D (SetO X.w D (fun _ => false) 0)) M5 H5 ∧ Less (kill vs ρ1) (kill vs ρ5) ∧ Rel (kg X G) M5 H5 (wipe σ vs) (kill vs ρ5) ∧ H5 D = some (SetO X.w D S n) ∧ M5 D ∧ Later M1 H1 M5 H5 := by
          intro M5 H5 ρ5 g5 l5 L5
          have n4 : ¬ Owns σ4 ρ4 D := nOwn ow4
          refine ⟨g13.trans g5 (fun a z => .inl (.inl (ow4 a z))) LD.dom, fun j s es o => ?_, L5.wiped (by rw [a4.1]) hw4, g5.keep D _ hD3 n4, g5.old D mD3 n4, lt3.trans (g5.later L4.sub)⟩
          by_cases hj : j ∈ vs
          · rw [kill_in hj es] at o; cases o
          · rw [kill_out hj] at es
            obtain ⟨s1, e1, o1⟩ := l5 j s es o
            obtain ⟨s0, e0, o0⟩ := asgT_less g t ρ' ρ4 ea j s1 e1 o1
            exact ll j s0 e0 o0
        cases ect : ct ρ4 with
        | none => rw [ect] at e'; cases e'
        | some oc =>
          rw [ect] at e'
          cases oc with
          | ex c ρ5 => cases e'
          | ok b ρ5 =>
            refine ⟨M3, ρ4, _, L4, ect, fun M5 H5 g5 l5 L5 => ?_⟩
            cases b with
            | false =>
              rw [if_neg Bool.false_ne_true]
              obtain ⟨b1, b2, b3, b4, b6, b7⟩ := back g5 l5 L5
              exact ⟨M5, _, S, n, acc, b1, b2, b3, b4, rD, b6, b7, e'⟩
            | true =>
              rw [if_pos rfl]
              dsimp only at e'
              cases ef : f ρ5 with
              | none => rw [ef] at e'; cases e'
              | some oe =>
                rw [ef] at e'
                cases oe with
                | ex c ρ6 => cases e'
                | ok r ρ6 =>
                  dsimp only at e'
                  refine ⟨M5, ρ5, _, L5, ef, fun M6 H6 g6 l6 L6 y R6 => ?_⟩
                  split at e'
                  · rename_i k
                    split at e'
                    · rename_i c
                      have hy : y = .int k := Rep.int_eq R6
                      subst hy
                      have g56 : Go (Owns σ4 ρ4) M3 H3 M6 H6 := g5.trans g6 (fun a z => .inl (l5.owns z)) L4.dom
                      obtain ⟨b1, b2, b3, b4, b6, b7⟩ := back g56 (l5.trans l6) L6
                      have nD' : ¬ Owns (wipe σ vs) (kill vs ρ6) D := nOwn fun a z => b2.owns z
                      have gA : ∀ o : HO, Go (fun a => a = D) M6 H6 M6 (upd H6 D o) := fun o => ⟨fun a o' e n => by rw [upd_ne n]; exact e, fun a n => by
                        by_cases h : a = D
                        · subst h; rw [upd_same]; exact fun z => nomatch z
                        · rw [upd_ne h]; exact n, fun _ h => .inl h, fun _ h _ => h⟩
                      have dA : ∀ o : HO, ∀ a, M6 a → upd H6 D o a ≠ none := fun o a m => (gA o).there a (L6.dom a m)
                      have sA : ∀ a, a = D → M6 a := fun a z => z ▸ b6
                      have hb : scanBound = 4096 := rfl
                      refine ⟨k, S, n, rfl, b4, by rw [hb]; omega, M6, _, _, _, acc ++ [k], b1.trans (gA _) (fun a z => .inl (.inr z)) LD.dom, b2, b3.go (gA _) sA (fun a z => z ▸ nD') (dA _), upd_same, ⟨fun j => ?_, ?_⟩, b6, b7.trans ((gA _).later sA), e'⟩
                      · rw [Bool.or_eq_true, decide_eq_true_eq, rD.1 j, List.mem_append, List.mem_singleton]
                      · rw [List.length_append, List.length_singleton]
                        have := rD.2
                        split <;> omega
                    · cases e'
                  · cases e'
theorem se_srtSc {elt tg iter : Expr} {ifs : List Expr} {scope : Scope} {own : List (Str × Nat)} {pos p pos2 : Pos} {fi : Iv} {g : Tg} {ct : Tv} {f : Ev} (hc : X.calm = true) (hgs : Gl X "sorted") (hms : X.mg "sorted" = none) (hN : X.N.Nodup) (hi : PI X tg iter (RI G X W fi)) (ok : BlkOk X.N X.env.scope scope own)
    (hg : ∀ (s : Shared) (H : Hp) (C : Addr) (cl : List (Str × Addr)) (fp : List Addr), PG (X.blk s H scope (compEnvC scope cl C X.env) fp) tg (RG G (X.blk s H scope (compEnvC scope cl C X.env) fp) [] g))
    (ht : ∀ (s : Shared) (H : Hp) (C : Addr) (cl : List (Str × Addr)) (fp : List Addr), PTs (X.blk s H scope (compEnvC scope cl C X.env) fp) ifs (RT G (X.blk s H scope (compEnvC scope cl C X.env) fp) W0 ct))
    (he : ∀ (s : Shared) (H : Hp) (C : Addr) (cl : List (Str × Addr)) (fp : List Addr), PE (X.blk s H scope (compEnvC scope cl C X.env) fp) elt (RE G (X.blk s H scope (compEnvC scope cl C X.env) fp) W0 f))
    (hv : ∀ i ∈ g.slots, i ∈ own.map (·.2)) (hs : ∀ x, foldedSetIterable iter X.env x = pure x := by intro _; rfl)
    (hst : starEach [.SetComp elt [⟨tg, iter, ifs, 0⟩] scope pos] X.env = (false, eval (.SetComp elt [⟨tg, iter, ifs, 0⟩] scope pos) X.env) :: starEach [] X.env := by rfl) (hpl : (backTo pos2 (starEach [] X.env)).any (·.1) = false := by rfl) :
    PE X (.Call (.Name "sorted" p) [.SetComp elt [⟨tg, iter, ifs, 0⟩] scope pos] [] pos2) (RE G X W (srtScE (own.map (·.2)) fi g ct f)) :=
  pe_imp (pe_callB (cr_sortedSetN hc) hgs hms (by rfl) (pa_cons (pe_sci (g := RG G X [] g) (tt := RT G X W0 ct) (te := RE G X W0 f) hc hN hi ok hg ht he hs) pa_nil hst) (by decide) (by decide) hst hpl) fun σ H Q q => re_sci hv q
end
end TV
set_option maxHeartbeats 4000000
namespace K86
open PySem PySem.Spec PyProof.Rows L2 TV
abbrev c_MOST_CHILDREN : Tr := .int 60
abbrev c_MOST_DAYS : Tr := .int 400
abbrev c_MOST_IN_BOX : Tr := .int 200
abbrev c_MOST_YEARS : Tr := .int 1000
abbrev c_ONE : Tr := .tup [.int 1, .int 1]
abbrev G : GS := ⟨tups c_MOST_CHILDREN ++ tups c_MOST_DAYS ++ tups c_MOST_IN_BOX ++ tups c_MOST_YEARS ++ tups c_ONE, false, false⟩
abbrev GZ : GS := ⟨[], true, true⟩
def B__law_draws_0 : Sv := (ifS (tsb (binE gGt (varE 5) (conE (.int 0)))) (seqS (expS (lmE 1 mAppend (consA false (binE gMod (bltE (f1 gInt) (consA true (varE 5) nilA)) (conE (.int 997))) nilA)))
 (setS [] 5 (binE gDiv (varE 5) (conE (.int 997))))) skipS)
def B__law_draws_1 : Sv := (seqS (setS [] 5 (bltE (f1 gAbs) (consA true (varE 2) nilA)))
 (seqS (ifS (tsb (binE gLt (varE 5) (binE gPow (conE (.int 10)) (conE (.int 18))))) (seqS (setS [] 6 (binE gMod (bltE (f1 gInt) (consA true (binE gAdd (binE gMul (varE 5) (conE (.int 48271))) (conE (.int 11))) nilA)) (conE (.int 2147483647))))
 (seqS (expS (lmE 1 mAppend (consA false (binE gMod (bltE (f1 gInt) (consA true (binE gAdd (binE gMul (varE 6) (conE (.int 69621))) (varE 5)) nilA)) (conE (.int 2147483629))) nilA)))
 (seqS (expS (lmE 1 mAppend (consA false (binE gMod (bltE (f1 gInt) (consA true (binE gAdd (varE 6) (binE gDiv (varE 5) (conE (.int 7)))) nilA)) (conE (.int 1000003))) nilA)))
 (setS [] 5 (conE (.int 0)))))) skipS)
 (forS [] (rng1E (consA false (conE (.int 60)) nilA)) (.nm 4) [2, 3, 4, 6]
 B__law_draws_0)))
def B__law_draws_2 : Sv := (seqS (setS [] 3 (binE gMod (bltE (f1 gInt) (consA true (binE gAdd (binE gMul (varE 3) (conE (.int 48271))) (conE (.int 69621))) nilA)) (conE (.int 2147483647))))
 (expS (lmE 1 mAppend (consA false (binE gDiv (varE 3) (conE (.int 5))) nilA))))
def m__law_draws : Fv := runF 1 7 [] (seqS (setS [] 1 (lstE nilA))
 (seqS (forS [] (itE (varE 0)) (.nm 2) [2, 3, 4, 5, 6]
 B__law_draws_1)
 (seqS (setS [] 3 (conE (.int 1)))
 (seqS (ifS (tsb (binE gGt (bltE (f1 gLen) (consA true (varE 0) nilA)) (conE (.int 0)))) (setS [] 3 (binE gAdd (conE (.int 1)) (bltE (f1 gAbs) (consA true (binE gIx (varE 0) (conE (.int 0))) nilA)))) skipS)
 (seqS (forS [] (rng1E (consA false (conE (.int 900)) nilA)) (.nm 4) [0, 2, 4, 5, 6]
 B__law_draws_2)
 (retS (revE (varE 1))))))))
def r__law_alike : Nat → Fv
  | 0 => fun _ => none
  | n + 1 => runF 2 3 [] (seqS (ifS (orT (tst (isiE .lst (varE 1))) (tst (isiE .tup (varE 1)))) (seqS (ifS (orT (tsb (binE gNe (isiE .lst (varE 0)) (isiE .lst (varE 1)))) (tsb (binE gNe (isiE .tup (varE 0)) (isiE .tup (varE 1))))) (retS (conE (.bl false))) skipS)
       (retS (andE (binE gEq (bltE (f1 gLen) (consA true (varE 0) nilA)) (bltE (f1 gLen) (consA true (varE 1) nilA))) (binE gEq (compE [2] (rng1E (consA false (bltE (f1 gLen) (consA true (varE 1) nilA)) nilA)) (.nm 2) (notT (tst (callE (r__law_alike n) (consA false (binE gIx (varE 0) (varE 2)) (consA false (binE gIx (varE 1) (varE 2)) nilA))))) (varE 2)) (lstE nilA))))) skipS)
       (seqS (ifS (tsb (binE (gIsO false) (varE 1) (conE .non))) (retS (binE (gIsO false) (varE 0) (conE .non))) skipS)
       (seqS (ifS (orT (tst (isiE .bl (varE 1))) (tst (isiE .bl (varE 0)))) (retS (andE (isiE .bl (varE 0)) (andE (isiE .bl (varE 1)) (binE gEq (varE 0) (varE 1))))) skipS)
       (seqS (ifS (tst (isiE .int (varE 1))) (retS (andE (isiE .int (varE 0)) (binE gEq (varE 0) (varE 1)))) skipS)
       (retS (andE (isiE .str (varE 0)) (binE gEq (varE 0) (varE 1))))))))
abbrev m__law_alike : Fv := r__law_alike 8
def m__law_take : Fv := runF 2 2 [0] (seqS (ifS (tsb (binE gEq (bltE (f1 gLen) (consA true (varE 0) nilA)) (conE (.int 0)))) (retS (conE (.int 0))) skipS)
 (retS (binE gMod (bltE (f1 gInt) (consA true (lmE 0 mPop nilA) nilA)) (varE 1))))
def m_is_number : Fv := runF 3 3 [] (retS (andE (isiE .int (varE 0)) (andE (notE (isiE .bl (varE 0))) (chnE gLe gLe (varE 1) (varE 0) (varE 2)))))
def m_check_box : Fv := runF 1 1 [] (ifS (notT (tst (callE m_is_number (consA false (varE 0) (consA false (conE (.int 1)) (consA false (conE c_MOST_IN_BOX) nilA)))))) (raiS "OutOfRange") skipS)
def m_used_to : Fv := runF 1 1 [] (retS (binE gDiv (binE gMul (varE 0) (binE gAdd (varE 0) (conE (.int 1)))) (conE (.int 2))))
def m_boxes_to : Fv := runF 2 2 [] (seqS (expS (callE m_check_box (consA false (varE 1) nilA)))
 (retS (binE gDiv (binE gSub (binE gAdd (callE m_used_to (consA false (varE 0) nilA)) (varE 1)) (conE (.int 1))) (varE 1))))
def m_left_behind : Fv := runF 2 2 [] (retS (binE gSub (binE gMul (callE m_boxes_to (consA false (varE 0) (consA false (varE 1) nilA))) (varE 1)) (callE m_used_to (consA false (varE 0) nilA))))
def m_opened_on : Fv := runF 2 2 [] (seqS (expS (callE m_check_box (consA false (varE 1) nilA)))
 (retS (binE gSub (callE m_boxes_to (consA false (varE 0) (consA false (varE 1) nilA))) (ifE (tsb (binE gGt (varE 0) (conE (.int 1)))) (callE m_boxes_to (consA false (binE gSub (varE 0) (conE (.int 1))) (consA false (varE 1) nilA))) (conE (.int 0))))))
def m_lefts_of : Fv := runF 1 2 [] (seqS (expS (callE m_check_box (consA false (varE 0) nilA)))
 (retS (bltE (f1 gTupleOf) (consA true (srtScE [1] (rng2E (consA false (conE (.int 1)) (consA false (binE gAdd (binE gMul (conE (.int 2)) (varE 0)) (conE (.int 1))) nilA))) (.nm 1) yesT (callE m_left_behind (consA false (varE 1) (consA false (varE 0) nilA)))) nilA))))
def m_clean_to : Fv := runF 2 3 [] (seqS (expS (callE m_check_box (consA false (varE 1) nilA)))
 (seqS (ifS (notT (tst (callE m_is_number (consA false (varE 0) (consA false (conE (.int 1)) (consA false (conE c_MOST_YEARS) nilA)))))) (raiS "OutOfRange") skipS)
 (retS (bltE (f1 gLen) (consA true (compE [2] (rng2E (consA false (conE (.int 1)) (consA false (binE gAdd (varE 0) (conE (.int 1))) nilA))) (.nm 2) (tsb (binE gEq (binE gMod (callE m_used_to (consA false (varE 2) nilA)) (varE 1)) (conE (.int 0)))) (conE (.int 1))) nilA)))))
def m_check_children : Fv := runF 1 1 [] (ifS (notT (tst (callE m_is_number (consA false (varE 0) (consA false (conE (.int 1)) (consA false (conE c_MOST_CHILDREN) nilA)))))) (raiS "OutOfRange") skipS)
def m_check_days : Fv := runF 1 1 [] (ifS (notT (tst (callE m_is_number (consA false (varE 0) (consA false (conE (.int 1)) (consA false (conE c_MOST_DAYS) nilA)))))) (raiS "OutOfRange") skipS)
def m_lowest : Fv := runF 2 3 [] (seqS (setS [] 2 (bltE (f2 gGcd) (consA true (varE 0) (consA true (varE 1) nilA))))
 (seqS (ifS (tsb (binE gLt (varE 1) (conE (.int 0)))) (setS [] 2 (negE (varE 2))) skipS)
 (retS (tupE (consA false (binE gDiv (varE 0) (varE 2)) (consA false (binE gDiv (varE 1) (varE 2)) nilA))))))
def m_minus : Fv := runF 2 2 [] (retS (callE m_lowest (consA false (binE gSub (binE gMul (binE gIx (varE 0) (conE (.int 0))) (binE gIx (varE 1) (conE (.int 1)))) (binE gMul (binE gIx (varE 1) (conE (.int 0))) (binE gIx (varE 0) (conE (.int 1))))) (consA false (binE gMul (binE gIx (varE 0) (conE (.int 1))) (binE gIx (varE 1) (conE (.int 1)))) nilA))))
def m_times : Fv := runF 2 2 [] (retS (callE m_lowest (consA false (binE gMul (binE gIx (varE 0) (conE (.int 0))) (binE gIx (varE 1) (conE (.int 0)))) (consA false (binE gMul (binE gIx (varE 0) (conE (.int 1))) (binE gIx (varE 1) (conE (.int 1)))) nilA))))
def m_made : Fv := runF 2 2 [] (seqS (ifS (tsb (binE gEq (varE 1) (conE (.int 0)))) (raiS "OutOfRange") skipS)
 (retS (callE m_lowest (consA false (varE 0) (consA false (varE 1) nilA)))))
def B_alike_chance_0 : Sv := (setS [] 2 (callE m_times (consA false (varE 2) (consA false (callE m_made (consA false (bltE gMax (consA true (conE (.int 0)) (consA true (binE gSub (varE 1) (varE 3)) nilA))) (consA false (varE 1) nilA))) nilA))))
def m_alike_chance : Fv := runF 2 4 [] (seqS (expS (callE m_check_children (consA false (varE 0) nilA)))
 (seqS (expS (callE m_check_days (consA false (varE 1) nilA)))
 (seqS (setS [] 2 (conE c_ONE))
 (seqS (forS [] (rng1E (consA false (varE 0) nilA)) (.nm 3) [0, 3]
 B_alike_chance_0)
 (retS (callE m_minus (consA false (conE c_ONE) (consA false (varE 2) nilA))))))))
def m_mean_pairs : Fv := runF 2 2 [] (seqS (expS (callE m_check_children (consA false (varE 0) nilA)))
 (seqS (expS (callE m_check_days (consA false (varE 1) nilA)))
 (retS (callE m_made (consA false (binE gMul (varE 0) (binE gSub (varE 0) (conE (.int 1)))) (consA false (binE gMul (conE (.int 2)) (varE 1)) nilA))))))
def m_less : Fv := runF 2 2 [] (retS (binE gLt (binE gMul (binE gIx (varE 0) (conE (.int 0))) (binE gIx (varE 1) (conE (.int 1)))) (binE gMul (binE gIx (varE 1) (conE (.int 0))) (binE gIx (varE 0) (conE (.int 1))))))
def B_crowd_for_0 : Sv := (seqS (setS [] 1 (callE m_times (consA false (varE 1) (consA false (callE m_made (consA false (bltE gMax (consA true (conE (.int 0)) (consA true (binE gSub (varE 0) (varE 2)) nilA))) (consA false (varE 0) nilA))) nilA))))
 (augS [] 2 iAdd (conE (.int 1))))
def C_crowd_for_1 : Tv := (tst (callE m_less (consA false (tupE (consA false (conE (.int 1)) (consA false (conE (.int 2)) nilA))) (consA false (varE 1) nilA))))
def m_crowd_for : Fv := runF 1 3 [] (seqS (expS (callE m_check_days (consA false (varE 0) nilA)))
 (seqS (setS [] 1 (conE c_ONE))
 (seqS (setS [] 2 (conE (.int 0)))
 (seqS (whileS C_crowd_for_1 [] B_crowd_for_0 1000000)
 (retS (varE 2))))))
def W__law_word_OutOfRange (a : Addr) : Sv := (seqS (setS [] 1 (lstE (consA false (isxE 0 a true) (consA false (isxE 0 a false) (consA false (isxE 0 a false) (consA false (isxE 0 a false) (consA false (isxE 0 a false) nilA)))))))
 (seqS (ifS (tsb (binE gNe (bltE (f1 gLen) (consA true (compE [2] (itLE (varE 1)) (.nm 2) (tst (varE 2)) (varE 2)) nilA)) (conE (.int 1)))) (retS (conE (.str "many"))) skipS)
 (retS (binE gIx (lstE (consA false (conE (.str "range")) (consA false (conE (.str "form")) (consA false (conE (.str "none")) (consA false (conE (.str "refused")) (consA false (conE (.str "much")) nilA)))))) (vmE isLst gIndex (varE 1) (consA true (conE (.bl true)) nilA))))))
def w__law_told : List (Str × Str) := [("OutOfRange", "range")]
def m__law_told : Fv := runF 3 4 [] (tryW 4 3 (wordL w__law_told) (seqS (ifS (tsb (binE gEq (varE 0) (conE (.int 0)))) (retS (callE m_boxes_to (consA false (varE 1) (consA false (varE 2) nilA)))) skipS)
 (seqS (ifS (tsb (binE gEq (varE 0) (conE (.int 1)))) (retS (callE m_left_behind (consA false (varE 1) (consA false (varE 2) nilA)))) skipS)
 (seqS (ifS (tsb (binE gEq (varE 0) (conE (.int 2)))) (retS (callE m_opened_on (consA false (varE 1) (consA false (varE 2) nilA)))) skipS)
 (seqS (ifS (tsb (binE gEq (varE 0) (conE (.int 3)))) (retS (callE m_lefts_of (consA false (varE 2) nilA))) skipS)
 (seqS (ifS (tsb (binE gEq (varE 0) (conE (.int 4)))) (retS (callE m_clean_to (consA false (varE 1) (consA false (varE 2) nilA)))) skipS)
 (seqS (ifS (tsb (binE gEq (varE 0) (conE (.int 5)))) (retS (callE m_alike_chance (consA false (varE 1) (consA false (varE 2) nilA)))) skipS)
 (retS (ifE (tsb (binE gEq (varE 0) (conE (.int 6)))) (callE m_mean_pairs (consA false (varE 1) (consA false (varE 2) nilA))) (callE m_crowd_for (consA false (varE 2) nilA)))))))))))
def B__law_candles_0 : Sv := (seqS (setS [0] 11 (bltE gMax (consA true (conE (.int 0)) (consA true (binE gDiv (binE gSub (binE gAdd (binE gSub (varE 4) (varE 12)) (varE 1)) (conE (.int 1))) (varE 1)) nilA))))
 (seqS (setS [0] 12 (binE gSub (binE gAdd (varE 12) (binE gMul (varE 11) (varE 1))) (varE 4)))
 (seqS (setS [0] 13 (binE gAdd (varE 13) (varE 11)))
 (seqS (setS [0] 14 (binE gAdd (varE 14) (bltE (f1 gInt) (consA true (binE gEq (varE 12) (conE (.int 0))) nilA))))
 (seqS (expS (lmE 2 mAppend (consA false (varE 12) nilA)))
 (ifS (orT (tsb (binE gLt (varE 4) (conE (.int 30)))) (tsb (binE gGt (varE 4) (binE gSub (varE 3) (conE (.int 5)))))) (seqS (ifS (notT (tst (callE m__law_alike (consA false (lstE (consA false (callE m__law_told (consA false (conE (.int 0)) (consA false (varE 4) (consA false (varE 1) nilA)))) (consA false (callE m__law_told (consA false (conE (.int 1)) (consA false (varE 4) (consA false (varE 1) nilA)))) (consA false (callE m__law_told (consA false (conE (.int 2)) (consA false (varE 4) (consA false (varE 1) nilA)))) nilA)))) (consA false (lstE (consA false (varE 13) (consA false (varE 12) (consA false (varE 11) nilA)))) nilA))))) (retS (conE (.bl false))) skipS)
 (ifS (andT (tsb (binE gLe (varE 4) (conE (.int 1000)))) (notT (tst (callE m__law_alike (consA false (callE m__law_told (consA false (conE (.int 4)) (consA false (varE 4) (consA false (varE 1) nilA)))) (consA false (varE 14) nilA)))))) (retS (conE (.bl false))) skipS)) skipS))))))
def B__law_candles_1 : Sv := (setS [0] 6 (binE gMul (varE 6) (conE (.int 2))))
def C__law_candles_2 : Tv := (tsb (binE gLt (varE 6) (varE 1)))
def m__law_candles : Fv := runF 1 18 [0] (seqS (setS [0] 1 (binE gAdd (conE (.int 1)) (callE m__law_take (consA true (varE 0) (consA false (binE gIx (lstE (consA false (conE (.int 8)) (consA false (conE (.int 40)) (consA false (conE (.int 200)) nilA)))) (callE m__law_take (consA true (varE 0) (consA false (conE (.int 3)) nilA)))) nilA)))))
 (seqS (parS [0] [11, 12, 13, 14] (consK (conE (.int 0)) (consK (conE (.int 0)) (consK (conE (.int 0)) (consK (conE (.int 0)) nilA)))))
 (seqS (setS [0] 2 (lstE nilA))
 (seqS (setS [0] 3 (binE gMul (conE (.int 4)) (varE 1)))
 (seqS (forS [0] (rng2E (consA false (conE (.int 1)) (consA false (binE gAdd (varE 3) (conE (.int 1))) nilA))) (.nm 4) [4, 5, 6, 7, 8, 9, 10, 11, 15, 16, 17]
 B__law_candles_0)
 (seqS (setS [0] 5 (bltE (f1 gSrt) (consA true (compE [16] (itKE (bltE (f1 gDictOf) (consA true (compE [16] (itE (varE 2)) (.nm 16) yesT (tupE (consA false (varE 16) (consA false (conE (.int 1)) nilA)))) nilA))) (.nm 16) yesT (varE 16)) nilA)))
 (seqS (setS [0] 6 (conE (.int 1)))
 (seqS (whileS C__law_candles_2 [3, 4, 7, 8, 9, 10, 11, 12, 13, 14, 15, 16, 17] B__law_candles_1 1000000)
 (seqS (ifS (orT (notT (tst (callE m__law_alike (consA false (callE m__law_told (consA false (conE (.int 3)) (consA false (conE (.int 1)) (consA false (varE 1) nilA)))) (consA false (bltE (f1 gTupleOf) (consA true (varE 5) nilA)) nilA))))) (tsb (binE gNe (binE gEq (bltE (f1 gLen) (consA true (varE 5) nilA)) (varE 1)) (binE gEq (varE 6) (varE 1))))) (retS (conE (.bl false))) skipS)
 (seqS (setS [0] 7 (ifE (tsb (binE gLt (binE gMul (binE gDiv (varE 1) (conE (.int 2))) (conE (.int 2))) (varE 1))) (varE 1) (binE gMul (conE (.int 2)) (varE 1))))
 (seqS (setS [0] 8 (compE [15] (rng2E (consA false (conE (.int 1)) (consA false (binE gAdd (binE gMul (conE (.int 2)) (varE 1)) (conE (.int 1))) nilA))) (.nm 15) (tsb (binE gEq (compE [17] (rng1E (consA false (binE gMul (conE (.int 2)) (varE 1)) nilA)) (.nm 17) (tsb (binE gNe (binE gIx (varE 2) (varE 17)) (binE gIx (varE 2) (binE gAdd (varE 17) (varE 15))))) (varE 17)) (lstE nilA))) (varE 15)))
 (seqS (ifS (orT (tsb (binE gNe (binE gIx (varE 8) (conE (.int 0))) (varE 7))) (tsb (binE gNe (compE [17] (rng2E (consA false (conE (.int 1)) (consA false (binE gSub (binE gMul (conE (.int 2)) (varE 1)) (conE (.int 1))) nilA))) (.nm 17) (tsb (binE gNe (binE gEq (binE gIx (varE 2) (binE gSub (varE 17) (conE (.int 1)))) (conE (.int 0))) (binE gEq (binE gIx (varE 2) (binE gSub (binE gSub (binE gMul (conE (.int 2)) (varE 1)) (conE (.int 2))) (varE 17))) (conE (.int 0))))) (varE 17)) (lstE nilA)))) (retS (conE (.bl false))) skipS)
 (seqS (setS [0] 9 (binE gAdd (binE gPow (conE (.int 10)) (conE (.int 30))) (callE m__law_take (consA true (varE 0) (consA false (conE (.int 997)) nilA)))))
 (seqS (setS [0] 10 (binE gDiv (binE gMul (varE 9) (binE gAdd (varE 9) (conE (.int 1)))) (conE (.int 2))))
 (retS (callE m__law_alike (consA false (lstE (consA false (callE m__law_told (consA false (conE (.int 0)) (consA false (varE 9) (consA false (varE 1) nilA)))) (consA false (callE m__law_told (consA false (conE (.int 1)) (consA false (varE 9) (consA false (varE 1) nilA)))) nilA))) (consA false (lstE (consA false (binE gDiv (binE gSub (binE gAdd (varE 10) (varE 1)) (conE (.int 1))) (varE 1)) (consA false (binE gIx (varE 2) (binE gMod (bltE (f1 gInt) (consA true (binE gSub (varE 9) (conE (.int 1))) nilA)) (binE gMul (conE (.int 2)) (varE 1)))) nilA))) nilA))))))))))))))))))
def B__law_made_0 : Sv := (parS [] [3, 4] (consK (varE 4) (consK (binE gMod (varE 3) (varE 4)) nilA)))
def C__law_made_1 : Tv := (tsb (binE gGt (varE 4) (conE (.int 0))))
def m__law_made : Fv := runF 2 5 [] (seqS (parS [] [3, 4] (consK (bltE (f1 gAbs) (consA true (varE 0) nilA)) (consK (bltE (f1 gAbs) (consA true (varE 1) nilA)) nilA)))
 (seqS (whileS C__law_made_1 [2] B__law_made_0 1000000)
 (seqS (setS [] 2 (ifE (tsb (binE gGt (varE 1) (conE (.int 0)))) (conE (.int 1)) (negE (conE (.int 1)))))
 (retS (tupE (consA false (binE gDiv (binE gMul (varE 2) (varE 0)) (varE 3)) (consA false (binE gDiv (binE gMul (varE 2) (varE 1)) (varE 3)) nilA)))))))
def m__law_plus : Fv := runF 2 2 [] (retS (callE m__law_made (consA false (binE gAdd (binE gMul (binE gIx (varE 0) (conE (.int 0))) (binE gIx (varE 1) (conE (.int 1)))) (binE gMul (binE gIx (varE 1) (conE (.int 0))) (binE gIx (varE 0) (conE (.int 1))))) (consA false (binE gMul (binE gIx (varE 0) (conE (.int 1))) (binE gIx (varE 1) (conE (.int 1)))) nilA))))
def m__law_times : Fv := runF 2 2 [] (retS (callE m__law_made (consA false (binE gMul (binE gIx (varE 0) (conE (.int 0))) (binE gIx (varE 1) (conE (.int 0)))) (consA false (binE gMul (binE gIx (varE 0) (conE (.int 1))) (binE gIx (varE 1) (conE (.int 1)))) nilA))))
def m__law_less : Fv := runF 2 2 [] (retS (binE gLt (binE gMul (binE gIx (varE 0) (conE (.int 0))) (binE gIx (varE 1) (conE (.int 1)))) (binE gMul (binE gIx (varE 1) (conE (.int 0))) (binE gIx (varE 0) (conE (.int 1))))))
def B__law_days_0 : Sv := (setS [0] 10 (binE gAdd (varE 10) (compE [14] (rng1E (consA false (varE 9) nilA)) (.nm 14) yesT (binE gAdd (varE 11) (tupE (consA false (varE 14) nilA))))))
def B__law_days_1 : Sv := (seqS (setS [0] 10 (lstE nilA))
 (seqS (forS [0] (itE (varE 1)) (.nm 11) [1, 2, 3, 4, 5, 6, 7, 11, 12, 13, 14, 15, 16]
 B__law_days_0)
 (setS [0] 1 (varE 10))))
def B__law_days_2 : Sv := (setS [0] 5 (callE m__law_times (consA false (varE 5) (consA false (callE m__law_made (consA false (bltE gMax (consA true (conE (.int 0)) (consA true (binE gSub (varE 9) (varE 2)) nilA))) (consA false (varE 9) nilA))) nilA))))
def m__law_days : Fv := runF 1 17 [0] (seqS (parS [0] [8, 9] (consK (binE gAdd (conE (.int 1)) (callE m__law_take (consA true (varE 0) (consA false (conE (.int 4)) nilA)))) (consK (binE gAdd (conE (.int 1)) (callE m__law_take (consA true (varE 0) (consA false (conE (.int 5)) nilA)))) nilA)))
 (seqS (setS [0] 1 (lstE (consA false (tupE nilA) nilA)))
 (seqS (forS [0] (rng1E (consA false (varE 8) nilA)) (.nm 2) [2, 3, 4, 5, 6, 7, 10, 11, 12, 13, 14, 15, 16]
 B__law_days_1)
 (seqS (setS [0] 3 (bltE (f1 gLen) (consA true (compE [11] (itE (varE 1)) (.nm 11) (tsb (binE gLt (bltE (f1 gLen) (consA true (bltE (f1 gDictOf) (consA true (compE [14] (itE (varE 11)) (.nm 14) yesT (tupE (consA false (varE 14) (consA false (conE (.int 1)) nilA)))) nilA)) nilA)) (varE 8))) (varE 11)) nilA)))
 (seqS (setS [0] 4 (ifE (tsb (binE gLt (varE 8) (conE (.int 3)))) (bltE (f1 gSum) (consA true (compE [11] (itE (varE 1)) (.nm 11) (tsb (binE gLt (varE 8) (conE (.int 3)))) (bltE (f1 gLen) (consA true (compE [15] (rng1E (consA false (varE 8) nilA)) (.nm 15) (tsb (binE gNe (compE [16] (rng1E (consA false (varE 15) nilA)) (.nm 16) (tsb (binE gEq (binE gIx (varE 11) (varE 16)) (binE gIx (varE 11) (varE 15)))) (varE 16)) (lstE nilA))) (varE 15)) nilA))) nilA)) (conE .non)))
 (seqS (ifS (orT (notT (tst (callE m__law_alike (consA false (callE m__law_told (consA false (conE (.int 5)) (consA false (varE 8) (consA false (varE 9) nilA)))) (consA false (callE m__law_made (consA false (varE 3) (consA false (bltE (f1 gLen) (consA true (varE 1) nilA)) nilA))) nilA))))) (andT (tsb (binE (gIsO true) (varE 4) (conE .non))) (tsb (binE gNe (callE m__law_told (consA false (conE (.int 6)) (consA false (varE 8) (consA false (varE 9) nilA)))) (callE m__law_made (consA false (varE 4) (consA false (bltE (f1 gLen) (consA true (varE 1) nilA)) nilA))))))) (retS (conE (.bl false))) skipS)
 (seqS (parS [0] [8, 9] (consK (binE gAdd (conE (.int 2)) (callE m__law_take (consA true (varE 0) (consA false (conE (.int 30)) nilA)))) (consK (binE gAdd (conE (.int 1)) (callE m__law_take (consA true (varE 0) (consA false (conE (.int 100)) nilA)))) nilA)))
 (seqS (setS [0] 5 (tupE (consA false (conE (.int 1)) (consA false (conE (.int 1)) nilA))))
 (seqS (forS [0] (rng1E (consA false (varE 8) nilA)) (.nm 2) [1, 2, 3, 4, 6, 7, 10, 11, 12, 13, 14, 15, 16]
 B__law_days_2)
 (seqS (setS [0] 6 (callE m__law_plus (consA false (tupE (consA false (conE (.int 1)) (consA false (conE (.int 1)) nilA))) (consA false (tupE (consA false (binE gSub (conE (.int 0)) (binE gIx (varE 5) (conE (.int 0)))) (consA false (binE gIx (varE 5) (conE (.int 1))) nilA))) nilA))))
 (seqS (ifS (notT (tst (callE m__law_alike (consA false (lstE (consA false (callE m__law_told (consA false (conE (.int 5)) (consA false (varE 8) (consA false (varE 9) nilA)))) (consA false (callE m__law_told (consA false (conE (.int 6)) (consA false (varE 8) (consA false (varE 9) nilA)))) nilA))) (consA false (lstE (consA false (varE 6) (consA false (callE m__law_made (consA false (binE gMul (varE 8) (binE gSub (varE 8) (conE (.int 1)))) (consA false (binE gMul (conE (.int 2)) (varE 9)) nilA))) nilA))) nilA))))) (retS (conE (.bl false))) skipS)
 (seqS (parS [0] [12, 13] (consK (callE m__law_told (consA false (conE (.int 5)) (consA false (binE gAdd (varE 8) (conE (.int 1))) (consA false (varE 9) nilA)))) (consK (callE m__law_told (consA false (conE (.int 5)) (consA false (varE 8) (consA false (binE gAdd (varE 9) (conE (.int 1))) nilA)))) nilA)))
 (seqS (ifS (orT (andT (notT (tst (callE m__law_less (consA false (varE 6) (consA false (varE 12) nilA))))) (tsb (binE gNe (varE 6) (tupE (consA false (conE (.int 1)) (consA false (conE (.int 1)) nilA)))))) (tst (callE m__law_less (consA false (varE 6) (consA false (varE 13) nilA))))) (retS (conE (.bl false))) skipS)
 (seqS (setS [0] 7 (callE m__law_told (consA false (conE (.int 7)) (consA false (conE (.int 0)) (consA false (varE 9) nilA)))))
 (seqS (ifS (orT (notT (tst (isiE .int (varE 7)))) (orT (tsb (binE gLt (varE 7) (conE (.int 1)))) (orT (andT (tsb (binE gGt (varE 9) (conE (.int 1)))) (tsb (binE gLt (varE 7) (conE (.int 2))))) (tsb (binE gLt (callE m__law_told (consA false (conE (.int 7)) (consA false (conE (.int 0)) (consA false (binE gAdd (varE 9) (conE (.int 1))) nilA)))) (varE 7)))))) (retS (conE (.bl false))) skipS)
 (seqS (ifS (orT (andT (tsb (binE gGt (varE 7) (conE (.int 1)))) (notT (tst (callE m__law_less (consA false (callE m__law_told (consA false (conE (.int 5)) (consA false (binE gSub (varE 7) (conE (.int 1))) (consA false (varE 9) nilA)))) (consA false (tupE (consA false (conE (.int 1)) (consA false (conE (.int 2)) nilA))) nilA)))))) (tst (callE m__law_less (consA false (callE m__law_told (consA false (conE (.int 5)) (consA false (varE 7) (consA false (varE 9) nilA)))) (consA false (tupE (consA false (conE (.int 1)) (consA false (conE (.int 2)) nilA))) nilA))))) (retS (conE (.bl false))) skipS)
 (retS (andE (binE gEq (callE m__law_told (consA false (conE (.int 7)) (consA false (conE (.int 0)) (consA false (conE (.int 365)) nilA)))) (conE (.int 23))) (binE gEq (callE m__law_told (consA false (conE (.int 7)) (consA false (conE (.int 0)) (consA false (conE (.int 2)) nilA)))) (conE (.int 2)))))))))))))))))))))
def B_law_0 : Sv := (setS [] 2 (binE gAdd (varE 2) (compE [4] (rng1E (consA false (conE (.int 5)) nilA)) (.nm 4) yesT (callE m__law_told (consA false (varE 4) (consA false (conE (.int 1)) (consA false (varE 3) nilA)))))))
def B_law_1 : Sv := (setS [] 2 (binE gAdd (varE 2) (compE [4] (rng2E (consA false (conE (.int 5)) (consA false (conE (.int 8)) nilA))) (.nm 4) yesT (callE m__law_told (consA false (varE 4) (consA false (conE (.int 2)) (consA false (varE 3) nilA)))))))
def B_law_2 : Sv := (setS [] 2 (binE gAdd (varE 2) (compE [4] (itE (lstE (consA false (conE (.int 5)) (consA false (conE (.int 6)) nilA)))) (.nm 4) yesT (callE m__law_told (consA false (varE 4) (consA false (varE 3) (consA false (conE (.int 5)) nilA)))))))
def m_law : Fv := runF 1 5 [] (seqS (setS [] 1 (callE m__law_draws (consA false (varE 0) nilA)))
 (seqS (ifS (orT (notT (tst (callE m__law_candles (consA true (varE 1) nilA)))) (notT (tst (callE m__law_days (consA true (varE 1) nilA))))) (retS (conE (.bl false))) skipS)
 (seqS (setS [] 2 (lstE nilA))
 (seqS (forS [] (itE (lstE (consA false (conE (.int 0)) (consA false (conE (.int 201)) nilA)))) (.nm 3) [0, 1, 3, 4]
 B_law_0)
 (seqS (forS [] (itE (lstE (consA false (conE (.int 0)) (consA false (conE (.int 401)) nilA)))) (.nm 3) [0, 1, 3, 4]
 B_law_1)
 (seqS (setS [] 2 (binE gAdd (varE 2) (compE [3] (itE (lstE (consA false (conE (.int 0)) (consA false (conE (.int 1001)) nilA)))) (.nm 3) yesT (callE m__law_told (consA false (conE (.int 4)) (consA false (varE 3) (consA false (conE (.int 5)) nilA)))))))
 (seqS (forS [] (itE (lstE (consA false (conE (.int 0)) (consA false (conE (.int 61)) nilA)))) (.nm 3) [0, 1, 3, 4]
 B_law_2)
 (retS (binE gEq (varE 2) (binE gMul (lstE (consA false (conE (.str "range")) nilA)) (conE (.int 22))))))))))))
end K86
set_option maxHeartbeats 4000000
namespace K86
open PySem PySem.Spec PyProof.Rows L2 TV
def top (i : Nat) : Stmt := PySem.Challenge.pw_playheld_k86_whole_candles_and_birthdays.main.body.getD i (.Pass ⟨0, 0, 0, 0⟩)
abbrev s__law_draws : Stmt := top 36
abbrev N__law_draws : List Str := ["script", "draws", "cell", "seed", "k", "number", "first"]
abbrev ps__law_draws : List Str := ["script"]
theorem sc__law_draws : FnScope N__law_draws ps__law_draws (defScope s__law_draws) := ⟨rfl, rfl, rfl, by decide +kernel, rfl, by decide +kernel, by decide +kernel⟩
abbrev s__law_alike : Stmt := top 38
abbrev N__law_alike : List Str := ["found", "due", "k"]
abbrev ps__law_alike : List Str := ["found", "due"]
theorem sc__law_alike : FnScope N__law_alike ps__law_alike (defScope s__law_alike) := ⟨rfl, rfl, rfl, by decide +kernel, rfl, by decide +kernel, by decide +kernel⟩
abbrev s__law_take : Stmt := top 37
abbrev N__law_take : List Str := ["draws", "bound"]
abbrev ps__law_take : List Str := ["draws", "bound"]
theorem sc__law_take : FnScope N__law_take ps__law_take (defScope s__law_take) := ⟨rfl, rfl, rfl, by decide +kernel, rfl, by decide +kernel, by decide +kernel⟩
abbrev s_is_number : Stmt := top 9
abbrev N_is_number : List Str := ["value", "least", "most"]
abbrev ps_is_number : List Str := ["value", "least", "most"]
theorem sc_is_number : FnScope N_is_number ps_is_number (defScope s_is_number) := ⟨rfl, rfl, rfl, by decide +kernel, rfl, by decide +kernel, by decide +kernel⟩
abbrev s_check_box : Stmt := top 13
abbrev N_check_box : List Str := ["b"]
abbrev ps_check_box : List Str := ["b"]
theorem sc_check_box : FnScope N_check_box ps_check_box (defScope s_check_box) := ⟨rfl, rfl, rfl, by decide +kernel, rfl, by decide +kernel, by decide +kernel⟩
abbrev s_used_to : Stmt := top 14
abbrev N_used_to : List Str := ["n"]
abbrev ps_used_to : List Str := ["n"]
theorem sc_used_to : FnScope N_used_to ps_used_to (defScope s_used_to) := ⟨rfl, rfl, rfl, by decide +kernel, rfl, by decide +kernel, by decide +kernel⟩
abbrev s_boxes_to : Stmt := top 15
abbrev N_boxes_to : List Str := ["n", "b"]
abbrev ps_boxes_to : List Str := ["n", "b"]
theorem sc_boxes_to : FnScope N_boxes_to ps_boxes_to (defScope s_boxes_to) := ⟨rfl, rfl, rfl, by decide +kernel, rfl, by decide +kernel, by decide +kernel⟩
abbrev s_left_behind : Stmt := top 16
abbrev N_left_behind : List Str := ["n", "b"]
abbrev ps_left_behind : List Str := ["n", "b"]
theorem sc_left_behind : FnScope N_left_behind ps_left_behind (defScope s_left_behind) := ⟨rfl, rfl, rfl, by decide +kernel, rfl, by decide +kernel, by decide +kernel⟩
abbrev s_opened_on : Stmt := top 17
abbrev N_opened_on : List Str := ["n", "b"]
abbrev ps_opened_on : List Str := ["n", "b"]
theorem sc_opened_on : FnScope N_opened_on ps_opened_on (defScope s_opened_on) := ⟨rfl, rfl, rfl, by decide +kernel, rfl, by decide +kernel, by decide +kernel⟩
abbrev s_lefts_of : Stmt := top 18
abbrev N_lefts_of : List Str := ["b", "n"]
abbrev ps_lefts_of : List Str := ["b"]
theorem sc_lefts_of : FnScope N_lefts_of ps_lefts_of (defScope s_lefts_of) := ⟨rfl, rfl, rfl, by decide +kernel, rfl, by decide +kernel, by decide +kernel⟩
abbrev s_clean_to : Stmt := top 19
abbrev N_clean_to : List Str := ["n", "b", "year"]
abbrev ps_clean_to : List Str := ["n", "b"]
theorem sc_clean_to : FnScope N_clean_to ps_clean_to (defScope s_clean_to) := ⟨rfl, rfl, rfl, by decide +kernel, rfl, by decide +kernel, by decide +kernel⟩
abbrev s_check_children : Stmt := top 31
abbrev N_check_children : List Str := ["k"]
abbrev ps_check_children : List Str := ["k"]
theorem sc_check_children : FnScope N_check_children ps_check_children (defScope s_check_children) := ⟨rfl, rfl, rfl, by decide +kernel, rfl, by decide +kernel, by decide +kernel⟩
abbrev s_check_days : Stmt := top 30
abbrev N_check_days : List Str := ["d"]
abbrev ps_check_days : List Str := ["d"]
theorem sc_check_days : FnScope N_check_days ps_check_days (defScope s_check_days) := ⟨rfl, rfl, rfl, by decide +kernel, rfl, by decide +kernel, by decide +kernel⟩
abbrev s_lowest : Stmt := top 21
abbrev N_lowest : List Str := ["part", "whole", "common"]
abbrev ps_lowest : List Str := ["part", "whole"]
theorem sc_lowest : FnScope N_lowest ps_lowest (defScope s_lowest) := ⟨rfl, rfl, rfl, by decide +kernel, rfl, by decide +kernel, by decide +kernel⟩
abbrev s_minus : Stmt := top 23
abbrev N_minus : List Str := ["one", "other"]
abbrev ps_minus : List Str := ["one", "other"]
theorem sc_minus : FnScope N_minus ps_minus (defScope s_minus) := ⟨rfl, rfl, rfl, by decide +kernel, rfl, by decide +kernel, by decide +kernel⟩
abbrev s_times : Stmt := top 24
abbrev N_times : List Str := ["one", "other"]
abbrev ps_times : List Str := ["one", "other"]
theorem sc_times : FnScope N_times ps_times (defScope s_times) := ⟨rfl, rfl, rfl, by decide +kernel, rfl, by decide +kernel, by decide +kernel⟩
abbrev s_made : Stmt := top 22
abbrev N_made : List Str := ["part", "whole"]
abbrev ps_made : List Str := ["part", "whole"]
theorem sc_made : FnScope N_made ps_made (defScope s_made) := ⟨rfl, rfl, rfl, by decide +kernel, rfl, by decide +kernel, by decide +kernel⟩
abbrev s_alike_chance : Stmt := top 32
abbrev N_alike_chance : List Str := ["k", "d", "unlike", "child"]
abbrev ps_alike_chance : List Str := ["k", "d"]
theorem sc_alike_chance : FnScope N_alike_chance ps_alike_chance (defScope s_alike_chance) := ⟨rfl, rfl, rfl, by decide +kernel, rfl, by decide +kernel, by decide +kernel⟩
abbrev s_mean_pairs : Stmt := top 34
abbrev N_mean_pairs : List Str := ["k", "d"]
abbrev ps_mean_pairs : List Str := ["k", "d"]
theorem sc_mean_pairs : FnScope N_mean_pairs ps_mean_pairs (defScope s_mean_pairs) := ⟨rfl, rfl, rfl, by decide +kernel, rfl, by decide +kernel, by decide +kernel⟩
abbrev s_less : Stmt := top 25
abbrev N_less : List Str := ["one", "other"]
abbrev ps_less : List Str := ["one", "other"]
theorem sc_less : FnScope N_less ps_less (defScope s_less) := ⟨rfl, rfl, rfl, by decide +kernel, rfl, by decide +kernel, by decide +kernel⟩
abbrev s_crowd_for : Stmt := top 33
abbrev N_crowd_for : List Str := ["d", "unlike", "children"]
abbrev ps_crowd_for : List Str := ["d"]
theorem sc_crowd_for : FnScope N_crowd_for ps_crowd_for (defScope s_crowd_for) := ⟨rfl, rfl, rfl, by decide +kernel, rfl, by decide +kernel, by decide +kernel⟩
abbrev s__law_word : Stmt := top 39
abbrev N__law_word : List Str := ["e", "kinds", "one"]
abbrev ps__law_word : List Str := ["e"]
theorem sc__law_word : FnScope N__law_word ps__law_word (defScope s__law_word) := ⟨rfl, rfl, rfl, by decide +kernel, rfl, by decide +kernel, by decide +kernel⟩
abbrev s__law_told : Stmt := top 44
abbrev N__law_told : List Str := ["which", "one", "two", "e"]
abbrev ps__law_told : List Str := ["which", "one", "two"]
theorem sc__law_told : FnScope N__law_told ps__law_told (defScope s__law_told) := ⟨rfl, rfl, rfl, by decide +kernel, rfl, by decide +kernel, by decide +kernel⟩
abbrev s__law_candles : Stmt := top 45
abbrev N__law_candles : List Str := ["draws", "b", "lefts", "many", "year", "kinds", "power", "period", "again", "far", "used", "opened", "left", "boxes", "clean", "step", "one", "k"]
abbrev ps__law_candles : List Str := ["draws"]
theorem sc__law_candles : FnScope N__law_candles ps__law_candles (defScope s__law_candles) := ⟨rfl, rfl, rfl, by decide +kernel, rfl, by decide +kernel, by decide +kernel⟩
abbrev s__law_made : Stmt := top 40
abbrev N__law_made : List Str := ["part", "whole", "sign", "one", "other"]
abbrev ps__law_made : List Str := ["part", "whole"]
theorem sc__law_made : FnScope N__law_made ps__law_made (defScope s__law_made) := ⟨rfl, rfl, rfl, by decide +kernel, rfl, by decide +kernel, by decide +kernel⟩
abbrev s__law_plus : Stmt := top 41
abbrev N__law_plus : List Str := ["one", "other"]
abbrev ps__law_plus : List Str := ["one", "other"]
theorem sc__law_plus : FnScope N__law_plus ps__law_plus (defScope s__law_plus) := ⟨rfl, rfl, rfl, by decide +kernel, rfl, by decide +kernel, by decide +kernel⟩
abbrev s__law_times : Stmt := top 42
abbrev N__law_times : List Str := ["one", "other"]
abbrev ps__law_times : List Str := ["one", "other"]
theorem sc__law_times : FnScope N__law_times ps__law_times (defScope s__law_times) := ⟨rfl, rfl, rfl, by decide +kernel, rfl, by decide +kernel, by decide +kernel⟩
abbrev s__law_less : Stmt := top 43
abbrev N__law_less : List Str := ["one", "other"]
abbrev ps__law_less : List Str := ["one", "other"]
theorem sc__law_less : FnScope N__law_less ps__law_less (defScope s__law_less) := ⟨rfl, rfl, rfl, by decide +kernel, rfl, by decide +kernel, by decide +kernel⟩
abbrev s__law_days : Stmt := top 46
abbrev N__law_days : List Str := ["draws", "rows", "child", "alike", "pairs", "unlike", "due", "crowd", "k", "d", "later", "row", "more", "wider", "day", "j", "i"]
abbrev ps__law_days : List Str := ["draws"]
theorem sc__law_days : FnScope N__law_days ps__law_days (defScope s__law_days) := ⟨rfl, rfl, rfl, by decide +kernel, rfl, by decide +kernel, by decide +kernel⟩
abbrev s_law : Stmt := top 47
abbrev N_law : List Str := ["script", "draws", "words", "bad", "which"]
abbrev ps_law : List Str := ["script"]
theorem sc_law : FnScope N_law ps_law (defScope s_law) := ⟨rfl, rfl, rfl, by decide +kernel, rfl, by decide +kernel, by decide +kernel⟩
structure Txt (K : PySem.W.Frag) (mg : Str → Option Value) : Prop where
  n_abs : mg "abs" = none
  n_bool : mg "bool" = none
  n_dict : mg "dict" = none
  n_int : mg "int" = none
  n_isinstance : mg "isinstance" = none
  n_len : mg "len" = none
  n_list : mg "list" = none
  n_max : mg "max" = none
  n_range : mg "range" = none
  n_reversed : mg "reversed" = none
  n_sorted : mg "sorted" = none
  n_str : mg "str" = none
  n_sum : mg "sum" = none
  n_tuple : mg "tuple" = none
  b_gcd : mg "gcd" = some (.builtin "math.gcd")
  c_MOST_CHILDREN : Con K mg G "MOST_CHILDREN" c_MOST_CHILDREN
  c_MOST_DAYS : Con K mg G "MOST_DAYS" c_MOST_DAYS
  c_MOST_IN_BOX : Con K mg G "MOST_IN_BOX" c_MOST_IN_BOX
  c_MOST_YEARS : Con K mg G "MOST_YEARS" c_MOST_YEARS
  c_ONE : Con K mg G "ONE" c_ONE
  x_OutOfRange : ExcX K mg "OutOfRange"
  g_PlayError : mg "PlayError" = some (.ref (He.ga K "PlayError"))
  g_OutOfRange : mg "OutOfRange" = some (.ref (He.ga K "OutOfRange"))
  e_OutOfRange_PlayError : PySem.W.exmOne K (.ref (He.ga K "OutOfRange")) (.ref (He.ga K "PlayError")) = some true
  i_OutOfRange : ExcC K (He.ga K "OutOfRange")
  g_TooMuch : mg "TooMuch" = some (.ref (He.ga K "TooMuch"))
  k_OutOfRange_TooMuch : PySem.W.kitOne K (.ref (He.ga K "OutOfRange")) (.ref (He.ga K "TooMuch")) = some false
  g_Refused : mg "Refused" = some (.ref (He.ga K "Refused"))
  k_OutOfRange_Refused : PySem.W.kitOne K (.ref (He.ga K "OutOfRange")) (.ref (He.ga K "Refused")) = some false
  g_NotThere : mg "NotThere" = some (.ref (He.ga K "NotThere"))
  k_OutOfRange_NotThere : PySem.W.kitOne K (.ref (He.ga K "OutOfRange")) (.ref (He.ga K "NotThere")) = some false
  g_Malformed : mg "Malformed" = some (.ref (He.ga K "Malformed"))
  k_OutOfRange_Malformed : PySem.W.kitOne K (.ref (He.ga K "OutOfRange")) (.ref (He.ga K "Malformed")) = some false
  k_OutOfRange_OutOfRange : PySem.W.kitOne K (.ref (He.ga K "OutOfRange")) (.ref (He.ga K "OutOfRange")) = some true
section
variable {P : Program} {w : World} {K : PySem.W.Frag} {mg : Str → Option Value} {base : Heap}
theorem cal__law_draws (T : Txt K mg) {f : Addr} {fd : FuncData} (F : FunD K "_law_draws" "_law_draws" (defArgs s__law_draws) (defBody s__law_draws) (defScope s__law_draws) [] [] f fd) (hg : mg "_law_draws" = some (.ref f)) : Cal P w K mg base G 1 "_law_draws" ps__law_draws m__law_draws :=
  cal_mk (N := N__law_draws) (ps := ps__law_draws) (k := 0) (st := s__law_draws) F hg sc__law_draws (fun _ _ _ _ _ _ us hl => match us, hl with | [_], _ => rfl) fun cdv A outer s H E hr => ((bs_cons (ss_set (i := 1) sc__law_draws.nd rfl (by first | exact Or.inl rfl | exact Or.inr rfl) (se_lst sa_nil))
 (bs_cons (ss_for (ks := [2, 3, 4, 5, 6]) (L2.passes_of rfl) rfl (si_it (sv 0)) (tg_nm sc__law_draws.nd rfl (by first | exact Or.inl rfl | exact Or.inr rfl))
 (bs_cons (ss_set (i := 5) sc__law_draws.nd rfl (by first | exact Or.inl rfl | exact Or.inr rfl) (se_abs rfl T.n_abs (sa_cons (hold := true) (sv 2) sa_nil)))
 (bs_cons (ss_if (st_lt (sv 5) (se_pow se_int se_int)) (bs_cons (ss_set (i := 6) sc__law_draws.nd rfl (by first | exact Or.inl rfl | exact Or.inr rfl) (se_mod (se_intC rfl T.n_int (sa_cons (hold := true) (se_add rfl (se_mul rfl (sv 5) se_int) se_int) sa_nil)) se_int))
 (bs_cons (ss_expr (se_lm (i := 1) PySem.F.slot_list_append PySem.F.type_list_append mt_append ok_append rfl (by first | exact Or.inl rfl | exact Or.inr (Or.inl rfl) | exact Or.inr (Or.inr rfl)) (by decide) (by decide) (sa_cons (hold := false) (se_mod (se_intC rfl T.n_int (sa_cons (hold := true) (se_add rfl (se_mul rfl (sv 6) se_int) (sv 5)) sa_nil)) se_int) sa_nil) rfl rfl rfl rfl rfl))
 (bs_cons (ss_expr (se_lm (i := 1) PySem.F.slot_list_append PySem.F.type_list_append mt_append ok_append rfl (by first | exact Or.inl rfl | exact Or.inr (Or.inl rfl) | exact Or.inr (Or.inr rfl)) (by decide) (by decide) (sa_cons (hold := false) (se_mod (se_intC rfl T.n_int (sa_cons (hold := true) (se_add rfl (sv 6) (se_div (sv 5) se_int)) sa_nil)) se_int) sa_nil) rfl rfl rfl rfl rfl))
 (bs_one (ss_set (i := 5) sc__law_draws.nd rfl (by first | exact Or.inl rfl | exact Or.inr rfl) se_int))))) bs_nil)
 (bs_one (ss_for (ks := [2, 3, 4, 6]) (L2.passes_of rfl) rfl (si_rng1 rfl T.n_range (sa_cons (hold := false) se_int sa_nil)) (tg_nm sc__law_draws.nd rfl (by first | exact Or.inl rfl | exact Or.inr rfl))
 (bs_one (ss_if (st_gt (sv 5) se_int) (bs_cons (ss_expr (se_lm (i := 1) PySem.F.slot_list_append PySem.F.type_list_append mt_append ok_append rfl (by first | exact Or.inl rfl | exact Or.inr (Or.inl rfl) | exact Or.inr (Or.inr rfl)) (by decide) (by decide) (sa_cons (hold := false) (se_mod (se_intC rfl T.n_int (sa_cons (hold := true) (sv 5) sa_nil)) se_int) sa_nil) rfl rfl rfl rfl rfl))
 (bs_one (ss_set (i := 5) sc__law_draws.nd rfl (by first | exact Or.inl rfl | exact Or.inr rfl) (se_div (sv 5) se_int)))) bs_nil)))))))
 (bs_cons (ss_set (i := 3) sc__law_draws.nd rfl (by first | exact Or.inl rfl | exact Or.inr rfl) se_int)
 (bs_cons (ss_if (st_gt (se_len rfl T.n_len (sa_cons (hold := true) (sv 0) sa_nil)) se_int) (bs_one (ss_set (i := 3) sc__law_draws.nd rfl (by first | exact Or.inl rfl | exact Or.inr rfl) (se_add rfl se_int (se_abs rfl T.n_abs (sa_cons (hold := true) (se_ix (hu64 hr) (sv 0) se_int (fun _ _ => rfl) (fun _ _ => rfl)) sa_nil))))) bs_nil)
 (bs_cons (ss_for (ks := [0, 2, 4, 5, 6]) (L2.passes_of rfl) rfl (si_rng1 rfl T.n_range (sa_cons (hold := false) se_int sa_nil)) (tg_nm sc__law_draws.nd rfl (by first | exact Or.inl rfl | exact Or.inr rfl))
 (bs_cons (ss_set (i := 3) sc__law_draws.nd rfl (by first | exact Or.inl rfl | exact Or.inr rfl) (se_mod (se_intC rfl T.n_int (sa_cons (hold := true) (se_add rfl (se_mul rfl (sv 3) se_int) se_int) sa_nil)) se_int))
 (bs_one (ss_expr (se_lm (i := 1) PySem.F.slot_list_append PySem.F.type_list_append mt_append ok_append rfl (by first | exact Or.inl rfl | exact Or.inr (Or.inl rfl) | exact Or.inr (Or.inr rfl)) (by decide) (by decide) (sa_cons (hold := false) (se_div (sv 3) se_int) sa_nil) rfl rfl rfl rfl rfl)))))
 (bs_one (ss_ret (se_lstRev rfl rfl T.n_list rfl T.n_reversed (sv 1))))))))))
theorem calr__law_alike (T : Txt K mg) {f : Addr} {fd : FuncData} (F : FunD K "_law_alike" "_law_alike" (defArgs s__law_alike) (defBody s__law_alike) (defScope s__law_alike) [] [] f fd) (hg : mg "_law_alike" = some (.ref f)) : ∀ n : Nat, Cal P w K mg base G (1 + n) "_law_alike" ps__law_alike (r__law_alike n)
  | 0 => cal_none (st := s__law_alike) F hg (fun _ _ _ _ _ _ us hl => match us, hl with | [_, _], _ => rfl)
  | n + 1 => by
    have C__law_alike := calr__law_alike  T F hg n
    exact cal_mk (N := N__law_alike) (ps := ps__law_alike) (k := 1 + n) (st := s__law_alike) F hg sc__law_alike (fun _ _ _ _ _ _ us hl => match us, hl with | [_, _], _ => rfl) fun cdv A outer s H E hr => ((bs_cons (ss_if (PW.pt (sw_or (st_tru (se_isi (by decide) rfl T.n_isinstance (sv 1) rfl T.n_list rfl)) (sw_or1 (st_tru (se_isi (by decide) rfl T.n_isinstance (sv 1) rfl T.n_tuple rfl))))) (bs_cons (ss_if (PW.pt (sw_or (st_ne (se_isi (by decide) rfl T.n_isinstance (sv 0) rfl T.n_list rfl) (se_isi (by decide) rfl T.n_isinstance (sv 1) rfl T.n_list rfl) (hu64 hr)) (sw_or1 (st_ne (se_isi (by decide) rfl T.n_isinstance (sv 0) rfl T.n_tuple rfl) (se_isi (by decide) rfl T.n_isinstance (sv 1) rfl T.n_tuple rfl) (hu64 hr))))) (bs_one (ss_ret se_bl)) bs_nil)
 (bs_one (ss_ret (se_and (se_eq (hu64 hr) (se_len rfl T.n_len (sa_cons (hold := true) (sv 0) sa_nil)) (se_len rfl T.n_len (sa_cons (hold := true) (sv 1) sa_nil))) (se_one (se_eq (hu64 hr) (se_lc (own := [("k", 2)]) rfl sc__law_alike.nd (si_rng1 rfl T.n_range (sa_cons (hold := false) (se_len rfl T.n_len (sa_cons (hold := true) (sv 1) sa_nil)) sa_nil)) (blk_ok (by kernel_rfl)) (fun _ _ _ _ _ => (tg_nm sc__law_alike.nd rfl (by first | exact Or.inl rfl | exact Or.inr rfl))) (fun _ _ _ _ _ => (sts_one (st_not (st_tru (se_cal C__law_alike (hr.mono (by omega)) takes0N (sa_cons (hold := false) (se_ix (hu64 hr) (sv 0) (sv 2) (fun _ _ => rfl) (fun _ _ => rfl)) (sa_cons (hold := false) (se_ix (hu64 hr) (sv 1) (sv 2) (fun _ _ => rfl) (fun _ _ => rfl)) sa_nil))))))) (fun _ _ _ _ _ => (sv 2)) (by decide)) (se_lst sa_nil))))))) bs_nil)
 (bs_cons (ss_if (st_is (sv 1) se_non) (bs_one (ss_ret (se_is (sv 0) se_non))) bs_nil)
 (bs_cons (ss_if (PW.pt (sw_or (st_tru (se_isi (by decide) rfl T.n_isinstance (sv 1) rfl T.n_bool rfl)) (sw_or1 (st_tru (se_isi (by decide) rfl T.n_isinstance (sv 0) rfl T.n_bool rfl))))) (bs_one (ss_ret (se_and (se_isi (by decide) rfl T.n_isinstance (sv 0) rfl T.n_bool rfl) (se_and (se_isi (by decide) rfl T.n_isinstance (sv 1) rfl T.n_bool rfl) (se_one (se_eq (hu64 hr) (sv 0) (sv 1))))))) bs_nil)
 (bs_cons (ss_if (st_tru (se_isi (by decide) rfl T.n_isinstance (sv 1) rfl T.n_int rfl)) (bs_one (ss_ret (se_and (se_isi (by decide) rfl T.n_isinstance (sv 0) rfl T.n_int rfl) (se_one (se_eq (hu64 hr) (sv 0) (sv 1)))))) bs_nil)
 (bs_one (ss_ret (se_and (se_isi (by decide) rfl T.n_isinstance (sv 0) rfl T.n_str rfl) (se_one (se_eq (hu64 hr) (sv 0) (sv 1)))))))))))
theorem cal__law_alike (T : Txt K mg) {f : Addr} {fd : FuncData} (F : FunD K "_law_alike" "_law_alike" (defArgs s__law_alike) (defBody s__law_alike) (defScope s__law_alike) [] [] f fd) (hg : mg "_law_alike" = some (.ref f)) : Cal P w K mg base G 9 "_law_alike" ps__law_alike m__law_alike :=
  calr__law_alike  T F hg 8
theorem cal__law_take (T : Txt K mg) {f : Addr} {fd : FuncData} (F : FunD K "_law_take" "_law_take" (defArgs s__law_take) (defBody s__law_take) (defScope s__law_take) [] [] f fd) (hg : mg "_law_take" = some (.ref f)) : Cal P w K mg base G 1 "_law_take" ps__law_take m__law_take :=
  cal_mk (N := N__law_take) (ps := ps__law_take) (k := 0) (st := s__law_take) F hg sc__law_take (fun _ _ _ _ _ _ us hl => match us, hl with | [_, _], _ => rfl) fun cdv A outer s H E hr => ((bs_cons (ss_if (st_eq (se_len rfl T.n_len (sa_cons (hold := true) (sv 0) sa_nil)) se_int (hu64 hr)) (bs_one (ss_ret se_int)) bs_nil)
 (bs_one (ss_ret (se_mod (se_intC rfl T.n_int (sa_cons (hold := true) (se_lm0 (i := 0) PySem.F.slot_list_pop PySem.F.type_list_pop mt_pop ok_pop rfl (by first | exact Or.inl rfl | exact Or.inr (Or.inl rfl) | exact Or.inr (Or.inr rfl)) (by decide) (by decide) rfl rfl) sa_nil)) (sv 1))))))
theorem cal_is_number (T : Txt K mg) {f : Addr} {fd : FuncData} (F : FunD K "is_number" "is_number" (defArgs s_is_number) (defBody s_is_number) (defScope s_is_number) [] [] f fd) (hg : mg "is_number" = some (.ref f)) : Cal P w K mg base G 1 "is_number" ps_is_number m_is_number :=
  cal_mk (N := N_is_number) (ps := ps_is_number) (k := 0) (st := s_is_number) F hg sc_is_number (fun _ _ _ _ _ _ us hl => match us, hl with | [_, _, _], _ => rfl) fun cdv A outer s H E hr => ((bs_one (ss_ret (se_and (se_isi (by decide) rfl T.n_isinstance (sv 0) rfl T.n_int rfl) (se_and (se_not (se_isi (by decide) rfl T.n_isinstance (sv 0) rfl T.n_bool rfl)) (se_one (se_chn op_le op_le ok_le ok_le (sv 1) (sv 0) (sv 2))))))))
theorem cal_check_box (C_is_number : Cal P w K mg base G 1 "is_number" ps_is_number m_is_number) (T : Txt K mg) {f : Addr} {fd : FuncData} (F : FunD K "check_box" "check_box" (defArgs s_check_box) (defBody s_check_box) (defScope s_check_box) [] [] f fd) (hg : mg "check_box" = some (.ref f)) : Cal P w K mg base G 2 "check_box" ps_check_box m_check_box :=
  cal_mk (N := N_check_box) (ps := ps_check_box) (k := 1) (st := s_check_box) F hg sc_check_box (fun _ _ _ _ _ _ us hl => match us, hl with | [_], _ => rfl) fun cdv A outer s H E hr => ((bs_one (ss_if (st_not (st_tru (se_cal C_is_number (hr.mono (by omega)) (L2N.takes_of rfl rfl rfl rfl) (sa_cons (hold := false) (sv 0) (sa_cons (hold := false) se_int (sa_cons (hold := false) (se_con T.c_MOST_IN_BOX) sa_nil)))))) (bs_one (ss_rai T.x_OutOfRange rfl (L2N.takes_of rfl rfl rfl rfl))) bs_nil)))
theorem cal_used_to (T : Txt K mg) {f : Addr} {fd : FuncData} (F : FunD K "used_to" "used_to" (defArgs s_used_to) (defBody s_used_to) (defScope s_used_to) [] [] f fd) (hg : mg "used_to" = some (.ref f)) : Cal P w K mg base G 1 "used_to" ps_used_to m_used_to :=
  cal_mk (N := N_used_to) (ps := ps_used_to) (k := 0) (st := s_used_to) F hg sc_used_to (fun _ _ _ _ _ _ us hl => match us, hl with | [_], _ => rfl) fun cdv A outer s H E hr => ((bs_one (ss_ret (se_div (se_mul rfl (sv 0) (se_add rfl (sv 0) se_int)) se_int))))
theorem cal_boxes_to (C_check_box : Cal P w K mg base G 2 "check_box" ps_check_box m_check_box) (C_used_to : Cal P w K mg base G 1 "used_to" ps_used_to m_used_to) (T : Txt K mg) {f : Addr} {fd : FuncData} (F : FunD K "boxes_to" "boxes_to" (defArgs s_boxes_to) (defBody s_boxes_to) (defScope s_boxes_to) [] [] f fd) (hg : mg "boxes_to" = some (.ref f)) : Cal P w K mg base G 3 "boxes_to" ps_boxes_to m_boxes_to :=
  cal_mk (N := N_boxes_to) (ps := ps_boxes_to) (k := 2) (st := s_boxes_to) F hg sc_boxes_to (fun _ _ _ _ _ _ us hl => match us, hl with | [_, _], _ => rfl) fun cdv A outer s H E hr => ((bs_cons (ss_expr (se_cal C_check_box (hr.mono (by omega)) (L2N.takes_of rfl rfl rfl rfl) (sa_cons (hold := false) (sv 1) sa_nil)))
 (bs_one (ss_ret (se_div (se_sub (se_add rfl (se_cal C_used_to (hr.mono (by omega)) (L2N.takes_of rfl rfl rfl rfl) (sa_cons (hold := false) (sv 0) sa_nil)) (sv 1)) se_int) (sv 1))))))
theorem cal_left_behind (C_boxes_to : Cal P w K mg base G 3 "boxes_to" ps_boxes_to m_boxes_to) (C_used_to : Cal P w K mg base G 1 "used_to" ps_used_to m_used_to) (T : Txt K mg) {f : Addr} {fd : FuncData} (F : FunD K "left_behind" "left_behind" (defArgs s_left_behind) (defBody s_left_behind) (defScope s_left_behind) [] [] f fd) (hg : mg "left_behind" = some (.ref f)) : Cal P w K mg base G 4 "left_behind" ps_left_behind m_left_behind :=
  cal_mk (N := N_left_behind) (ps := ps_left_behind) (k := 3) (st := s_left_behind) F hg sc_left_behind (fun _ _ _ _ _ _ us hl => match us, hl with | [_, _], _ => rfl) fun cdv A outer s H E hr => ((bs_one (ss_ret (se_sub (se_mul rfl (se_cal C_boxes_to (hr.mono (by omega)) (L2N.takes_of rfl rfl rfl rfl) (sa_cons (hold := false) (sv 0) (sa_cons (hold := false) (sv 1) sa_nil))) (sv 1)) (se_cal C_used_to (hr.mono (by omega)) (L2N.takes_of rfl rfl rfl rfl) (sa_cons (hold := false) (sv 0) sa_nil))))))
theorem cal_opened_on (C_check_box : Cal P w K mg base G 2 "check_box" ps_check_box m_check_box) (C_boxes_to : Cal P w K mg base G 3 "boxes_to" ps_boxes_to m_boxes_to) (T : Txt K mg) {f : Addr} {fd : FuncData} (F : FunD K "opened_on" "opened_on" (defArgs s_opened_on) (defBody s_opened_on) (defScope s_opened_on) [] [] f fd) (hg : mg "opened_on" = some (.ref f)) : Cal P w K mg base G 4 "opened_on" ps_opened_on m_opened_on :=
  cal_mk (N := N_opened_on) (ps := ps_opened_on) (k := 3) (st := s_opened_on) F hg sc_opened_on (fun _ _ _ _ _ _ us hl => match us, hl with | [_, _], _ => rfl) fun cdv A outer s H E hr => ((bs_cons (ss_expr (se_cal C_check_box (hr.mono (by omega)) (L2N.takes_of rfl rfl rfl rfl) (sa_cons (hold := false) (sv 1) sa_nil)))
 (bs_one (ss_ret (se_sub (se_cal C_boxes_to (hr.mono (by omega)) (L2N.takes_of rfl rfl rfl rfl) (sa_cons (hold := false) (sv 0) (sa_cons (hold := false) (sv 1) sa_nil))) (se_if (st_gt (sv 0) se_int) (se_cal C_boxes_to (hr.mono (by omega)) (L2N.takes_of rfl rfl rfl rfl) (sa_cons (hold := false) (se_sub (sv 0) se_int) (sa_cons (hold := false) (sv 1) sa_nil))) se_int))))))
theorem cal_lefts_of (C_check_box : Cal P w K mg base G 2 "check_box" ps_check_box m_check_box) (C_left_behind : Cal P w K mg base G 4 "left_behind" ps_left_behind m_left_behind) (T : Txt K mg) {f : Addr} {fd : FuncData} (F : FunD K "lefts_of" "lefts_of" (defArgs s_lefts_of) (defBody s_lefts_of) (defScope s_lefts_of) [] [] f fd) (hg : mg "lefts_of" = some (.ref f)) : Cal P w K mg base G 5 "lefts_of" ps_lefts_of m_lefts_of :=
  cal_mk (N := N_lefts_of) (ps := ps_lefts_of) (k := 4) (st := s_lefts_of) F hg sc_lefts_of (fun _ _ _ _ _ _ us hl => match us, hl with | [_], _ => rfl) fun cdv A outer s H E hr => ((bs_cons (ss_expr (se_cal C_check_box (hr.mono (by omega)) (L2N.takes_of rfl rfl rfl rfl) (sa_cons (hold := false) (sv 0) sa_nil)))
 (bs_one (ss_ret (se_tupleOf rfl rfl T.n_tuple (sa_cons (hold := true) (se_srtSc rfl rfl T.n_sorted (own := [("n", 1)]) sc_lefts_of.nd (si_rng2 rfl T.n_range (sa_cons (hold := false) se_int (sa_cons (hold := false) (se_add rfl (se_mul rfl se_int (sv 0)) se_int) sa_nil))) (blk_ok (by kernel_rfl)) (fun _ _ _ _ _ => (tg_nm sc_lefts_of.nd rfl (by first | exact Or.inl rfl | exact Or.inr rfl))) (fun _ _ _ _ _ => sts_nil) (fun _ _ _ _ _ => (se_cal C_left_behind (hr.mono (by omega)) takes0N (sa_cons (hold := false) (sv 1) (sa_cons (hold := false) (sv 0) sa_nil)))) (by decide)) sa_nil))))))
theorem cal_clean_to (C_check_box : Cal P w K mg base G 2 "check_box" ps_check_box m_check_box) (C_is_number : Cal P w K mg base G 1 "is_number" ps_is_number m_is_number) (C_used_to : Cal P w K mg base G 1 "used_to" ps_used_to m_used_to) (T : Txt K mg) {f : Addr} {fd : FuncData} (F : FunD K "clean_to" "clean_to" (defArgs s_clean_to) (defBody s_clean_to) (defScope s_clean_to) [] [] f fd) (hg : mg "clean_to" = some (.ref f)) : Cal P w K mg base G 3 "clean_to" ps_clean_to m_clean_to :=
  cal_mk (N := N_clean_to) (ps := ps_clean_to) (k := 2) (st := s_clean_to) F hg sc_clean_to (fun _ _ _ _ _ _ us hl => match us, hl with | [_, _], _ => rfl) fun cdv A outer s H E hr => ((bs_cons (ss_expr (se_cal C_check_box (hr.mono (by omega)) (L2N.takes_of rfl rfl rfl rfl) (sa_cons (hold := false) (sv 1) sa_nil)))
 (bs_cons (ss_if (st_not (st_tru (se_cal C_is_number (hr.mono (by omega)) (L2N.takes_of rfl rfl rfl rfl) (sa_cons (hold := false) (sv 0) (sa_cons (hold := false) se_int (sa_cons (hold := false) (se_con T.c_MOST_YEARS) sa_nil)))))) (bs_one (ss_rai T.x_OutOfRange rfl (L2N.takes_of rfl rfl rfl rfl))) bs_nil)
 (bs_one (ss_ret (se_len rfl T.n_len (sa_cons (hold := true) (se_lc (own := [("year", 2)]) rfl sc_clean_to.nd (si_rng2 rfl T.n_range (sa_cons (hold := false) se_int (sa_cons (hold := false) (se_add rfl (sv 0) se_int) sa_nil))) (blk_ok (by kernel_rfl)) (fun _ _ _ _ _ => (tg_nm sc_clean_to.nd rfl (by first | exact Or.inl rfl | exact Or.inr rfl))) (fun _ _ _ _ _ => (sts_one (st_eq (se_mod (se_cal C_used_to (hr.mono (by omega)) takes0N (sa_cons (hold := false) (sv 2) sa_nil)) (sv 1)) se_int (hu64 hr)))) (fun _ _ _ _ _ => se_int) (by decide)) sa_nil)))))))
theorem cal_check_children (C_is_number : Cal P w K mg base G 1 "is_number" ps_is_number m_is_number) (T : Txt K mg) {f : Addr} {fd : FuncData} (F : FunD K "check_children" "check_children" (defArgs s_check_children) (defBody s_check_children) (defScope s_check_children) [] [] f fd) (hg : mg "check_children" = some (.ref f)) : Cal P w K mg base G 2 "check_children" ps_check_children m_check_children :=
  cal_mk (N := N_check_children) (ps := ps_check_children) (k := 1) (st := s_check_children) F hg sc_check_children (fun _ _ _ _ _ _ us hl => match us, hl with | [_], _ => rfl) fun cdv A outer s H E hr => ((bs_one (ss_if (st_not (st_tru (se_cal C_is_number (hr.mono (by omega)) (L2N.takes_of rfl rfl rfl rfl) (sa_cons (hold := false) (sv 0) (sa_cons (hold := false) se_int (sa_cons (hold := false) (se_con T.c_MOST_CHILDREN) sa_nil)))))) (bs_one (ss_rai T.x_OutOfRange rfl (L2N.takes_of rfl rfl rfl rfl))) bs_nil)))
theorem cal_check_days (C_is_number : Cal P w K mg base G 1 "is_number" ps_is_number m_is_number) (T : Txt K mg) {f : Addr} {fd : FuncData} (F : FunD K "check_days" "check_days" (defArgs s_check_days) (defBody s_check_days) (defScope s_check_days) [] [] f fd) (hg : mg "check_days" = some (.ref f)) : Cal P w K mg base G 2 "check_days" ps_check_days m_check_days :=
  cal_mk (N := N_check_days) (ps := ps_check_days) (k := 1) (st := s_check_days) F hg sc_check_days (fun _ _ _ _ _ _ us hl => match us, hl with | [_], _ => rfl) fun cdv A outer s H E hr => ((bs_one (ss_if (st_not (st_tru (se_cal C_is_number (hr.mono (by omega)) (L2N.takes_of rfl rfl rfl rfl) (sa_cons (hold := false) (sv 0) (sa_cons (hold := false) se_int (sa_cons (hold := false) (se_con T.c_MOST_DAYS) sa_nil)))))) (bs_one (ss_rai T.x_OutOfRange rfl (L2N.takes_of rfl rfl rfl rfl))) bs_nil)))
theorem cal_lowest (T : Txt K mg) {f : Addr} {fd : FuncData} (F : FunD K "lowest" "lowest" (defArgs s_lowest) (defBody s_lowest) (defScope s_lowest) [] [] f fd) (hg : mg "lowest" = some (.ref f)) : Cal P w K mg base G 1 "lowest" ps_lowest m_lowest :=
  cal_mk (N := N_lowest) (ps := ps_lowest) (k := 0) (st := s_lowest) F hg sc_lowest (fun _ _ _ _ _ _ us hl => match us, hl with | [_, _], _ => rfl) fun cdv A outer s H E hr => ((bs_cons (ss_set (i := 2) sc_lowest.nd rfl (by first | exact Or.inl rfl | exact Or.inr rfl) (se_bfun cr_gcd ok_gcd rfl T.b_gcd (sa_cons (hold := true) (sv 0) (sa_cons (hold := true) (sv 1) sa_nil))))
 (bs_cons (ss_if (st_lt (sv 1) se_int) (bs_one (ss_set (i := 2) sc_lowest.nd rfl (by first | exact Or.inl rfl | exact Or.inr rfl) (se_neg (sv 2)))) bs_nil)
 (bs_one (ss_ret (se_tup rfl (sa_cons (hold := false) (se_div (sv 0) (sv 2)) (sa_cons (hold := false) (se_div (sv 1) (sv 2)) sa_nil))))))))
theorem cal_minus (C_lowest : Cal P w K mg base G 1 "lowest" ps_lowest m_lowest) (T : Txt K mg) {f : Addr} {fd : FuncData} (F : FunD K "minus" "minus" (defArgs s_minus) (defBody s_minus) (defScope s_minus) [] [] f fd) (hg : mg "minus" = some (.ref f)) : Cal P w K mg base G 2 "minus" ps_minus m_minus :=
  cal_mk (N := N_minus) (ps := ps_minus) (k := 1) (st := s_minus) F hg sc_minus (fun _ _ _ _ _ _ us hl => match us, hl with | [_, _], _ => rfl) fun cdv A outer s H E hr => ((bs_one (ss_ret (se_cal C_lowest (hr.mono (by omega)) (L2N.takes_of rfl rfl rfl rfl) (sa_cons (hold := false) (se_sub (se_mul rfl (se_ix (hu64 hr) (sv 0) se_int (fun _ _ => rfl) (fun _ _ => rfl)) (se_ix (hu64 hr) (sv 1) se_int (fun _ _ => rfl) (fun _ _ => rfl))) (se_mul rfl (se_ix (hu64 hr) (sv 1) se_int (fun _ _ => rfl) (fun _ _ => rfl)) (se_ix (hu64 hr) (sv 0) se_int (fun _ _ => rfl) (fun _ _ => rfl)))) (sa_cons (hold := false) (se_mul rfl (se_ix (hu64 hr) (sv 0) se_int (fun _ _ => rfl) (fun _ _ => rfl)) (se_ix (hu64 hr) (sv 1) se_int (fun _ _ => rfl) (fun _ _ => rfl))) sa_nil))))))
theorem cal_times (C_lowest : Cal P w K mg base G 1 "lowest" ps_lowest m_lowest) (T : Txt K mg) {f : Addr} {fd : FuncData} (F : FunD K "times" "times" (defArgs s_times) (defBody s_times) (defScope s_times) [] [] f fd) (hg : mg "times" = some (.ref f)) : Cal P w K mg base G 2 "times" ps_times m_times :=
  cal_mk (N := N_times) (ps := ps_times) (k := 1) (st := s_times) F hg sc_times (fun _ _ _ _ _ _ us hl => match us, hl with | [_, _], _ => rfl) fun cdv A outer s H E hr => ((bs_one (ss_ret (se_cal C_lowest (hr.mono (by omega)) (L2N.takes_of rfl rfl rfl rfl) (sa_cons (hold := false) (se_mul rfl (se_ix (hu64 hr) (sv 0) se_int (fun _ _ => rfl) (fun _ _ => rfl)) (se_ix (hu64 hr) (sv 1) se_int (fun _ _ => rfl) (fun _ _ => rfl))) (sa_cons (hold := false) (se_mul rfl (se_ix (hu64 hr) (sv 0) se_int (fun _ _ => rfl) (fun _ _ => rfl)) (se_ix (hu64 hr) (sv 1) se_int (fun _ _ => rfl) (fun _ _ => rfl))) sa_nil))))))
theorem cal_made (C_lowest : Cal P w K mg base G 1 "lowest" ps_lowest m_lowest) (T : Txt K mg) {f : Addr} {fd : FuncData} (F : FunD K "made" "made" (defArgs s_made) (defBody s_made) (defScope s_made) [] [] f fd) (hg : mg "made" = some (.ref f)) : Cal P w K mg base G 2 "made" ps_made m_made :=
  cal_mk (N := N_made) (ps := ps_made) (k := 1) (st := s_made) F hg sc_made (fun _ _ _ _ _ _ us hl => match us, hl with | [_, _], _ => rfl) fun cdv A outer s H E hr => ((bs_cons (ss_if (st_eq (sv 1) se_int (hu64 hr)) (bs_one (ss_rai T.x_OutOfRange rfl (L2N.takes_of rfl rfl rfl rfl))) bs_nil)
 (bs_one (ss_ret (se_cal C_lowest (hr.mono (by omega)) (L2N.takes_of rfl rfl rfl rfl) (sa_cons (hold := false) (sv 0) (sa_cons (hold := false) (sv 1) sa_nil)))))))
theorem cal_alike_chance (C_check_children : Cal P w K mg base G 2 "check_children" ps_check_children m_check_children) (C_check_days : Cal P w K mg base G 2 "check_days" ps_check_days m_check_days) (C_made : Cal P w K mg base G 2 "made" ps_made m_made) (C_times : Cal P w K mg base G 2 "times" ps_times m_times) (C_minus : Cal P w K mg base G 2 "minus" ps_minus m_minus) (T : Txt K mg) {f : Addr} {fd : FuncData} (F : FunD K "alike_chance" "alike_chance" (defArgs s_alike_chance) (defBody s_alike_chance) (defScope s_alike_chance) [] [] f fd) (hg : mg "alike_chance" = some (.ref f)) : Cal P w K mg base G 3 "alike_chance" ps_alike_chance m_alike_chance :=
  cal_mk (N := N_alike_chance) (ps := ps_alike_chance) (k := 2) (st := s_alike_chance) F hg sc_alike_chance (fun _ _ _ _ _ _ us hl => match us, hl with | [_, _], _ => rfl) fun cdv A outer s H E hr => ((bs_cons (ss_expr (se_cal C_check_children (hr.mono (by omega)) (L2N.takes_of rfl rfl rfl rfl) (sa_cons (hold := false) (sv 0) sa_nil)))
 (bs_cons (ss_expr (se_cal C_check_days (hr.mono (by omega)) (L2N.takes_of rfl rfl rfl rfl) (sa_cons (hold := false) (sv 1) sa_nil)))
 (bs_cons (ss_set (i := 2) sc_alike_chance.nd rfl (by first | exact Or.inl rfl | exact Or.inr rfl) (se_con T.c_ONE))
 (bs_cons (ss_for (ks := [0, 3]) (L2.passes_of rfl) rfl (si_rng1 rfl T.n_range (sa_cons (hold := false) (sv 0) sa_nil)) (tg_nm sc_alike_chance.nd rfl (by first | exact Or.inl rfl | exact Or.inr rfl))
 (bs_one (ss_set (i := 2) sc_alike_chance.nd rfl (by first | exact Or.inl rfl | exact Or.inr rfl) (se_cal C_times (hr.mono (by omega)) (L2N.takes_of rfl rfl rfl rfl) (sa_cons (hold := false) (sv 2) (sa_cons (hold := false) (se_cal C_made (hr.mono (by omega)) (L2N.takes_of rfl rfl rfl rfl) (sa_cons (hold := false) (se_max rfl rfl T.n_max (sa_cons (hold := true) se_int (sa_cons (hold := true) (se_sub (sv 1) (sv 3)) sa_nil))) (sa_cons (hold := false) (sv 1) sa_nil))) sa_nil))))))
 (bs_one (ss_ret (se_cal C_minus (hr.mono (by omega)) (L2N.takes_of rfl rfl rfl rfl) (sa_cons (hold := false) (se_con T.c_ONE) (sa_cons (hold := false) (sv 2) sa_nil))))))))))
theorem cal_mean_pairs (C_check_children : Cal P w K mg base G 2 "check_children" ps_check_children m_check_children) (C_check_days : Cal P w K mg base G 2 "check_days" ps_check_days m_check_days) (C_made : Cal P w K mg base G 2 "made" ps_made m_made) (T : Txt K mg) {f : Addr} {fd : FuncData} (F : FunD K "mean_pairs" "mean_pairs" (defArgs s_mean_pairs) (defBody s_mean_pairs) (defScope s_mean_pairs) [] [] f fd) (hg : mg "mean_pairs" = some (.ref f)) : Cal P w K mg base G 3 "mean_pairs" ps_mean_pairs m_mean_pairs :=
  cal_mk (N := N_mean_pairs) (ps := ps_mean_pairs) (k := 2) (st := s_mean_pairs) F hg sc_mean_pairs (fun _ _ _ _ _ _ us hl => match us, hl with | [_, _], _ => rfl) fun cdv A outer s H E hr => ((bs_cons (ss_expr (se_cal C_check_children (hr.mono (by omega)) (L2N.takes_of rfl rfl rfl rfl) (sa_cons (hold := false) (sv 0) sa_nil)))
 (bs_cons (ss_expr (se_cal C_check_days (hr.mono (by omega)) (L2N.takes_of rfl rfl rfl rfl) (sa_cons (hold := false) (sv 1) sa_nil)))
 (bs_one (ss_ret (se_cal C_made (hr.mono (by omega)) (L2N.takes_of rfl rfl rfl rfl) (sa_cons (hold := false) (se_mul rfl (sv 0) (se_sub (sv 0) se_int)) (sa_cons (hold := false) (se_mul rfl se_int (sv 1)) sa_nil))))))))
theorem cal_less (T : Txt K mg) {f : Addr} {fd : FuncData} (F : FunD K "less" "less" (defArgs s_less) (defBody s_less) (defScope s_less) [] [] f fd) (hg : mg "less" = some (.ref f)) : Cal P w K mg base G 1 "less" ps_less m_less :=
  cal_mk (N := N_less) (ps := ps_less) (k := 0) (st := s_less) F hg sc_less (fun _ _ _ _ _ _ us hl => match us, hl with | [_, _], _ => rfl) fun cdv A outer s H E hr => ((bs_one (ss_ret (se_lt (se_mul rfl (se_ix (hu64 hr) (sv 0) se_int (fun _ _ => rfl) (fun _ _ => rfl)) (se_ix (hu64 hr) (sv 1) se_int (fun _ _ => rfl) (fun _ _ => rfl))) (se_mul rfl (se_ix (hu64 hr) (sv 1) se_int (fun _ _ => rfl) (fun _ _ => rfl)) (se_ix (hu64 hr) (sv 0) se_int (fun _ _ => rfl) (fun _ _ => rfl)))))))
theorem cal_crowd_for (C_check_days : Cal P w K mg base G 2 "check_days" ps_check_days m_check_days) (C_less : Cal P w K mg base G 1 "less" ps_less m_less) (C_made : Cal P w K mg base G 2 "made" ps_made m_made) (C_times : Cal P w K mg base G 2 "times" ps_times m_times) (T : Txt K mg) {f : Addr} {fd : FuncData} (F : FunD K "crowd_for" "crowd_for" (defArgs s_crowd_for) (defBody s_crowd_for) (defScope s_crowd_for) [] [] f fd) (hg : mg "crowd_for" = some (.ref f)) : Cal P w K mg base G 3 "crowd_for" ps_crowd_for m_crowd_for :=
  cal_mk (N := N_crowd_for) (ps := ps_crowd_for) (k := 2) (st := s_crowd_for) F hg sc_crowd_for (fun _ _ _ _ _ _ us hl => match us, hl with | [_], _ => rfl) fun cdv A outer s H E hr => ((bs_cons (ss_expr (se_cal C_check_days (hr.mono (by omega)) (L2N.takes_of rfl rfl rfl rfl) (sa_cons (hold := false) (sv 0) sa_nil)))
 (bs_cons (ss_set (i := 1) sc_crowd_for.nd rfl (by first | exact Or.inl rfl | exact Or.inr rfl) (se_con T.c_ONE))
 (bs_cons (ss_set (i := 2) sc_crowd_for.nd rfl (by first | exact Or.inl rfl | exact Or.inr rfl) se_int)
 (bs_cons (ss_while (ks := []) (n := 1000000) (L2.passes_of rfl) (st_tru (se_cal C_less (hr.mono (by omega)) (L2N.takes_of rfl rfl rfl rfl) (sa_cons (hold := false) (se_tup rfl (sa_cons (hold := false) se_int (sa_cons (hold := false) se_int sa_nil))) (sa_cons (hold := false) (sv 1) sa_nil)))) (bs_cons (ss_set (i := 1) sc_crowd_for.nd rfl (by first | exact Or.inl rfl | exact Or.inr rfl) (se_cal C_times (hr.mono (by omega)) (L2N.takes_of rfl rfl rfl rfl) (sa_cons (hold := false) (sv 1) (sa_cons (hold := false) (se_cal C_made (hr.mono (by omega)) (L2N.takes_of rfl rfl rfl rfl) (sa_cons (hold := false) (se_max rfl rfl T.n_max (sa_cons (hold := true) se_int (sa_cons (hold := true) (se_sub (sv 0) (sv 2)) sa_nil))) (sa_cons (hold := false) (sv 0) sa_nil))) sa_nil))))
 (bs_one (ss_augAdd (i := 2) sc_crowd_for.nd rfl (by first | exact Or.inl rfl | exact Or.inr rfl) se_int))))
 (bs_one (ss_ret (sv 2))))))))
theorem ev__law_word_OutOfRange (a : Addr) : ∃ ρ', W__law_word_OutOfRange a ((List.replicate N__law_word.length Sl.no).set 0 (.sh (.adr a))) = some (.rt (.sh (.str "range")) ρ') := by
  simp [N__law_word, List.replicate, W__law_word_OutOfRange, isxE, itLE, compL, gIndex, gLen, shpl3, shpl5, shp_bl, eqT_bl, List.findIdx?_cons, gIx, isDict, gIxS, atI, ixN, gNe_int]
theorem hot__law_word_OutOfRange (T : Txt K mg) {f : Addr} {fd : FuncData} (F : FunD K "_law_word" "_law_word" (defArgs s__law_word) (defBody s__law_word) (defScope s__law_word) [] [] f fd) (hg : mg "_law_word" = some (.ref f)) : CalE P w K mg base 1 "_law_word" "e" (He.ga K "OutOfRange") "range" :=
  ⟨f, fd, fn_E (G := G) (N := N__law_word) (st := s__law_word) (k := 0) F sc__law_word (fun a => W__law_word_OutOfRange a) (fun cdv A outer s H E p hot hz hf hr => ((bs_cons (ss_set (i := 1) sc__law_word.nd rfl (by first | exact Or.inl rfl | exact Or.inr rfl) (se_lst (sa_cons (hold := false) (se_isp (i := 0) List.mem_cons_self T.i_OutOfRange hz hf T.n_isinstance T.g_OutOfRange T.k_OutOfRange_OutOfRange) (sa_cons (hold := false) (se_isp (i := 0) List.mem_cons_self T.i_OutOfRange hz hf T.n_isinstance T.g_Malformed T.k_OutOfRange_Malformed) (sa_cons (hold := false) (se_isp (i := 0) List.mem_cons_self T.i_OutOfRange hz hf T.n_isinstance T.g_NotThere T.k_OutOfRange_NotThere) (sa_cons (hold := false) (se_isp (i := 0) List.mem_cons_self T.i_OutOfRange hz hf T.n_isinstance T.g_Refused T.k_OutOfRange_Refused) (sa_cons (hold := false) (se_isp (i := 0) List.mem_cons_self T.i_OutOfRange hz hf T.n_isinstance T.g_TooMuch T.k_OutOfRange_TooMuch) sa_nil)))))))
 (bs_cons (ss_if (st_ne (se_len rfl T.n_len (sa_cons (hold := true) (se_lcz (own := [("one", 2)]) (hotC_of hot List.mem_cons_self) sc__law_word.nd (siz_it (sv 1)) (blk_ok (by kernel_rfl)) (fun _ _ _ _ _ => (tg_nm sc__law_word.nd rfl (by first | exact Or.inl rfl | exact Or.inr rfl))) (fun _ _ _ _ _ => (sts_one (st_tru (sv 2)))) (fun _ _ _ _ _ => (sv 2)) (by decide)) sa_nil)) se_int (hu64H hr)) (bs_one (ss_ret se_str)) bs_nil)
 (bs_one (ss_ret (se_ix (hu64H hr) (se_lst (sa_cons (hold := false) se_str (sa_cons (hold := false) se_str (sa_cons (hold := false) se_str (sa_cons (hold := false) se_str (sa_cons (hold := false) se_str sa_nil)))))) (se_index (hu65H hr) (sv 1) (sa_cons (hold := true) se_bl sa_nil)) (fun _ _ => rfl) (fun _ _ => rfl)))))))) (ev__law_word_OutOfRange), hg, F.kp, F.bindsN (fun _ _ _ _ _ _ us hl => match us, hl with | [_], _ => rfl)⟩
theorem cal__law_told (C_boxes_to : Cal P w K mg base G 3 "boxes_to" ps_boxes_to m_boxes_to) (C_left_behind : Cal P w K mg base G 4 "left_behind" ps_left_behind m_left_behind) (C_opened_on : Cal P w K mg base G 4 "opened_on" ps_opened_on m_opened_on) (C_lefts_of : Cal P w K mg base G 5 "lefts_of" ps_lefts_of m_lefts_of) (C_clean_to : Cal P w K mg base G 3 "clean_to" ps_clean_to m_clean_to) (C_alike_chance : Cal P w K mg base G 3 "alike_chance" ps_alike_chance m_alike_chance) (C_mean_pairs : Cal P w K mg base G 3 "mean_pairs" ps_mean_pairs m_mean_pairs) (C_crowd_for : Cal P w K mg base G 3 "crowd_for" ps_crowd_for m_crowd_for) (H__law_word_OutOfRange : CalE P w K mg base 1 "_law_word" "e" (He.ga K "OutOfRange") "range") (T : Txt K mg) {f : Addr} {fd : FuncData} (F : FunD K "_law_told" "_law_told" (defArgs s__law_told) (defBody s__law_told) (defScope s__law_told) [] [] f fd) (hg : mg "_law_told" = some (.ref f)) : Cal P w K mg base G 6 "_law_told" ps__law_told m__law_told :=
  cal_mk (N := N__law_told) (ps := ps__law_told) (k := 5) (st := s__law_told) F hg sc__law_told (fun _ _ _ _ _ _ us hl => match us, hl with | [_, _, _], _ => rfl) fun cdv A outer s H E hr => ((bs_one (ss_try (n := 4) (i := 3) (word := wordL w__law_told) (B := .ref (He.ga K "PlayError")) rfl (by decide) rfl rfl sc__law_told.nd rfl rfl ⟨rfl, by decide, Or.inl T.g_PlayError⟩ (L2N.takes_of rfl rfl rfl rfl) (fun c C t hm hw => (by
      have hq := word_mem hw
      simp only [w__law_told, List.mem_cons, List.not_mem_nil, or_false, Prod.mk.injEq] at hq
      rcases hq with ⟨rfl, rfl⟩
      · have e := hm.symm.trans T.g_OutOfRange
        cases e
        exact T.e_OutOfRange_PlayError
))
 (fun W pn xe tk po => (bs_cons (ss_if (st_eq (sv 0) se_int (hu64 hr)) (bs_one (ss_ret (se_cal C_boxes_to (hr.mono (by omega)) tk (sa_cons (hold := false) (sv 1) (sa_cons (hold := false) (sv 2) sa_nil))))) bs_nil)
 (bs_cons (ss_if (st_eq (sv 0) se_int (hu64 hr)) (bs_one (ss_ret (se_cal C_left_behind (hr.mono (by omega)) tk (sa_cons (hold := false) (sv 1) (sa_cons (hold := false) (sv 2) sa_nil))))) bs_nil)
 (bs_cons (ss_if (st_eq (sv 0) se_int (hu64 hr)) (bs_one (ss_ret (se_cal C_opened_on (hr.mono (by omega)) tk (sa_cons (hold := false) (sv 1) (sa_cons (hold := false) (sv 2) sa_nil))))) bs_nil)
 (bs_cons (ss_if (st_eq (sv 0) se_int (hu64 hr)) (bs_one (ss_ret (se_cal C_lefts_of (hr.mono (by omega)) tk (sa_cons (hold := false) (sv 2) sa_nil)))) bs_nil)
 (bs_cons (ss_if (st_eq (sv 0) se_int (hu64 hr)) (bs_one (ss_ret (se_cal C_clean_to (hr.mono (by omega)) tk (sa_cons (hold := false) (sv 1) (sa_cons (hold := false) (sv 2) sa_nil))))) bs_nil)
 (bs_cons (ss_if (st_eq (sv 0) se_int (hu64 hr)) (bs_one (ss_ret (se_cal C_alike_chance (hr.mono (by omega)) tk (sa_cons (hold := false) (sv 1) (sa_cons (hold := false) (sv 2) sa_nil))))) bs_nil)
 (bs_one (ss_ret (se_if (st_eq (sv 0) se_int (hu64 hr)) (se_cal C_mean_pairs (hr.mono (by omega)) tk (sa_cons (hold := false) (sv 1) (sa_cons (hold := false) (sv 2) sa_nil))) (se_cal C_crowd_for (hr.mono (by omega)) tk (sa_cons (hold := false) (sv 2) sa_nil))))))))))))
 (fun a oe pn c C t hm hw hz hf => (by
      have hq := word_mem hw
      simp only [w__law_told, List.mem_cons, List.not_mem_nil, or_false, Prod.mk.injEq] at hq
      rcases hq with ⟨rfl, rfl⟩
      · have e := hm.symm.trans T.g_OutOfRange
        cases e
        exact sui_of (G := G) (W := W0) (f := (retS (hotE 3 a "range"))) (bs_one (ss_ret (se_hotc (i := 3) H__law_word_OutOfRange (room_suite hr (by omega)) (hot_suite hz hf) List.mem_cons_self hz))) (by simp [isxE, hotE]; rfl)
)))))
theorem cal__law_candles (C__law_take : Cal P w K mg base G 1 "_law_take" ps__law_take m__law_take) (C__law_told : Cal P w K mg base G 6 "_law_told" ps__law_told m__law_told) (C__law_alike : Cal P w K mg base G 9 "_law_alike" ps__law_alike m__law_alike) (T : Txt K mg) {f : Addr} {fd : FuncData} (F : FunD K "_law_candles" "_law_candles" (defArgs s__law_candles) (defBody s__law_candles) (defScope s__law_candles) [] [] f fd) (hg : mg "_law_candles" = some (.ref f)) : Cal P w K mg base G 10 "_law_candles" ps__law_candles m__law_candles :=
  cal_mk (N := N__law_candles) (ps := ps__law_candles) (k := 9) (st := s__law_candles) F hg sc__law_candles (fun _ _ _ _ _ _ us hl => match us, hl with | [_], _ => rfl) fun cdv A outer s H E hr => ((bs_cons (ss_set (i := 1) sc__law_candles.nd rfl (by first | exact Or.inl rfl | exact Or.inr rfl) (se_add rfl se_int (se_cal C__law_take (hr.mono (by omega)) (L2N.takes_of rfl rfl rfl rfl) (sa_cons (hold := true) (sv 0) (sa_cons (hold := false) (se_ix (hu64 hr) (se_lst (sa_cons (hold := false) se_int (sa_cons (hold := false) se_int (sa_cons (hold := false) se_int sa_nil)))) (se_cal C__law_take (hr.mono (by omega)) (L2N.takes_of rfl rfl rfl rfl) (sa_cons (hold := true) (sv 0) (sa_cons (hold := false) se_int sa_nil))) (fun _ _ => rfl) (fun _ _ => rfl)) sa_nil)))))
 (bs_cons (ss_parN rfl (gs_cons (i := 11) sc__law_candles.nd rfl (by first | exact Or.inl rfl | exact Or.inr rfl) (gs_cons (i := 12) sc__law_candles.nd rfl (by first | exact Or.inl rfl | exact Or.inr rfl) (gs_cons (i := 13) sc__law_candles.nd rfl (by first | exact Or.inl rfl | exact Or.inr rfl) (gs_cons (i := 14) sc__law_candles.nd rfl (by first | exact Or.inl rfl | exact Or.inr rfl) gs_nil)))) (sk_cons se_int (sk_cons se_int (sk_cons se_int (sk_cons se_int sk_nil)))))
 (bs_cons (ss_set (i := 2) sc__law_candles.nd rfl (by first | exact Or.inl rfl | exact Or.inr rfl) (se_lst sa_nil))
 (bs_cons (ss_set (i := 3) sc__law_candles.nd rfl (by first | exact Or.inl rfl | exact Or.inr rfl) (se_mul rfl se_int (sv 1)))
 (bs_cons (ss_for (ks := [4, 5, 6, 7, 8, 9, 10, 11, 15, 16, 17]) (L2.passes_of rfl) rfl (si_rng2 rfl T.n_range (sa_cons (hold := false) se_int (sa_cons (hold := false) (se_add rfl (sv 3) se_int) sa_nil))) (tg_nm sc__law_candles.nd rfl (by first | exact Or.inl rfl | exact Or.inr rfl))
 (bs_cons (ss_set (i := 11) sc__law_candles.nd rfl (by first | exact Or.inl rfl | exact Or.inr rfl) (se_max rfl rfl T.n_max (sa_cons (hold := true) se_int (sa_cons (hold := true) (se_div (se_sub (se_add rfl (se_sub (sv 4) (sv 12)) (sv 1)) se_int) (sv 1)) sa_nil))))
 (bs_cons (ss_set (i := 12) sc__law_candles.nd rfl (by first | exact Or.inl rfl | exact Or.inr rfl) (se_sub (se_add rfl (sv 12) (se_mul rfl (sv 11) (sv 1))) (sv 4)))
 (bs_cons (ss_set (i := 13) sc__law_candles.nd rfl (by first | exact Or.inl rfl | exact Or.inr rfl) (se_add rfl (sv 13) (sv 11)))
 (bs_cons (ss_set (i := 14) sc__law_candles.nd rfl (by first | exact Or.inl rfl | exact Or.inr rfl) (se_add rfl (sv 14) (se_intC rfl T.n_int (sa_cons (hold := true) (se_eq (hu64 hr) (sv 12) se_int) sa_nil))))
 (bs_cons (ss_expr (se_lm (i := 2) PySem.F.slot_list_append PySem.F.type_list_append mt_append ok_append rfl (by first | exact Or.inl rfl | exact Or.inr (Or.inl rfl) | exact Or.inr (Or.inr rfl)) (by decide) (by decide) (sa_cons (hold := false) (sv 12) sa_nil) rfl rfl rfl rfl rfl))
 (bs_one (ss_if (PW.pt (sw_or (st_lt (sv 4) se_int) (sw_or1 (st_gt (sv 4) (se_sub (sv 3) se_int))))) (bs_cons (ss_if (st_not (st_tru (se_cal C__law_alike (hr.mono (by omega)) (L2N.takes_of rfl rfl rfl rfl) (sa_cons (hold := false) (se_lst (sa_cons (hold := false) (se_cal C__law_told (hr.mono (by omega)) (L2N.takes_of rfl rfl rfl rfl) (sa_cons (hold := false) se_int (sa_cons (hold := false) (sv 4) (sa_cons (hold := false) (sv 1) sa_nil)))) (sa_cons (hold := false) (se_cal C__law_told (hr.mono (by omega)) (L2N.takes_of rfl rfl rfl rfl) (sa_cons (hold := false) se_int (sa_cons (hold := false) (sv 4) (sa_cons (hold := false) (sv 1) sa_nil)))) (sa_cons (hold := false) (se_cal C__law_told (hr.mono (by omega)) (L2N.takes_of rfl rfl rfl rfl) (sa_cons (hold := false) se_int (sa_cons (hold := false) (sv 4) (sa_cons (hold := false) (sv 1) sa_nil)))) sa_nil)))) (sa_cons (hold := false) (se_lst (sa_cons (hold := false) (sv 13) (sa_cons (hold := false) (sv 12) (sa_cons (hold := false) (sv 11) sa_nil)))) sa_nil))))) (bs_one (ss_ret se_bl)) bs_nil)
 (bs_one (ss_if (PW.pt (sw_and (st_le (sv 4) se_int) (sw_and1 (st_not (st_tru (se_cal C__law_alike (hr.mono (by omega)) (L2N.takes_of rfl rfl rfl rfl) (sa_cons (hold := false) (se_cal C__law_told (hr.mono (by omega)) (L2N.takes_of rfl rfl rfl rfl) (sa_cons (hold := false) se_int (sa_cons (hold := false) (sv 4) (sa_cons (hold := false) (sv 1) sa_nil)))) (sa_cons (hold := false) (sv 14) sa_nil)))))))) (bs_one (ss_ret se_bl)) bs_nil))) bs_nil))))))))
 (bs_cons (ss_set (i := 5) sc__law_candles.nd rfl (by first | exact Or.inl rfl | exact Or.inr rfl) (se_srt rfl T.n_sorted (sa_cons (hold := true) (se_lc (own := [("one", 16)]) rfl sc__law_candles.nd (si_itK (se_dictOf rfl rfl T.n_dict (sa_cons (hold := true) (se_lc (own := [("one", 16)]) rfl sc__law_candles.nd (si_it (sv 2)) (blk_ok (by kernel_rfl)) (fun _ _ _ _ _ => (tg_nm sc__law_candles.nd rfl (by first | exact Or.inl rfl | exact Or.inr rfl))) (fun _ _ _ _ _ => sts_nil) (fun _ _ _ _ _ => (se_tup rfl (sa_cons (hold := false) (sv 16) (sa_cons (hold := false) se_int sa_nil)))) (by decide)) sa_nil))) (blk_ok (by kernel_rfl)) (fun _ _ _ _ _ => (tg_nm sc__law_candles.nd rfl (by first | exact Or.inl rfl | exact Or.inr rfl))) (fun _ _ _ _ _ => sts_nil) (fun _ _ _ _ _ => (sv 16)) (by decide)) sa_nil)))
 (bs_cons (ss_set (i := 6) sc__law_candles.nd rfl (by first | exact Or.inl rfl | exact Or.inr rfl) se_int)
 (bs_cons (ss_while (ks := [3, 4, 7, 8, 9, 10, 11, 12, 13, 14, 15, 16, 17]) (n := 1000000) (L2.passes_of rfl) (st_lt (sv 6) (sv 1)) (bs_one (ss_set (i := 6) sc__law_candles.nd rfl (by first | exact Or.inl rfl | exact Or.inr rfl) (se_mul rfl (sv 6) se_int))))
 (bs_cons (ss_if (PW.pt (sw_or (st_not (st_tru (se_cal C__law_alike (hr.mono (by omega)) (L2N.takes_of rfl rfl rfl rfl) (sa_cons (hold := false) (se_cal C__law_told (hr.mono (by omega)) (L2N.takes_of rfl rfl rfl rfl) (sa_cons (hold := false) se_int (sa_cons (hold := false) se_int (sa_cons (hold := false) (sv 1) sa_nil)))) (sa_cons (hold := false) (se_tupleOf rfl rfl T.n_tuple (sa_cons (hold := true) (sv 5) sa_nil)) sa_nil))))) (sw_or1 (st_ne (se_eq (hu64 hr) (se_len rfl T.n_len (sa_cons (hold := true) (sv 5) sa_nil)) (sv 1)) (se_eq (hu64 hr) (sv 6) (sv 1)) (hu64 hr))))) (bs_one (ss_ret se_bl)) bs_nil)
 (bs_cons (ss_set (i := 7) sc__law_candles.nd rfl (by first | exact Or.inl rfl | exact Or.inr rfl) (se_if (st_lt (se_mul rfl (se_div (sv 1) se_int) se_int) (sv 1)) (sv 1) (se_mul rfl se_int (sv 1))))
 (bs_cons (ss_setLc (i := 8) (own := [("step", 15)]) rfl sc__law_candles.nd rfl rfl rfl (si_rng2 rfl T.n_range (sa_cons (hold := false) se_int (sa_cons (hold := false) (se_add rfl (se_mul rfl se_int (sv 1)) se_int) sa_nil))) (blk_ok (by kernel_rfl)) (fun _ _ _ _ _ => (tg_nm sc__law_candles.nd rfl (by first | exact Or.inl rfl | exact Or.inr rfl))) (fun _ _ _ _ _ => (sts_one (st_eq (se_lc (own := [("k", 17)]) rfl sc__law_candles.nd (si_rng1 rfl T.n_range (sa_cons (hold := false) (se_mul rfl se_int (sv 1)) sa_nil)) (blk_ok (by kernel_rfl)) (fun _ _ _ _ _ => (tg_nm sc__law_candles.nd rfl (by first | exact Or.inl rfl | exact Or.inr rfl))) (fun _ _ _ _ _ => (sts_one (st_ne (se_ix (hu64 hr) (sv 2) (sv 17) (fun _ _ => rfl) (fun _ _ => rfl)) (se_ix (hu64 hr) (sv 2) (se_add rfl (sv 17) (sv 15)) (fun _ _ => rfl) (fun _ _ => rfl)) (hu64 hr)))) (fun _ _ _ _ _ => (sv 17)) (by decide)) (se_lst sa_nil) (hu64 hr)))) (fun _ _ _ _ _ => (sv 15)) (by decide))
 (bs_cons (ss_if (PW.pt (sw_or (st_ne (se_ix (hu64 hr) (sv 8) se_int (fun _ _ => rfl) (fun _ _ => rfl)) (sv 7) (hu64 hr)) (sw_or1 (st_ne (se_lc (own := [("k", 17)]) rfl sc__law_candles.nd (si_rng2 rfl T.n_range (sa_cons (hold := false) se_int (sa_cons (hold := false) (se_sub (se_mul rfl se_int (sv 1)) se_int) sa_nil))) (blk_ok (by kernel_rfl)) (fun _ _ _ _ _ => (tg_nm sc__law_candles.nd rfl (by first | exact Or.inl rfl | exact Or.inr rfl))) (fun _ _ _ _ _ => (sts_one (st_ne (se_eq (hu64 hr) (se_ix (hu64 hr) (sv 2) (se_sub (sv 17) se_int) (fun _ _ => rfl) (fun _ _ => rfl)) se_int) (se_eq (hu64 hr) (se_ix (hu64 hr) (sv 2) (se_sub (se_sub (se_mul rfl se_int (sv 1)) se_int) (sv 17)) (fun _ _ => rfl) (fun _ _ => rfl)) se_int) (hu64 hr)))) (fun _ _ _ _ _ => (sv 17)) (by decide)) (se_lst sa_nil) (hu64 hr))))) (bs_one (ss_ret se_bl)) bs_nil)
 (bs_cons (ss_set (i := 9) sc__law_candles.nd rfl (by first | exact Or.inl rfl | exact Or.inr rfl) (se_add rfl (se_pow se_int se_int) (se_cal C__law_take (hr.mono (by omega)) (L2N.takes_of rfl rfl rfl rfl) (sa_cons (hold := true) (sv 0) (sa_cons (hold := false) se_int sa_nil)))))
 (bs_cons (ss_set (i := 10) sc__law_candles.nd rfl (by first | exact Or.inl rfl | exact Or.inr rfl) (se_div (se_mul rfl (sv 9) (se_add rfl (sv 9) se_int)) se_int))
 (bs_one (ss_ret (se_cal C__law_alike (hr.mono (by omega)) (L2N.takes_of rfl rfl rfl rfl) (sa_cons (hold := false) (se_lst (sa_cons (hold := false) (se_cal C__law_told (hr.mono (by omega)) (L2N.takes_of rfl rfl rfl rfl) (sa_cons (hold := false) se_int (sa_cons (hold := false) (sv 9) (sa_cons (hold := false) (sv 1) sa_nil)))) (sa_cons (hold := false) (se_cal C__law_told (hr.mono (by omega)) (L2N.takes_of rfl rfl rfl rfl) (sa_cons (hold := false) se_int (sa_cons (hold := false) (sv 9) (sa_cons (hold := false) (sv 1) sa_nil)))) sa_nil))) (sa_cons (hold := false) (se_lst (sa_cons (hold := false) (se_div (se_sub (se_add rfl (sv 10) (sv 1)) se_int) (sv 1)) (sa_cons (hold := false) (se_ix (hu64 hr) (sv 2) (se_mod (se_intC rfl T.n_int (sa_cons (hold := true) (se_sub (sv 9) se_int) sa_nil)) (se_mul rfl se_int (sv 1))) (fun _ _ => rfl) (fun _ _ => rfl)) sa_nil))) sa_nil))))))))))))))))))))
theorem cal__law_made (T : Txt K mg) {f : Addr} {fd : FuncData} (F : FunD K "_law_made" "_law_made" (defArgs s__law_made) (defBody s__law_made) (defScope s__law_made) [] [] f fd) (hg : mg "_law_made" = some (.ref f)) : Cal P w K mg base G 1 "_law_made" ps__law_made m__law_made :=
  cal_mk (N := N__law_made) (ps := ps__law_made) (k := 0) (st := s__law_made) F hg sc__law_made (fun _ _ _ _ _ _ us hl => match us, hl with | [_, _], _ => rfl) fun cdv A outer s H E hr => ((bs_cons (ss_par2 (i := 3) (j := 4) rfl sc__law_made.nd rfl rfl (by decide) rfl rfl (sk_cons (se_abs rfl T.n_abs (sa_cons (hold := true) (sv 0) sa_nil)) (sk_cons (se_abs rfl T.n_abs (sa_cons (hold := true) (sv 1) sa_nil)) sk_nil)) rfl)
 (bs_cons (ss_while (ks := [2]) (n := 1000000) (L2.passes_of rfl) (st_gt (sv 4) se_int) (bs_one (ss_par2 (i := 3) (j := 4) rfl sc__law_made.nd rfl rfl (by decide) rfl rfl (sk_cons (sv 4) (sk_cons (se_mod (sv 3) (sv 4)) sk_nil)) rfl)))
 (bs_cons (ss_set (i := 2) sc__law_made.nd rfl (by first | exact Or.inl rfl | exact Or.inr rfl) (se_if (st_gt (sv 1) se_int) se_int (se_neg se_int)))
 (bs_one (ss_ret (se_tup rfl (sa_cons (hold := false) (se_div (se_mul rfl (sv 2) (sv 0)) (sv 3)) (sa_cons (hold := false) (se_div (se_mul rfl (sv 2) (sv 1)) (sv 3)) sa_nil)))))))))
theorem cal__law_plus (C__law_made : Cal P w K mg base G 1 "_law_made" ps__law_made m__law_made) (T : Txt K mg) {f : Addr} {fd : FuncData} (F : FunD K "_law_plus" "_law_plus" (defArgs s__law_plus) (defBody s__law_plus) (defScope s__law_plus) [] [] f fd) (hg : mg "_law_plus" = some (.ref f)) : Cal P w K mg base G 2 "_law_plus" ps__law_plus m__law_plus :=
  cal_mk (N := N__law_plus) (ps := ps__law_plus) (k := 1) (st := s__law_plus) F hg sc__law_plus (fun _ _ _ _ _ _ us hl => match us, hl with | [_, _], _ => rfl) fun cdv A outer s H E hr => ((bs_one (ss_ret (se_cal C__law_made (hr.mono (by omega)) (L2N.takes_of rfl rfl rfl rfl) (sa_cons (hold := false) (se_add rfl (se_mul rfl (se_ix (hu64 hr) (sv 0) se_int (fun _ _ => rfl) (fun _ _ => rfl)) (se_ix (hu64 hr) (sv 1) se_int (fun _ _ => rfl) (fun _ _ => rfl))) (se_mul rfl (se_ix (hu64 hr) (sv 1) se_int (fun _ _ => rfl) (fun _ _ => rfl)) (se_ix (hu64 hr) (sv 0) se_int (fun _ _ => rfl) (fun _ _ => rfl)))) (sa_cons (hold := false) (se_mul rfl (se_ix (hu64 hr) (sv 0) se_int (fun _ _ => rfl) (fun _ _ => rfl)) (se_ix (hu64 hr) (sv 1) se_int (fun _ _ => rfl) (fun _ _ => rfl))) sa_nil))))))
theorem cal__law_times (C__law_made : Cal P w K mg base G 1 "_law_made" ps__law_made m__law_made) (T : Txt K mg) {f : Addr} {fd : FuncData} (F : FunD K "_law_times" "_law_times" (defArgs s__law_times) (defBody s__law_times) (defScope s__law_times) [] [] f fd) (hg : mg "_law_times" = some (.ref f)) : Cal P w K mg base G 2 "_law_times" ps__law_times m__law_times :=
  cal_mk (N := N__law_times) (ps := ps__law_times) (k := 1) (st := s__law_times) F hg sc__law_times (fun _ _ _ _ _ _ us hl => match us, hl with | [_, _], _ => rfl) fun cdv A outer s H E hr => ((bs_one (ss_ret (se_cal C__law_made (hr.mono (by omega)) (L2N.takes_of rfl rfl rfl rfl) (sa_cons (hold := false) (se_mul rfl (se_ix (hu64 hr) (sv 0) se_int (fun _ _ => rfl) (fun _ _ => rfl)) (se_ix (hu64 hr) (sv 1) se_int (fun _ _ => rfl) (fun _ _ => rfl))) (sa_cons (hold := false) (se_mul rfl (se_ix (hu64 hr) (sv 0) se_int (fun _ _ => rfl) (fun _ _ => rfl)) (se_ix (hu64 hr) (sv 1) se_int (fun _ _ => rfl) (fun _ _ => rfl))) sa_nil))))))
theorem cal__law_less (T : Txt K mg) {f : Addr} {fd : FuncData} (F : FunD K "_law_less" "_law_less" (defArgs s__law_less) (defBody s__law_less) (defScope s__law_less) [] [] f fd) (hg : mg "_law_less" = some (.ref f)) : Cal P w K mg base G 1 "_law_less" ps__law_less m__law_less :=
  cal_mk (N := N__law_less) (ps := ps__law_less) (k := 0) (st := s__law_less) F hg sc__law_less (fun _ _ _ _ _ _ us hl => match us, hl with | [_, _], _ => rfl) fun cdv A outer s H E hr => ((bs_one (ss_ret (se_lt (se_mul rfl (se_ix (hu64 hr) (sv 0) se_int (fun _ _ => rfl) (fun _ _ => rfl)) (se_ix (hu64 hr) (sv 1) se_int (fun _ _ => rfl) (fun _ _ => rfl))) (se_mul rfl (se_ix (hu64 hr) (sv 1) se_int (fun _ _ => rfl) (fun _ _ => rfl)) (se_ix (hu64 hr) (sv 0) se_int (fun _ _ => rfl) (fun _ _ => rfl)))))))
theorem cal__law_days (C__law_take : Cal P w K mg base G 1 "_law_take" ps__law_take m__law_take) (C__law_made : Cal P w K mg base G 1 "_law_made" ps__law_made m__law_made) (C__law_told : Cal P w K mg base G 6 "_law_told" ps__law_told m__law_told) (C__law_alike : Cal P w K mg base G 9 "_law_alike" ps__law_alike m__law_alike) (C__law_times : Cal P w K mg base G 2 "_law_times" ps__law_times m__law_times) (C__law_plus : Cal P w K mg base G 2 "_law_plus" ps__law_plus m__law_plus) (C__law_less : Cal P w K mg base G 1 "_law_less" ps__law_less m__law_less) (T : Txt K mg) {f : Addr} {fd : FuncData} (F : FunD K "_law_days" "_law_days" (defArgs s__law_days) (defBody s__law_days) (defScope s__law_days) [] [] f fd) (hg : mg "_law_days" = some (.ref f)) : Cal P w K mg base G 10 "_law_days" ps__law_days m__law_days :=
  cal_mk (N := N__law_days) (ps := ps__law_days) (k := 9) (st := s__law_days) F hg sc__law_days (fun _ _ _ _ _ _ us hl => match us, hl with | [_], _ => rfl) fun cdv A outer s H E hr => ((bs_cons (ss_parN rfl (gs_cons (i := 8) sc__law_days.nd rfl (by first | exact Or.inl rfl | exact Or.inr rfl) (gs_cons (i := 9) sc__law_days.nd rfl (by first | exact Or.inl rfl | exact Or.inr rfl) gs_nil)) (sk_cons (se_add rfl se_int (se_cal C__law_take (hr.mono (by omega)) (L2N.takes_of rfl rfl rfl rfl) (sa_cons (hold := true) (sv 0) (sa_cons (hold := false) se_int sa_nil)))) (sk_cons (se_add rfl se_int (se_cal C__law_take (hr.mono (by omega)) (L2N.takes_of rfl rfl rfl rfl) (sa_cons (hold := true) (sv 0) (sa_cons (hold := false) se_int sa_nil)))) sk_nil)))
 (bs_cons (ss_set (i := 1) sc__law_days.nd rfl (by first | exact Or.inl rfl | exact Or.inr rfl) (se_lst (sa_cons (hold := false) (se_tup rfl sa_nil) sa_nil)))
 (bs_cons (ss_for (ks := [2, 3, 4, 5, 6, 7, 10, 11, 12, 13, 14, 15, 16]) (L2.passes_of rfl) rfl (si_rng1 rfl T.n_range (sa_cons (hold := false) (sv 8) sa_nil)) (tg_nm sc__law_days.nd rfl (by first | exact Or.inl rfl | exact Or.inr rfl))
 (bs_cons (ss_set (i := 10) sc__law_days.nd rfl (by first | exact Or.inl rfl | exact Or.inr rfl) (se_lst sa_nil))
 (bs_cons (ss_for (ks := [1, 2, 3, 4, 5, 6, 7, 11, 12, 13, 14, 15, 16]) (L2.passes_of rfl) rfl (si_it (sv 1)) (tg_nm sc__law_days.nd rfl (by first | exact Or.inl rfl | exact Or.inr rfl))
 (bs_one (ss_set (i := 10) sc__law_days.nd rfl (by first | exact Or.inl rfl | exact Or.inr rfl) (se_add rfl (sv 10) (se_lc (own := [("day", 14)]) rfl sc__law_days.nd (si_rng1 rfl T.n_range (sa_cons (hold := false) (sv 9) sa_nil)) (blk_ok (by kernel_rfl)) (fun _ _ _ _ _ => (tg_nm sc__law_days.nd rfl (by first | exact Or.inl rfl | exact Or.inr rfl))) (fun _ _ _ _ _ => sts_nil) (fun _ _ _ _ _ => (se_add rfl (sv 11) (se_tup rfl (sa_cons (hold := false) (sv 14) sa_nil)))) (by decide))))))
 (bs_one (ss_set (i := 1) sc__law_days.nd rfl (by first | exact Or.inl rfl | exact Or.inr rfl) (sv 10))))))
 (bs_cons (ss_set (i := 3) sc__law_days.nd rfl (by first | exact Or.inl rfl | exact Or.inr rfl) (se_len rfl T.n_len (sa_cons (hold := true) (se_lc (own := [("row", 11)]) rfl sc__law_days.nd (si_it (sv 1)) (blk_ok (by kernel_rfl)) (fun _ _ _ _ _ => (tg_nm sc__law_days.nd rfl (by first | exact Or.inl rfl | exact Or.inr rfl))) (fun _ _ _ _ _ => (sts_one (st_lt (se_len rfl T.n_len (sa_cons (hold := true) (se_dictOf rfl rfl T.n_dict (sa_cons (hold := true) (se_lc (own := [("day", 14)]) rfl sc__law_days.nd (si_it (sv 11)) (blk_ok (by kernel_rfl)) (fun _ _ _ _ _ => (tg_nm sc__law_days.nd rfl (by first | exact Or.inl rfl | exact Or.inr rfl))) (fun _ _ _ _ _ => sts_nil) (fun _ _ _ _ _ => (se_tup rfl (sa_cons (hold := false) (sv 14) (sa_cons (hold := false) se_int sa_nil)))) (by decide)) sa_nil)) sa_nil)) (sv 8)))) (fun _ _ _ _ _ => (sv 11)) (by decide)) sa_nil)))
 (bs_cons (ss_set (i := 4) sc__law_days.nd rfl (by first | exact Or.inl rfl | exact Or.inr rfl) (se_if (st_lt (sv 8) se_int) (se_sum rfl rfl T.n_sum (sa_cons (hold := true) (se_lc (own := [("row", 11)]) rfl sc__law_days.nd (si_it (sv 1)) (blk_ok (by kernel_rfl)) (fun _ _ _ _ _ => (tg_nm sc__law_days.nd rfl (by first | exact Or.inl rfl | exact Or.inr rfl))) (fun _ _ _ _ _ => (sts_one (st_lt (sv 8) se_int))) (fun _ _ _ _ _ => (se_len rfl T.n_len (sa_cons (hold := true) (se_lc (own := [("j", 15)]) rfl sc__law_days.nd (si_rng1 rfl T.n_range (sa_cons (hold := false) (sv 8) sa_nil)) (blk_ok (by kernel_rfl)) (fun _ _ _ _ _ => (tg_nm sc__law_days.nd rfl (by first | exact Or.inl rfl | exact Or.inr rfl))) (fun _ _ _ _ _ => (sts_one (st_ne (se_lc (own := [("i", 16)]) rfl sc__law_days.nd (si_rng1 rfl T.n_range (sa_cons (hold := false) (sv 15) sa_nil)) (blk_ok (by kernel_rfl)) (fun _ _ _ _ _ => (tg_nm sc__law_days.nd rfl (by first | exact Or.inl rfl | exact Or.inr rfl))) (fun _ _ _ _ _ => (sts_one (st_eq (se_ix (hu64 hr) (sv 11) (sv 16) (fun _ _ => rfl) (fun _ _ => rfl)) (se_ix (hu64 hr) (sv 11) (sv 15) (fun _ _ => rfl) (fun _ _ => rfl)) (hu64 hr)))) (fun _ _ _ _ _ => (sv 16)) (by decide)) (se_lst sa_nil) (hu64 hr)))) (fun _ _ _ _ _ => (sv 15)) (by decide)) sa_nil))) (by decide)) sa_nil)) se_non))
 (bs_cons (ss_if (PW.pt (sw_or (st_not (st_tru (se_cal C__law_alike (hr.mono (by omega)) (L2N.takes_of rfl rfl rfl rfl) (sa_cons (hold := false) (se_cal C__law_told (hr.mono (by omega)) (L2N.takes_of rfl rfl rfl rfl) (sa_cons (hold := false) se_int (sa_cons (hold := false) (sv 8) (sa_cons (hold := false) (sv 9) sa_nil)))) (sa_cons (hold := false) (se_cal C__law_made (hr.mono (by omega)) (L2N.takes_of rfl rfl rfl rfl) (sa_cons (hold := false) (sv 3) (sa_cons (hold := false) (se_len rfl T.n_len (sa_cons (hold := true) (sv 1) sa_nil)) sa_nil))) sa_nil))))) (sw_or1 (PW.pt (sw_and (st_isNot (sv 4) se_non) (sw_and1 (st_ne (se_cal C__law_told (hr.mono (by omega)) (L2N.takes_of rfl rfl rfl rfl) (sa_cons (hold := false) se_int (sa_cons (hold := false) (sv 8) (sa_cons (hold := false) (sv 9) sa_nil)))) (se_cal C__law_made (hr.mono (by omega)) (L2N.takes_of rfl rfl rfl rfl) (sa_cons (hold := false) (sv 4) (sa_cons (hold := false) (se_len rfl T.n_len (sa_cons (hold := true) (sv 1) sa_nil)) sa_nil))) (hu64 hr)))))))) (bs_one (ss_ret se_bl)) bs_nil)
 (bs_cons (ss_parN rfl (gs_cons (i := 8) sc__law_days.nd rfl (by first | exact Or.inl rfl | exact Or.inr rfl) (gs_cons (i := 9) sc__law_days.nd rfl (by first | exact Or.inl rfl | exact Or.inr rfl) gs_nil)) (sk_cons (se_add rfl se_int (se_cal C__law_take (hr.mono (by omega)) (L2N.takes_of rfl rfl rfl rfl) (sa_cons (hold := true) (sv 0) (sa_cons (hold := false) se_int sa_nil)))) (sk_cons (se_add rfl se_int (se_cal C__law_take (hr.mono (by omega)) (L2N.takes_of rfl rfl rfl rfl) (sa_cons (hold := true) (sv 0) (sa_cons (hold := false) se_int sa_nil)))) sk_nil)))
 (bs_cons (ss_set (i := 5) sc__law_days.nd rfl (by first | exact Or.inl rfl | exact Or.inr rfl) (se_tup rfl (sa_cons (hold := false) se_int (sa_cons (hold := false) se_int sa_nil))))
 (bs_cons (ss_for (ks := [1, 2, 3, 4, 6, 7, 10, 11, 12, 13, 14, 15, 16]) (L2.passes_of rfl) rfl (si_rng1 rfl T.n_range (sa_cons (hold := false) (sv 8) sa_nil)) (tg_nm sc__law_days.nd rfl (by first | exact Or.inl rfl | exact Or.inr rfl))
 (bs_one (ss_set (i := 5) sc__law_days.nd rfl (by first | exact Or.inl rfl | exact Or.inr rfl) (se_cal C__law_times (hr.mono (by omega)) (L2N.takes_of rfl rfl rfl rfl) (sa_cons (hold := false) (sv 5) (sa_cons (hold := false) (se_cal C__law_made (hr.mono (by omega)) (L2N.takes_of rfl rfl rfl rfl) (sa_cons (hold := false) (se_max rfl rfl T.n_max (sa_cons (hold := true) se_int (sa_cons (hold := true) (se_sub (sv 9) (sv 2)) sa_nil))) (sa_cons (hold := false) (sv 9) sa_nil))) sa_nil))))))
 (bs_cons (ss_set (i := 6) sc__law_days.nd rfl (by first | exact Or.inl rfl | exact Or.inr rfl) (se_cal C__law_plus (hr.mono (by omega)) (L2N.takes_of rfl rfl rfl rfl) (sa_cons (hold := false) (se_tup rfl (sa_cons (hold := false) se_int (sa_cons (hold := false) se_int sa_nil))) (sa_cons (hold := false) (se_tup rfl (sa_cons (hold := false) (se_sub se_int (se_ix (hu64 hr) (sv 5) se_int (fun _ _ => rfl) (fun _ _ => rfl))) (sa_cons (hold := false) (se_ix (hu64 hr) (sv 5) se_int (fun _ _ => rfl) (fun _ _ => rfl)) sa_nil))) sa_nil))))
 (bs_cons (ss_if (st_not (st_tru (se_cal C__law_alike (hr.mono (by omega)) (L2N.takes_of rfl rfl rfl rfl) (sa_cons (hold := false) (se_lst (sa_cons (hold := false) (se_cal C__law_told (hr.mono (by omega)) (L2N.takes_of rfl rfl rfl rfl) (sa_cons (hold := false) se_int (sa_cons (hold := false) (sv 8) (sa_cons (hold := false) (sv 9) sa_nil)))) (sa_cons (hold := false) (se_cal C__law_told (hr.mono (by omega)) (L2N.takes_of rfl rfl rfl rfl) (sa_cons (hold := false) se_int (sa_cons (hold := false) (sv 8) (sa_cons (hold := false) (sv 9) sa_nil)))) sa_nil))) (sa_cons (hold := false) (se_lst (sa_cons (hold := false) (sv 6) (sa_cons (hold := false) (se_cal C__law_made (hr.mono (by omega)) (L2N.takes_of rfl rfl rfl rfl) (sa_cons (hold := false) (se_mul rfl (sv 8) (se_sub (sv 8) se_int)) (sa_cons (hold := false) (se_mul rfl se_int (sv 9)) sa_nil))) sa_nil))) sa_nil))))) (bs_one (ss_ret se_bl)) bs_nil)
 (bs_cons (ss_par2 (i := 12) (j := 13) rfl sc__law_days.nd rfl rfl (by decide) rfl rfl (sk_cons (se_cal C__law_told (hr.mono (by omega)) (L2N.takes_of rfl rfl rfl rfl) (sa_cons (hold := false) se_int (sa_cons (hold := false) (se_add rfl (sv 8) se_int) (sa_cons (hold := false) (sv 9) sa_nil)))) (sk_cons (se_cal C__law_told (hr.mono (by omega)) (L2N.takes_of rfl rfl rfl rfl) (sa_cons (hold := false) se_int (sa_cons (hold := false) (sv 8) (sa_cons (hold := false) (se_add rfl (sv 9) se_int) sa_nil)))) sk_nil)) rfl)
 (bs_cons (ss_if (PW.pt (sw_or (PW.pt (sw_and (st_not (st_tru (se_cal C__law_less (hr.mono (by omega)) (L2N.takes_of rfl rfl rfl rfl) (sa_cons (hold := false) (sv 6) (sa_cons (hold := false) (sv 12) sa_nil))))) (sw_and1 (st_ne (sv 6) (se_tup rfl (sa_cons (hold := false) se_int (sa_cons (hold := false) se_int sa_nil))) (hu64 hr))))) (sw_or1 (st_tru (se_cal C__law_less (hr.mono (by omega)) (L2N.takes_of rfl rfl rfl rfl) (sa_cons (hold := false) (sv 6) (sa_cons (hold := false) (sv 13) sa_nil))))))) (bs_one (ss_ret se_bl)) bs_nil)
 (bs_cons (ss_set (i := 7) sc__law_days.nd rfl (by first | exact Or.inl rfl | exact Or.inr rfl) (se_cal C__law_told (hr.mono (by omega)) (L2N.takes_of rfl rfl rfl rfl) (sa_cons (hold := false) se_int (sa_cons (hold := false) se_int (sa_cons (hold := false) (sv 9) sa_nil)))))
 (bs_cons (ss_if (PW.pt (sw_or (st_not (st_tru (se_isi (by decide) rfl T.n_isinstance (sv 7) rfl T.n_int rfl))) (sw_or (st_lt (sv 7) se_int) (sw_or (PW.pt (sw_and (st_gt (sv 9) se_int) (sw_and1 (st_lt (sv 7) se_int)))) (sw_or1 (st_lt (se_cal C__law_told (hr.mono (by omega)) (L2N.takes_of rfl rfl rfl rfl) (sa_cons (hold := false) se_int (sa_cons (hold := false) se_int (sa_cons (hold := false) (se_add rfl (sv 9) se_int) sa_nil)))) (sv 7))))))) (bs_one (ss_ret se_bl)) bs_nil)
 (bs_cons (ss_if (PW.pt (sw_or (PW.pt (sw_and (st_gt (sv 7) se_int) (sw_and1 (st_not (st_tru (se_cal C__law_less (hr.mono (by omega)) (L2N.takes_of rfl rfl rfl rfl) (sa_cons (hold := false) (se_cal C__law_told (hr.mono (by omega)) (L2N.takes_of rfl rfl rfl rfl) (sa_cons (hold := false) se_int (sa_cons (hold := false) (se_sub (sv 7) se_int) (sa_cons (hold := false) (sv 9) sa_nil)))) (sa_cons (hold := false) (se_tup rfl (sa_cons (hold := false) se_int (sa_cons (hold := false) se_int sa_nil))) sa_nil)))))))) (sw_or1 (st_tru (se_cal C__law_less (hr.mono (by omega)) (L2N.takes_of rfl rfl rfl rfl) (sa_cons (hold := false) (se_cal C__law_told (hr.mono (by omega)) (L2N.takes_of rfl rfl rfl rfl) (sa_cons (hold := false) se_int (sa_cons (hold := false) (sv 7) (sa_cons (hold := false) (sv 9) sa_nil)))) (sa_cons (hold := false) (se_tup rfl (sa_cons (hold := false) se_int (sa_cons (hold := false) se_int sa_nil))) sa_nil))))))) (bs_one (ss_ret se_bl)) bs_nil)
 (bs_one (ss_ret (se_and (se_eq (hu64 hr) (se_cal C__law_told (hr.mono (by omega)) (L2N.takes_of rfl rfl rfl rfl) (sa_cons (hold := false) se_int (sa_cons (hold := false) se_int (sa_cons (hold := false) se_int sa_nil)))) se_int) (se_one (se_eq (hu64 hr) (se_cal C__law_told (hr.mono (by omega)) (L2N.takes_of rfl rfl rfl rfl) (sa_cons (hold := false) se_int (sa_cons (hold := false) se_int (sa_cons (hold := false) se_int sa_nil)))) se_int))))))))))))))))))))))
theorem fn_law (C__law_draws : Cal P w K mg base G 1 "_law_draws" ps__law_draws m__law_draws) (C__law_candles : Cal P w K mg base G 10 "_law_candles" ps__law_candles m__law_candles) (C__law_days : Cal P w K mg base G 10 "_law_days" ps__law_days m__law_days) (C__law_told : Cal P w K mg base G 6 "_law_told" ps__law_told m__law_told) (T : Txt K mg) {f : Addr} {fd : FuncData} (F : FunD K "law" "law" (defArgs s_law) (defBody s_law) (defScope s_law) [] [] f fd) : FnOk P w K mg base (L2N.CX P w) 11 f fd ps_law (spF G K mg ps_law.length m_law) :=
  fn_mk (N := N_law) (ps := ps_law) (k := 10) (st := s_law) F sc_law fun cdv A outer s H E hr => ((bs_cons (ss_set (i := 1) sc_law.nd rfl (by first | exact Or.inl rfl | exact Or.inr rfl) (se_cal C__law_draws (hr.mono (by omega)) (L2N.takes_of rfl rfl rfl rfl) (sa_cons (hold := false) (sv 0) sa_nil)))
 (bs_cons (ss_if (PW.pt (sw_or (st_not (st_tru (se_cal C__law_candles (hr.mono (by omega)) (L2N.takes_of rfl rfl rfl rfl) (sa_cons (hold := true) (sv 1) sa_nil)))) (sw_or1 (st_not (st_tru (se_cal C__law_days (hr.mono (by omega)) (L2N.takes_of rfl rfl rfl rfl) (sa_cons (hold := true) (sv 1) sa_nil))))))) (bs_one (ss_ret se_bl)) bs_nil)
 (bs_cons (ss_set (i := 2) sc_law.nd rfl (by first | exact Or.inl rfl | exact Or.inr rfl) (se_lst sa_nil))
 (bs_cons (ss_for (ks := [0, 1, 3, 4]) (L2.passes_of rfl) rfl (si_it (se_lst (sa_cons (hold := false) se_int (sa_cons (hold := false) se_int sa_nil)))) (tg_nm sc_law.nd rfl (by first | exact Or.inl rfl | exact Or.inr rfl))
 (bs_one (ss_set (i := 2) sc_law.nd rfl (by first | exact Or.inl rfl | exact Or.inr rfl) (se_add rfl (sv 2) (se_lc (own := [("which", 4)]) rfl sc_law.nd (si_rng1 rfl T.n_range (sa_cons (hold := false) se_int sa_nil)) (blk_ok (by kernel_rfl)) (fun _ _ _ _ _ => (tg_nm sc_law.nd rfl (by first | exact Or.inl rfl | exact Or.inr rfl))) (fun _ _ _ _ _ => sts_nil) (fun _ _ _ _ _ => (se_cal C__law_told (hr.mono (by omega)) takes0N (sa_cons (hold := false) (sv 4) (sa_cons (hold := false) se_int (sa_cons (hold := false) (sv 3) sa_nil))))) (by decide))))))
 (bs_cons (ss_for (ks := [0, 1, 3, 4]) (L2.passes_of rfl) rfl (si_it (se_lst (sa_cons (hold := false) se_int (sa_cons (hold := false) se_int sa_nil)))) (tg_nm sc_law.nd rfl (by first | exact Or.inl rfl | exact Or.inr rfl))
 (bs_one (ss_set (i := 2) sc_law.nd rfl (by first | exact Or.inl rfl | exact Or.inr rfl) (se_add rfl (sv 2) (se_lc (own := [("which", 4)]) rfl sc_law.nd (si_rng2 rfl T.n_range (sa_cons (hold := false) se_int (sa_cons (hold := false) se_int sa_nil))) (blk_ok (by kernel_rfl)) (fun _ _ _ _ _ => (tg_nm sc_law.nd rfl (by first | exact Or.inl rfl | exact Or.inr rfl))) (fun _ _ _ _ _ => sts_nil) (fun _ _ _ _ _ => (se_cal C__law_told (hr.mono (by omega)) takes0N (sa_cons (hold := false) (sv 4) (sa_cons (hold := false) se_int (sa_cons (hold := false) (sv 3) sa_nil))))) (by decide))))))
 (bs_cons (ss_set (i := 2) sc_law.nd rfl (by first | exact Or.inl rfl | exact Or.inr rfl) (se_add rfl (sv 2) (se_lc (own := [("bad", 3)]) rfl sc_law.nd (si_it (se_lst (sa_cons (hold := false) se_int (sa_cons (hold := false) se_int sa_nil)))) (blk_ok (by kernel_rfl)) (fun _ _ _ _ _ => (tg_nm sc_law.nd rfl (by first | exact Or.inl rfl | exact Or.inr rfl))) (fun _ _ _ _ _ => sts_nil) (fun _ _ _ _ _ => (se_cal C__law_told (hr.mono (by omega)) takes0N (sa_cons (hold := false) se_int (sa_cons (hold := false) (sv 3) (sa_cons (hold := false) se_int sa_nil))))) (by decide))))
 (bs_cons (ss_for (ks := [0, 1, 3, 4]) (L2.passes_of rfl) rfl (si_it (se_lst (sa_cons (hold := false) se_int (sa_cons (hold := false) se_int sa_nil)))) (tg_nm sc_law.nd rfl (by first | exact Or.inl rfl | exact Or.inr rfl))
 (bs_one (ss_set (i := 2) sc_law.nd rfl (by first | exact Or.inl rfl | exact Or.inr rfl) (se_add rfl (sv 2) (se_lc (own := [("which", 4)]) rfl sc_law.nd (si_it (se_lst (sa_cons (hold := false) se_int (sa_cons (hold := false) se_int sa_nil)))) (blk_ok (by kernel_rfl)) (fun _ _ _ _ _ => (tg_nm sc_law.nd rfl (by first | exact Or.inl rfl | exact Or.inr rfl))) (fun _ _ _ _ _ => sts_nil) (fun _ _ _ _ _ => (se_cal C__law_told (hr.mono (by omega)) takes0N (sa_cons (hold := false) (sv 4) (sa_cons (hold := false) (sv 3) (sa_cons (hold := false) se_int sa_nil))))) (by decide))))))
 (bs_one (ss_ret (se_eq (hu64 hr) (sv 2) (se_mul rfl (se_lst (sa_cons (hold := false) se_str sa_nil)) se_int))))))))))))
end
def fx : List Fx := [fFree "abs", fFree "bool", fFree "dict", fFree "int", fFree "isinstance", fFree "len", fFree "list", fFree "max", fFree "range", fFree "reversed", fFree "sorted", fFree "str", fFree "sum", fFree "tuple", fBfn "gcd" "math.gcd", fCon "MOST_CHILDREN" c_MOST_CHILDREN, fCon "MOST_DAYS" c_MOST_DAYS, fCon "MOST_IN_BOX" c_MOST_IN_BOX, fCon "MOST_YEARS" c_MOST_YEARS, fCon "ONE" c_ONE, fExc "OutOfRange", fGlo "PlayError", fGlo "OutOfRange", fExm "OutOfRange" "PlayError", fIsx "OutOfRange", fGlo "TooMuch", fKit "OutOfRange" "TooMuch" false, fGlo "Refused", fKit "OutOfRange" "Refused" false, fGlo "NotThere", fKit "OutOfRange" "NotThere" false, fGlo "Malformed", fKit "OutOfRange" "Malformed" false, fKit "OutOfRange" "OutOfRange" true, fGlo "_law_draws", fGlo "_law_alike", fGlo "_law_take", fGlo "is_number", fGlo "check_box", fGlo "used_to", fGlo "boxes_to", fGlo "left_behind", fGlo "opened_on", fGlo "lefts_of", fGlo "clean_to", fGlo "check_children", fGlo "check_days", fGlo "lowest", fGlo "minus", fGlo "times", fGlo "made", fGlo "alike_chance", fGlo "mean_pairs", fGlo "less", fGlo "crowd_for", fGlo "_law_word", fGlo "_law_told", fGlo "_law_candles", fGlo "_law_made", fGlo "_law_plus", fGlo "_law_times", fGlo "_law_less", fGlo "_law_days", fGlo "law"]
def fnD : List He.DefD := [⟨("_law_draws", none), "_law_draws", "_law_draws", defArgs s__law_draws, defBody s__law_draws, defScope s__law_draws, [], []⟩, ⟨("_law_alike", none), "_law_alike", "_law_alike", defArgs s__law_alike, defBody s__law_alike, defScope s__law_alike, [], []⟩, ⟨("_law_take", none), "_law_take", "_law_take", defArgs s__law_take, defBody s__law_take, defScope s__law_take, [], []⟩, ⟨("is_number", none), "is_number", "is_number", defArgs s_is_number, defBody s_is_number, defScope s_is_number, [], []⟩, ⟨("check_box", none), "check_box", "check_box", defArgs s_check_box, defBody s_check_box, defScope s_check_box, [], []⟩, ⟨("used_to", none), "used_to", "used_to", defArgs s_used_to, defBody s_used_to, defScope s_used_to, [], []⟩, ⟨("boxes_to", none), "boxes_to", "boxes_to", defArgs s_boxes_to, defBody s_boxes_to, defScope s_boxes_to, [], []⟩, ⟨("left_behind", none), "left_behind", "left_behind", defArgs s_left_behind, defBody s_left_behind, defScope s_left_behind, [], []⟩, ⟨("opened_on", none), "opened_on", "opened_on", defArgs s_opened_on, defBody s_opened_on, defScope s_opened_on, [], []⟩, ⟨("lefts_of", none), "lefts_of", "lefts_of", defArgs s_lefts_of, defBody s_lefts_of, defScope s_lefts_of, [], []⟩, ⟨("clean_to", none), "clean_to", "clean_to", defArgs s_clean_to, defBody s_clean_to, defScope s_clean_to, [], []⟩, ⟨("check_children", none), "check_children", "check_children", defArgs s_check_children, defBody s_check_children, defScope s_check_children, [], []⟩, ⟨("check_days", none), "check_days", "check_days", defArgs s_check_days, defBody s_check_days, defScope s_check_days, [], []⟩, ⟨("lowest", none), "lowest", "lowest", defArgs s_lowest, defBody s_lowest, defScope s_lowest, [], []⟩, ⟨("minus", none), "minus", "minus", defArgs s_minus, defBody s_minus, defScope s_minus, [], []⟩, ⟨("times", none), "times", "times", defArgs s_times, defBody s_times, defScope s_times, [], []⟩, ⟨("made", none), "made", "made", defArgs s_made, defBody s_made, defScope s_made, [], []⟩, ⟨("alike_chance", none), "alike_chance", "alike_chance", defArgs s_alike_chance, defBody s_alike_chance, defScope s_alike_chance, [], []⟩, ⟨("mean_pairs", none), "mean_pairs", "mean_pairs", defArgs s_mean_pairs, defBody s_mean_pairs, defScope s_mean_pairs, [], []⟩, ⟨("less", none), "less", "less", defArgs s_less, defBody s_less, defScope s_less, [], []⟩, ⟨("crowd_for", none), "crowd_for", "crowd_for", defArgs s_crowd_for, defBody s_crowd_for, defScope s_crowd_for, [], []⟩, ⟨("_law_word", none), "_law_word", "_law_word", defArgs s__law_word, defBody s__law_word, defScope s__law_word, [], []⟩, ⟨("_law_told", none), "_law_told", "_law_told", defArgs s__law_told, defBody s__law_told, defScope s__law_told, [], []⟩, ⟨("_law_candles", none), "_law_candles", "_law_candles", defArgs s__law_candles, defBody s__law_candles, defScope s__law_candles, [], []⟩, ⟨("_law_made", none), "_law_made", "_law_made", defArgs s__law_made, defBody s__law_made, defScope s__law_made, [], []⟩, ⟨("_law_plus", none), "_law_plus", "_law_plus", defArgs s__law_plus, defBody s__law_plus, defScope s__law_plus, [], []⟩, ⟨("_law_times", none), "_law_times", "_law_times", defArgs s__law_times, defBody s__law_times, defScope s__law_times, [], []⟩, ⟨("_law_less", none), "_law_less", "_law_less", defArgs s__law_less, defBody s__law_less, defScope s__law_less, [], []⟩, ⟨("_law_days", none), "_law_days", "_law_days", defArgs s__law_days, defBody s__law_days, defScope s__law_days, [], []⟩, ⟨("law", none), "law", "law", defArgs s_law, defBody s_law, defScope s_law, [], []⟩]
abbrev R : PySem.W.OpenRow := PySem.W.OpenLaw.row PySem.Challenge.rw_playheld_k86_whole_candles_and_birthdays
abbrev hk : PySem.W.Hook := hookX 6 fx fnD
def ob (s : PySem.W.SharedT) : He.AlD := obsXG 6 fx fnD (HandSHeadRun.getT s)
theorem ob_eq (s : PySem.W.SharedT) : ob s = hk.obs s.abs := obsXG_eq (HandSHeadRun.getT_eq s)
def names : List Str := (["gcd", "PlayError", "OutOfRange", "Malformed", "NotThere", "Refused", "TooMuch", "is_number", "MOST_IN_BOX", "MOST_YEARS", "check_box", "used_to", "boxes_to", "left_behind", "opened_on", "lefts_of", "clean_to", "lowest", "made", "minus", "times", "less", "MOST_CHILDREN", "MOST_DAYS", "ONE", "check_days", "check_children", "alike_chance", "crowd_for", "mean_pairs"] : List Str) ++ (["_law_draws", "_law_take", "_law_alike", "_law_word", "_law_made", "_law_plus", "_law_times", "_law_less", "_law_told", "_law_candles", "_law_days"] : List Str)
set_option maxHeartbeats 0 in
theorem run (w : World) : HandSHeadRun.RunEqI R (PySem.W.view R.prog [0, 47]) hk ob 6000 names w := by
  unfold HandSHeadRun.RunEqI
  kernel_rfl
theorem facts {K : PySem.W.Frag} {h : Heap} {mg : Str → Option Value} (X : K.In h) (Gn : h.Ns mainGlobals mg) (c : SaysX fx fnD K) : Txt K mg where
  n_abs := free_of X Gn (c.fact 0 rfl)
  n_bool := free_of X Gn (c.fact 1 rfl)
  n_dict := free_of X Gn (c.fact 2 rfl)
  n_int := free_of X Gn (c.fact 3 rfl)
  n_isinstance := free_of X Gn (c.fact 4 rfl)
  n_len := free_of X Gn (c.fact 5 rfl)
  n_list := free_of X Gn (c.fact 6 rfl)
  n_max := free_of X Gn (c.fact 7 rfl)
  n_range := free_of X Gn (c.fact 8 rfl)
  n_reversed := free_of X Gn (c.fact 9 rfl)
  n_sorted := free_of X Gn (c.fact 10 rfl)
  n_str := free_of X Gn (c.fact 11 rfl)
  n_sum := free_of X Gn (c.fact 12 rfl)
  n_tuple := free_of X Gn (c.fact 13 rfl)
  b_gcd := bfn_of X Gn (c.fact 14 rfl)
  c_MOST_CHILDREN := con_of X Gn (c.fact 15 rfl) (by simp [tups, tupsL])
  c_MOST_DAYS := con_of X Gn (c.fact 16 rfl) (by simp [tups, tupsL])
  c_MOST_IN_BOX := con_of X Gn (c.fact 17 rfl) (by simp [tups, tupsL])
  c_MOST_YEARS := con_of X Gn (c.fact 18 rfl) (by simp [tups, tupsL])
  c_ONE := con_of X Gn (c.fact 19 rfl) (by simp [tups, tupsL])
  x_OutOfRange := exc_of X Gn (c.fact 20 rfl)
  g_PlayError := glo_of X Gn (c.fact 21 rfl)
  g_OutOfRange := glo_of X Gn (c.fact 22 rfl)
  e_OutOfRange_PlayError := exm_of (c.fact 23 rfl)
  i_OutOfRange := isx_of (c.fact 24 rfl)
  g_TooMuch := glo_of X Gn (c.fact 25 rfl)
  k_OutOfRange_TooMuch := kit_of (c.fact 26 rfl)
  g_Refused := glo_of X Gn (c.fact 27 rfl)
  k_OutOfRange_Refused := kit_of (c.fact 28 rfl)
  g_NotThere := glo_of X Gn (c.fact 29 rfl)
  k_OutOfRange_NotThere := kit_of (c.fact 30 rfl)
  g_Malformed := glo_of X Gn (c.fact 31 rfl)
  k_OutOfRange_Malformed := kit_of (c.fact 32 rfl)
  k_OutOfRange_OutOfRange := kit_of (c.fact 33 rfl)
theorem law_fn {P : Program} {w : World} {K : PySem.W.Frag} {h : Heap} {mg : Str → Option Value} {fa : Addr} (X : K.In h) (Gn : h.Ns mainGlobals mg) (hfa : mg "law" = some (.ref fa)) (c : SaysX fx fnD K) :
    ∃ fd : FuncData, (∀ (s : Shared) (v : Value), BindsTo s fd ⟨[v], []⟩ [("script", v)]) ∧ ∀ base : Heap, K.In base → base.Ns mainGlobals mg → FnOk P w K mg base (L2N.CX P w) 11 fa fd ["script"] (spF G K mg 1 m_law) := by
  have T := facts X Gn c
  obtain ⟨fd__law_draws, F__law_draws⟩ := c.def_ 0 rfl
  have g__law_draws := glo_of X Gn (x := "_law_draws") (c.fact 34 rfl)
  obtain ⟨fd__law_alike, F__law_alike⟩ := c.def_ 1 rfl
  have g__law_alike := glo_of X Gn (x := "_law_alike") (c.fact 35 rfl)
  obtain ⟨fd__law_take, F__law_take⟩ := c.def_ 2 rfl
  have g__law_take := glo_of X Gn (x := "_law_take") (c.fact 36 rfl)
  obtain ⟨fd_is_number, F_is_number⟩ := c.def_ 3 rfl
  have g_is_number := glo_of X Gn (x := "is_number") (c.fact 37 rfl)
  obtain ⟨fd_check_box, F_check_box⟩ := c.def_ 4 rfl
  have g_check_box := glo_of X Gn (x := "check_box") (c.fact 38 rfl)
  obtain ⟨fd_used_to, F_used_to⟩ := c.def_ 5 rfl
  have g_used_to := glo_of X Gn (x := "used_to") (c.fact 39 rfl)
  obtain ⟨fd_boxes_to, F_boxes_to⟩ := c.def_ 6 rfl
  have g_boxes_to := glo_of X Gn (x := "boxes_to") (c.fact 40 rfl)
  obtain ⟨fd_left_behind, F_left_behind⟩ := c.def_ 7 rfl
  have g_left_behind := glo_of X Gn (x := "left_behind") (c.fact 41 rfl)
  obtain ⟨fd_opened_on, F_opened_on⟩ := c.def_ 8 rfl
  have g_opened_on := glo_of X Gn (x := "opened_on") (c.fact 42 rfl)
  obtain ⟨fd_lefts_of, F_lefts_of⟩ := c.def_ 9 rfl
  have g_lefts_of := glo_of X Gn (x := "lefts_of") (c.fact 43 rfl)
  obtain ⟨fd_clean_to, F_clean_to⟩ := c.def_ 10 rfl
  have g_clean_to := glo_of X Gn (x := "clean_to") (c.fact 44 rfl)
  obtain ⟨fd_check_children, F_check_children⟩ := c.def_ 11 rfl
  have g_check_children := glo_of X Gn (x := "check_children") (c.fact 45 rfl)
  obtain ⟨fd_check_days, F_check_days⟩ := c.def_ 12 rfl
  have g_check_days := glo_of X Gn (x := "check_days") (c.fact 46 rfl)
  obtain ⟨fd_lowest, F_lowest⟩ := c.def_ 13 rfl
  have g_lowest := glo_of X Gn (x := "lowest") (c.fact 47 rfl)
  obtain ⟨fd_minus, F_minus⟩ := c.def_ 14 rfl
  have g_minus := glo_of X Gn (x := "minus") (c.fact 48 rfl)
  obtain ⟨fd_times, F_times⟩ := c.def_ 15 rfl
  have g_times := glo_of X Gn (x := "times") (c.fact 49 rfl)
  obtain ⟨fd_made, F_made⟩ := c.def_ 16 rfl
  have g_made := glo_of X Gn (x := "made") (c.fact 50 rfl)
  obtain ⟨fd_alike_chance, F_alike_chance⟩ := c.def_ 17 rfl
  have g_alike_chance := glo_of X Gn (x := "alike_chance") (c.fact 51 rfl)
  obtain ⟨fd_mean_pairs, F_mean_pairs⟩ := c.def_ 18 rfl
  have g_mean_pairs := glo_of X Gn (x := "mean_pairs") (c.fact 52 rfl)
  obtain ⟨fd_less, F_less⟩ := c.def_ 19 rfl
  have g_less := glo_of X Gn (x := "less") (c.fact 53 rfl)
  obtain ⟨fd_crowd_for, F_crowd_for⟩ := c.def_ 20 rfl
  have g_crowd_for := glo_of X Gn (x := "crowd_for") (c.fact 54 rfl)
  obtain ⟨fd__law_word, F__law_word⟩ := c.def_ 21 rfl
  have g__law_word := glo_of X Gn (x := "_law_word") (c.fact 55 rfl)
  obtain ⟨fd__law_told, F__law_told⟩ := c.def_ 22 rfl
  have g__law_told := glo_of X Gn (x := "_law_told") (c.fact 56 rfl)
  obtain ⟨fd__law_candles, F__law_candles⟩ := c.def_ 23 rfl
  have g__law_candles := glo_of X Gn (x := "_law_candles") (c.fact 57 rfl)
  obtain ⟨fd__law_made, F__law_made⟩ := c.def_ 24 rfl
  have g__law_made := glo_of X Gn (x := "_law_made") (c.fact 58 rfl)
  obtain ⟨fd__law_plus, F__law_plus⟩ := c.def_ 25 rfl
  have g__law_plus := glo_of X Gn (x := "_law_plus") (c.fact 59 rfl)
  obtain ⟨fd__law_times, F__law_times⟩ := c.def_ 26 rfl
  have g__law_times := glo_of X Gn (x := "_law_times") (c.fact 60 rfl)
  obtain ⟨fd__law_less, F__law_less⟩ := c.def_ 27 rfl
  have g__law_less := glo_of X Gn (x := "_law_less") (c.fact 61 rfl)
  obtain ⟨fd__law_days, F__law_days⟩ := c.def_ 28 rfl
  have g__law_days := glo_of X Gn (x := "_law_days") (c.fact 62 rfl)
  obtain ⟨fd_law, F_law⟩ := c.def_ 29 rfl
  have g_law := glo_of X Gn (x := "law") (c.fact 63 rfl)
  have b := FunD.bindsA (ps := ["script"]) F_law fun _ _ _ _ _ _ us hl => match us, hl with | [_], _ => rfl
  have e := hfa.symm.trans g_law
  cases e
  refine ⟨fd_law, fun s v => b s [v] rfl, fun base _ _ => ?_⟩
  have C__law_draws : Cal P w K mg base G 1 "_law_draws" ps__law_draws m__law_draws := cal__law_draws  T F__law_draws g__law_draws
  have C__law_alike : Cal P w K mg base G 9 "_law_alike" ps__law_alike m__law_alike := cal__law_alike  T F__law_alike g__law_alike
  have C__law_take : Cal P w K mg base G 1 "_law_take" ps__law_take m__law_take := cal__law_take  T F__law_take g__law_take
  have C_is_number : Cal P w K mg base G 1 "is_number" ps_is_number m_is_number := cal_is_number  T F_is_number g_is_number
  have C_check_box : Cal P w K mg base G 2 "check_box" ps_check_box m_check_box := cal_check_box C_is_number T F_check_box g_check_box
  have C_used_to : Cal P w K mg base G 1 "used_to" ps_used_to m_used_to := cal_used_to  T F_used_to g_used_to
  have C_boxes_to : Cal P w K mg base G 3 "boxes_to" ps_boxes_to m_boxes_to := cal_boxes_to C_check_box C_used_to T F_boxes_to g_boxes_to
  have C_left_behind : Cal P w K mg base G 4 "left_behind" ps_left_behind m_left_behind := cal_left_behind C_boxes_to C_used_to T F_left_behind g_left_behind
  have C_opened_on : Cal P w K mg base G 4 "opened_on" ps_opened_on m_opened_on := cal_opened_on C_check_box C_boxes_to T F_opened_on g_opened_on
  have C_lefts_of : Cal P w K mg base G 5 "lefts_of" ps_lefts_of m_lefts_of := cal_lefts_of C_check_box C_left_behind T F_lefts_of g_lefts_of
  have C_clean_to : Cal P w K mg base G 3 "clean_to" ps_clean_to m_clean_to := cal_clean_to C_check_box C_is_number C_used_to T F_clean_to g_clean_to
  have C_check_children : Cal P w K mg base G 2 "check_children" ps_check_children m_check_children := cal_check_children C_is_number T F_check_children g_check_children
  have C_check_days : Cal P w K mg base G 2 "check_days" ps_check_days m_check_days := cal_check_days C_is_number T F_check_days g_check_days
  have C_lowest : Cal P w K mg base G 1 "lowest" ps_lowest m_lowest := cal_lowest  T F_lowest g_lowest
  have C_minus : Cal P w K mg base G 2 "minus" ps_minus m_minus := cal_minus C_lowest T F_minus g_minus
  have C_times : Cal P w K mg base G 2 "times" ps_times m_times := cal_times C_lowest T F_times g_times
  have C_made : Cal P w K mg base G 2 "made" ps_made m_made := cal_made C_lowest T F_made g_made
  have C_alike_chance : Cal P w K mg base G 3 "alike_chance" ps_alike_chance m_alike_chance := cal_alike_chance C_check_children C_check_days C_made C_times C_minus T F_alike_chance g_alike_chance
  have C_mean_pairs : Cal P w K mg base G 3 "mean_pairs" ps_mean_pairs m_mean_pairs := cal_mean_pairs C_check_children C_check_days C_made T F_mean_pairs g_mean_pairs
  have C_less : Cal P w K mg base G 1 "less" ps_less m_less := cal_less  T F_less g_less
  have C_crowd_for : Cal P w K mg base G 3 "crowd_for" ps_crowd_for m_crowd_for := cal_crowd_for C_check_days C_less C_made C_times T F_crowd_for g_crowd_for
  have H__law_word_OutOfRange : CalE P w K mg base 1 "_law_word" "e" (He.ga K "OutOfRange") "range" := hot__law_word_OutOfRange T F__law_word g__law_word
  have C__law_told : Cal P w K mg base G 6 "_law_told" ps__law_told m__law_told := cal__law_told C_boxes_to C_left_behind C_opened_on C_lefts_of C_clean_to C_alike_chance C_mean_pairs C_crowd_for H__law_word_OutOfRange T F__law_told g__law_told
  have C__law_candles : Cal P w K mg base G 10 "_law_candles" ps__law_candles m__law_candles := cal__law_candles C__law_take C__law_told C__law_alike T F__law_candles g__law_candles
  have C__law_made : Cal P w K mg base G 1 "_law_made" ps__law_made m__law_made := cal__law_made  T F__law_made g__law_made
  have C__law_plus : Cal P w K mg base G 2 "_law_plus" ps__law_plus m__law_plus := cal__law_plus C__law_made T F__law_plus g__law_plus
  have C__law_times : Cal P w K mg base G 2 "_law_times" ps__law_times m__law_times := cal__law_times C__law_made T F__law_times g__law_times
  have C__law_less : Cal P w K mg base G 1 "_law_less" ps__law_less m__law_less := cal__law_less  T F__law_less g__law_less
  have C__law_days : Cal P w K mg base G 10 "_law_days" ps__law_days m__law_days := cal__law_days C__law_take C__law_made C__law_told C__law_alike C__law_times C__law_plus C__law_less T F__law_days g__law_days
  exact fn_law C__law_draws C__law_candles C__law_days C__law_told T F_law
end K86
namespace K86
open PySem PySem.Spec PyProof.Rows L2 TV
def tri (n : Int) : Int := n * (n + 1) / 2
theorem tri_two (n : Int) : 2 * tri n = n * (n + 1) := by
  unfold tri
  rcases Int.emod_two_eq n with h | h
  · obtain ⟨k, rfl⟩ : ∃ k, n = 2 * k := ⟨n / 2, by omega⟩
    rw [show 2 * k * (2 * k + 1) = 2 * (k * (2 * k + 1)) by rw [Int.mul_assoc]]
    omega
  · obtain ⟨k, rfl⟩ : ∃ k, n = 2 * k + 1 := ⟨n / 2, by omega⟩
    rw [show (2 * k + 1) * (2 * k + 1 + 1) = 2 * ((2 * k + 1) * (k + 1)) by rw [show 2 * k + 1 + 1 = 2 * (k + 1) by omega, Int.mul_left_comm]]
    omega
theorem tri_succ (n : Int) : tri (n + 1) = tri n + (n + 1) := by
  have h1 := tri_two n
  have h2 := tri_two (n + 1)
  have : (n + 1) * (n + 1 + 1) = n * (n + 1) + 2 * (n + 1) := by rw [Int.mul_add (n + 1) (n + 1) 1, Int.mul_add (n + 1) n 1, Int.mul_comm n]; omega
  omega
theorem tri_zero : tri 0 = 0 := rfl
theorem tri_nn {n : Int} (h : 0 ≤ n) : 0 ≤ tri n := by
  have h1 := tri_two n
  have : 0 ≤ n * (n + 1) := Int.mul_nonneg h (by omega)
  omega
theorem tri_add (n s : Int) : tri (n + s) = tri n + n * s + tri s := by
  have h1 := tri_two n
  have h2 := tri_two s
  have h3 := tri_two (n + s)
  have : (n + s) * (n + s + 1) = n * (n + 1) + 2 * (n * s) + s * (s + 1) := by
    rw [Int.add_mul, Int.mul_add n, Int.mul_add n, Int.mul_add s, Int.mul_add s, Int.mul_add n n 1, Int.mul_add s s 1, Int.mul_comm s n]; omega
  omega
def bx (n b : Int) : Int := (tri n + b - 1) / b
def lf (n b : Int) : Int := bx n b * b - tri n
theorem lf_eq {n b : Int} (hb : 0 < b) : lf n b = (-tri n) % b := by
  unfold lf bx
  have h1 := Int.emod_add_mul_ediv (tri n + b - 1) b
  have h2 := Int.emod_nonneg (tri n + b - 1) (by omega : b ≠ 0)
  have h3 := Int.emod_lt_of_pos (tri n + b - 1) hb
  generalize hq : (tri n + b - 1) / b = q at *
  rw [Int.mul_comm q]
  have e : -tri n = (b * q - tri n) + b * (-q) := by rw [Int.mul_neg]; omega
  rw [e, Int.add_mul_emod_self_left, Int.emod_eq_of_lt (by omega) (by omega)]
theorem lf_nn {n b : Int} (hb : 0 < b) : 0 ≤ lf n b := by rw [lf_eq hb]; exact Int.emod_nonneg _ (by omega)
theorem lf_lt {n b : Int} (hb : 0 < b) : lf n b < b := by rw [lf_eq hb]; exact Int.emod_lt_of_pos _ hb
theorem lf_zero {n b : Int} (hb : 0 < b) : lf n b = 0 ↔ tri n % b = 0 := by
  rw [lf_eq hb]
  constructor
  · intro h; exact Int.emod_eq_zero_of_dvd (Int.dvd_neg.mp (Int.dvd_of_emod_eq_zero h))
  · intro h; exact Int.emod_eq_zero_of_dvd (Int.dvd_neg.mpr (Int.dvd_of_emod_eq_zero h))
theorem lf_same {n m b : Int} (hb : 0 < b) : lf n b = lf m b ↔ b ∣ tri n - tri m := by
  rw [lf_eq hb, lf_eq hb]
  rw [Int.emod_eq_emod_iff_emod_sub_eq_zero]
  constructor
  · intro h
    have := Int.dvd_of_emod_eq_zero h
    have := Int.dvd_neg.mpr this
    rw [show -(-tri n - -tri m) = tri n - tri m by omega] at this
    exact this
  · intro h
    refine Int.emod_eq_zero_of_dvd ?_
    have := Int.dvd_neg.mpr h
    rw [show -(tri n - tri m) = -tri n - -tri m by omega] at this
    exact this
theorem bx_zero {b : Int} (hb : 0 < b) : bx 0 b = 0 := by
  unfold bx
  rw [tri_zero]
  exact Int.ediv_eq_zero_of_lt (by omega) (by omega)
theorem bx_step {n b : Int} (hb : 0 < b) (hn : 0 ≤ n) : bx (n + 1) b = bx n b + (n + 1 - lf n b + b - 1) / b := by
  have e : tri (n + 1) + b - 1 = (n + 1 - lf n b + b - 1) + bx n b * b := by
    rw [tri_succ]
    unfold lf
    omega
  show (tri (n + 1) + b - 1) / b = _
  rw [e, Int.add_mul_ediv_right _ _ (by omega)]
  omega
theorem bx_more {n b : Int} (hb : 0 < b) (hn : 0 ≤ n) : 0 ≤ (n + 1 - lf n b + b - 1) / b := Int.ediv_nonneg (by have := lf_lt (n := n) hb; omega) (by omega)
theorem inP1 (a : Sl) : inP [] [a] = !a.own := by simp [inP, List.range_succ]
theorem inP2 (a b : Sl) : inP [] [a, b] = (!a.own && !b.own) := by simp [inP, List.range_succ]
theorem inP3 (a b c : Sl) : inP [] [a, b, c] = (!a.own && (!b.own && !c.own)) := by simp [inP, List.range_succ]
theorem num_ok {v lo hi : Int} (h1 : lo ≤ v) (h2 : v ≤ hi) : m_is_number [.sh (.int v), .sh (.int lo), .sh (.int hi)] = some (.rt (.s (.bl true)) [.no, .no, .no]) := by
  have k : subK .int .bl = false := rfl
  simp (disch := omega) [List.getElem?_cons_zero, m_is_number, runF, inP3, exitV, outsOf, List.range_succ, ltT, leT, k]
theorem box_ok {b : Int} (h1 : 1 ≤ b) (h2 : b ≤ 200) : m_check_box [.sh (.int b)] = some (.rt (.s .non) [.no]) := by
  have n1 := num_ok h1 h2
  simp (disch := omega) [List.getElem?_cons_zero, m_check_box, runF, inP1, List.range_succ, exitV, outsOf, n1]
theorem mulOk_big {i j : Int} (h1 : i.natAbs < 2 ^ 200) (h2 : j.natAbs < 2 ^ 200) : mulOk i j = true := by
  refine mulOk_iff.mpr (.inr (.inr ?_))
  have a : i.natAbs.log2 < 200 := by
    by_cases z : i.natAbs = 0
    · rw [z]; decide
    · exact (Nat.log2_lt z).mpr h1
  have b : j.natAbs.log2 < 200 := by
    by_cases z : j.natAbs = 0
    · rw [z]; decide
    · exact (Nat.log2_lt z).mpr h2
  omega
theorem used_ok {n : Int} (h0 : 0 ≤ n) (h : n ≤ 2000000000000000000000000000000) : m_used_to [.sh (.int n)] = some (.rt (.s (.int (tri n))) [.no]) := by
  have m : mulOk n (n + 1) = true := mulOk_big (by omega) (by omega)
  have d : divOk 2 = true := rfl
  simp (disch := omega) [List.getElem?_cons_zero, m_used_to, runF, inP1, List.range_succ, exitV, outsOf, gMul_int m, gDiv_int d, tri]
theorem boxes_ok {n b : Int} (h0 : 0 ≤ n) (h : n ≤ 2000000000000000000000000000000) (h1 : 1 ≤ b) (h2 : b ≤ 200) : m_boxes_to [.sh (.int n), .sh (.int b)] = some (.rt (.s (.int (bx n b))) [.no, .no]) := by
  have d : divOk b = true := divOk_ok (by omega) (by omega)
  simp (disch := omega) [List.getElem?_cons_zero, m_boxes_to, runF, inP2, List.range_succ, exitV, outsOf, gDiv_int d, box_ok h1 h2, used_ok h0 h, bx]
theorem left_ok {n b : Int} (h0 : 0 ≤ n) (h : n ≤ 2000000000000000000000000000000) (h1 : 1 ≤ b) (h2 : b ≤ 200) : m_left_behind [.sh (.int n), .sh (.int b)] = some (.rt (.s (.int (lf n b))) [.no, .no]) := by
  have m : mulOk (bx n b) b = true := mulOk_ok2 (by omega) (by omega)
  simp (disch := omega) [List.getElem?_cons_zero, m_left_behind, runF, inP2, List.range_succ, exitV, outsOf, boxes_ok h0 h h1 h2, used_ok h0 h, gMul_int m, lf]
theorem opened_ok {n b : Int} (h0 : 0 ≤ n) (h : n ≤ 1000000) (h1 : 1 ≤ b) (h2 : b ≤ 200) : m_opened_on [.sh (.int (n + 1)), .sh (.int b)] = some (.rt (.s (.int (bx (n + 1) b - bx n b))) [.no, .no]) := by
  have q1 := boxes_ok (n := n + 1) (by omega) (by omega) h1 h2
  by_cases c : 1 < n + 1
  · have q2 := boxes_ok (n := n) (by omega) (by omega) h1 h2
    have e : n + 1 - 1 = n := by omega
    simp (disch := omega) [List.getElem?_cons_zero, m_opened_on, runF, inP2, List.range_succ, exitV, outsOf, box_ok h1 h2, q1, q2, c, e]
  · have e : n = 0 := by omega
    subst e
    simp at q1
    simp (disch := omega) [List.getElem?_cons_zero, m_opened_on, runF, inP2, List.range_succ, exitV, outsOf, box_ok h1 h2, q1, bx_zero (b := b) (by omega)]
end K86
namespace K86
open PySem PySem.Spec PyProof.Rows L2 TV
theorem told0 {n b : Int} (h0 : 0 ≤ n) (h : n ≤ 2000000000000000000000000000000) (h1 : 1 ≤ b) (h2 : b ≤ 200) : m__law_told [.sh (.int 0), .sh (.int n), .sh (.int b)] = some (.rt (.s (.int (bx n b))) [.no, .no, .no]) := by
  simp (disch := omega) [List.getElem?_cons_zero, m__law_told, tryW, runF, inP3, List.range_succ, exitV, outsOf, gEq_int, boxes_ok h0 h h1 h2]
theorem told1 {n b : Int} (h0 : 0 ≤ n) (h : n ≤ 2000000000000000000000000000000) (h1 : 1 ≤ b) (h2 : b ≤ 200) : m__law_told [.sh (.int 1), .sh (.int n), .sh (.int b)] = some (.rt (.s (.int (lf n b))) [.no, .no, .no]) := by
  simp (disch := omega) [List.getElem?_cons_zero, m__law_told, tryW, runF, inP3, List.range_succ, exitV, outsOf, gEq_int, left_ok h0 h h1 h2]
theorem told2 {n b : Int} (h0 : 0 ≤ n) (h : n ≤ 1000000) (h1 : 1 ≤ b) (h2 : b ≤ 200) : m__law_told [.sh (.int 2), .sh (.int (n + 1)), .sh (.int b)] = some (.rt (.s (.int (bx (n + 1) b - bx n b))) [.no, .no, .no]) := by
  simp (disch := omega) [List.getElem?_cons_zero, m__law_told, tryW, runF, inP3, List.range_succ, exitV, outsOf, gEq_int, opened_ok h0 h h1 h2]
def cl (n : Nat) (b : Int) : Nat := ((List.range n).filter fun k => decide (tri (1 + (k : Nat)) % b = 0)).length
theorem cl_succ (n : Nat) (b : Int) : cl (n + 1) b = cl n b + (if tri (1 + (n : Nat)) % b = 0 then 1 else 0) := by
  unfold cl
  rw [List.range_succ, List.filter_append, List.length_append]
  congr 1
  by_cases h : tri (1 + (n : Nat)) % b = 0 <;> simp [h]
theorem rng2_ok {fs : Av} {ρ ρ1 : En} {i j : Int} (h : fs ρ = some (.ok [.sh (.int i), .sh (.int j)] ρ1)) (h1 : smallI i = true) (h2 : smallI j = true) : rng2E fs ρ = some (.ok (TV.upTo i (j - i).toNat) ρ1) := by
  rw [rng2E_, h, andThen_ok]
  dsimp only
  rw [h1, h2]
  rfl
theorem clean_ok {n : Nat} {b : Int} (h0 : 1 ≤ n) (h : n ≤ 1000) (h1 : 1 ≤ b) (h2 : b ≤ 200) : m_clean_to [.sh (.int n), .sh (.int b)] = some (.rt (.s (.int (cl n b : Nat))) [.no, .no]) := by
  have r : rng2E (consA false (conE (.int 1)) (consA false (binE gAdd (varE 0) (conE (.int 1))) nilA)) [.sh (.int n), .sh (.int b), .no] = some (.ok ((List.range n).map fun k => .int (1 + (k : Nat))) [.sh (.int n), .sh (.int b), .no]) := by
    refine (rng2_ok (ρ1 := [.sh (.int n), .sh (.int b), .no]) (i := 1) (j := n + 1) (by simp [List.getElem?_cons_zero]) (smallI_ok (by omega) (by omega)) (smallI_ok (by omega) (by omega))).trans ?_
    rw [show ((n : Int) + 1 - 1).toNat = n by omega]
    rfl
  have d : posI b = true := posI_ok (by omega)
  have c := comp_ok (vs := [2]) (tg := .nm 2) (ct := (tsb (binE gEq (binE gMod (callE m_used_to (consA false (varE 2) nilA)) (varE 1)) (conE (.int 0))))) (elt := conE (.int 1)) r (compL_enc (vs := [2]) (tg := .nm 2) (ct := (tsb (binE gEq (binE gMod (callE m_used_to (consA false (varE 2) nilA)) (varE 1)) (conE (.int 0))))) (elt := conE (.int 1)) (ρ := [.sh (.int n), .sh (.int b), .no]) (fun k : Nat => Tr.int (1 + (k : Nat))) (fun k => decide (tri (1 + (k : Nat)) % b = 0)) (fun _ => .int 1) (List.range n) [] (by simp [sizeLine_eq]; omega) (fun x hx => by
    have hx := List.mem_range.mp hx
    have u := used_ok (n := 1 + (x : Nat)) (by omega) (by omega)
    refine ⟨[.sh (.int n), .sh (.int b), .sh (.int (1 + (x : Nat)))], [.sh (.int n), .sh (.int b), .sh (.int (1 + (x : Nat)))], by simp, ?_, by simp, fun _ => ⟨.sh (.int 1), [.sh (.int n), .sh (.int b), .sh (.int (1 + (x : Nat)))], [.sh (.int n), .sh (.int b), .sh (.int (1 + (x : Nat)))], by simp, by simp [Rs.fz], by simp⟩⟩
    simp (disch := omega) [List.getElem?_cons_zero, u, gMod_int, gEq_int]
    )) (by simp [restore])
  have n1 := num_ok (v := n) (lo := 1) (hi := 1000) (by omega) (by omega)
  simp (disch := omega) [List.getElem?_cons_zero, m_clean_to, runF, inP2, List.range_succ, exitV, outsOf, box_ok h1 h2, n1, c, cl, -compE_]
theorem told4 {n : Nat} {b : Int} (h0 : 1 ≤ n) (h : n ≤ 1000) (h1 : 1 ≤ b) (h2 : b ≤ 200) : m__law_told [.sh (.int 4), .sh (.int n), .sh (.int b)] = some (.rt (.s (.int (cl n b : Nat))) [.no, .no, .no]) := by
  simp (disch := omega) [List.getElem?_cons_zero, m__law_told, tryW, runF, inP3, List.range_succ, exitV, outsOf, gEq_int, clean_ok h0 h h1 h2]
def kinds (b : Int) : List Int := srtU ((List.range (2 * b.toNat)).map fun k => lf (1 + (k : Nat)) b)
theorem compI_enc {vs : List Nat} {tg : Tg} {ct : Tv} {elt : Ev} {ρ : En} (g : Nat → Int) : ∀ (xs : List Nat) (acc : List Int), acc.length + xs.length ≤ 4000 →
    (∀ x ∈ xs, ∃ ρ1 ρ2 ρ3, asgT [] tg (.int (1 + (x : Nat))) ρ = some ρ1 ∧ ct ρ1 = some (.ok true ρ2) ∧ elt ρ2 = some (.ok (.sh (.int (g x))) ρ3) ∧ kill vs ρ3 = ρ) →
    compI vs tg ct elt (xs.map fun x => .int (1 + (x : Nat))) acc ρ = some (acc ++ xs.map g, ρ)
  | [], acc, _, _ => by simp [compI]
  | t :: ts, acc, hl, h => by
    obtain ⟨ρ1, ρ2, ρ3, h1, h2, h3, h4⟩ := h t List.mem_cons_self
    rw [List.length_cons] at hl
    rw [List.map_cons]
    unfold compI
    rw [h1]
    dsimp only
    rw [h2]
    dsimp only
    rw [h3]
    dsimp only
    rw [if_pos (by omega), h4, compI_enc g ts (acc ++ [g t]) (by rw [List.length_append, List.length_singleton]; omega) fun u hu => h u (List.mem_cons_of_mem _ hu)]
    simp
theorem lefts_ok {b : Int} (h1 : 1 ≤ b) (h2 : b ≤ 200) : m_lefts_of [.sh (.int b)] = some (.rt (.s (.tup (ti (kinds b)))) [.no]) := by
  have m : mulOk 2 b = true := mulOk_ok (by omega) (by omega)
  have r : rng2E (consA false (conE (.int 1)) (consA false (binE gAdd (binE gMul (conE (.int 2)) (varE 0)) (conE (.int 1))) nilA)) [.sh (.int b), .no] = some (.ok ((List.range (2 * b.toNat)).map fun k => .int (1 + (k : Nat))) [.sh (.int b), .no]) := by
    refine (rng2_ok (ρ1 := [.sh (.int b), .no]) (i := 1) (j := 2 * b + 1) (by simp [List.getElem?_cons_zero, gMul_int m]) (smallI_ok (by omega) (by omega)) (smallI_ok (by omega) (by omega))).trans ?_
    rw [show (2 * b + 1 - 1).toNat = 2 * b.toNat by omega]
    rfl
  have c := compI_enc (vs := [1]) (tg := .nm 1) (ct := yesT) (elt := (callE m_left_behind (consA false (varE 1) (consA false (varE 0) nilA)))) (ρ := [.sh (.int b), .no]) (fun k => lf (1 + (k : Nat)) b) (List.range (2 * b.toNat)) [] (by simp; omega) fun x hx => by
    have hx := List.mem_range.mp hx
    have u := left_ok (n := 1 + (x : Nat)) (b := b) (by omega) (by omega) h1 h2
    refine ⟨[.sh (.int b), .sh (.int (1 + (x : Nat)))], [.sh (.int b), .sh (.int (1 + (x : Nat)))], [.sh (.int b), .sh (.int (1 + (x : Nat)))], by simp, rfl, ?_, by simp⟩
    simp (disch := omega) [List.getElem?_cons_zero, u]
  have s : srtScE [1] (rng2E (consA false (conE (.int 1)) (consA false (binE gAdd (binE gMul (conE (.int 2)) (varE 0)) (conE (.int 1))) nilA))) (.nm 1) yesT (callE m_left_behind (consA false (varE 1) (consA false (varE 0) nilA))) [.sh (.int b), .no] = some (.ok (.fr (ti (kinds b))) [.sh (.int b), .no]) := by
    unfold srtScE
    rw [r, andThen_ok, show kill [1] [Sl.sh (.int b), .no] = [Sl.sh (.int b), .no] by simp, c]
    simp [restore, kinds]
  simp (disch := omega) [List.getElem?_cons_zero, m_lefts_of, runF, inP1, List.range_succ, exitV, outsOf, box_ok h1 h2, s, gTupleOf, seqT]
theorem told3 {b : Int} (h1 : 1 ≤ b) (h2 : b ≤ 200) : m__law_told [.sh (.int 3), .sh (.int 1), .sh (.int b)] = some (.rt (.s (.tup (ti (kinds b)))) [.no, .no, .no]) := by
  simp (disch := omega) [List.getElem?_cons_zero, m__law_told, tryW, runF, inP3, List.range_succ, exitV, outsOf, gEq_int, lefts_ok h1 h2]
end K86
namespace K86
open PySem PySem.Spec PyProof.Rows L2 TV
def dp : Nat → Tr → Prop
  | 0, _ => False
  | n + 1, .int _ => True
  | n + 1, .lst ts => ts.length ≤ 100000 ∧ ∀ t ∈ ts, dp n t
  | n + 1, .tup ts => ts.length ≤ 100000 ∧ ∀ t ∈ ts, dp n t
  | _ + 1, _ => False
theorem gIxl {ts : List Tr} {k : Nat} {t : Tr} (h : ts[k]? = some t) : gIx (.lst ts) (.int (0 + (k : Nat))) = some (.s t) := by
  rw [Int.zero_add]; exact gIx_lst h
theorem gIxt {ts : List Tr} {k : Nat} {t : Tr} (h : ts[k]? = some t) : gIx (.tup ts) (.int (0 + (k : Nat))) = some (.s t) := by
  rw [Int.zero_add]; exact gIx_tup h
theorem alike_comp {F : Fv} {T : Tr} {ts : List Tr} (hl : ts.length ≤ 100000) (hlen : gLen T = some (.s (.int (ts.length : Nat)))) (hix : ∀ k t, ts[k]? = some t → gIx T (.int (0 + (k : Nat))) = some (.s t)) (hF : ∀ t ∈ ts, F [.sh t, .sh t] = some (.rt (.s (.bl true)) [.no, .no])) :
    compE [2] (rng1E (consA false (bltE (f1 gLen) (consA true (varE 1) nilA)) nilA)) (.nm 2) (notT (tst (callE F (consA false (binE gIx (varE 0) (varE 2)) (consA false (binE gIx (varE 1) (varE 2)) nilA))))) (varE 2) [.sh T, .sh T, .no] = some (.ok (.fr []) [.sh T, .sh T, .no]) := by
  have r : rng1E (consA false (bltE (f1 gLen) (consA true (varE 1) nilA)) nilA) [.sh T, .sh T, .no] = some (.ok ((List.range ts.length).map fun k => .int (0 + (k : Nat))) [.sh T, .sh T, .no]) := rng1_nat (n := ts.length) (by simp [List.getElem?_cons_zero, hlen]) (by omega)
  have c := compL_enc (vs := [2]) (tg := .nm 2) (ct := notT (tst (callE F (consA false (binE gIx (varE 0) (varE 2)) (consA false (binE gIx (varE 1) (varE 2)) nilA))))) (elt := varE 2) (ρ := [.sh T, .sh T, .no]) (fun k : Nat => Tr.int (0 + (k : Nat))) (fun _ => false) (fun _ => .non) (List.range ts.length) [] (by simp [sizeLine_eq]; omega) fun x hx => by
    have hx := List.mem_range.mp hx
    have i := hix x ts[x] (by simp [hx])
    have f := hF ts[x] (List.getElem_mem hx)
    refine ⟨[.sh T, .sh T, .sh (.int (0 + (x : Nat)))], [.sh T, .sh T, .sh (.int (0 + (x : Nat)))], by simp, ?_, by simp, fun z => by cases z⟩
    rw [Int.zero_add] at i ⊢
    simp (disch := omega) [List.getElem?_cons_zero, i, f]
  have fe : ∀ l : List Nat, l.filter (fun _ => false) = [] := fun l => List.filter_eq_nil_iff.mpr fun _ _ z => by cases z
  rw [fe] at c
  exact comp_ok (ρ2 := [.sh T, .sh T, .no]) r (by simpa using c) (by simp [restore])
theorem gEq_nil2 : gEq (.lst []) (.lst []) = some (.s (.bl true)) := rfl
theorem alike_ok : ∀ (n : Nat) (t : Tr), dp n t → r__law_alike n [.sh t, .sh t] = some (.rt (.s (.bl true)) [.no, .no])
  | 0, _, h => h.elim
  | n + 1, t, h => by
    have ih := alike_ok n
    rw [r__law_alike]
    generalize r__law_alike n = F at ih ⊢
    cases t <;> try exact h.elim
    case int i =>
      have k1 : subK .int .lst = false := rfl
      have k2 : subK .int .tup = false := rfl
      have k3 : subK .int .bl = false := rfl
      simp (disch := omega) [List.getElem?_cons_zero, runF, inP2, List.range_succ, exitV, outsOf, gEq_int, k1, k2, k3]
    case lst ts =>
      have c := alike_comp (F := F) (T := .lst ts) h.1 rfl (fun k t => gIxl) fun t ht => ih t (h.2 t ht)
      have k1 : subK .lst .tup = false := rfl
      have k2 : subK .lst .lst = true := rfl
      simp (disch := omega) [List.getElem?_cons_zero, runF, inP2, List.range_succ, exitV, outsOf, gEq_int, k1, k2, c, -compE_, gEq_nil2]
    case tup ts =>
      have c := alike_comp (F := F) (T := .tup ts) h.1 rfl (fun k t => gIxt) fun t ht => ih t (h.2 t ht)
      have k1 : subK .tup .lst = false := rfl
      have k2 : subK .tup .tup = true := rfl
      simp (disch := omega) [List.getElem?_cons_zero, runF, inP2, List.range_succ, exitV, outsOf, gEq_int, k1, k2, c, -compE_, gEq_nil2]
theorem alike_int (i : Int) : m__law_alike [.sh (.int i), .sh (.int i)] = some (.rt (.s (.bl true)) [.no, .no]) := alike_ok 8 _ trivial
theorem alike_ints (s : List Int) (h : s.length ≤ 100000) : m__law_alike [.sh (.lst (ti s)), .sh (.lst (ti s))] = some (.rt (.s (.bl true)) [.no, .no]) := alike_ok 8 _ ⟨by simpa using h, fun t ht => by
  obtain ⟨i, _, rfl⟩ := List.mem_map.mp ht
  exact trivial⟩
theorem alike_tup (s : List Int) (h : s.length ≤ 100000) : m__law_alike [.sh (.tup (ti s)), .sh (.tup (ti s))] = some (.rt (.s (.bl true)) [.no, .no]) := alike_ok 8 _ ⟨by simpa using h, fun t ht => by
  obtain ⟨i, _, rfl⟩ := List.mem_map.mp ht
  exact trivial⟩
def lefts (n : Nat) (b : Int) : List Int := (List.range n).map fun k => lf (1 + (k : Nat)) b
theorem lefts_succ (n : Nat) (b : Int) : lefts (n + 1) b = lefts n b ++ [lf ((n : Int) + 1) b] := by
  unfold lefts
  rw [List.range_succ, List.map_append]
  simp [Int.add_comm]
def cE (ds : List Int) (b : Int) (n : Nat) : En := [.ow (ti ds), .sh (.int b), .ow (ti (lefts n b)), .sh (.int (4 * b)), .no, .no, .no, .no, .no, .no, .no, .no, .sh (.int (lf n b)), .sh (.int (bx n b)), .sh (.int (cl n b : Nat)), .no, .no, .no]
theorem three (a b c : Int) : m__law_alike [.sh (.lst [.int a, .int b, .int c]), .sh (.lst [.int a, .int b, .int c])] = some (.rt (.s (.bl true)) [.no, .no]) := alike_ints [a, b, c] (by simp)
theorem cand_step (ds : List Int) (b : Int) (n : Nat) (hd : ds.length ≤ 100000) (h1 : 1 ≤ b) (h2 : b ≤ 200) (hn : n ≤ 1000) : ∃ ρ, B__law_candles_0 ((cE ds b n).set 4 (.sh (.int ((n : Int) + 1)))) = some (.nx ρ) ∧ kill [4, 5, 6, 7, 8, 9, 10, 11, 15, 16, 17] ρ = cE ds b (n + 1) := by
  have d : divOk b = true := divOk_ok (by omega) (by omega)
  have hbs := bx_step (n := n) (b := b) (by omega) (by omega)
  have hop := bx_more (n := n) (b := b) (by omega) (by omega)
  generalize ho : ((n : Int) + 1 - lf n b + b - 1) / b = o at hbs hop
  have hl : lf n b + o * b - ((n : Int) + 1) = lf ((n : Int) + 1) b := by
    unfold lf
    rw [hbs, tri_succ, Int.add_mul]
    omega
  have hbx : bx n b + o = bx ((n : Int) + 1) b := hbs.symm
  have hox : bx ((n : Int) + 1) b - bx n b = o := by omega
  have mo : mulOk o b = true := mulOk_ok2 (by omega) (by omega)
  have hmax : (if o > 0 then o else 0) = o := by split <;> omega
  have hc := cl_succ n b
  have hln : lf ((n : Int) + 1) b = 0 ↔ tri (1 + (n : Int)) % b = 0 := by rw [lf_zero (by omega), Int.add_comm]
  have hcl : (cl n b : Int) + (if decide (lf ((n : Int) + 1) b = 0) = true then 1 else 0) = (cl (n + 1) b : Nat) := by
    rw [hc]
    by_cases z : tri (1 + (n : Int)) % b = 0
    · simp [z, hln.mpr z]
    · have z2 : ¬ lf ((n : Int) + 1) b = 0 := fun y => z (hln.mp y)
      simp [z, z2]
  have hcl' : (cl n b : Int) + (if lf ((n : Int) + 1) b = 0 then 1 else 0) = (cl (n + 1) b : Nat) := by simpa using hcl
  have t0 := told0 (n := (n : Int) + 1) (b := b) (by omega) (by omega) h1 h2
  have t1 := told1 (n := (n : Int) + 1) (b := b) (by omega) (by omega) h1 h2
  have t2 := told2 (n := n) (b := b) (by omega) (by omega) h1 h2
  rw [hox] at t2
  have t3 := three (bx ((n : Int) + 1) b) (lf ((n : Int) + 1) b) o
  have hll : (lefts n b).length = n := by simp [lefts]
  let E : En := [.ow (ti ds), .sh (.int b), .ow (ti (lefts (n + 1) b)), .sh (.int (4 * b)), .sh (.int ((n : Int) + 1)), .no, .no, .no, .no, .no, .no, .sh (.int o), .sh (.int (lf ((n : Int) + 1) b)), .sh (.int (bx ((n : Int) + 1) b)), .sh (.int (cl (n + 1) b : Nat)), .no, .no, .no]
  have fin : kill [4, 5, 6, 7, 8, 9, 10, 11, 15, 16, 17] E = cE ds b (n + 1) := by simp [E, cE]
  refine ⟨E, ?_, fin⟩
  unfold B__law_candles_0
  refine seq_nx (ρ1 := (cE ds b n).set 4 (.sh (.int ((n : Int) + 1))) |>.set 11 (.sh (.int o))) (by
    simp (disch := omega) [List.getElem?_cons_zero, cE, gMax, gMax2, gDiv_int d, ho, hmax]) ?_
  refine seq_nx (ρ1 := (cE ds b n).set 4 (.sh (.int ((n : Int) + 1))) |>.set 11 (.sh (.int o)) |>.set 12 (.sh (.int (lf ((n : Int) + 1) b)))) (by
    simp (disch := omega) [List.getElem?_cons_zero, cE, gMul_int mo, hl]) ?_
  refine seq_nx (ρ1 := (cE ds b n).set 4 (.sh (.int ((n : Int) + 1))) |>.set 11 (.sh (.int o)) |>.set 12 (.sh (.int (lf ((n : Int) + 1) b))) |>.set 13 (.sh (.int (bx ((n : Int) + 1) b)))) (by
    simp (disch := omega) [List.getElem?_cons_zero, cE, hbx]) ?_
  refine seq_nx (ρ1 := (cE ds b n).set 4 (.sh (.int ((n : Int) + 1))) |>.set 11 (.sh (.int o)) |>.set 12 (.sh (.int (lf ((n : Int) + 1) b))) |>.set 13 (.sh (.int (bx ((n : Int) + 1) b))) |>.set 14 (.sh (.int (cl (n + 1) b : Nat)))) (by
    simp (disch := omega) [List.getElem?_cons_zero, cE, gEq_int, hcl']) ?_
  refine seq_nx (ρ1 := E) (by
    simp (disch := omega) [List.getElem?_cons_zero, cE, mAppend, -szl, szLe, szLt, hll, lefts_succ, E]) ?_
  by_cases c : (n : Int) + 1 < 30 ∨ 4 * b - 5 < (n : Int) + 1
  · refine if_yes (ρ1 := E) ?_ ?_
    · rcases c with c | c
      · simp (disch := omega) [List.getElem?_cons_zero, E, c]
      · by_cases c2 : (n : Int) + 1 < 30
        · simp (disch := omega) [List.getElem?_cons_zero, E, c2]
        · simp (disch := omega) [List.getElem?_cons_zero, E, c, c2]
    · refine seq_nx (ρ1 := E) (if_skip (by
        simp (disch := omega) [List.getElem?_cons_zero, E, t0, t1, t2, t3])) ?_
      by_cases c3 : (n : Int) + 1 ≤ 1000
      · have t4 := told4 (n := n + 1) (b := b) (by omega) (by omega) h1 h2
        rw [Int.natCast_add, Int.natCast_one] at t4
        have t5 := alike_int (cl (n + 1) b : Nat)
        exact if_skip (by simp (disch := omega) [List.getElem?_cons_zero, E, t4, t5, c3])
      · exact if_skip (by simp (disch := omega) [List.getElem?_cons_zero, E, c3])
  · exact if_skip (by
      have c1 : ¬ (n : Int) + 1 < 30 := fun z => c (.inl z)
      have c2 : ¬ 4 * b - 5 < (n : Int) + 1 := fun z => c (.inr z)
      simp (disch := omega) [List.getElem?_cons_zero, E, c1, c2])
end K86
namespace K86
open PySem PySem.Spec PyProof.Rows L2 TV
def per (b : Int) : Int := if b / 2 * 2 < b then b else 2 * b
theorem per_le {b : Int} (hb : 0 < b) : 1 ≤ per b ∧ per b ≤ 2 * b := by unfold per; split <;> omega
theorem lf_add {n s b : Int} (hb : 0 < b) : lf (n + s) b = lf n b ↔ b ∣ n * s + tri s := by
  rw [lf_same hb, tri_add, show tri n + n * s + tri s - tri n = n * s + tri s by omega]
theorem tri_odd (c : Int) : tri (2 * c + 1) = (2 * c + 1) * (c + 1) := by
  have h := tri_two (2 * c + 1)
  rw [show 2 * c + 1 + 1 = 2 * (c + 1) by omega, Int.mul_left_comm] at h
  omega
theorem tri_even (c : Int) : tri (2 * c) = c * (2 * c + 1) := by
  have h := tri_two (2 * c)
  rw [Int.mul_assoc] at h
  omega
theorem per_two {b : Int} (hb : 0 < b) (n : Int) : lf (n + 2 * b) b = lf n b := by
  rw [lf_add hb, tri_even, Int.mul_left_comm]
  exact Int.dvd_add ⟨2 * n, by rw [Int.mul_left_comm]; simp only [Int.mul_comm, Int.mul_left_comm]⟩ (Int.dvd_mul_right _ _)
theorem per_ok {b : Int} (hb : 0 < b) (n : Int) : lf (n + per b) b = lf n b := by
  rw [lf_add hb]
  unfold per
  split
  · rename_i c
    obtain ⟨k, rfl⟩ : ∃ k, b = 2 * k + 1 := ⟨b / 2, by omega⟩
    rw [tri_odd]
    exact Int.dvd_add (Int.dvd_mul_left _ _) (Int.dvd_mul_right _ _)
  · exact (lf_add hb).mp (per_two hb n)
theorem per_twos {b : Int} (hb : 0 < b) (n : Int) : ∀ q : Nat, lf (n + 2 * b * q) b = lf n b
  | 0 => by simp
  | q + 1 => by rw [show n + 2 * b * ((q + 1 : Nat) : Int) = n + 2 * b * q + 2 * b by push_cast; rw [Int.mul_add]; omega, per_two hb, per_twos hb n q]
theorem per_mod {b : Int} (hb : 0 < b) {n : Int} (hn : 1 ≤ n) : lf ((n - 1) % (2 * b) + 1) b = lf n b := by
  have h := Int.emod_add_mul_ediv (n - 1) (2 * b)
  have hq : 0 ≤ (n - 1) / (2 * b) := Int.ediv_nonneg (by omega) (by omega)
  obtain ⟨q, e⟩ : ∃ q : Nat, (n - 1) / (2 * b) = (q : Nat) := ⟨((n - 1) / (2 * b)).toNat, by omega⟩
  rw [e] at h
  have := per_twos hb ((n - 1) % (2 * b) + 1) q
  rw [show (n - 1) % (2 * b) + 1 + 2 * b * (q : Nat) = n by omega] at this
  exact this.symm
theorem per_no {b s : Int} (hb : 0 < b) (h1 : 1 ≤ s) (h2 : s < per b) : ¬ (lf (1 + s) b = lf 1 b ∧ lf (2 + s) b = lf 2 b) := by
  rintro ⟨e1, e2⟩
  rw [lf_add hb] at e1 e2
  have ds : b ∣ s := by
    have := Int.dvd_sub e2 e1
    rw [show 2 * s + tri s - (1 * s + tri s) = s by omega] at this
    exact this
  have dt : b ∣ tri s := by
    have := Int.dvd_sub e1 ds
    rw [show 1 * s + tri s - s = tri s by omega] at this
    exact this
  obtain ⟨k, rfl⟩ := ds
  have hk : 0 < k := by
    rcases Int.lt_or_le 0 k with z | z
    · exact z
    · have := Int.mul_nonpos_of_nonneg_of_nonpos (a := b) (b := k) (by omega) z
      omega
  have hp := (per_le hb).2
  have hk2 : k < 2 := by
    rcases Int.lt_or_le k 2 with z | z
    · exact z
    · have := Int.mul_le_mul_of_nonneg_left z (by omega : 0 ≤ b)
      omega
  have : k = 1 := by omega
  subst this
  rw [Int.mul_one] at dt h2
  unfold per at h2
  split at h2
  · omega
  · obtain ⟨c, rfl⟩ : ∃ c, b = 2 * c := ⟨b / 2, by omega⟩
    rw [tri_even, Int.mul_comm 2 c] at dt
    have := Int.dvd_of_mul_dvd_mul_left (by omega : c ≠ 0) dt
    omega
theorem mirror {b k : Int} (hb : 0 < b) : lf (2 * b - 1 - k) b = lf k b := by
  rw [lf_same hb]
  have h1 := tri_two (2 * b - 1 - k)
  have h2 := tri_two k
  refine ⟨2 * b - 2 * k - 1, ?_⟩
  have e : (2 * b - 1 - k) * (2 * b - 1 - k + 1) = k * (k + 1) + 2 * (b * (2 * b - 2 * k - 1)) := by
    generalize hd : 2 * b - 2 * k - 1 = d
    rw [show 2 * b - 1 - k = d + k by omega, ← Int.mul_assoc 2 b d, show 2 * b = d + 2 * k + 1 by omega]
    simp only [Int.mul_add, Int.add_mul, Int.mul_one, Int.one_mul, Int.mul_assoc, Int.mul_comm k d]
    omega
  omega
def pwr : Nat → Int → Int → Int
  | 0, _, p => p
  | f + 1, b, p => if p < b then pwr f b (p * 2) else p
def lfN (n b : Nat) : Nat := (b - (n * (n + 1) / 2) % b) % b
theorem lfN_eq {n b : Nat} (hb : 0 < b) : lf (n : Int) (b : Int) = (lfN n b : Nat) := by
  rw [lf_eq (by omega)]
  have t : tri (n : Int) = ((n * (n + 1) / 2 : Nat) : Int) := by unfold tri; push_cast; rfl
  rw [t]
  unfold lfN
  generalize n * (n + 1) / 2 = t
  have h1 := Nat.mod_lt t hb
  have h2 := Nat.mod_add_div t b
  have e : (((b - t % b) % b : Nat) : Int) = ((b : Int) - (t % b : Nat)) % b := by
    rw [Int.natCast_emod, Int.natCast_sub (by omega)]
  rw [e]
  have e2 : -(t : Int) = ((b : Int) - (t % b : Nat)) + b * (-((t / b : Nat) : Int) - 1) := by
    have h3 : (t : Int) = (t % b : Nat) + (b : Int) * (t / b : Nat) := by exact_mod_cast h2.symm
    rw [Int.mul_sub, Int.mul_neg]
    omega
  rw [e2, Int.add_mul_emod_self_left]
def chkB (b : Nat) : Bool := if pwr 8 b 1 == (b : Int) then (List.range b).all fun r => (List.range (2 * b)).any fun n => lfN (1 + n) b == r else (List.range b).any fun r => (List.range (2 * b)).all fun n => lfN (1 + n) b != r
theorem chks : ((List.range 200).all fun b => chkB (b + 1)) = true := by decide +kernel
theorem len_lt : ∀ (l : List Int) (lo hi : Int), l.Pairwise (· < ·) → (∀ x ∈ l, lo ≤ x ∧ x < hi) → lo ≤ hi → (l.length : Int) ≤ hi - lo ∧ ∀ r, lo ≤ r → r < hi → r ∉ l → (l.length : Int) ≤ hi - lo - 1
  | [], lo, hi, _, _, h => by simp; exact ⟨by omega, fun r _ _ => by omega⟩
  | x :: t, lo, hi, hp, hm, h => by
    obtain ⟨p1, p2⟩ := List.pairwise_cons.mp hp
    have hx := hm x List.mem_cons_self
    obtain ⟨i1, i2⟩ := len_lt t (x + 1) hi p2 (fun y hy => ⟨by have := p1 y hy; omega, (hm y (List.mem_cons_of_mem _ hy)).2⟩) (by omega)
    rw [List.length_cons]
    refine ⟨by omega, fun r r1 r2 r3 => ?_⟩
    rcases Int.lt_trichotomy r x with c | c | c
    · omega
    · exact absurd (by rw [c]; exact List.mem_cons_self) r3
    · have := i2 r (by omega) r2 fun z => r3 (List.mem_cons_of_mem _ z)
      omega
theorem kinds_len {b : Int} (h1 : 1 ≤ b) (h2 : b ≤ 200) : decide (((kinds b).length : Int) = b) = decide (pwr 8 b 1 = b) := by
  obtain ⟨m, rfl⟩ : ∃ m : Nat, b = ((m + 1 : Nat) : Int) := ⟨(b - 1).toNat, by omega⟩
  have hc := List.all_eq_true.mp chks m (List.mem_range.mpr (by omega))
  generalize hB : m + 1 = B at hc h1 h2 ⊢
  have hm : ∀ k, k ∈ kinds (B : Int) ↔ ∃ n : Nat, n < 2 * B ∧ k = (lfN (1 + n) B : Nat) := fun k => by
    unfold kinds
    rw [srtU_mem, List.mem_map]
    rw [show ((B : Int)).toNat = B by omega]
    constructor
    · rintro ⟨n, hn, rfl⟩
      have := lfN_eq (n := 1 + n) (b := B) (by omega)
      push_cast at this
      exact ⟨n, List.mem_range.mp hn, this⟩
    · rintro ⟨n, hn, rfl⟩
      have := lfN_eq (n := 1 + n) (b := B) (by omega)
      push_cast at this
      exact ⟨n, List.mem_range.mpr hn, this⟩
  have hlt : ∀ n, lfN (1 + n) B < B := fun n => Nat.mod_lt _ (by omega)
  have hp : (kinds (B : Int)).Pairwise (· < ·) := srtU_lt _
  unfold chkB at hc
  by_cases c : pwr 8 B 1 = (B : Int)
  · rw [if_pos (by simpa using c)] at hc
    have e : kinds (B : Int) = srtU ((List.range B).map fun k => ((k : Nat) : Int)) := by
      refine srtU_uniq (hp.imp fun {a b} h => by omega) (hp.imp fun {a b} h => by omega) fun k => ?_
      rw [hm, List.mem_map]
      constructor
      · rintro ⟨n, _, rfl⟩
        exact ⟨lfN (1 + n) B, List.mem_range.mpr (hlt n), rfl⟩
      · rintro ⟨r, hr, rfl⟩
        have h := List.all_eq_true.mp hc r hr
        obtain ⟨n, hn, h⟩ := List.any_eq_true.mp h
        exact ⟨n, List.mem_range.mp hn, by rw [eq_of_beq h]⟩
    have e2 : (List.range B).map (fun k => ((k : Nat) : Int)) = srtU ((List.range B).map fun k => ((k : Nat) : Int)) := by
      have q : ((List.range B).map fun k => ((k : Nat) : Int)).Pairwise (· < ·) := List.pairwise_map.mpr (List.pairwise_lt_range.imp fun {a b} h => by omega)
      exact srtU_uniq (q.imp fun {a b} h => by omega) (q.imp fun {a b} h => by omega) fun k => Iff.rfl
    rw [e, ← e2]
    simp [c]
  · rw [if_neg (by simpa using c)] at hc
    obtain ⟨r, hr, h⟩ := List.any_eq_true.mp hc
    have hr := List.mem_range.mp hr
    have hn : (r : Int) ∉ kinds (B : Int) := fun z => by
      obtain ⟨n, hn, e⟩ := (hm r).mp z
      have := List.all_eq_true.mp h n (List.mem_range.mpr hn)
      simp at this
      omega
    have := (len_lt _ 0 B hp (fun x hx => by
      obtain ⟨n, _, rfl⟩ := (hm x).mp hx
      have := hlt n
      omega) (by omega)).2 r (by omega) (by omega) hn
    have c2 : ¬ ((kinds (B : Int)).length : Int) = B := by omega
    simp only [c, c2]
end K86
namespace K86
open PySem PySem.Spec PyProof.Rows L2 TV
theorem filter_head {p : Nat → Bool} {k n : Nat} (hk : k < n) (h : p k = true) (hn : ∀ j, j < k → p j = false) : ((List.range n).filter p)[0]? = some k := by
  obtain ⟨m, rfl⟩ : ∃ m, n = k + (m + 1) := ⟨n - k - 1, by omega⟩
  rw [List.range_add, List.filter_append, List.filter_eq_nil_iff.mpr (fun j hj => by rw [hn j (List.mem_range.mp hj)]; exact Bool.false_ne_true), List.nil_append, List.range_succ_eq_map]
  simp [h]
theorem gEq_nil (s : List Int) : gEq (.lst (ti s)) (.lst []) = some (.s (.bl s.isEmpty)) := by
  cases s with
  | nil => rfl
  | cons x r =>
    unfold gEq
    rw [shp_ti]
    rfl
theorem gNe_nil (s : List Int) : gNe (.lst (ti s)) (.lst []) = some (.s (.bl !s.isEmpty)) := by
  cases s with
  | nil => rfl
  | cons x r =>
    unfold gNe
    rw [shp_ti]
    rfl
def one (x : Int) : Key × Tr := (.inl x, .int 1)
theorem put_one (u : List Int) (x : Int) : putT (u.map one) (.inl x) (.int 1) = if x ∈ u then u.map one else (u ++ [x]).map one := by
  unfold putT
  have e : ((u.map one).any fun kv => decide (kv.1 = Sum.inl x)) = decide (x ∈ u) := by
    rw [List.any_map]
    by_cases h : x ∈ u
    · simp only [h, decide_true]
      exact List.any_eq_true.mpr ⟨x, h, by simp [one]⟩
    · simp only [h, decide_false]
      refine List.any_eq_false.mpr fun y hy => ?_
      simp [one]
      intro z
      exact h (z ▸ hy)
  rw [e]
  by_cases h : x ∈ u
  · simp only [h, decide_true, if_true]
    refine List.map_congr_left (g := id) (fun kv hkv => ?_) |>.trans (List.map_id _)
    obtain ⟨y, _, rfl⟩ := List.mem_map.mp hkv
    exact ite_self _
  · simp only [h, decide_false, if_false, Bool.false_eq_true]
    simp [one]
theorem fold_one : ∀ (s u : List Int), u.Nodup → ∃ w : List Int, (s.map one).foldl (fun acc kv => putT acc kv.1 kv.2) (u.map one) = w.map one ∧ w.Nodup ∧ ∀ k, k ∈ w ↔ k ∈ u ∨ k ∈ s
  | [], u, h => ⟨u, rfl, h, fun k => by simp⟩
  | x :: s, u, h => by
    rw [List.map_cons, List.foldl_cons]
    rw [show putT (u.map one) (one x).1 (one x).2 = _ from put_one u x]
    by_cases c : x ∈ u
    · rw [if_pos c]
      obtain ⟨w, h1, h2, h3⟩ := fold_one s u h
      refine ⟨w, h1, h2, fun k => ?_⟩
      rw [h3, List.mem_cons]
      constructor
      · rintro (z | z)
        · exact .inl z
        · exact .inr (.inr z)
      · rintro (z | z | z)
        · exact .inl z
        · exact .inl (z ▸ c)
        · exact .inr z
    · rw [if_neg c]
      obtain ⟨w, h1, h2, h3⟩ := fold_one s (u ++ [x]) (by
        rw [List.nodup_append]
        refine ⟨h, by simp, fun a ha b hb => ?_⟩
        simp at hb
        subst hb
        exact fun z => c (z ▸ ha))
      refine ⟨w, h1, h2, fun k => ?_⟩
      rw [h3, List.mem_append, List.mem_singleton, List.mem_cons, or_assoc]
theorem pairs_one : ∀ s : List Int, pairsT (s.map fun x => Tr.tup [.int x, .int 1]) = some (s.map one)
  | [] => rfl
  | x :: s => by
    rw [List.map_cons, pairsT, pairs_one s]
    rfl
theorem kinds_of (s : List Int) (b : Int) (h : ∀ k, k ∈ s ↔ k ∈ kinds b) : ∃ w : List Int, gDictOf (.lst (s.map fun x => Tr.tup [.int x, .int 1])) = some (.k (w.map one)) ∧ srtI w = kinds b ∧ w.length ≤ s.length + 0 := by
  obtain ⟨w, h1, h2, h3⟩ := fold_one s [] .nil
  refine ⟨w, ?_, ?_, ?_⟩
  · unfold gDictOf
    dsimp only
    rw [pairs_one]
    show some (Nw.k (foldK (s.map one))) = _
    rw [show foldK (s.map one) = w.map one from h1]
  · have hk : (kinds b).Pairwise (· < ·) := srtU_lt _
    have e1 : srtI w = srtU (kinds b) := srtU_uniq (srtI_sorted w) ((srtI_perm w).nodup_iff.mpr h2) fun k => by
      rw [(srtI_perm w).mem_iff, h3, ← h]
      simp
    have e2 : kinds b = srtU (kinds b) := srtU_uniq (hk.imp fun {a b} h => by omega) (hk.imp fun {a b} h => by omega) fun k => Iff.rfl
    rw [e1, ← e2]
  · have sub : ∀ (l m : List Int), l.Nodup → (∀ k, k ∈ l → k ∈ m) → l.length ≤ m.length := by
      intro l
      induction l with
      | nil => intro m _ _; exact Nat.zero_le _
      | cons x l ih =>
        intro m hn hm
        obtain ⟨n1, n2⟩ := List.nodup_cons.mp hn
        have hx := hm x List.mem_cons_self
        have := ih (m.erase x) n2 fun k hk => (List.mem_erase_of_ne (fun z : k = x => n1 (z ▸ hk))).mpr (hm k (List.mem_cons_of_mem _ hk))
        rw [List.length_erase_of_mem hx] at this
        have := List.length_pos_of_mem hx
        simp
        omega
    exact sub w s h2 fun k hk => ((h3 k).mp hk).elim (fun z => by cases z) id
theorem lefts_get {n k : Nat} {b : Int} (h : k < n) : (lefts n b)[k]? = some (lf ((k : Nat) + 1) b) := by
  unfold lefts
  simp [h, Int.add_comm]
theorem lefts_kinds {b : Int} (h1 : 1 ≤ b) (k : Int) : k ∈ lefts (4 * b.toNat) b ↔ k ∈ kinds b := by
  unfold lefts kinds
  rw [srtU_mem, List.mem_map, List.mem_map]
  constructor
  · rintro ⟨n, hn, rfl⟩
    have hn := List.mem_range.mp hn
    by_cases c : n < 2 * b.toNat
    · exact ⟨n, List.mem_range.mpr c, rfl⟩
    · refine ⟨n - 2 * b.toNat, List.mem_range.mpr (by omega), ?_⟩
      have := per_two (b := b) (by omega) (1 + ((n - 2 * b.toNat : Nat) : Int))
      rw [← this]
      congr 1
      omega
  · rintro ⟨n, hn, rfl⟩
    have hn := List.mem_range.mp hn
    exact ⟨n, List.mem_range.mpr (by omega), rfl⟩
end K86
namespace K86
open PySem PySem.Spec PyProof.Rows L2 TV
def kS (ds : List Int) (b : Int) (x2 x3 x12 x13 x14 x16 : Sl) : En := [.ow (ti ds), .sh (.int b), x2, x3, .no, .no, .no, .no, .no, .no, .no, .no, x12, x13, x14, .no, x16, .no]
theorem fT {α : Type} (l : List α) : l.filter (fun _ => true) = l := List.filter_eq_self.mpr fun _ _ => rfl
theorem kinds_set {ds : List Int} {b : Int} {x3 x12 x13 x14 : Sl} {w L : List Int} {b' : Int} (hL : L.length ≤ 100000) (hd : gDictOf (.lst (L.map fun x => Tr.tup [.int x, .int 1])) = some (.k (w.map one))) (hw : w.length ≤ L.length) (hs : srtI w = kinds b') :
    (bltE (f1 gSrt) (consA true (compE [16] (itKE (bltE (f1 gDictOf) (consA true (compE [16] (itE (varE 2)) (.nm 16) yesT (tupE (consA false (varE 16) (consA false (conE (.int 1)) nilA)))) nilA))) (.nm 16) yesT (varE 16)) nilA)) (kS ds b (.ow (ti L)) x3 x12 x13 x14 .no) = some (.ok (.fr (ti (kinds b'))) (kS ds b (.sh (.lst (ti L))) x3 x12 x13 x14 .no)) := by
  have c1 : compE [16] (itE (varE 2)) (.nm 16) yesT (tupE (consA false (varE 16) (consA false (conE (.int 1)) nilA))) (kS ds b (.ow (ti L)) x3 x12 x13 x14 .no) = some (.ok (.fr (L.map fun x => Tr.tup [.int x, .int 1])) (kS ds b (.sh (.lst (ti L))) x3 x12 x13 x14 .no)) := by
    refine comp_ok (ρ1 := kS ds b (.sh (.lst (ti L))) x3 x12 x13 x14 .no) (ρ2 := kS ds b (.sh (.lst (ti L))) x3 x12 x13 x14 .no) (ts := ti L) (by simp [kS, itE, listT]) ?_ (by simp [restore, kS])
    rw [show kill [16] (kS ds b (.sh (.lst (ti L))) x3 x12 x13 x14 .no) = kS ds b (.sh (.lst (ti L))) x3 x12 x13 x14 .no by simp [kS]]
    have := compL_enc (vs := [16]) (tg := .nm 16) (ct := yesT) (elt := tupE (consA false (varE 16) (consA false (conE (.int 1)) nilA))) (ρ := kS ds b (.sh (.lst (ti L))) x3 x12 x13 x14 .no) Tr.int (fun _ => true) (fun x => Tr.tup [.int x, .int 1]) L [] (by simp [sizeLine_eq]; omega) fun x _ => ⟨kS ds b (.sh (.lst (ti L))) x3 x12 x13 x14 (.sh (.int x)), kS ds b (.sh (.lst (ti L))) x3 x12 x13 x14 (.sh (.int x)), by simp [kS], rfl, by simp [kS], fun _ => ⟨.sh (Tr.tup [.int x, .int 1]), kS ds b (.sh (.lst (ti L))) x3 x12 x13 x14 (.sh (.int x)), kS ds b (.sh (.lst (ti L))) x3 x12 x13 x14 (.sh (.int x)), by simp [kS], by simp [Rs.fz], by simp [kS]⟩⟩
    rw [this, fT]
    rfl
  have c2 : compE [16] (itKE (bltE (f1 gDictOf) (consA true (compE [16] (itE (varE 2)) (.nm 16) yesT (tupE (consA false (varE 16) (consA false (conE (.int 1)) nilA)))) nilA))) (.nm 16) yesT (varE 16) (kS ds b (.ow (ti L)) x3 x12 x13 x14 .no) = some (.ok (.fr (ti w)) (kS ds b (.sh (.lst (ti L))) x3 x12 x13 x14 .no)) := by
    refine comp_ok (ρ1 := kS ds b (.sh (.lst (ti L))) x3 x12 x13 x14 .no) (ρ2 := kS ds b (.sh (.lst (ti L))) x3 x12 x13 x14 .no) (ts := w.map Tr.int) ?_ ?_ (by simp [restore, kS])
    · unfold itKE
      rw [bltE_, consA_, c1]
      simp [hd, Function.comp_def, one, keyT]
    rw [show kill [16] (kS ds b (.sh (.lst (ti L))) x3 x12 x13 x14 .no) = kS ds b (.sh (.lst (ti L))) x3 x12 x13 x14 .no by simp [kS]]
    have := compL_enc (vs := [16]) (tg := .nm 16) (ct := yesT) (elt := varE 16) (ρ := kS ds b (.sh (.lst (ti L))) x3 x12 x13 x14 .no) Tr.int (fun _ => true) Tr.int w [] (by simp [sizeLine_eq]; omega) fun x _ => ⟨kS ds b (.sh (.lst (ti L))) x3 x12 x13 x14 (.sh (.int x)), kS ds b (.sh (.lst (ti L))) x3 x12 x13 x14 (.sh (.int x)), by simp [kS], rfl, by simp [kS], fun _ => ⟨.sh (.int x), kS ds b (.sh (.lst (ti L))) x3 x12 x13 x14 (.sh (.int x)), kS ds b (.sh (.lst (ti L))) x3 x12 x13 x14 (.sh (.int x)), by simp [kS], by simp [Rs.fz], by simp [kS]⟩⟩
    rw [this, fT]
    rfl
  rw [bltE_, consA_, c2]
  simp [gSrt, listT, intsT_map, hs]
def wS (ds L K : List Int) (b p : Int) : En := [.ow (ti ds), .sh (.int b), .sh (.lst (ti L)), .no, .no, .ow (ti K), .sh (.int p), .no, .no, .no, .no, .no, .no, .no, .no, .no, .no, .no]
theorem pw_loop (ds L K : List Int) (b : Int) : ∀ (f : Nat) (n : Nat) (p : Int), 1 ≤ p → b ≤ p * 2 ^ f → p ≤ 512 → b ≤ 200 → f < n → whileL C__law_candles_2 [3, 4, 7, 8, 9, 10, 11, 12, 13, 14, 15, 16, 17] B__law_candles_1 n (wS ds L K b p) = some (.nx (wS ds L K b (pwr f b p)))
  | 0, n + 1, p, h1, h2, h3, h4, hn => by
    refine while_end ?_
    have : ¬ p < b := by simp at h2; omega
    simp (disch := omega) [List.getElem?_cons_zero, C__law_candles_2, wS, this, pwr]
  | f + 1, n + 1, p, h1, h2, h3, h4, hn => by
    by_cases c : p < b
    · have ih := pw_loop ds L K b f n (p * 2) (by omega) (by rw [Int.pow_succ] at h2; rw [Int.mul_assoc, Int.mul_comm 2]; exact h2) (by omega) h4 (by omega)
      have m : mulOk p 2 = true := mulOk_ok2 (by omega) (by omega)
      have e : pwr (f + 1) b p = pwr f b (p * 2) := by rw [pwr, if_pos c]
      rw [e]
      refine while_step (ρ1 := wS ds L K b p) (ρ2 := wS ds L K b (p * 2)) ?_ ?_ ?_
      · simp (disch := omega) [List.getElem?_cons_zero, C__law_candles_2, wS, c]
      · simp (disch := omega) [List.getElem?_cons_zero, B__law_candles_1, wS, gMul_int m]
      · exact ih
    · have e : pwr (f + 1) b p = p := by rw [pwr, if_neg c]
      rw [e]
      refine while_end ?_
      simp (disch := omega) [List.getElem?_cons_zero, C__law_candles_2, wS, c]
def aS (ds L K : List Int) (b p : Int) (x7 x8 x15 x17 : Sl) : En := [.ow (ti ds), .sh (.int b), .sh (.lst (ti L)), .no, .no, .ow (ti K), .sh (.int p), x7, x8, .no, .no, .no, .no, .no, .no, x15, .no, x17]
def badK (b : Int) (s : Int) : List Int := ((List.range (2 * b.toNat)).filter fun k => decide (¬ lf ((k : Nat) + 1) b = lf ((k : Nat) + 1 + s) b)).map fun k => ((k : Nat) : Int)
theorem inner {ds K : List Int} {b p s : Int} {x7 x8 : Sl} (h1 : 1 ≤ b) (h2 : b ≤ 200) (hs1 : 1 ≤ s) (hs2 : s ≤ 2 * b) :
    compE [17] (rng1E (consA false (binE gMul (conE (.int 2)) (varE 1)) nilA)) (.nm 17) (tsb (binE gNe (binE gIx (varE 2) (varE 17)) (binE gIx (varE 2) (binE gAdd (varE 17) (varE 15))))) (varE 17) (aS ds (lefts (4 * b.toNat) b) K b p x7 x8 (.sh (.int s)) .no) = some (.ok (.fr (ti (badK b s))) (aS ds (lefts (4 * b.toNat) b) K b p x7 x8 (.sh (.int s)) .no)) := by
  have m : mulOk 2 b = true := mulOk_ok (by omega) (by omega)
  have r : rng1E (consA false (binE gMul (conE (.int 2)) (varE 1)) nilA) (aS ds (lefts (4 * b.toNat) b) K b p x7 x8 (.sh (.int s)) .no) = some (.ok (TV.upTo 0 (2 * b.toNat)) (aS ds (lefts (4 * b.toNat) b) K b p x7 x8 (.sh (.int s)) .no)) := by
    refine rng1_nat (n := 2 * b.toNat) ?_ (by omega)
    rw [show ((2 * b.toNat : Nat) : Int) = 2 * b by omega]
    simp [List.getElem?_cons_zero, aS, gMul_int m]
  have c := compL_enc (vs := [17]) (tg := .nm 17) (ct := tsb (binE gNe (binE gIx (varE 2) (varE 17)) (binE gIx (varE 2) (binE gAdd (varE 17) (varE 15))))) (elt := varE 17) (ρ := aS ds (lefts (4 * b.toNat) b) K b p x7 x8 (.sh (.int s)) .no) (fun k : Nat => Tr.int (0 + (k : Nat))) (fun k => decide (¬ lf ((k : Nat) + 1) b = lf ((k : Nat) + 1 + s) b)) (fun k => .int ((k : Nat) : Int)) (List.range (2 * b.toNat)) [] (by simp [sizeLine_eq]; omega) fun x hx => by
    have hx := List.mem_range.mp hx
    obtain ⟨t, rfl⟩ : ∃ t : Nat, s = (t : Nat) := ⟨s.toNat, by omega⟩
    have g1 := gIx_lst (ti_get (lefts_get (n := 4 * b.toNat) (k := x) (b := b) (by omega)))
    have g2 := gIx_lst (ti_get (lefts_get (n := 4 * b.toNat) (k := x + t) (b := b) (by omega)))
    rw [show ((x + t : Nat) : Int) + 1 = (x : Int) + 1 + t by omega] at g2
    rw [show ((x + t : Nat) : Int) = (x : Int) + t by omega] at g2
    simp only [ti] at g1 g2
    refine ⟨aS ds (lefts (4 * b.toNat) b) K b p x7 x8 (.sh (.int (t : Nat))) (.sh (.int (x : Nat))), aS ds (lefts (4 * b.toNat) b) K b p x7 x8 (.sh (.int (t : Nat))) (.sh (.int (x : Nat))), by simp [aS], ?_, by simp [aS], fun _ => ⟨.sh (.int (x : Nat)), aS ds (lefts (4 * b.toNat) b) K b p x7 x8 (.sh (.int (t : Nat))) (.sh (.int (x : Nat))), aS ds (lefts (4 * b.toNat) b) K b p x7 x8 (.sh (.int (t : Nat))) (.sh (.int (x : Nat))), by simp [aS], by simp [Rs.fz], by simp [aS]⟩⟩
    simp (disch := omega) [List.getElem?_cons_zero, aS, g1, g2, gNe_int]
  refine comp_ok (ρ2 := aS ds (lefts (4 * b.toNat) b) K b p x7 x8 (.sh (.int s)) .no) r ?_ (by simp [restore, aS])
  rw [show kill [17] (aS ds (lefts (4 * b.toNat) b) K b p x7 x8 (.sh (.int s)) .no) = aS ds (lefts (4 * b.toNat) b) K b p x7 x8 (.sh (.int s)) .no by simp [aS]]
  refine c.trans ?_
  simp [badK, Function.comp_def]
theorem again {ds K : List Int} {b p : Int} {x7 x8 : Sl} (h1 : 1 ≤ b) (h2 : b ≤ 200) : ∃ A : List Int, A[0]? = some (per b) ∧
    compE [15] (rng2E (consA false (conE (.int 1)) (consA false (binE gAdd (binE gMul (conE (.int 2)) (varE 1)) (conE (.int 1))) nilA))) (.nm 15) (tsb (binE gEq (compE [17] (rng1E (consA false (binE gMul (conE (.int 2)) (varE 1)) nilA)) (.nm 17) (tsb (binE gNe (binE gIx (varE 2) (varE 17)) (binE gIx (varE 2) (binE gAdd (varE 17) (varE 15))))) (varE 17)) (lstE nilA))) (varE 15) (aS ds (lefts (4 * b.toNat) b) K b p x7 x8 .no .no) = some (.ok (.fr (ti A)) (aS ds (lefts (4 * b.toNat) b) K b p x7 x8 .no .no)) := by
  have m : mulOk 2 b = true := mulOk_ok (by omega) (by omega)
  have r : rng2E (consA false (conE (.int 1)) (consA false (binE gAdd (binE gMul (conE (.int 2)) (varE 1)) (conE (.int 1))) nilA)) (aS ds (lefts (4 * b.toNat) b) K b p x7 x8 .no .no) = some (.ok ((List.range (2 * b.toNat)).map fun k => .int (1 + (k : Nat))) (aS ds (lefts (4 * b.toNat) b) K b p x7 x8 .no .no)) := by
    refine (rng2_ok (ρ1 := aS ds (lefts (4 * b.toNat) b) K b p x7 x8 .no .no) (i := 1) (j := 2 * b + 1) (by simp [List.getElem?_cons_zero, gMul_int m, aS]) (smallI_ok (by omega) (by omega)) (smallI_ok (by omega) (by omega))).trans ?_
    rw [show (2 * b + 1 - 1).toNat = 2 * b.toNat by omega]
    rfl
  have c := compL_enc (vs := [15]) (tg := .nm 15) (ct := tsb (binE gEq (compE [17] (rng1E (consA false (binE gMul (conE (.int 2)) (varE 1)) nilA)) (.nm 17) (tsb (binE gNe (binE gIx (varE 2) (varE 17)) (binE gIx (varE 2) (binE gAdd (varE 17) (varE 15))))) (varE 17)) (lstE nilA))) (elt := varE 15) (ρ := aS ds (lefts (4 * b.toNat) b) K b p x7 x8 .no .no) (fun k : Nat => Tr.int (1 + (k : Nat))) (fun k => (badK b (1 + (k : Nat))).isEmpty) (fun k => .int (1 + (k : Nat))) (List.range (2 * b.toNat)) [] (by simp [sizeLine_eq]; omega) fun x hx => by
    have hx := List.mem_range.mp hx
    have i := inner (ds := ds) (K := K) (b := b) (p := p) (s := 1 + (x : Nat)) (x7 := x7) (x8 := x8) h1 h2 (by omega) (by omega)
    have g := gEq_nil (badK b (1 + (x : Nat)))
    simp only [ti] at i g
    refine ⟨aS ds (lefts (4 * b.toNat) b) K b p x7 x8 (.sh (.int (1 + (x : Nat)))) .no, aS ds (lefts (4 * b.toNat) b) K b p x7 x8 (.sh (.int (1 + (x : Nat)))) .no, by simp [aS], ?_, by simp [aS], fun _ => ⟨.sh (.int (1 + (x : Nat))), aS ds (lefts (4 * b.toNat) b) K b p x7 x8 (.sh (.int (1 + (x : Nat)))) .no, aS ds (lefts (4 * b.toNat) b) K b p x7 x8 (.sh (.int (1 + (x : Nat)))) .no, by simp [aS], by simp [Rs.fz], by simp [aS]⟩⟩
    simp (disch := omega) [List.getElem?_cons_zero, i, -compE_, g]
  refine ⟨((List.range (2 * b.toNat)).filter fun k => (badK b (1 + (k : Nat))).isEmpty).map fun k => 1 + ((k : Nat) : Int), ?_, ?_⟩
  · have hp := per_le (b := b) (by omega)
    have fh := filter_head (p := fun k => (badK b (1 + (k : Nat))).isEmpty) (k := (per b).toNat - 1) (n := 2 * b.toNat) (by omega) (by
      rw [List.isEmpty_iff]
      unfold badK
      rw [List.map_eq_nil_iff, List.filter_eq_nil_iff]
      intro k _
      have := per_ok (b := b) (by omega) ((k : Nat) + 1)
      rw [show 1 + (((per b).toNat - 1 : Nat) : Int) = per b by omega]
      simp [this]) (fun j hj => by
      have hno := per_no (b := b) (s := 1 + (j : Nat)) (by omega) (by omega) (by omega)
      have hne : badK b (1 + (j : Nat)) ≠ [] := fun z => by
        unfold badK at z
        rw [List.map_eq_nil_iff, List.filter_eq_nil_iff] at z
        refine hno ⟨?_, ?_⟩
        · have := z 0 (List.mem_range.mpr (by omega))
          simp at this
          exact this.symm
        · have := z 1 (List.mem_range.mpr (by omega))
          simp at this
          exact this.symm
      simp [hne])
    rw [List.getElem?_map, fh]
    simp
    omega
  · refine comp_ok (ρ2 := aS ds (lefts (4 * b.toNat) b) K b p x7 x8 .no .no) r ?_ (by simp [restore, aS])
    rw [show kill [15] (aS ds (lefts (4 * b.toNat) b) K b p x7 x8 .no .no) = aS ds (lefts (4 * b.toNat) b) K b p x7 x8 .no .no by simp [aS]]
    refine c.trans ?_
    simp [Function.comp_def]
theorem mirr {ds K : List Int} {b p : Int} {x7 x8 : Sl} (h1 : 1 ≤ b) (h2 : b ≤ 200) :
    compE [17] (rng2E (consA false (conE (.int 1)) (consA false (binE gSub (binE gMul (conE (.int 2)) (varE 1)) (conE (.int 1))) nilA))) (.nm 17) (tsb (binE gNe (binE gEq (binE gIx (varE 2) (binE gSub (varE 17) (conE (.int 1)))) (conE (.int 0))) (binE gEq (binE gIx (varE 2) (binE gSub (binE gSub (binE gMul (conE (.int 2)) (varE 1)) (conE (.int 2))) (varE 17))) (conE (.int 0))))) (varE 17) (aS ds (lefts (4 * b.toNat) b) K b p x7 x8 .no .no) = some (.ok (.fr []) (aS ds (lefts (4 * b.toNat) b) K b p x7 x8 .no .no)) := by
  have m : mulOk 2 b = true := mulOk_ok (by omega) (by omega)
  have r : rng2E (consA false (conE (.int 1)) (consA false (binE gSub (binE gMul (conE (.int 2)) (varE 1)) (conE (.int 1))) nilA)) (aS ds (lefts (4 * b.toNat) b) K b p x7 x8 .no .no) = some (.ok ((List.range (2 * b.toNat - 2)).map fun k => .int (1 + (k : Nat))) (aS ds (lefts (4 * b.toNat) b) K b p x7 x8 .no .no)) := by
    refine (rng2_ok (ρ1 := aS ds (lefts (4 * b.toNat) b) K b p x7 x8 .no .no) (i := 1) (j := 2 * b - 1) (by simp [List.getElem?_cons_zero, gMul_int m, aS]) (smallI_ok (by omega) (by omega)) (smallI_ok (by omega) (by omega))).trans ?_
    rw [show (2 * b - 1 - 1).toNat = 2 * b.toNat - 2 by omega]
    rfl
  have c := compL_enc (vs := [17]) (tg := .nm 17) (ct := tsb (binE gNe (binE gEq (binE gIx (varE 2) (binE gSub (varE 17) (conE (.int 1)))) (conE (.int 0))) (binE gEq (binE gIx (varE 2) (binE gSub (binE gSub (binE gMul (conE (.int 2)) (varE 1)) (conE (.int 2))) (varE 17))) (conE (.int 0))))) (elt := varE 17) (ρ := aS ds (lefts (4 * b.toNat) b) K b p x7 x8 .no .no) (fun k : Nat => Tr.int (1 + (k : Nat))) (fun k => false) (fun k => .non) (List.range (2 * b.toNat - 2)) [] (by simp [sizeLine_eq]; omega) fun x hx => by
    have hx := List.mem_range.mp hx
    have g1 := gIx_lst (ti_get (lefts_get (n := 4 * b.toNat) (k := x) (b := b) (by omega)))
    have g2 := gIx_lst (ti_get (lefts_get (n := 4 * b.toNat) (k := 2 * b.toNat - 3 - x) (b := b) (by omega)))
    rw [show ((2 * b.toNat - 3 - x : Nat) : Int) + 1 = 2 * b - 1 - ((x : Int) + 1) by omega, mirror (by omega), show ((2 * b.toNat - 3 - x : Nat) : Int) = 2 * b - 2 - (1 + x) by omega] at g2
    rw [show ((x : Nat) : Int) = 1 + (x : Int) - 1 by omega] at g1
    rw [show 1 + (x : Int) - 1 + 1 = x + 1 by omega] at g1
    simp only [ti] at g1 g2
    refine ⟨aS ds (lefts (4 * b.toNat) b) K b p x7 x8 .no (.sh (.int (1 + (x : Nat)))), aS ds (lefts (4 * b.toNat) b) K b p x7 x8 .no (.sh (.int (1 + (x : Nat)))), by simp [aS], ?_, by simp [aS], fun z => by cases z⟩
    simp (disch := omega) [List.getElem?_cons_zero, aS, g1, g2, gEq_int, gMul_int m]
  refine comp_ok (ρ2 := aS ds (lefts (4 * b.toNat) b) K b p x7 x8 .no .no) r ?_ (by simp [restore, aS])
  rw [show kill [17] (aS ds (lefts (4 * b.toNat) b) K b p x7 x8 .no .no) = aS ds (lefts (4 * b.toNat) b) K b p x7 x8 .no .no by simp [aS]]
  refine c.trans ?_
  have fe : ∀ l : List Nat, l.filter (fun _ => false) = [] := fun l => List.filter_eq_nil_iff.mpr fun _ _ z => by cases z
  rw [fe]
  rfl
end K86
namespace K86
open PySem PySem.Spec PyProof.Rows L2 TV
theorem two (a b : Int) : m__law_alike [.sh (.lst [.int a, .int b]), .sh (.lst [.int a, .int b])] = some (.rt (.s (.bl true)) [.no, .no]) := alike_ints [a, b] (by simp)
theorem seq_rt {f g : Sv} {ρ ρ1 : En} {r : Rs} (h : f ρ = some (.rt r ρ1)) : seqS f g ρ = some (.rt r ρ1) := by rw [seqS_, h]
theorem cand_loop (ds : List Int) (b : Int) (hd : ds.length ≤ 100000) (h1 : 1 ≤ b) (h2 : b ≤ 200) : forL [0] (.nm 4) [4, 5, 6, 7, 8, 9, 10, 11, 15, 16, 17] B__law_candles_0 ((List.range (4 * b.toNat)).map fun k => .int (1 + (k : Nat))) (cE ds b 0) = some (.nx (cE ds b (4 * b.toNat))) := by
  obtain ⟨ρ', e, h⟩ := forL_inv (fun j ρ => ρ = cE ds b j) (P := [0]) (tg := .nm 4) (ks := [4, 5, 6, 7, 8, 9, 10, 11, 15, 16, 17]) (body := B__law_candles_0) ((List.range (4 * b.toNat)).map fun k => .int (1 + (k : Nat))) 0 (cE ds b 0) rfl fun j t ρ hj h => by
    have hj2 := (List.getElem?_eq_some_iff.mp hj).1
    simp at hj2
    have ht : t = .int ((j : Int) + 1) := by
      rw [List.getElem?_map, List.getElem?_range hj2] at hj
      simp at hj
      rw [← hj, Int.add_comm]
    subst ht
    rw [Nat.zero_add] at h ⊢
    subst h
    obtain ⟨ρ2, e1, e2⟩ := cand_step ds b j hd h1 h2 (by omega)
    exact ⟨_, ρ2, by simp [cE], .inl e1, e2⟩
  rw [e, h]
  simp
theorem candles_ok (ds : List Int) (hd : ds.length ≤ 100000) : ∃ ds' : List Int, ds'.length ≤ 100000 ∧ m__law_candles [.ow (ti ds)] = some (.rt (.s (.bl true)) [.ow (ti ds')]) := by
  obtain ⟨v1, ds1, a1, a2, hd1, t1⟩ := draw_ok ds hd 3 (by omega)
  obtain ⟨M, hM1, hM2, hM⟩ : ∃ M : Int, 1 ≤ M ∧ M ≤ 200 ∧ gIx (.lst [.int 8, .int 40, .int 200]) (.int v1) = some (.s (.int M)) := by
    have : v1 = 0 ∨ v1 = 1 ∨ v1 = 2 := by omega
    rcases this with rfl | rfl | rfl
    · exact ⟨8, by omega, by omega, rfl⟩
    · exact ⟨40, by omega, by omega, rfl⟩
    · exact ⟨200, by omega, by omega, rfl⟩
  obtain ⟨v2, ds2, b1, b2, hd2, t2⟩ := draw_ok ds1 hd1 M (by omega)
  obtain ⟨v3, ds3, c1, c2, hd3, t3⟩ := draw_ok ds2 hd2 997 (by omega)
  change m__law_take _ = _ at t1 t2 t3
  generalize hb : v2 + 1 = b
  have h1 : 1 ≤ b := by omega
  have h2 : b ≤ 200 := by omega
  have hb' : 1 + v2 = b := by omega
  have hL : (lefts (4 * b.toNat) b).length = 4 * b.toNat := by simp [lefts]
  obtain ⟨w, w1, w2, w3⟩ := kinds_of (lefts (4 * b.toNat) b) b (lefts_kinds h1)
  obtain ⟨A, hA, hA2⟩ := again (ds := ds2) (K := kinds b) (b := b) (p := pwr 8 b 1) (x7 := .sh (.int (per b))) (x8 := .no) h1 h2
  have hmi := mirr (ds := ds2) (K := kinds b) (b := b) (p := pwr 8 b 1) (x7 := .sh (.int (per b))) (x8 := .ow (ti A)) h1 h2
  let far : Int := 1000000000000000000000000000000 + v3
  have hf0 : far = 1000000000000000000000000000000 + v3 := rfl
  have hf1 : 0 ≤ far := by omega
  have hf2 : far ≤ 2000000000000000000000000000000 := by omega
  clear_value far
  have hr : m__law_candles = runF 1 18 [0] _ := rfl
  let Ef : En := [.ow (ti ds3), .sh (.int b), .sh (.lst (ti (lefts (4 * b.toNat) b))), .no, .no, .ow (ti (kinds b)), .sh (.int (pwr 8 b 1)), .sh (.int (per b)), .ow (ti A), .sh (.int far), .sh (.int (tri far)), .no, .no, .no, .no, .no, .no, .no]
  refine ⟨ds3, hd3, run_rt (ρ := Ef) (r := .sh (.bl true)) (v := .s (.bl true)) (ρ' := Ef) rfl (by simp [inP, List.range_succ]) (by simp) ?_ (by simp [exitV]) |>.trans (by simp [outsOf, Ef, List.range_succ])⟩
  have k0 : bx 0 b = 0 := bx_zero (by omega)
  have k1 : lf 0 b = 0 := by unfold lf; rw [k0, tri_zero]; simp
  have m4 : mulOk 4 b = true := mulOk_ok (by omega) (by omega)
  have m2 : mulOk 2 b = true := mulOk_ok (by omega) (by omega)
  simp only [ti] at t1 t2 t3
  -- b
  refine seq_nx (ρ1 := [.ow (ti ds2), .sh (.int b), .no, .no, .no, .no, .no, .no, .no, .no, .no, .no, .no, .no, .no, .no, .no, .no]) (by
    simp (disch := omega) [List.getElem?_cons_zero, t1, hM, t2, hb']) ?_
  refine seq_nx (ρ1 := [.ow (ti ds2), .sh (.int b), .no, .no, .no, .no, .no, .no, .no, .no, .no, .sh (.int 0), .sh (.int 0), .sh (.int 0), .sh (.int 0), .no, .no, .no]) (by
    simp (disch := omega) [List.getElem?_cons_zero]) ?_
  refine seq_nx (ρ1 := [.ow (ti ds2), .sh (.int b), .ow [], .no, .no, .no, .no, .no, .no, .no, .no, .sh (.int 0), .sh (.int 0), .sh (.int 0), .sh (.int 0), .no, .no, .no]) (by
    simp (disch := omega) [List.getElem?_cons_zero]) ?_
  refine seq_nx (ρ1 := [.ow (ti ds2), .sh (.int b), .ow [], .sh (.int (4 * b)), .no, .no, .no, .no, .no, .no, .no, .sh (.int 0), .sh (.int 0), .sh (.int 0), .sh (.int 0), .no, .no, .no]) (by
    simp (disch := omega) [List.getElem?_cons_zero, gMul_int m4]) ?_
  -- the loop
  refine seq_nx (ρ1 := cE ds2 b (4 * b.toNat)) (by
    refine for_ok (ρ1 := [.ow (ti ds2), .sh (.int b), .ow [], .sh (.int (4 * b)), .no, .no, .no, .no, .no, .no, .no, .sh (.int 0), .sh (.int 0), .sh (.int 0), .sh (.int 0), .no, .no, .no]) (ts := (List.range (4 * b.toNat)).map fun k => .int (1 + (k : Nat))) ?_ ?_
    · refine (rng2_ok (ρ1 := [.ow (ti ds2), .sh (.int b), .ow [], .sh (.int (4 * b)), .no, .no, .no, .no, .no, .no, .no, .sh (.int 0), .sh (.int 0), .sh (.int 0), .sh (.int 0), .no, .no, .no]) (i := 1) (j := 4 * b + 1) (by simp [List.getElem?_cons_zero]) (smallI_ok (by omega) (by omega)) (smallI_ok (by omega) (by omega))).trans ?_
      rw [show (4 * b + 1 - 1).toNat = 4 * b.toNat by omega]
      rfl
    · rw [show kill [4, 5, 6, 7, 8, 9, 10, 11, 15, 16, 17] ([.ow (ti ds2), .sh (.int b), .ow [], .sh (.int (4 * b)), .no, .no, .no, .no, .no, .no, .no, .sh (.int 0), .sh (.int 0), .sh (.int 0), .sh (.int 0), .no, .no, .no] : En) = cE ds2 b 0 by simp [cE, k0, k1, lefts, cl]]
      exact cand_loop ds2 b hd2 h1 h2) ?_
  -- kinds
  have hk := kinds_set (ds := ds2) (b := b) (x3 := .sh (.int (4 * b))) (x12 := .sh (.int (lf (4 * b.toNat : Nat) b))) (x13 := .sh (.int (bx (4 * b.toNat : Nat) b))) (x14 := .sh (.int (cl (4 * b.toNat) b : Nat))) (by omega) w1 (by omega) w2
  refine seq_nx (ρ1 := (kS ds2 b (.sh (.lst (ti (lefts (4 * b.toNat) b)))) (.sh (.int (4 * b))) (.sh (.int (lf (4 * b.toNat : Nat) b))) (.sh (.int (bx (4 * b.toNat : Nat) b))) (.sh (.int (cl (4 * b.toNat) b : Nat))) .no).set 5 (.ow (ti (kinds b)))) (set_ok hk (by simp) (by simp [kS]) (by simp [kS])) ?_
  refine seq_nx (ρ1 := (kS ds2 b (.sh (.lst (ti (lefts (4 * b.toNat) b)))) (.sh (.int (4 * b))) (.sh (.int (lf (4 * b.toNat : Nat) b))) (.sh (.int (bx (4 * b.toNat : Nat) b))) (.sh (.int (cl (4 * b.toNat) b : Nat))) .no).set 5 (.ow (ti (kinds b))) |>.set 6 (.sh (.int 1))) (by simp [kS]) ?_
  refine seq_nx (ρ1 := wS ds2 (lefts (4 * b.toNat) b) (kinds b) b (pwr 8 b 1)) (by
    rw [whileS_, show kill [3, 4, 7, 8, 9, 10, 11, 12, 13, 14, 15, 16, 17] ((kS ds2 b (.sh (.lst (ti (lefts (4 * b.toNat) b)))) (.sh (.int (4 * b))) (.sh (.int (lf (4 * b.toNat : Nat) b))) (.sh (.int (bx (4 * b.toNat : Nat) b))) (.sh (.int (cl (4 * b.toNat) b : Nat))) .no).set 5 (.ow (ti (kinds b))) |>.set 6 (.sh (.int 1))) = wS ds2 (lefts (4 * b.toNat) b) (kinds b) b 1 by simp [kS, wS]]
    exact pw_loop ds2 _ _ b 8 1000000 1 (by omega) (by omega) (by omega) h2 (by omega)) ?_
  -- their number
  have hkl := kinds_len h1 h2
  have t3' := told3 h1 h2
  have hks : (kinds b).length ≤ 100000 := by
    have := (len_lt (kinds b) 0 b (srtU_lt _) (fun x hx => by
      unfold kinds at hx
      rw [srtU_mem] at hx
      obtain ⟨n, _, rfl⟩ := List.mem_map.mp hx
      exact ⟨lf_nn (by omega), lf_lt (by omega)⟩) (by omega)).1
    omega
  have al := alike_tup (kinds b) hks
  simp only [ti] at t3' al
  refine seq_nx (ρ1 := wS ds2 (lefts (4 * b.toNat) b) (kinds b) b (pwr 8 b 1)) (if_skip (by
    simp (disch := omega) [List.getElem?_cons_zero, wS, t3', al, gTupleOf, seqT, gEq_int, hkl])) ?_
  -- the period
  have dv : divOk 2 = true := rfl
  have hper : (if b / 2 * 2 < b then b else 2 * b) = per b := rfl
  have mm : mulOk (b / 2) 2 = true := mulOk_ok2 (by omega) (by omega)
  refine seq_nx (ρ1 := aS ds2 (lefts (4 * b.toNat) b) (kinds b) b (pwr 8 b 1) (.sh (.int (per b))) .no .no .no) (by
    by_cases c : b / 2 * 2 < b
    · rw [if_pos c] at hper
      simp (disch := omega) [List.getElem?_cons_zero, wS, aS, gDiv_int dv, gMul_int mm, gMul_int m2, c, ← hper]
    · rw [if_neg c] at hper
      simp (disch := omega) [List.getElem?_cons_zero, wS, aS, gDiv_int dv, gMul_int mm, gMul_int m2, c, ← hper]) ?_
  refine seq_nx (ρ1 := aS ds2 (lefts (4 * b.toNat) b) (kinds b) b (pwr 8 b 1) (.sh (.int (per b))) (.ow (ti A)) .no .no) (set_ok hA2 (by simp) (by simp [aS]) (by simp [aS])) ?_
  have ga := gIx_lst (ti_get hA)
  simp only [ti] at ga hmi
  refine seq_nx (ρ1 := aS ds2 (lefts (4 * b.toNat) b) (kinds b) b (pwr 8 b 1) (.sh (.int (per b))) (.ow (ti A)) .no .no) (if_skip (by
    have ix : (varE 8) (aS ds2 (lefts (4 * b.toNat) b) (kinds b) b (pwr 8 b 1) (.sh (.int (per b))) (.ow (ti A)) .no .no) = some (.ok (.sl 8) (aS ds2 (lefts (4 * b.toNat) b) (kinds b) b (pwr 8 b 1) (.sh (.int (per b))) (.ow (ti A)) .no .no)) := by simp [aS]
    have ix2 : (varE 7) (aS ds2 (lefts (4 * b.toNat) b) (kinds b) b (pwr 8 b 1) (.sh (.int (per b))) (.ow (ti A)) .no .no) = some (.ok (.sh (.int (per b))) (aS ds2 (lefts (4 * b.toNat) b) (kinds b) b (pwr 8 b 1) (.sh (.int (per b))) (.ow (ti A)) .no .no)) := by simp [aS]
    have gn : gNe (.lst []) (.lst []) = some (.s (.bl false)) := rfl
    have ga' : gIx (.lst (A.map Tr.int)) (.int 0) = some (.s (.int (per b))) := ga
    have tr8 : Rs.tr (aS ds2 (lefts (4 * b.toNat) b) (kinds b) b (pwr 8 b 1) (.sh (.int (per b))) (.ow (ti A)) .no .no) (.sl 8) = some (.lst (A.map Tr.int)) := by simp [aS]
    simp (disch := omega) [List.getElem?_cons_zero, -compE_, hmi, ix, ix2, tr8, ga', gNe_int, gn, -varE_])) ?_
  have gp : gPow (.int 10) (.int 30) = some (.s (.int 1000000000000000000000000000000)) := rfl
  refine seq_nx (ρ1 := [.ow (ti ds3), .sh (.int b), .sh (.lst (ti (lefts (4 * b.toNat) b))), .no, .no, .ow (ti (kinds b)), .sh (.int (pwr 8 b 1)), .sh (.int (per b)), .ow (ti A), .sh (.int far), .no, .no, .no, .no, .no, .no, .no, .no]) (by
    simp (disch := omega) [List.getElem?_cons_zero, aS, gp, t3, hf0]) ?_
  have mf : mulOk far (far + 1) = true := mulOk_big (by omega) (by omega)
  have htri : far * (far + 1) / 2 = tri far := rfl
  refine seq_nx (ρ1 := Ef) (by
    simp (disch := omega) [List.getElem?_cons_zero, gMul_int mf, gDiv_int dv, htri, Ef]) ?_
  have u0 := told0 hf1 hf2 h1 h2
  have u1 := told1 hf1 hf2 h1 h2
  have db : divOk b = true := divOk_ok (by omega) (by omega)
  have hbx : (tri far + b - 1) / b = bx far b := rfl
  have hpm := per_mod (b := b) (n := far) (by omega) (by omega)
  have hq := Int.emod_nonneg (far - 1) (by omega : 2 * b ≠ 0)
  have hq2 := Int.emod_lt_of_pos (far - 1) (by omega : 0 < 2 * b)
  obtain ⟨q, hq3⟩ : ∃ q : Nat, (far - 1) % (2 * b) = (q : Nat) := ⟨((far - 1) % (2 * b)).toNat, by omega⟩
  have gl := gIx_lst (ti_get (lefts_get (n := 4 * b.toNat) (k := q) (b := b) (by omega)))
  rw [← hq3, hpm] at gl
  have tw := two (bx far b) (lf far b)
  have pm : posI (2 * b) = true := posI_ok (by omega)
  simp only [ti] at gl
  simp (disch := omega) [List.getElem?_cons_zero, Ef, u0, u1, gDiv_int db, hbx, gMul_int m2, gMod_int, gl, tw]
end K86
namespace K86
open PySem PySem.Spec PyProof.Rows L2 TV
def dS2 : Sv := (setS [0] 1 (lstE (consA false (tupE nilA) nilA)))
def dS3 : Sv := (forS [0] (rng1E (consA false (varE 8) nilA)) (.nm 2) [2, 3, 4, 5, 6, 7, 10, 11, 12, 13, 14, 15, 16]
 B__law_days_1)
def dS4 : Sv := (setS [0] 3 (bltE (f1 gLen) (consA true (compE [11] (itE (varE 1)) (.nm 11) (tsb (binE gLt (bltE (f1 gLen) (consA true (bltE (f1 gDictOf) (consA true (compE [14] (itE (varE 11)) (.nm 14) yesT (tupE (consA false (varE 14) (consA false (conE (.int 1)) nilA)))) nilA)) nilA)) (varE 8))) (varE 11)) nilA)))
def dS5 : Sv := (setS [0] 4 (ifE (tsb (binE gLt (varE 8) (conE (.int 3)))) (bltE (f1 gSum) (consA true (compE [11] (itE (varE 1)) (.nm 11) (tsb (binE gLt (varE 8) (conE (.int 3)))) (bltE (f1 gLen) (consA true (compE [15] (rng1E (consA false (varE 8) nilA)) (.nm 15) (tsb (binE gNe (compE [16] (rng1E (consA false (varE 15) nilA)) (.nm 16) (tsb (binE gEq (binE gIx (varE 11) (varE 16)) (binE gIx (varE 11) (varE 15)))) (varE 16)) (lstE nilA))) (varE 15)) nilA))) nilA)) (conE .non)))
def dS6 : Sv := (ifS (orT (notT (tst (callE m__law_alike (consA false (callE m__law_told (consA false (conE (.int 5)) (consA false (varE 8) (consA false (varE 9) nilA)))) (consA false (callE m__law_made (consA false (varE 3) (consA false (bltE (f1 gLen) (consA true (varE 1) nilA)) nilA))) nilA))))) (andT (tsb (binE (gIsO true) (varE 4) (conE .non))) (tsb (binE gNe (callE m__law_told (consA false (conE (.int 6)) (consA false (varE 8) (consA false (varE 9) nilA)))) (callE m__law_made (consA false (varE 4) (consA false (bltE (f1 gLen) (consA true (varE 1) nilA)) nilA))))))) (retS (conE (.bl false))) skipS)
def dA : Sv := seqS dS2 (seqS dS3 (seqS dS4 (seqS dS5 dS6)))
def dE (X : Sl) (k d : Int) : En := [X, .no, .no, .no, .no, .no, .no, .no, .sh (.int k), .sh (.int d), .no, .no, .no, .no, .no, .no, .no]
def dN (X : Sl) : En := [X, .no, .no, .no, .no, .no, .no, .no, .no, .no, .no, .no, .no, .no, .no, .no, .no]
def dR (X : Sl) (k d : Int) : Option En := match dA (dE X k d) with
  | some (.nx ρ) => some (kill [1, 2, 3, 4, 5, 6, 7, 8, 9, 10, 11, 12, 13, 14, 15, 16] ρ)
  | _ => none
theorem dR11 : (fun X => dR X 1 1) = fun X => some (dN X) := by kernel_rfl
theorem dR12 : (fun X => dR X 1 2) = fun X => some (dN X) := by kernel_rfl
theorem dR13 : (fun X => dR X 1 3) = fun X => some (dN X) := by kernel_rfl
theorem dR14 : (fun X => dR X 1 4) = fun X => some (dN X) := by kernel_rfl
theorem dR15 : (fun X => dR X 1 5) = fun X => some (dN X) := by kernel_rfl
theorem dR21 : (fun X => dR X 2 1) = fun X => some (dN X) := by kernel_rfl
theorem dR22 : (fun X => dR X 2 2) = fun X => some (dN X) := by kernel_rfl
theorem dR23 : (fun X => dR X 2 3) = fun X => some (dN X) := by kernel_rfl
theorem dR24 : (fun X => dR X 2 4) = fun X => some (dN X) := by kernel_rfl
theorem dR25 : (fun X => dR X 2 5) = fun X => some (dN X) := by kernel_rfl
theorem dR31 : (fun X => dR X 3 1) = fun X => some (dN X) := by kernel_rfl
theorem dR32 : (fun X => dR X 3 2) = fun X => some (dN X) := by kernel_rfl
theorem dR33 : (fun X => dR X 3 3) = fun X => some (dN X) := by kernel_rfl
theorem dR34 : (fun X => dR X 3 4) = fun X => some (dN X) := by kernel_rfl
theorem dR35 : (fun X => dR X 3 5) = fun X => some (dN X) := by kernel_rfl
theorem dR41 : (fun X => dR X 4 1) = fun X => some (dN X) := by kernel_rfl
theorem dR42 : (fun X => dR X 4 2) = fun X => some (dN X) := by kernel_rfl
theorem dR43 : (fun X => dR X 4 3) = fun X => some (dN X) := by kernel_rfl
theorem dR44 : (fun X => dR X 4 4) = fun X => some (dN X) := by kernel_rfl
theorem dR45 : (fun X => dR X 4 5) = fun X => some (dN X) := by kernel_rfl
def dT : Sv := (seqS (parS [0] [8, 9] (consK (binE gAdd (conE (.int 2)) (callE m__law_take (consA true (varE 0) (consA false (conE (.int 30)) nilA)))) (consK (binE gAdd (conE (.int 1)) (callE m__law_take (consA true (varE 0) (consA false (conE (.int 100)) nilA)))) nilA)))
 (seqS (setS [0] 5 (tupE (consA false (conE (.int 1)) (consA false (conE (.int 1)) nilA))))
 (seqS (forS [0] (rng1E (consA false (varE 8) nilA)) (.nm 2) [1, 2, 3, 4, 6, 7, 10, 11, 12, 13, 14, 15, 16]
 B__law_days_2)
 (seqS (setS [0] 6 (callE m__law_plus (consA false (tupE (consA false (conE (.int 1)) (consA false (conE (.int 1)) nilA))) (consA false (tupE (consA false (binE gSub (conE (.int 0)) (binE gIx (varE 5) (conE (.int 0)))) (consA false (binE gIx (varE 5) (conE (.int 1))) nilA))) nilA))))
 (seqS (ifS (notT (tst (callE m__law_alike (consA false (lstE (consA false (callE m__law_told (consA false (conE (.int 5)) (consA false (varE 8) (consA false (varE 9) nilA)))) (consA false (callE m__law_told (consA false (conE (.int 6)) (consA false (varE 8) (consA false (varE 9) nilA)))) nilA))) (consA false (lstE (consA false (varE 6) (consA false (callE m__law_made (consA false (binE gMul (varE 8) (binE gSub (varE 8) (conE (.int 1)))) (consA false (binE gMul (conE (.int 2)) (varE 9)) nilA))) nilA))) nilA))))) (retS (conE (.bl false))) skipS)
 (seqS (parS [0] [12, 13] (consK (callE m__law_told (consA false (conE (.int 5)) (consA false (binE gAdd (varE 8) (conE (.int 1))) (consA false (varE 9) nilA)))) (consK (callE m__law_told (consA false (conE (.int 5)) (consA false (varE 8) (consA false (binE gAdd (varE 9) (conE (.int 1))) nilA)))) nilA)))
 (seqS (ifS (orT (andT (notT (tst (callE m__law_less (consA false (varE 6) (consA false (varE 12) nilA))))) (tsb (binE gNe (varE 6) (tupE (consA false (conE (.int 1)) (consA false (conE (.int 1)) nilA)))))) (tst (callE m__law_less (consA false (varE 6) (consA false (varE 13) nilA))))) (retS (conE (.bl false))) skipS)
 (seqS (setS [0] 7 (callE m__law_told (consA false (conE (.int 7)) (consA false (conE (.int 0)) (consA false (varE 9) nilA)))))
 (seqS (ifS (orT (notT (tst (isiE .int (varE 7)))) (orT (tsb (binE gLt (varE 7) (conE (.int 1)))) (orT (andT (tsb (binE gGt (varE 9) (conE (.int 1)))) (tsb (binE gLt (varE 7) (conE (.int 2))))) (tsb (binE gLt (callE m__law_told (consA false (conE (.int 7)) (consA false (conE (.int 0)) (consA false (binE gAdd (varE 9) (conE (.int 1))) nilA)))) (varE 7)))))) (retS (conE (.bl false))) skipS)
 (seqS (ifS (orT (andT (tsb (binE gGt (varE 7) (conE (.int 1)))) (notT (tst (callE m__law_less (consA false (callE m__law_told (consA false (conE (.int 5)) (consA false (binE gSub (varE 7) (conE (.int 1))) (consA false (varE 9) nilA)))) (consA false (tupE (consA false (conE (.int 1)) (consA false (conE (.int 2)) nilA))) nilA)))))) (tst (callE m__law_less (consA false (callE m__law_told (consA false (conE (.int 5)) (consA false (varE 7) (consA false (varE 9) nilA)))) (consA false (tupE (consA false (conE (.int 1)) (consA false (conE (.int 2)) nilA))) nilA))))) (retS (conE (.bl false))) skipS)
 (retS (andE (binE gEq (callE m__law_told (consA false (conE (.int 7)) (consA false (conE (.int 0)) (consA false (conE (.int 365)) nilA)))) (conE (.int 23))) (binE gEq (callE m__law_told (consA false (conE (.int 7)) (consA false (conE (.int 0)) (consA false (conE (.int 2)) nilA)))) (conE (.int 2)))))))))))))))
def dS1 : Sv := (parS [0] [8, 9] (consK (binE gAdd (conE (.int 1)) (callE m__law_take (consA true (varE 0) (consA false (conE (.int 4)) nilA)))) (consK (binE gAdd (conE (.int 1)) (callE m__law_take (consA true (varE 0) (consA false (conE (.int 5)) nilA)))) nilA)))
end K86
namespace K86
open PySem PySem.Spec PyProof.Rows L2 TV
theorem exCons {α : Type} {l : List α} {n : Nat} (h : l.length = n + 1) : ∃ a t, l = a :: t ∧ t.length = n := by
  cases l with
  | nil => simp at h
  | cons a t => exact ⟨a, t, rfl, by simpa using h⟩
theorem seq_as (f g h : Sv) : seqS (seqS f g) h = seqS f (seqS g h) := by
  funext ρ
  rw [seqS_, seqS_, seqS_]
  cases f ρ with
  | none => rfl
  | some o => cases o <;> rfl
theorem days_eq : m__law_days = runF 1 17 [0] (seqS dS1 (seqS dA dT)) := by
  have e : seqS dA dT = seqS dS2 (seqS dS3 (seqS dS4 (seqS dS5 (seqS dS6 dT)))) := by
    unfold dA
    rw [seq_as, seq_as, seq_as, seq_as]
  rw [e]
  rfl
theorem dA_ok (X : Sl) (k d : Int) (h1 : 1 ≤ k) (h2 : k ≤ 4) (h3 : 1 ≤ d) (h4 : d ≤ 5) : ∃ a1 a2 a3 a4 a5 a6 a7 a8 a9 a10 a11 a12 a13 a14 a15 a16 : Sl, dA (dE X k d) = some (.nx [X, a1, a2, a3, a4, a5, a6, a7, a8, a9, a10, a11, a12, a13, a14, a15, a16]) := by
  have h : dR X k d = some (dN X) := by
    have a : k = 1 ∨ k = 2 ∨ k = 3 ∨ k = 4 := by omega
    have b : d = 1 ∨ d = 2 ∨ d = 3 ∨ d = 4 ∨ d = 5 := by omega
    rcases a with rfl | rfl | rfl | rfl <;> rcases b with rfl | rfl | rfl | rfl | rfl
    · exact congrFun dR11 X
    · exact congrFun dR12 X
    · exact congrFun dR13 X
    · exact congrFun dR14 X
    · exact congrFun dR15 X
    · exact congrFun dR21 X
    · exact congrFun dR22 X
    · exact congrFun dR23 X
    · exact congrFun dR24 X
    · exact congrFun dR25 X
    · exact congrFun dR31 X
    · exact congrFun dR32 X
    · exact congrFun dR33 X
    · exact congrFun dR34 X
    · exact congrFun dR35 X
    · exact congrFun dR41 X
    · exact congrFun dR42 X
    · exact congrFun dR43 X
    · exact congrFun dR44 X
    · exact congrFun dR45 X
  unfold dR at h
  split at h
  · rename_i ρ e
    have h := Option.some.inj h
    rw [e]
    have hl := congrArg List.length h
    simp [dN] at hl
    obtain ⟨a0, r0, rfl, l0⟩ := exCons hl
    obtain ⟨a1, r1, rfl, l1⟩ := exCons l0
    obtain ⟨a2, r2, rfl, l2⟩ := exCons l1
    obtain ⟨a3, r3, rfl, l3⟩ := exCons l2
    obtain ⟨a4, r4, rfl, l4⟩ := exCons l3
    obtain ⟨a5, r5, rfl, l5⟩ := exCons l4
    obtain ⟨a6, r6, rfl, l6⟩ := exCons l5
    obtain ⟨a7, r7, rfl, l7⟩ := exCons l6
    obtain ⟨a8, r8, rfl, l8⟩ := exCons l7
    obtain ⟨a9, r9, rfl, l9⟩ := exCons l8
    obtain ⟨a10, r10, rfl, l10⟩ := exCons l9
    obtain ⟨a11, r11, rfl, l11⟩ := exCons l10
    obtain ⟨a12, r12, rfl, l12⟩ := exCons l11
    obtain ⟨a13, r13, rfl, l13⟩ := exCons l12
    obtain ⟨a14, r14, rfl, l14⟩ := exCons l13
    obtain ⟨a15, r15, rfl, l15⟩ := exCons l14
    obtain ⟨a16, r16, rfl, l16⟩ := exCons l15
    have := List.eq_nil_of_length_eq_zero l16
    subst this
    simp only [dN, kill_cons, kill_nil, List.set_cons_succ, List.set_cons_zero, List.cons.injEq, and_true] at h
    subst h
    exact ⟨a1, a2, a3, a4, a5, a6, a7, a8, a9, a10, a11, a12, a13, a14, a15, a16, rfl⟩
  · cases h
end K86
namespace K86
open PySem PySem.Spec PyProof.Rows L2 TV
def big (i : Int) : Prop := i.natAbs < 2 ^ 250
theorem log_big {i : Int} (h : big i) : i.natAbs.log2 < 250 := by
  by_cases z : i.natAbs = 0
  · rw [z]; decide
  · exact (Nat.log2_lt z).mpr h
theorem mulOk_vast {i j : Int} (h1 : big i) (h2 : big j) : mulOk i j = true := by
  have a := log_big h1
  have b := log_big h2
  exact mulOk_iff.mpr (.inr (.inr (by omega)))
theorem divOk_vast {j : Int} (h : 0 < j) (h1 : big j) : divOk j = true := by
  have a := log_big h1
  exact divOk_iff.mpr ⟨h, .inr (by omega)⟩
def gc (a b : Int) : Int := ((Nat.gcd a.natAbs b.natAbs : Nat) : Int)
theorem gc_pos {a b : Int} (hb : 0 < b) : 0 < gc a b := by
  have := Nat.gcd_pos_of_pos_right a.natAbs (show 0 < b.natAbs by omega)
  unfold gc
  omega
theorem gc_big {a b : Int} (hb : 0 < b) (h : big b) : big (gc a b) := by
  have := Nat.le_of_dvd (by omega) (Nat.gcd_dvd_right a.natAbs b.natAbs)
  unfold big gc at *
  omega
def rd (a b : Int) : Int × Int := (a / gc a b, b / gc a b)
def enc (p : Int × Int) : Tr := .tup [.int p.1, .int p.2]
theorem gc_l (a b : Int) : a = gc a b * (a / gc a b) := by
  have : gc a b ∣ a := Int.gcd_dvd_left ..
  exact (Int.mul_ediv_cancel' this).symm
theorem gc_r (a b : Int) : b = gc a b * (b / gc a b) := by
  have : gc a b ∣ b := Int.gcd_dvd_right ..
  exact (Int.mul_ediv_cancel' this).symm
theorem rd_pos {a b : Int} (hb : 0 < b) : 0 < (rd a b).2 := by
  have g := gc_pos (a := a) hb
  have e := gc_r a b
  rcases Int.lt_or_le 0 (b / gc a b) with h | h
  · exact h
  · have := Int.mul_nonpos_of_nonneg_of_nonpos (Int.le_of_lt g) h
    omega
theorem rd_eq {a b : Int} : (rd a b).1 * b = a * (rd a b).2 := by
  show a / gc a b * b = a * (b / gc a b)
  have h1 := gc_l a b
  have h2 := gc_r a b
  generalize a / gc a b = p at *
  generalize b / gc a b = q at *
  generalize gc a b = g at *
  rw [h1, h2]
  rw [Int.mul_left_comm, Int.mul_assoc]
theorem rd_nn {a b : Int} (hb : 0 < b) (ha : 0 ≤ a) : 0 ≤ (rd a b).1 := Int.ediv_nonneg ha (Int.le_of_lt (gc_pos hb))
theorem rd_le {a b : Int} (hb : 0 < b) (h : a ≤ b) : (rd a b).1 ≤ (rd a b).2 := Int.ediv_le_ediv (gc_pos hb) h
theorem rd_small {a b : Int} (hb : 0 < b) : (rd a b).2 ≤ b := by
  have g := gc_pos (a := a) hb
  exact Int.ediv_le_self _ (by omega)
theorem rd_same {b : Int} (hb : 0 < b) : rd b b = (1, 1) := by
  have e : gc b b = b := by unfold gc; rw [Nat.gcd_self]; omega
  unfold rd
  rw [e, Int.ediv_self (by omega)]
theorem lowest_ok {a b : Int} (hb : 0 < b) (h : big b) : m_lowest [.sh (.int a), .sh (.int b)] = some (.rt (.s (enc (rd a b))) [.no, .no]) := by
  have g := gc_pos (a := a) hb
  have d : divOk (gc a b) = true := divOk_vast g (gc_big hb h)
  have e : gGcd (.int a) (.int b) = some (.s (.int (gc a b))) := rfl
  have nb : ¬ b < 0 := by omega
  simp (disch := omega) [List.getElem?_cons_zero, m_lowest, runF, inP2, List.range_succ, exitV, outsOf, e, nb, gDiv_int d, enc, rd]
theorem made_ok {a b : Int} (hb : 0 < b) (h : big b) : m_made [.sh (.int a), .sh (.int b)] = some (.rt (.s (enc (rd a b))) [.no, .no]) := by
  have l := lowest_ok (a := a) hb h
  have nb : ¬ b = 0 := by omega
  simp (disch := omega) [List.getElem?_cons_zero, m_made, runF, inP2, List.range_succ, exitV, outsOf, l, gEq_int, nb]
theorem times_ok {p q r s : Int} (hp : big p) (hr : big r) (hq : 0 < q) (hs : 0 < s) (bq : big q) (bs : big s) (h : big (q * s)) : m_times [.sh (.tup [.int p, .int q]), .sh (.tup [.int r, .int s])] = some (.rt (.s (enc (rd (p * r) (q * s)))) [.no, .no]) := by
  have l := lowest_ok (a := p * r) (b := q * s) (Int.mul_pos hq hs) h
  have m1 := mulOk_vast hp hr
  have m2 := mulOk_vast bq bs
  have g0 : gIx (.tup [.int p, .int q]) (.int 0) = some (.s (.int p)) := rfl
  have g1 : gIx (.tup [.int p, .int q]) (.int 1) = some (.s (.int q)) := rfl
  have g2 : gIx (.tup [.int r, .int s]) (.int 0) = some (.s (.int r)) := rfl
  have g3 : gIx (.tup [.int r, .int s]) (.int 1) = some (.s (.int s)) := rfl
  simp (disch := omega) [List.getElem?_cons_zero, m_times, runF, inP2, List.range_succ, exitV, outsOf, g0, g1, g2, g3, gMul_int m1, gMul_int m2, l]
def mE (a b x y : Int) : En := [.sh (.int a), .sh (.int b), .no, .sh (.int x), .sh (.int y)]
theorem euclid (a b : Int) : ∀ (m : Nat) (n : Nat) (x y : Nat), y ≤ x → x * y < 2 ^ m → m < n → whileL C__law_made_1 [2] B__law_made_0 n (mE a b x y) = some (.nx (mE a b (Nat.gcd x y : Nat) 0))
  | m, n + 1, x, 0, _, _, _ => by
    rw [Nat.gcd_zero_right]
    exact while_end (by simp [C__law_made_1, mE])
  | 0, n + 1, x, y + 1, h1, h2, _ => by
    have : 0 < x * (y + 1) := Nat.mul_pos (by omega) (by omega)
    omega
  | m + 1, n + 1, x, y + 1, h1, h2, hn => by
    have hq : 1 ≤ x / (y + 1) := (Nat.one_le_div_iff (by omega)).mpr h1
    have e := Nat.mod_add_div x (y + 1)
    have hm := Nat.mod_lt x (by omega : 0 < y + 1)
    have hle : (y + 1) * 1 ≤ (y + 1) * (x / (y + 1)) := Nat.mul_le_mul_left _ hq
    have h2x : 2 * (x % (y + 1)) ≤ x := by omega
    have hpr : (y + 1) * (x % (y + 1)) < 2 ^ m := by
      have h3 : (y + 1) * (2 * (x % (y + 1))) ≤ (y + 1) * x := Nat.mul_le_mul_left _ h2x
      rw [Nat.mul_left_comm, Nat.mul_comm (y + 1) x] at h3
      rw [Nat.pow_succ] at h2
      omega
    have ih := euclid a b m n (y + 1) (x % (y + 1)) (by omega) hpr (by omega)
    have eg : Nat.gcd (y + 1) (x % (y + 1)) = Nat.gcd x (y + 1) := by rw [Nat.gcd_comm x, Nat.gcd_rec (y + 1) x, Nat.gcd_comm]
    rw [eg] at ih
    refine while_step (ρ1 := mE a b x (y + 1 : Nat)) (ρ2 := mE a b (y + 1 : Nat) (x % (y + 1) : Nat)) ?_ ?_ ?_
    · have c : (0 : Int) < ((y + 1 : Nat) : Int) := by omega
      simp [C__law_made_1, mE, -Int.natCast_add]
    · have gm : gMod (.int (x : Nat)) (.int ((y + 1 : Nat) : Int)) = some (.s (.int ((x % (y + 1) : Nat) : Int))) := by
        rw [gMod_int (by omega), Int.natCast_emod]
      simp only [B__law_made_0, mE]
      simp [-Int.natCast_add, -Int.natCast_emod, gm]
    · exact ih
theorem lmade_ok {a b : Int} (hb : 0 < b) (ha : big a) (h : big b) : m__law_made [.sh (.int a), .sh (.int b)] = some (.rt (.s (enc (rd a b))) [.no, .no]) := by
  have g := gc_pos (a := a) hb
  have d : divOk (gc a b) = true := divOk_vast g (gc_big hb h)
  have w : whileL C__law_made_1 [2] B__law_made_0 1000000 (mE a b a.natAbs b.natAbs) = some (.nx (mE a b (gc a b) 0)) := by
    have pw : (2 : Nat) ^ 250 * 2 ^ 250 = 2 ^ 500 := by rw [← Nat.pow_add]
    unfold big at ha h
    have hp : a.natAbs * b.natAbs < 2 ^ 500 := by rw [← pw]; exact Nat.mul_lt_mul'' ha h
    by_cases c : b.natAbs ≤ a.natAbs
    · exact euclid a b 500 1000000 _ _ c hp (by omega)
    · have e2 := euclid a b 500 999999 b.natAbs a.natAbs (by omega) (by rw [Nat.mul_comm]; exact hp) (by omega)
      rw [Nat.gcd_comm] at e2
      refine while_step (ρ1 := mE a b a.natAbs b.natAbs) (ρ2 := mE a b b.natAbs a.natAbs) ?_ ?_ ?_
      · have c : (0 : Int) < (b.natAbs : Int) := by omega
        simp only [C__law_made_1, mE]
        simp [c]
        omega
      · have gm : gMod (.int (a.natAbs : Nat)) (.int (b.natAbs : Nat)) = some (.s (.int (a.natAbs : Nat))) := by
          rw [gMod_int (by omega), Int.emod_eq_of_lt (by omega) (by omega)]
        simp only [B__law_made_0, mE]
        simp [gm]
      · exact e2
  have aa : gAbs (.int a) = some (.s (.int (a.natAbs : Nat))) := by simp only [gAbs]; congr 3; split <;> omega
  have ab : gAbs (.int b) = some (.s (.int (b.natAbs : Nat))) := by simp only [gAbs]; congr 3; split <;> omega
  have m1 : mulOk 1 a = true := mulOk_ok (by omega) (by omega)
  have m2 : mulOk 1 b = true := mulOk_ok (by omega) (by omega)
  have w' : whileL C__law_made_1 [2] B__law_made_0 1000000 [.sh (.int a), .sh (.int b), .no, .sh (.int (a.natAbs : Nat)), .sh (.int (b.natAbs : Nat))] = some (.nx (mE a b (gc a b) 0)) := w
  simp (disch := omega) only [m__law_made, runF, inP2, parS_, bltE_, consA_, consK_, nilA_, varE_]
  simp (disch := omega) [List.getElem?_cons_zero, List.range_succ, exitV, outsOf, aa, ab, w', mE, hb, gMul_int m1, gMul_int m2, gDiv_int d, enc, rd]
theorem ltimes_ok {p q r s : Int} (hp : big p) (hr : big r) (hq : 0 < q) (hs : 0 < s) (bq : big q) (bs : big s) (h1 : big (p * r)) (h : big (q * s)) : m__law_times [.sh (.tup [.int p, .int q]), .sh (.tup [.int r, .int s])] = some (.rt (.s (enc (rd (p * r) (q * s)))) [.no, .no]) := by
  have l := lmade_ok (a := p * r) (b := q * s) (Int.mul_pos hq hs) h1 h
  have m1 := mulOk_vast hp hr
  have m2 := mulOk_vast bq bs
  have g0 : gIx (.tup [.int p, .int q]) (.int 0) = some (.s (.int p)) := rfl
  have g1 : gIx (.tup [.int p, .int q]) (.int 1) = some (.s (.int q)) := rfl
  have g2 : gIx (.tup [.int r, .int s]) (.int 0) = some (.s (.int r)) := rfl
  have g3 : gIx (.tup [.int r, .int s]) (.int 1) = some (.s (.int s)) := rfl
  simp (disch := omega) [List.getElem?_cons_zero, m__law_times, runF, inP2, List.range_succ, exitV, outsOf, g0, g1, g2, g3, gMul_int m1, gMul_int m2, l]
end K86
namespace K86
open PySem PySem.Spec PyProof.Rows L2 TV
def mx (x : Int) : Int := if x > 0 then x else 0
theorem mx_nn (x : Int) : 0 ≤ mx x := by unfold mx; split <;> omega
def U : Nat → Int → Int × Int
  | 0, _ => (1, 1)
  | k + 1, d => rd ((U k d).1 * (rd (mx (d - (k : Nat))) d).1) ((U k d).2 * (rd (mx (d - (k : Nat))) d).2)
structure Uok (k : Nat) (d : Int) : Prop where
  nn : 0 ≤ (U k d).1
  le : (U k d).1 ≤ (U k d).2
  pos : 0 < (U k d).2
  top : (U k d).2 ≤ ((101 ^ k : Nat) : Int)
theorem U_ok {d : Int} (h1 : 1 ≤ d) (h2 : d ≤ 101) : ∀ k : Nat, Uok k d
  | 0 => ⟨by simp [U], by simp [U], by simp [U], by simp [U]⟩
  | k + 1 => by
    have i := U_ok h1 h2 k
    have m0 := mx_nn (d - (k : Nat))
    have m1 : mx (d - (k : Nat)) ≤ d := by unfold mx; split <;> omega
    have r0 := rd_nn (b := d) (by omega) m0
    have r1 := rd_le (b := d) (by omega) m1
    have r2 := rd_pos (a := mx (d - (k : Nat))) (b := d) (by omega)
    have r3 := rd_small (a := mx (d - (k : Nat))) (b := d) (by omega)
    have hp := Int.mul_pos i.pos r2
    have hle := Int.mul_le_mul i.le r1 r0 (Int.le_of_lt i.pos)
    refine ⟨rd_nn hp (Int.mul_nonneg i.nn r0), rd_le hp hle, rd_pos hp, ?_⟩
    refine Int.le_trans (rd_small hp) ?_
    refine Int.le_trans (Int.mul_le_mul i.top (show _ ≤ (101 : Int) by omega) (Int.le_of_lt r2) (Int.natCast_nonneg _)) ?_
    rw [Nat.pow_succ]
    push_cast
    exact Int.le_refl _
theorem Uok.tops {k : Nat} {d : Int} (h : Uok k d) (hk : k ≤ 33) : (U k d).2 ≤ ((101 ^ 33 : Nat) : Int) := by
  have := Nat.pow_le_pow_right (by omega : 101 > 0) hk
  have := h.top
  omega
theorem big_of {i : Int} (h0 : 0 ≤ i) (h : i ≤ ((101 ^ 35 : Nat) : Int)) : big i := by
  unfold big
  have : (101 : Nat) ^ 35 < 2 ^ 250 := by decide
  omega
theorem p3335 : ((101 ^ 33 : Nat) : Int) * 101 ≤ ((101 ^ 35 : Nat) : Int) := by decide
theorem p3335' : ((101 ^ 33 : Nat) : Int) ≤ ((101 ^ 35 : Nat) : Int) := by decide
theorem Uok.b1 {k : Nat} {d : Int} (h : Uok k d) (hk : k ≤ 33) : big (U k d).1 := big_of h.nn (by have := h.tops hk; have := h.le; have := p3335'; omega)
theorem Uok.b2 {k : Nat} {d : Int} (h : Uok k d) (hk : k ≤ 33) : big (U k d).2 := big_of (Int.le_of_lt h.pos) (by have := h.tops hk; have := p3335'; omega)
theorem U_cross {d : Int} (h1 : 1 ≤ d) (h2 : d ≤ 101) (k : Nat) : (U (k + 1) d).1 * ((U k d).2 * d) = (U k d).1 * mx (d - (k : Nat)) * (U (k + 1) d).2 := by
  have i := U_ok h1 h2 k
  have e1 := rd_eq (a := mx (d - (k : Nat))) (b := d)
  have r2 := rd_pos (a := mx (d - (k : Nat))) (b := d) (by omega)
  have e2 := rd_eq (a := (U k d).1 * (rd (mx (d - (k : Nat))) d).1) (b := (U k d).2 * (rd (mx (d - (k : Nat))) d).2)
  have eU : U (k + 1) d = rd ((U k d).1 * (rd (mx (d - (k : Nat))) d).1) ((U k d).2 * (rd (mx (d - (k : Nat))) d).2) := rfl
  rw [← eU] at e2
  generalize U (k + 1) d = u' at *
  generalize U k d = u at *
  generalize rd (mx (d - (k : Nat))) d = rs at *
  generalize mx (d - (k : Nat)) = f at *
  have key : rs.2 * (u'.1 * (u.2 * d)) = rs.2 * (u.1 * f * u'.2) := by
    calc rs.2 * (u'.1 * (u.2 * d)) = u'.1 * (u.2 * rs.2) * d := by simp only [Int.mul_assoc, Int.mul_comm, Int.mul_left_comm]
      _ = u.1 * rs.1 * u'.2 * d := by rw [e2]
      _ = u.1 * (rs.1 * d) * u'.2 := by simp only [Int.mul_assoc, Int.mul_comm, Int.mul_left_comm]
      _ = u.1 * (f * rs.2) * u'.2 := by rw [e1]
      _ = rs.2 * (u.1 * f * u'.2) := by simp only [Int.mul_assoc, Int.mul_comm, Int.mul_left_comm]
  exact Int.eq_of_mul_eq_mul_left (by omega) key
theorem U_less {d : Int} (h1 : 1 ≤ d) (h2 : d ≤ 101) {k : Nat} (hk : 1 ≤ k) (hp : 0 < (U k d).1) : (U (k + 1) d).1 * (U k d).2 < (U k d).1 * (U (k + 1) d).2 := by
  have i := U_ok h1 h2 k
  have i' := U_ok h1 h2 (k + 1)
  have e := U_cross h1 h2 k
  have hf : mx (d - (k : Nat)) < d := by unfold mx; split <;> omega
  have hpos := Int.mul_pos hp i'.pos
  have a : (U k d).1 * mx (d - (k : Nat)) * (U (k + 1) d).2 < (U k d).1 * (U (k + 1) d).2 * d := by
    rw [Int.mul_right_comm]
    exact Int.mul_lt_mul_of_pos_left hf hpos
  rw [← e, ← Int.mul_assoc] at a
  exact Int.lt_of_mul_lt_mul_right a (by omega)
theorem U_wide {d : Int} (h1 : 1 ≤ d) (h2 : d ≤ 100) : ∀ k : Nat, (U k d).1 * (U k (d + 1)).2 ≤ (U k (d + 1)).1 * (U k d).2
  | 0 => by simp [U]
  | k + 1 => by
    have ih := U_wide h1 h2 k
    have i := U_ok (d := d) (by omega) (by omega) k
    have i' := U_ok (d := d) (by omega) (by omega) (k + 1)
    have j := U_ok (d := d + 1) (by omega) (by omega) k
    have j' := U_ok (d := d + 1) (by omega) (by omega) (k + 1)
    have e1 := U_cross (d := d) (by omega) (by omega) k
    have e2 := U_cross (d := d + 1) (by omega) (by omega) k
    have hf : mx (d - (k : Nat)) * (d + 1) ≤ mx (d + 1 - (k : Nat)) * d := by
      unfold mx
      split
      · rw [if_pos (by omega)]
        have : (d - (k : Nat)) * (d + 1) = (d + 1 - (k : Nat)) * d - k := by
          rw [Int.mul_add, Int.mul_one, show d + 1 - (k : Nat) = d - (k : Nat) + 1 by omega, Int.add_mul, Int.one_mul]
          omega
        omega
      · split
        · rw [Int.zero_mul]; exact Int.mul_nonneg (by omega) (by omega)
        · omega
    have nf := mx_nn (d - (k : Nat))
    have nf1 := mx_nn (d + 1 - (k : Nat))
    have iN := i.nn
    have iP := i.pos
    have jP := j.pos
    have jN := j.nn
    have iP' := i'.pos
    have jP' := j'.pos
    generalize U (k + 1) d = u' at *
    generalize U (k + 1) (d + 1) = v' at *
    generalize mx (d - (k : Nat)) = f at *
    generalize mx (d + 1 - (k : Nat)) = g at *
    generalize U k d = u at *
    generalize U k (d + 1) = v at *
    have big : (u.1 * v.2) * (f * (d + 1)) ≤ (v.1 * u.2) * (g * d) := Int.mul_le_mul ih hf (Int.mul_nonneg nf (by omega)) (Int.mul_nonneg jN (Int.le_of_lt iP))
    have pp : 0 < (u.2 * d) * (v.2 * (d + 1)) := Int.mul_pos (Int.mul_pos iP (by omega)) (Int.mul_pos jP (by omega))
    have hP : 0 ≤ u'.2 * v'.2 := Int.le_of_lt (Int.mul_pos iP' jP')
    refine Int.le_of_mul_le_mul_right ?_ pp
    calc u'.1 * v'.2 * ((u.2 * d) * (v.2 * (d + 1))) = (u'.1 * (u.2 * d)) * (v'.2 * (v.2 * (d + 1))) := by simp only [Int.mul_assoc, Int.mul_comm, Int.mul_left_comm]
      _ = (u.1 * f * u'.2) * (v'.2 * (v.2 * (d + 1))) := by rw [e1]
      _ = ((u.1 * v.2) * (f * (d + 1))) * (u'.2 * v'.2) := by simp only [Int.mul_assoc, Int.mul_comm, Int.mul_left_comm]
      _ ≤ ((v.1 * u.2) * (g * d)) * (u'.2 * v'.2) := Int.mul_le_mul_of_nonneg_right big hP
      _ = (v.1 * g * v'.2) * (u'.2 * (u.2 * d)) := by simp only [Int.mul_assoc, Int.mul_comm, Int.mul_left_comm]
      _ = (v'.1 * (v.2 * (d + 1))) * (u'.2 * (u.2 * d)) := by rw [e2]
      _ = v'.1 * u'.2 * ((u.2 * d) * (v.2 * (d + 1))) := by simp only [Int.mul_assoc, Int.mul_comm, Int.mul_left_comm]
def ch (k : Nat) (d : Int) : Int × Int := rd ((U k d).2 - (U k d).1) (U k d).2
theorem ch_pos {d : Int} (h1 : 1 ≤ d) (h2 : d ≤ 101) (k : Nat) : 0 < (ch k d).2 := rd_pos (U_ok h1 h2 k).pos
theorem ch_eq (k : Nat) (d : Int) : (ch k d).1 * (U k d).2 = ((U k d).2 - (U k d).1) * (ch k d).2 := rd_eq
theorem ch_lt {k m : Nat} {d e : Int} (h1 : 1 ≤ d) (h2 : d ≤ 101) (g1 : 1 ≤ e) (g2 : e ≤ 101) : (ch k d).1 * (ch m e).2 < (ch m e).1 * (ch k d).2 ↔ (U m e).1 * (U k d).2 < (U k d).1 * (U m e).2 := by
  have c1 := ch_pos h1 h2 k
  have c2 := ch_pos g1 g2 m
  have e1 := ch_eq k d
  have e2 := ch_eq m e
  have u1 := (U_ok h1 h2 k).pos
  have u2 := (U_ok g1 g2 m).pos
  generalize ch k d = a at *
  generalize ch m e = b at *
  generalize U k d = u at *
  generalize U m e = v at *
  have pq : 0 < u.2 * v.2 := Int.mul_pos u1 u2
  have pc : 0 < a.2 * b.2 := Int.mul_pos c1 c2
  have x1 : a.1 * b.2 * (u.2 * v.2) = (u.2 * v.2 - u.1 * v.2) * (a.2 * b.2) := by
    calc a.1 * b.2 * (u.2 * v.2) = (a.1 * u.2) * (b.2 * v.2) := by simp only [Int.mul_assoc, Int.mul_comm, Int.mul_left_comm]
      _ = ((u.2 - u.1) * a.2) * (b.2 * v.2) := by rw [e1]
      _ = ((u.2 - u.1) * v.2) * (a.2 * b.2) := by simp only [Int.mul_assoc, Int.mul_comm, Int.mul_left_comm]
      _ = (u.2 * v.2 - u.1 * v.2) * (a.2 * b.2) := by rw [Int.sub_mul]
  have x2 : b.1 * a.2 * (u.2 * v.2) = (u.2 * v.2 - v.1 * u.2) * (a.2 * b.2) := by
    calc b.1 * a.2 * (u.2 * v.2) = (b.1 * v.2) * (a.2 * u.2) := by simp only [Int.mul_assoc, Int.mul_comm, Int.mul_left_comm]
      _ = ((v.2 - v.1) * b.2) * (a.2 * u.2) := by rw [e2]
      _ = ((v.2 - v.1) * u.2) * (a.2 * b.2) := by simp only [Int.mul_assoc, Int.mul_comm, Int.mul_left_comm]
      _ = (u.2 * v.2 - v.1 * u.2) * (a.2 * b.2) := by rw [Int.sub_mul, Int.mul_comm v.2 u.2]
  rw [← Int.mul_lt_mul_right pq, x1, x2, Int.mul_lt_mul_right pc]
  omega
theorem ch_more {d : Int} (h1 : 1 ≤ d) (h2 : d ≤ 101) {k : Nat} (hk : 1 ≤ k) (h : ch k d ≠ (1, 1)) : (ch k d).1 * (ch (k + 1) d).2 < (ch (k + 1) d).1 * (ch k d).2 := by
  rw [ch_lt h1 h2 h1 h2]
  refine U_less h1 h2 hk ?_
  have i := U_ok h1 h2 k
  rcases Int.lt_or_le 0 (U k d).1 with c | c
  · exact c
  · have e : (U k d).1 = 0 := by have := i.nn; omega
    refine absurd ?_ h
    unfold ch
    rw [e, Int.sub_zero, rd_same i.pos]
theorem ch_wide {d : Int} (h1 : 1 ≤ d) (h2 : d ≤ 100) (k : Nat) : ¬ (ch k d).1 * (ch k (d + 1)).2 < (ch k (d + 1)).1 * (ch k d).2 := by
  rw [ch_lt h1 (by omega) (by omega) (by omega)]
  have := U_wide h1 h2 k
  omega
end K86
namespace K86
open PySem PySem.Spec PyProof.Rows L2 TV
theorem chl_ok {k : Int} (h1 : 1 ≤ k) (h2 : k ≤ 60) : m_check_children [.sh (.int k)] = some (.rt (.s .non) [.no]) := by
  have n1 := num_ok h1 h2
  simp (disch := omega) [List.getElem?_cons_zero, m_check_children, runF, inP1, List.range_succ, exitV, outsOf, n1]
theorem day_ok {k : Int} (h1 : 1 ≤ k) (h2 : k ≤ 400) : m_check_days [.sh (.int k)] = some (.rt (.s .non) [.no]) := by
  have n1 := num_ok h1 h2
  simp (disch := omega) [List.getElem?_cons_zero, m_check_days, runF, inP1, List.range_succ, exitV, outsOf, n1]
theorem fac {d : Int} (h1 : 1 ≤ d) (h2 : d ≤ 101) (k : Nat) : big d ∧ big (mx (d - (k : Nat))) ∧ big (rd (mx (d - (k : Nat))) d).1 ∧ big (rd (mx (d - (k : Nat))) d).2 ∧ 0 < (rd (mx (d - (k : Nat))) d).2 ∧ 0 ≤ (rd (mx (d - (k : Nat))) d).1 ∧ (rd (mx (d - (k : Nat))) d).1 ≤ 101 ∧ (rd (mx (d - (k : Nat))) d).2 ≤ 101 := by
  have m0 := mx_nn (d - (k : Nat))
  have m1 : mx (d - (k : Nat)) ≤ d := by unfold mx; split <;> omega
  have r0 := rd_nn (b := d) (by omega) m0
  have r1 := rd_le (b := d) (by omega) m1
  have r2 := rd_pos (a := mx (d - (k : Nat))) (b := d) (by omega)
  have r3 := rd_small (a := mx (d - (k : Nat))) (b := d) (by omega)
  refine ⟨?_, ?_, ?_, ?_, r2, r0, by omega, by omega⟩ <;> unfold big <;> omega
theorem Uok.bq {k : Nat} {d : Int} (h : Uok k d) (hk : k ≤ 33) {s : Int} (h1 : 0 < s) (h2 : s ≤ 101) : big ((U k d).2 * s) := by
  refine big_of (Int.le_of_lt (Int.mul_pos h.pos h1)) ?_
  exact Int.le_trans (Int.mul_le_mul (h.tops hk) h2 (Int.le_of_lt h1) (Int.natCast_nonneg _)) p3335
theorem Uok.bp {k : Nat} {d : Int} (h : Uok k d) (hk : k ≤ 33) {s : Int} (h1 : 0 ≤ s) (h2 : s ≤ 101) : big ((U k d).1 * s) := by
  refine big_of (Int.mul_nonneg h.nn h1) ?_
  exact Int.le_trans (Int.mul_le_mul (Int.le_trans h.le (h.tops hk)) h2 h1 (Int.natCast_nonneg _)) p3335
def aE (d : Int) (k : Nat) : En := [.no, .sh (.int d), .sh (enc (U k d)), .no]
theorem al_step {d : Int} (h1 : 1 ≤ d) (h2 : d ≤ 101) {k : Nat} (hk : k ≤ 32) : ∃ ρ, B_alike_chance_0 ((aE d k).set 3 (.sh (.int (k : Nat)))) = some (.nx ρ) ∧ kill [0, 3] ρ = aE d (k + 1) := by
  obtain ⟨f1, f2, f3, f4, f5, f6, f7, f8⟩ := fac h1 h2 k
  have u := U_ok h1 h2 k
  have m := made_ok (a := mx (d - (k : Nat))) (b := d) (by omega) f1
  have t := times_ok (u.b1 (by omega)) f3 u.pos f5 (u.b2 (by omega)) f4 (u.bq (by omega) f5 f8)
  have hm : gMax [.int 0, .int (d - (k : Int))] = some (.s (.int (mx (d - (k : Nat))))) := rfl
  simp only [enc] at m t
  refine ⟨(aE d (k + 1)).set 3 (.sh (.int (k : Nat))), ?_, by simp [aE]⟩
  simp (disch := omega) only [B_alike_chance_0, setS_, callE_, bltE_, consA_, consK_, nilA_, varE_, binE_, conE_, aE, List.set_cons_succ, List.set_cons_zero, List.getElem?_cons_succ, List.getElem?_cons_zero, enc]
  simp (disch := omega) [List.getElem?_cons_zero, hm, m, t, U, enc]
theorem al_loop {d : Int} (h1 : 1 ≤ d) (h2 : d ≤ 101) {n : Nat} (hn : n ≤ 33) : forL [] (.nm 3) [0, 3] B_alike_chance_0 (TV.upTo 0 n) (aE d 0) = some (.nx (aE d n)) := by
  obtain ⟨ρ', e, h⟩ := forL_inv (fun j ρ => ρ = aE d j) (P := []) (tg := .nm 3) (ks := [0, 3]) (body := B_alike_chance_0) (TV.upTo 0 n) 0 (aE d 0) rfl fun j t ρ hj h => by
    have hj2 := (List.getElem?_eq_some_iff.mp hj).1
    simp [TV.upTo] at hj2
    have ht : t = .int (j : Nat) := by
      unfold TV.upTo at hj
      rw [List.getElem?_map, List.getElem?_range hj2] at hj
      simp at hj
      exact hj.symm
    subst ht
    rw [Nat.zero_add] at h ⊢
    subst h
    obtain ⟨ρ2, e1, e2⟩ := al_step h1 h2 (k := j) (by omega)
    exact ⟨_, ρ2, by simp [aE], .inl e1, e2⟩
  rw [e, h]
  simp [TV.upTo]
theorem chance_ok {d : Int} (h1 : 1 ≤ d) (h2 : d ≤ 101) {n : Nat} (hn0 : 1 ≤ n) (hn : n ≤ 33) : m_alike_chance [.sh (.int (n : Nat)), .sh (.int d)] = some (.rt (.s (enc (ch n d))) [.no, .no]) := by
  have u := U_ok h1 h2 n
  have c1 := chl_ok (k := (n : Nat)) (by omega) (by omega)
  have c2 := day_ok (k := d) (by omega) (by omega)
  have l := al_loop h1 h2 hn
  have lo := lowest_ok (a := (U n d).2 - (U n d).1) u.pos (u.b2 hn)
  have mi : m_minus [.sh c_ONE, .sh (enc (U n d))] = some (.rt (.s (enc (ch n d))) [.no, .no]) := by
    have m1 := mulOk_ok (i := 1) (j := (U n d).2) (by omega) (by omega)
    have m2 := mulOk_ok2 (i := (U n d).1) (j := 1) (by omega) (by omega)
    have g0 : gIx c_ONE (.int 0) = some (.s (.int 1)) := rfl
    have g1 : gIx c_ONE (.int 1) = some (.s (.int 1)) := rfl
    have g2 : gIx (.tup [.int (U n d).1, .int (U n d).2]) (.int 0) = some (.s (.int (U n d).1)) := rfl
    have g3 : gIx (.tup [.int (U n d).1, .int (U n d).2]) (.int 1) = some (.s (.int (U n d).2)) := rfl
    simp (disch := omega) [List.getElem?_cons_zero, m_minus, runF, inP2, List.range_succ, exitV, outsOf, enc, g0, g1, g2, g3, gMul_int m1, gMul_int m2]
    simp only [enc] at lo
    rw [lo]
    simp [enc, ch]
  have r : rng1E (consA false (varE 0) nilA) [.sh (.int (n : Nat)), .sh (.int d), .sh c_ONE, .no] = some (.ok (TV.upTo 0 n) [.sh (.int (n : Nat)), .sh (.int d), .sh c_ONE, .no]) := rng1_nat (n := n) (by simp) (by omega)
  refine run_rt (ρ := aE d n) (r := .sh (enc (ch n d))) (v := .s (enc (ch n d))) (ρ' := aE d n) rfl (by rw [inP2]; rfl) (by simp) ?_ (by simp [exitV]) |>.trans (by simp [outsOf, List.range_succ])
  refine seq_nx (ρ1 := [.sh (.int (n : Nat)), .sh (.int d), .no, .no]) (by simp (disch := omega) [List.getElem?_cons_zero, c1]) ?_
  refine seq_nx (ρ1 := [.sh (.int (n : Nat)), .sh (.int d), .no, .no]) (by simp (disch := omega) [List.getElem?_cons_zero, c2]) ?_
  refine seq_nx (ρ1 := [.sh (.int (n : Nat)), .sh (.int d), .sh c_ONE, .no]) (by simp (disch := omega) [List.getElem?_cons_zero]) ?_
  refine seq_nx (ρ1 := aE d n) (for_ok r (by
    rw [show kill [0, 3] ([.sh (.int (n : Nat)), .sh (.int d), .sh c_ONE, .no] : En) = aE d 0 by simp [aE, U, enc]]
    exact l)) ?_
  have mi' := mi
  simp (disch := omega) [List.getElem?_cons_zero, aE, mi']
theorem told5 {d : Int} (h1 : 1 ≤ d) (h2 : d ≤ 101) {n : Nat} (hn0 : 1 ≤ n) (hn : n ≤ 33) : m__law_told [.sh (.int 5), .sh (.int (n : Nat)), .sh (.int d)] = some (.rt (.s (enc (ch n d))) [.no, .no, .no]) := by
  simp (disch := omega) [List.getElem?_cons_zero, m__law_told, tryW, runF, inP3, List.range_succ, exitV, outsOf, gEq_int, chance_ok h1 h2 hn0 hn]
def mean (k d : Int) : Int × Int := rd (k * (k - 1)) (2 * d)
theorem told6 {k d : Int} (h1 : 1 ≤ d) (h2 : d ≤ 101) (hn0 : 1 ≤ k) (hn : k ≤ 33) : m__law_told [.sh (.int 6), .sh (.int k), .sh (.int d)] = some (.rt (.s (enc (mean k d))) [.no, .no, .no]) := by
  have c1 := chl_ok (k := k) (by omega) (by omega)
  have c2 := day_ok (k := d) (by omega) (by omega)
  have m1 := mulOk_ok (i := k) (j := k - 1) (by omega) (by omega)
  have m2 := mulOk_ok (i := 2) (j := d) (by omega) (by omega)
  have m := made_ok (a := k * (k - 1)) (b := 2 * d) (by omega) (by unfold big; omega)
  have e : m_mean_pairs [.sh (.int k), .sh (.int d)] = some (.rt (.s (enc (mean k d))) [.no, .no]) := by
    simp (disch := omega) [List.getElem?_cons_zero, m_mean_pairs, runF, inP2, List.range_succ, exitV, outsOf, c1, c2, gMul_int m1, gMul_int m2, m, mean]
  simp (disch := omega) [List.getElem?_cons_zero, m__law_told, tryW, runF, inP3, List.range_succ, exitV, outsOf, gEq_int, e]
end K86
namespace K86
open PySem PySem.Spec PyProof.Rows L2 TV
def dL (X : Sl) (k0 d : Int) (k : Nat) : En := [X, .no, .no, .no, .no, .sh (enc (U k d)), .no, .no, .sh (.int k0), .sh (.int d), .no, .no, .no, .no, .no, .no, .no]
theorem dl_step {X : Sl} {k0 d : Int} (h1 : 1 ≤ d) (h2 : d ≤ 101) {k : Nat} (hk : k ≤ 32) : ∃ ρ, B__law_days_2 ((dL X k0 d k).set 2 (.sh (.int (k : Nat)))) = some (.nx ρ) ∧ kill [1, 2, 3, 4, 6, 7, 10, 11, 12, 13, 14, 15, 16] ρ = dL X k0 d (k + 1) := by
  obtain ⟨f1, f2, f3, f4, f5, f6, f7, f8⟩ := fac h1 h2 k
  have u := U_ok h1 h2 k
  have m := lmade_ok (a := mx (d - (k : Nat))) (b := d) (by omega) f2 f1
  have t := ltimes_ok (u.b1 (by omega)) f3 u.pos f5 (u.b2 (by omega)) f4 (u.bp (by omega) f6 f7) (u.bq (by omega) f5 f8)
  have hm : gMax [.int 0, .int (d - (k : Int))] = some (.s (.int (mx (d - (k : Nat))))) := rfl
  simp only [enc] at m t
  refine ⟨(dL X k0 d (k + 1)).set 2 (.sh (.int (k : Nat))), ?_, by simp [dL]⟩
  simp (disch := omega) only [B__law_days_2, setS_, callE_, bltE_, consA_, consK_, nilA_, varE_, binE_, conE_, dL, List.set_cons_succ, List.set_cons_zero, List.getElem?_cons_succ, List.getElem?_cons_zero, enc]
  simp (disch := omega) [List.getElem?_cons_zero, hm, m, t, U, enc]
theorem dl_loop {X : Sl} {k0 d : Int} (h1 : 1 ≤ d) (h2 : d ≤ 101) {n : Nat} (hn : n ≤ 33) : forL [0] (.nm 2) [1, 2, 3, 4, 6, 7, 10, 11, 12, 13, 14, 15, 16] B__law_days_2 (TV.upTo 0 n) (dL X k0 d 0) = some (.nx (dL X k0 d n)) := by
  obtain ⟨ρ', e, h⟩ := forL_inv (fun j ρ => ρ = dL X k0 d j) (P := [0]) (tg := .nm 2) (ks := [1, 2, 3, 4, 6, 7, 10, 11, 12, 13, 14, 15, 16]) (body := B__law_days_2) (TV.upTo 0 n) 0 (dL X k0 d 0) rfl fun j t ρ hj h => by
    have hj2 := (List.getElem?_eq_some_iff.mp hj).1
    simp [TV.upTo] at hj2
    have ht : t = .int (j : Nat) := by
      unfold TV.upTo at hj
      rw [List.getElem?_map, List.getElem?_range hj2] at hj
      simp at hj
      exact hj.symm
    subst ht
    rw [Nat.zero_add] at h ⊢
    subst h
    obtain ⟨ρ2, e1, e2⟩ := dl_step (X := X) (k0 := k0) h1 h2 (k := j) (by omega)
    exact ⟨_, ρ2, by simp [dL], .inl e1, e2⟩
  rw [e, h]
  simp [TV.upTo]
theorem lplus_ok {d : Int} (h1 : 1 ≤ d) (h2 : d ≤ 101) {n : Nat} (hn : n ≤ 33) : m__law_plus [.sh (.tup [.int 1, .int 1]), .sh (.tup [.int (0 - (U n d).1), .int (U n d).2])] = some (.rt (.s (enc (ch n d))) [.no, .no]) := by
  have u := U_ok h1 h2 n
  have b2 := u.b2 hn
  have lo := lmade_ok (a := (U n d).2 - (U n d).1) u.pos (by have := u.nn; have := u.le; unfold big at b2 ⊢; omega) b2
  have m1 := mulOk_ok (i := 1) (j := (U n d).2) (by omega) (by omega)
  have m2 := mulOk_ok2 (i := 0 - (U n d).1) (j := 1) (by omega) (by omega)
  have g0 : gIx (.tup [.int 1, .int 1]) (.int 0) = some (.s (.int 1)) := rfl
  have g1 : gIx (.tup [.int 1, .int 1]) (.int 1) = some (.s (.int 1)) := rfl
  have g2 : gIx (.tup [.int (0 - (U n d).1), .int (U n d).2]) (.int 0) = some (.s (.int (0 - (U n d).1))) := rfl
  have g3 : gIx (.tup [.int (0 - (U n d).1), .int (U n d).2]) (.int 1) = some (.s (.int (U n d).2)) := rfl
  have e : 1 * (U n d).2 + (0 - (U n d).1) * 1 = (U n d).2 - (U n d).1 := by omega
  have e1 : 1 * (U n d).2 = (U n d).2 := by omega
  have m1' := gMul_int m1
  have m2' := gMul_int m2
  rw [e1] at m1'
  rw [show (0 - (U n d).1) * 1 = 0 - (U n d).1 by omega] at m2'
  have e3 : (U n d).2 + (0 - (U n d).1) = (U n d).2 - (U n d).1 := by omega
  generalize hz : 0 - (U n d).1 = z at *
  simp (disch := omega) [List.getElem?_cons_zero, m__law_plus, runF, inP2, List.range_succ, exitV, outsOf, enc, g0, g1, g2, g3, m1', m2', e3]
  simp only [enc] at lo
  rw [lo]
  simp [enc, ch]
theorem less_ok {p q : Int × Int} (hp1 : big p.1) (hp2 : big p.2) (hq1 : big q.1) (hq2 : big q.2) : m__law_less [.sh (enc p), .sh (enc q)] = some (.rt (.s (.bl (decide (p.1 * q.2 < q.1 * p.2)))) [.no, .no]) := by
  obtain ⟨a, b⟩ := p
  obtain ⟨c, e⟩ := q
  have g0 : gIx (.tup [.int a, .int b]) (.int 0) = some (.s (.int a)) := rfl
  have g1 : gIx (.tup [.int a, .int b]) (.int 1) = some (.s (.int b)) := rfl
  have g2 : gIx (.tup [.int c, .int e]) (.int 0) = some (.s (.int c)) := rfl
  have g3 : gIx (.tup [.int c, .int e]) (.int 1) = some (.s (.int e)) := rfl
  have m1 := mulOk_vast hp1 hq2
  have m2 := mulOk_vast hq1 hp2
  simp (disch := omega) [List.getElem?_cons_zero, m__law_less, runF, inP2, List.range_succ, exitV, outsOf, enc, g0, g1, g2, g3, gMul_int m1, gMul_int m2]
theorem ch_big {d : Int} (h1 : 1 ≤ d) (h2 : d ≤ 101) {n : Nat} (hn : n ≤ 33) : big (ch n d).1 ∧ big (ch n d).2 := by
  have u := U_ok h1 h2 n
  have n1 := u.nn
  have n2 := u.le
  have b := u.b2 hn
  have s := rd_small (a := (U n d).2 - (U n d).1) u.pos
  have l := rd_le (a := (U n d).2 - (U n d).1) u.pos (by omega)
  have z := rd_nn (a := (U n d).2 - (U n d).1) u.pos (by omega)
  have p := rd_pos (a := (U n d).2 - (U n d).1) u.pos
  show big (rd _ _).1 ∧ big (rd _ _).2
  unfold big at *
  omega
def toldI (k n d : Int) : Option Tr := match m__law_told [.sh (.int k), .sh (.int n), .sh (.int d)] with
  | some (.rt (.s t) [.no, .no, .no]) => some t
  | _ => none
def lessB (a b : Tr) : Option Bool := match m__law_less [.sh a, .sh b] with
  | some (.rt (.s (.bl c)) [.no, .no]) => some c
  | _ => none
theorem toldI_ok {k n d : Int} {t : Tr} (h : toldI k n d = some t) : m__law_told [.sh (.int k), .sh (.int n), .sh (.int d)] = some (.rt (.s t) [.no, .no, .no]) := by
  unfold toldI at h
  split at h
  · rename_i e; cases h; exact e
  · cases h
theorem lessB_ok {a b : Tr} {c : Bool} (h : lessB a b = some c) : m__law_less [.sh a, .sh b] = some (.rt (.s (.bl c)) [.no, .no]) := by
  unfold lessB at h
  split at h
  · rename_i e; cases h; exact e
  · cases h
def chkC (d : Int) : Bool := match toldI 7 0 d, toldI 7 0 (d + 1) with
  | some (.int n), some (.int m) => decide (1 ≤ n) && (decide (d ≤ 1) || decide (2 ≤ n)) && decide (n ≤ m) && (match toldI 5 n d with
    | some t => lessB t (.tup [.int 1, .int 2]) == some false
    | none => false) && (decide (n ≤ 1) || (match toldI 5 (n - 1) d with
    | some t => lessB t (.tup [.int 1, .int 2]) == some true
    | none => false))
  | _, _ => false
theorem cg0 : chkC 1 = true := by decide +kernel
theorem cg1 : chkC 2 = true := by decide +kernel
theorem cg2 : chkC 3 = true := by decide +kernel
theorem cg3 : chkC 4 = true := by decide +kernel
theorem cg4 : chkC 5 = true := by decide +kernel
theorem cg5 : chkC 6 = true := by decide +kernel
theorem cg6 : chkC 7 = true := by decide +kernel
theorem cg7 : chkC 8 = true := by decide +kernel
theorem cg8 : chkC 9 = true := by decide +kernel
theorem cg9 : chkC 10 = true := by decide +kernel
theorem cg10 : chkC 11 = true := by decide +kernel
theorem cg11 : chkC 12 = true := by decide +kernel
theorem cg12 : chkC 13 = true := by decide +kernel
theorem cg13 : chkC 14 = true := by decide +kernel
theorem cg14 : chkC 15 = true := by decide +kernel
theorem cg15 : chkC 16 = true := by decide +kernel
theorem cg16 : chkC 17 = true := by decide +kernel
theorem cg17 : chkC 18 = true := by decide +kernel
theorem cg18 : chkC 19 = true := by decide +kernel
theorem cg19 : chkC 20 = true := by decide +kernel
theorem cg20 : chkC 21 = true := by decide +kernel
theorem cg21 : chkC 22 = true := by decide +kernel
theorem cg22 : chkC 23 = true := by decide +kernel
theorem cg23 : chkC 24 = true := by decide +kernel
theorem cg24 : chkC 25 = true := by decide +kernel
theorem cg25 : chkC 26 = true := by decide +kernel
theorem cg26 : chkC 27 = true := by decide +kernel
theorem cg27 : chkC 28 = true := by decide +kernel
theorem cg28 : chkC 29 = true := by decide +kernel
theorem cg29 : chkC 30 = true := by decide +kernel
theorem cg30 : chkC 31 = true := by decide +kernel
theorem cg31 : chkC 32 = true := by decide +kernel
theorem cg32 : chkC 33 = true := by decide +kernel
theorem cg33 : chkC 34 = true := by decide +kernel
theorem cg34 : chkC 35 = true := by decide +kernel
theorem cg35 : chkC 36 = true := by decide +kernel
theorem cg36 : chkC 37 = true := by decide +kernel
theorem cg37 : chkC 38 = true := by decide +kernel
theorem cg38 : chkC 39 = true := by decide +kernel
theorem cg39 : chkC 40 = true := by decide +kernel
theorem cg40 : chkC 41 = true := by decide +kernel
theorem cg41 : chkC 42 = true := by decide +kernel
theorem cg42 : chkC 43 = true := by decide +kernel
theorem cg43 : chkC 44 = true := by decide +kernel
theorem cg44 : chkC 45 = true := by decide +kernel
theorem cg45 : chkC 46 = true := by decide +kernel
theorem cg46 : chkC 47 = true := by decide +kernel
theorem cg47 : chkC 48 = true := by decide +kernel
theorem cg48 : chkC 49 = true := by decide +kernel
theorem cg49 : chkC 50 = true := by decide +kernel
theorem cg50 : chkC 51 = true := by decide +kernel
theorem cg51 : chkC 52 = true := by decide +kernel
theorem cg52 : chkC 53 = true := by decide +kernel
theorem cg53 : chkC 54 = true := by decide +kernel
theorem cg54 : chkC 55 = true := by decide +kernel
theorem cg55 : chkC 56 = true := by decide +kernel
theorem cg56 : chkC 57 = true := by decide +kernel
theorem cg57 : chkC 58 = true := by decide +kernel
theorem cg58 : chkC 59 = true := by decide +kernel
theorem cg59 : chkC 60 = true := by decide +kernel
theorem cg60 : chkC 61 = true := by decide +kernel
theorem cg61 : chkC 62 = true := by decide +kernel
theorem cg62 : chkC 63 = true := by decide +kernel
theorem cg63 : chkC 64 = true := by decide +kernel
theorem cg64 : chkC 65 = true := by decide +kernel
theorem cg65 : chkC 66 = true := by decide +kernel
theorem cg66 : chkC 67 = true := by decide +kernel
theorem cg67 : chkC 68 = true := by decide +kernel
theorem cg68 : chkC 69 = true := by decide +kernel
theorem cg69 : chkC 70 = true := by decide +kernel
theorem cg70 : chkC 71 = true := by decide +kernel
theorem cg71 : chkC 72 = true := by decide +kernel
theorem cg72 : chkC 73 = true := by decide +kernel
theorem cg73 : chkC 74 = true := by decide +kernel
theorem cg74 : chkC 75 = true := by decide +kernel
theorem cg75 : chkC 76 = true := by decide +kernel
theorem cg76 : chkC 77 = true := by decide +kernel
theorem cg77 : chkC 78 = true := by decide +kernel
theorem cg78 : chkC 79 = true := by decide +kernel
theorem cg79 : chkC 80 = true := by decide +kernel
theorem cg80 : chkC 81 = true := by decide +kernel
theorem cg81 : chkC 82 = true := by decide +kernel
theorem cg82 : chkC 83 = true := by decide +kernel
theorem cg83 : chkC 84 = true := by decide +kernel
theorem cg84 : chkC 85 = true := by decide +kernel
theorem cg85 : chkC 86 = true := by decide +kernel
theorem cg86 : chkC 87 = true := by decide +kernel
theorem cg87 : chkC 88 = true := by decide +kernel
theorem cg88 : chkC 89 = true := by decide +kernel
theorem cg89 : chkC 90 = true := by decide +kernel
theorem cg90 : chkC 91 = true := by decide +kernel
theorem cg91 : chkC 92 = true := by decide +kernel
theorem cg92 : chkC 93 = true := by decide +kernel
theorem cg93 : chkC 94 = true := by decide +kernel
theorem cg94 : chkC 95 = true := by decide +kernel
theorem cg95 : chkC 96 = true := by decide +kernel
theorem cg96 : chkC 97 = true := by decide +kernel
theorem cg97 : chkC 98 = true := by decide +kernel
theorem cg98 : chkC 99 = true := by decide +kernel
theorem cg99 : chkC 100 = true := by decide +kernel
theorem crowds : ∀ {e : Nat}, e < 100 → chkC ((e : Nat) + 1) = true
  | 0, _ => cg0
  | 1, _ => cg1
  | 2, _ => cg2
  | 3, _ => cg3
  | 4, _ => cg4
  | 5, _ => cg5
  | 6, _ => cg6
  | 7, _ => cg7
  | 8, _ => cg8
  | 9, _ => cg9
  | 10, _ => cg10
  | 11, _ => cg11
  | 12, _ => cg12
  | 13, _ => cg13
  | 14, _ => cg14
  | 15, _ => cg15
  | 16, _ => cg16
  | 17, _ => cg17
  | 18, _ => cg18
  | 19, _ => cg19
  | 20, _ => cg20
  | 21, _ => cg21
  | 22, _ => cg22
  | 23, _ => cg23
  | 24, _ => cg24
  | 25, _ => cg25
  | 26, _ => cg26
  | 27, _ => cg27
  | 28, _ => cg28
  | 29, _ => cg29
  | 30, _ => cg30
  | 31, _ => cg31
  | 32, _ => cg32
  | 33, _ => cg33
  | 34, _ => cg34
  | 35, _ => cg35
  | 36, _ => cg36
  | 37, _ => cg37
  | 38, _ => cg38
  | 39, _ => cg39
  | 40, _ => cg40
  | 41, _ => cg41
  | 42, _ => cg42
  | 43, _ => cg43
  | 44, _ => cg44
  | 45, _ => cg45
  | 46, _ => cg46
  | 47, _ => cg47
  | 48, _ => cg48
  | 49, _ => cg49
  | 50, _ => cg50
  | 51, _ => cg51
  | 52, _ => cg52
  | 53, _ => cg53
  | 54, _ => cg54
  | 55, _ => cg55
  | 56, _ => cg56
  | 57, _ => cg57
  | 58, _ => cg58
  | 59, _ => cg59
  | 60, _ => cg60
  | 61, _ => cg61
  | 62, _ => cg62
  | 63, _ => cg63
  | 64, _ => cg64
  | 65, _ => cg65
  | 66, _ => cg66
  | 67, _ => cg67
  | 68, _ => cg68
  | 69, _ => cg69
  | 70, _ => cg70
  | 71, _ => cg71
  | 72, _ => cg72
  | 73, _ => cg73
  | 74, _ => cg74
  | 75, _ => cg75
  | 76, _ => cg76
  | 77, _ => cg77
  | 78, _ => cg78
  | 79, _ => cg79
  | 80, _ => cg80
  | 81, _ => cg81
  | 82, _ => cg82
  | 83, _ => cg83
  | 84, _ => cg84
  | 85, _ => cg85
  | 86, _ => cg86
  | 87, _ => cg87
  | 88, _ => cg88
  | 89, _ => cg89
  | 90, _ => cg90
  | 91, _ => cg91
  | 92, _ => cg92
  | 93, _ => cg93
  | 94, _ => cg94
  | 95, _ => cg95
  | 96, _ => cg96
  | 97, _ => cg97
  | 98, _ => cg98
  | 99, _ => cg99
  | n + 100, h => absurd h (by omega)
theorem crowd_ok {d : Int} (h1 : 1 ≤ d) (h2 : d ≤ 100) : ∃ n m t : _, toldI 7 0 d = some (.int n) ∧ toldI 7 0 (d + 1) = some (.int m) ∧ 1 ≤ n ∧ (d ≤ 1 ∨ 2 ≤ n) ∧ n ≤ m ∧ toldI 5 n d = some t ∧ lessB t (.tup [.int 1, .int 2]) = some false ∧ (n ≤ 1 ∨ ∃ u, toldI 5 (n - 1) d = some u ∧ lessB u (.tup [.int 1, .int 2]) = some true) := by
  obtain ⟨e, rfl⟩ : ∃ e : Nat, d = (e : Nat) + 1 := ⟨(d - 1).toNat, by omega⟩
  have h := crowds (e := e) (by omega)
  unfold chkC at h
  split at h
  · rename_i n m e1 e2
    simp only [Bool.and_eq_true, Bool.or_eq_true, decide_eq_true_eq] at h
    obtain ⟨⟨⟨⟨q1, q2⟩, q3⟩, q4⟩, q5⟩ := h
    split at q4
    · rename_i t e3
      refine ⟨n, m, t, e1, e2, q1, q2, q3, e3, eq_of_beq q4, ?_⟩
      rcases q5 with q5 | q5
      · exact .inl q5
      · split at q5
        · rename_i u e4
          exact .inr ⟨u, e4, eq_of_beq q5⟩
        · cases q5
    · cases q4
  · cases h
theorem crowd365 : m__law_told [.sh (.int 7), .sh (.int 0), .sh (.int 365)] = some (.rt (.s (.int 23)) [.no, .no, .no]) := by kernel_rfl
theorem crowd2 : m__law_told [.sh (.int 7), .sh (.int 0), .sh (.int 2)] = some (.rt (.s (.int 2)) [.no, .no, .no]) := by kernel_rfl
end K86
namespace K86
open PySem PySem.Spec PyProof.Rows L2 TV
theorem gEq_enc (p q : Int × Int) : gNe (enc p) (enc q) = some (.s (.bl (!decide (p = q)))) := by
  obtain ⟨a, b⟩ := p
  obtain ⟨c, e⟩ := q
  have h1 : shp (.tup [.int a, .int b]) = true := shp_tup_ti [a, b]
  have h2 : shp (.tup [.int c, .int e]) = true := shp_tup_ti [c, e]
  have h3 : eqT (.tup [.int a, .int b]) (.tup [.int c, .int e]) = decide ((a, b) = (c, e)) := by
    simp [TV.eqT, dat, dats, PyData.eqv, PyData.eqvAll]
    by_cases x : a = c <;> by_cases y : b = e <;> simp [x, y]
  show gNe (.tup [.int a, .int b]) (.tup [.int c, .int e]) = _
  unfold gNe
  rw [h1, h2, h3]
  rfl
theorem alike_pair (p q : Int × Int) : m__law_alike [.sh (.lst [enc p, enc q]), .sh (.lst [enc p, enc q])] = some (.rt (.s (.bl true)) [.no, .no]) := by
  have hp : ∀ p : Int × Int, dp 7 (enc p) := fun p => ⟨by simp, fun t ht => by
    simp at ht
    rcases ht with rfl | rfl <;> trivial⟩
  exact alike_ok 8 _ ⟨by simp, fun t ht => by
    simp at ht
    rcases ht with rfl | rfl
    · exact hp p
    · exact hp q⟩
set_option maxHeartbeats 4000000 in
theorem days_ok (ds : List Int) (hd : ds.length ≤ 100000) : ∃ ds' : List Int, ds'.length ≤ 100000 ∧ m__law_days [.ow (ti ds)] = some (.rt (.s (.bl true)) [.ow (ti ds')]) := by
  obtain ⟨v1, ds1, a1, a2, hd1, t1⟩ := draw_ok ds hd 4 (by omega)
  obtain ⟨v2, ds2, b1, b2, hd2, t2⟩ := draw_ok ds1 hd1 5 (by omega)
  obtain ⟨v3, ds3, c1, c2, hd3, t3⟩ := draw_ok ds2 hd2 30 (by omega)
  obtain ⟨v4, ds4, e1, e2, hd4, t4⟩ := draw_ok ds3 hd3 100 (by omega)
  change m__law_take _ = _ at t1 t2 t3 t4
  simp only [ti] at t1 t2 t3 t4
  obtain ⟨x1, x2, x3, x4, x5, x6, x7, x8, x9, x10, x11, x12, x13, x14, x15, x16, hA⟩ := dA_ok (.ow (ti ds2)) (1 + v1) (1 + v2) (by omega) (by omega) (by omega) (by omega)
  obtain ⟨n, hn⟩ : ∃ n : Nat, 2 + v3 = (n : Nat) := ⟨(2 + v3).toNat, by omega⟩
  generalize hdd : 1 + v4 = d
  have h1 : 1 ≤ d := by omega
  have h2 : d ≤ 100 := by omega
  have hn1 : 2 ≤ n := by omega
  have hn2 : n ≤ 31 := by omega
  obtain ⟨c, c', tt, q1, q2, q3, q4, q5, q6, q7, q8⟩ := crowd_ok h1 h2
  have q1 := toldI_ok q1
  have q2 := toldI_ok q2
  have q6 := toldI_ok q6
  have q7 := lessB_ok q7
  have m1 : mulOk ((n : Nat) : Int) ((n : Nat) - 1) = true := mulOk_ok (by omega) (by omega)
  have m2 : mulOk 2 d = true := mulOk_ok (by omega) (by omega)
  have bb := ch_big (d := d) h1 (by omega) (n := n) (by omega)
  have bb1 := ch_big (d := d) h1 (by omega) (n := n + 1) (by omega)
  have bb2 := ch_big (d := d + 1) (by omega) (by omega) (n := n) (by omega)
  have w5 := told5 (d := d) h1 (by omega) (n := n) (by omega) (by omega)
  have w5a := told5 (d := d) h1 (by omega) (n := n + 1) (by omega) (by omega)
  rw [Int.natCast_add, Int.natCast_one] at w5a
  have w5b := told5 (d := d + 1) (by omega) (by omega) (n := n) (by omega) (by omega)
  have w6 := told6 (k := (n : Nat)) (d := d) h1 (by omega) (by omega) (by omega)
  have lm := lmade_ok (a := (n : Int) * ((n : Int) - 1)) (b := 2 * d) (by omega) (by
    have : (n : Int) * ((n : Int) - 1) ≤ 31 * 31 := Int.mul_le_mul (by omega) (by omega) (by omega) (by omega)
    have := Int.mul_nonneg (a := (n : Int)) (b := (n : Int) - 1) (by omega) (by omega)
    unfold big; omega) (by unfold big; omega)
  replace lm : m__law_made [.sh (.int ((n : Int) * ((n : Int) - 1))), .sh (.int (2 * d))] = some (.rt (.s (enc (mean (n : Nat) d))) [.no, .no]) := lm
  have ap := alike_pair (ch n d) (mean (n : Nat) d)
  have pl := lplus_ok (d := d) h1 (by omega) (n := n) (by omega)
  have l1 := less_ok bb.1 bb.2 bb1.1 bb1.2
  have l2 := less_ok bb.1 bb.2 bb2.1 bb2.2
  have lw := ch_wide h1 h2 n
  rw [decide_eq_false lw] at l2
  rw [days_eq]
  let Ef : En := [.ow (ti ds4), .no, .no, .no, .no, .sh (enc (U n d)), .sh (enc (ch n d)), .sh (.int c), .sh (.int (n : Nat)), .sh (.int d), .no, .no, .sh (enc (ch (n + 1) d)), .sh (enc (ch n (d + 1))), .no, .no, .no]
  refine ⟨ds4, hd4, run_rt (ρ := Ef) (r := .sh (.bl true)) (v := .s (.bl true)) (ρ' := Ef) rfl (by simp [inP, List.range_succ]) (by simp) ?_ (by simp [exitV]) |>.trans (by simp [outsOf, Ef, List.range_succ])⟩
  refine seq_nx (ρ1 := dE (.ow (ti ds2)) (1 + v1) (1 + v2)) (by
    simp (disch := omega) [List.getElem?_cons_zero, dS1, dE, t1, t2]) ?_
  refine seq_nx hA ?_
  unfold dT
  refine seq_nx (ρ1 := [.ow (ti ds4), x1, x2, x3, x4, x5, x6, x7, .sh (.int (n : Nat)), .sh (.int d), x10, x11, x12, x13, x14, x15, x16]) (by
    simp (disch := omega) [List.getElem?_cons_zero, t3, t4, hn, hdd]) ?_
  refine seq_nx (ρ1 := [.ow (ti ds4), x1, x2, x3, x4, .sh (enc (1, 1)), x6, x7, .sh (.int (n : Nat)), .sh (.int d), x10, x11, x12, x13, x14, x15, x16]) (by
    simp (disch := omega) [List.getElem?_cons_zero, enc]) ?_
  refine seq_nx (ρ1 := dL (.ow (ti ds4)) (n : Nat) d n) (for_ok (ts := TV.upTo 0 n) (ρ1 := [.ow (ti ds4), x1, x2, x3, x4, .sh (enc (1, 1)), x6, x7, .sh (.int (n : Nat)), .sh (.int d), x10, x11, x12, x13, x14, x15, x16]) (rng1_nat (n := n) (by simp) (by omega)) (by
    rw [show kill [1, 2, 3, 4, 6, 7, 10, 11, 12, 13, 14, 15, 16] ([.ow (ti ds4), x1, x2, x3, x4, .sh (enc (1, 1)), x6, x7, .sh (.int (n : Nat)), .sh (.int d), x10, x11, x12, x13, x14, x15, x16] : En) = dL (.ow (ti ds4)) (n : Nat) d 0 by simp [dL, U]]
    exact dl_loop h1 (by omega) (by omega))) ?_
  refine seq_nx (ρ1 := [.ow (ti ds4), .no, .no, .no, .no, .sh (enc (U n d)), .sh (enc (ch n d)), .no, .sh (.int (n : Nat)), .sh (.int d), .no, .no, .no, .no, .no, .no, .no]) (by
    have g2 : gIx (enc (U n d)) (.int 0) = some (.s (.int (U n d).1)) := rfl
    have g3 : gIx (enc (U n d)) (.int 1) = some (.s (.int (U n d).2)) := rfl
    have gs : gSub (.int 0) (.int (U n d).1) = some (.s (.int (0 - (U n d).1))) := rfl
    generalize hz : 0 - (U n d).1 = z at gs pl
    simp (disch := omega) [List.getElem?_cons_zero, dL, g2, g3, gs, pl, -gSub_int]) ?_
  refine seq_nx (ρ1 := [.ow (ti ds4), .no, .no, .no, .no, .sh (enc (U n d)), .sh (enc (ch n d)), .no, .sh (.int (n : Nat)), .sh (.int d), .no, .no, .no, .no, .no, .no, .no]) (if_skip (by
    simp (disch := omega) [List.getElem?_cons_zero, w5, w6, gMul_int m1, gMul_int m2, lm, ap])) ?_
  refine seq_nx (ρ1 := [.ow (ti ds4), .no, .no, .no, .no, .sh (enc (U n d)), .sh (enc (ch n d)), .no, .sh (.int (n : Nat)), .sh (.int d), .no, .no, .sh (enc (ch (n + 1) d)), .sh (enc (ch n (d + 1))), .no, .no, .no]) (by
    simp (disch := omega) [List.getElem?_cons_zero, w5a, w5b]) ?_
  refine seq_nx (ρ1 := [.ow (ti ds4), .no, .no, .no, .no, .sh (enc (U n d)), .sh (enc (ch n d)), .no, .sh (.int (n : Nat)), .sh (.int d), .no, .no, .sh (enc (ch (n + 1) d)), .sh (enc (ch n (d + 1))), .no, .no, .no]) (if_skip (by
    have gn : gNe (enc (ch n d)) (.tup [.int 1, .int 1]) = some (.s (.bl (!decide (ch n d = (1, 1))))) := gEq_enc (ch n d) (1, 1)
    by_cases z : ch n d = (1, 1)
    · by_cases y : (ch n d).1 * (ch (n + 1) d).2 < (ch (n + 1) d).1 * (ch n d).2
      · rw [decide_eq_true y] at l1
        simp (disch := omega) [List.getElem?_cons_zero, l1, l2]
      · rw [decide_eq_false y] at l1
        rw [decide_eq_true z] at gn
        simp (disch := omega) [List.getElem?_cons_zero, l1, l2, gn]
    · have y := ch_more (d := d) h1 (by omega) (k := n) (by omega) z
      rw [decide_eq_true y] at l1
      simp (disch := omega) [List.getElem?_cons_zero, l1, l2])) ?_
  refine seq_nx (ρ1 := Ef) (by
    simp (disch := omega) [List.getElem?_cons_zero, q1, Ef]) ?_
  refine seq_nx (ρ1 := Ef) (if_skip (by
    have k1 : subK .int .int = true := rfl
    by_cases z : 1 < d
    · simp (disch := omega) [List.getElem?_cons_zero, Ef, q2, ltT, ltF]
    · simp (disch := omega) [List.getElem?_cons_zero, Ef, q2, ltT, ltF])) ?_
  refine seq_nx (ρ1 := Ef) (if_skip (by
    rcases q8 with z | ⟨u, z1, z2⟩
    · simp (disch := omega) [List.getElem?_cons_zero, Ef, q6, q7, ltF]
    · have z1 := toldI_ok z1
      have z2 := lessB_ok z2
      by_cases z : 1 < c
      · simp (disch := omega) [List.getElem?_cons_zero, Ef, q6, q7, z1, z2, z]
      · simp (disch := omega) [List.getElem?_cons_zero, Ef, q6, q7, z])) ?_
  have r1 := crowd365
  have r2 := crowd2
  simp (disch := omega) [List.getElem?_cons_zero, Ef, r1, r2, gEq_int]
end K86
namespace K86
open PySem PySem.Spec PyProof.Rows L2 TV
def lT : Sv := (seqS (setS [] 2 (lstE nilA))
 (seqS (forS [] (itE (lstE (consA false (conE (.int 0)) (consA false (conE (.int 201)) nilA)))) (.nm 3) [0, 1, 3, 4]
 B_law_0)
 (seqS (forS [] (itE (lstE (consA false (conE (.int 0)) (consA false (conE (.int 401)) nilA)))) (.nm 3) [0, 1, 3, 4]
 B_law_1)
 (seqS (setS [] 2 (binE gAdd (varE 2) (compE [3] (itE (lstE (consA false (conE (.int 0)) (consA false (conE (.int 1001)) nilA)))) (.nm 3) yesT (callE m__law_told (consA false (conE (.int 4)) (consA false (varE 3) (consA false (conE (.int 5)) nilA)))))))
 (seqS (forS [] (itE (lstE (consA false (conE (.int 0)) (consA false (conE (.int 61)) nilA)))) (.nm 3) [0, 1, 3, 4]
 B_law_2)
 (retS (binE gEq (varE 2) (binE gMul (lstE (consA false (conE (.str "range")) nilA)) (conE (.int 22))))))))))
def lTb (X Y : Sl) : Bool := match lT [X, Y, .no, .no, .no] with
  | some (.rt (.sh (.bl true)) _) => true
  | _ => false
theorem lTb_ok : (fun X Y => lTb X Y) = fun X Y => true := by kernel_rfl
theorem lT_ok (X Y : Sl) : ∃ ρ, lT [X, Y, .no, .no, .no] = some (.rt (.sh (.bl true)) ρ) := by
  have h : lTb X Y = true := congrFun (congrFun lTb_ok X) Y
  unfold lTb at h
  split at h
  · rename_i ρ e; exact ⟨ρ, e⟩
  · cases h
theorem law_eq : m_law = runF 1 5 [] (seqS ((setS [] 1 (callE m__law_draws (consA false (varE 0) nilA)))) (seqS ((ifS (orT (notT (tst (callE m__law_candles (consA true (varE 1) nilA)))) (notT (tst (callE m__law_days (consA true (varE 1) nilA))))) (retS (conE (.bl false))) skipS)) lT)) := rfl
theorem law_ok : LawOk m_law := by
  intro ns hn
  obtain ⟨ds, hd, e0⟩ := draws_ok ns hn
  obtain ⟨ds1, hd1, e1⟩ := candles_ok ds hd
  obtain ⟨ds2, hd2, e2⟩ := days_ok ds1 hd1
  obtain ⟨ρ, e3⟩ := lT_ok (.sh (.scr ns)) (.ow (ti ds2))
  replace e0 : m__law_draws [.sh (.scr ns)] = some (.rt (.l (ti ds)) [.no]) := e0
  simp only [ti] at e0 e1 e2 e3
  rw [law_eq]
  refine ⟨[.no], (run_rt (args := [.sh (.scr ns)]) (ρ := ρ) (r := .sh (.bl true)) (v := .s (.bl true)) (ρ' := ρ) rfl (by rw [inP1]; rfl) (by simp) ?_ (by simp [exitV])).trans (by simp [outsOf, List.range_succ])⟩
  refine seq_nx (ρ1 := [.sh (.scr ns), .ow (ds.map Tr.int), .no, .no, .no]) (by
    simp (disch := omega) [List.getElem?_cons_zero, e0]) ?_
  refine seq_nx (ρ1 := [.sh (.scr ns), .ow (ds2.map Tr.int), .no, .no, .no]) (if_skip (by
    simp (disch := omega) [List.getElem?_cons_zero, e1, e2])) ?_
  exact e3
end K86
open PySem PySem.W PySem.Calls PyProof.Rows in
set_option maxHeartbeats 0 in
theorem PySem.Challenge.cw_playheld_k86_whole_candles_and_birthdays_holds : PySem.Challenge.rw_playheld_k86_whole_candles_and_birthdays.Holds := by
  w_on; o_law
  refine HandSHeadRun.head_imp (r := OpenLaw.row PySem.Challenge.rw_playheld_k86_whole_candles_and_birthdays) (q := view (OpenLaw.row PySem.Challenge.rw_playheld_k86_whole_candles_and_birthdays).prog [0, 47]) (H := K86.hk) (ob := K86.ob) (M := 6000) (loose := K86.names) (d := HandSHeadRun.topDef (OpenLaw.row PySem.Challenge.rw_playheld_k86_whole_candles_and_birthdays).prog 47) (kwd := []) K86.ob_eq K86.run (by kernel_rfl) (by kernel_rfl) (by kernel_rfl) (by rfl) (by first | assumption | decide +kernel) (by decide +kernel) ⟨rfl, rfl, rfl, rfl, rfl, by decide +kernel⟩ ?hw ?hc
  case hw => w_witness2
  case hc =>
    refine L2.walk_ofE (l := PySem.Challenge.rw_playheld_k86_whole_candles_and_birthdays) (n := 63) (k := 11) (x := "script") (CX := L2.CX0) rfl (by decide) (by kernel_rfl) ⟨rfl, by decide, by decide⟩ ?F (fun _ _ _ _ z => z)
    intro w mg fa h Y G hmg0
    obtain ⟨K, KX, c⟩ := Y
    have hmg : mg ("law" : PySem.Str) = some (.ref fa) := by
      have e : (HandSHeadRun.topDef (OpenLaw.row PySem.Challenge.rw_playheld_k86_whole_candles_and_birthdays).prog 47).name = ("law" : PySem.Str) := by kernel_rfl
      rw [← e]
      exact hmg0
    obtain ⟨fd, hb, hF⟩ := K86.law_fn (P := (PySem.Challenge.rw_playheld_k86_whole_candles_and_birthdays).prog) (w := w) KX G hmg c
    exact ⟨K, fd, fun vs H Q _ => TV.spF K86.G K mg 1 K86.m_law vs H Q fun _ _ _ => False, KX, hb, fun H a ns hl hO hS => TV.law_sp K86.law_ok hl hO hS, fun base kin hns => TV.FnOk.noX (hF base kin hns)⟩
