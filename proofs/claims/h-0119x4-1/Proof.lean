import JvmDerived
import JvmDerived.Pilot.@@N@@Statement
import JvmDerived.Pilot.@@N@@Code
set_option linter.unusedVariables false
set_option linter.unusedSimpArgs false
namespace Jvm.OwnKit
open Sem ClassFile Op Lib Jvm.Stand Jvm.Free Jvm.LawKit Jvm.RoadKit
/-! # 1. whole numbers for Java's ints and longs -/
def w32 (x : Int) : Int := (x + 2147483648) % 4294967296 - 2147483648
def w64 (x : Int) : Int := (x + 9223372036854775808) % 18446744073709551616 - 9223372036854775808
def R32 (x : Int) : Prop := -2147483648 ≤ x ∧ x < 2147483648
def R64 (x : Int) : Prop := -9223372036854775808 ≤ x ∧ x < 9223372036854775808
theorem r_w32 (x : Int) : R32 (w32 x) := by unfold R32 w32; omega
theorem r_w64 (x : Int) : R64 (w64 x) := by unfold R64 w64; omega
theorem w32_id {x : Int} (h : R32 x) : w32 x = x := by unfold R32 at h; unfold w32; omega
theorem w64_id {x : Int} (h : R64 x) : w64 x = x := by unfold R64 at h; unfold w64; omega
theorem bm32 (x : Int) : x.bmod 4294967296 = w32 x := by unfold w32; rw [Int.bmod_def]; split <;> omega
theorem bm64 (x : Int) : x.bmod 18446744073709551616 = w64 x := by unfold w64; rw [Int.bmod_def]; split <;> omega
theorem t32 {x : Int} (h : R32 x) : (Int32.ofInt x).toInt = x := Int32.toInt_ofInt_of_le (by unfold R32 at h; omega) (by unfold R32 at h; omega)
theorem t64 {x : Int} (h : R64 x) : (Int64.ofInt x).toInt = x := Int64.toInt_ofInt_of_le (by unfold R64 at h; omega) (by unfold R64 at h; omega)
theorem ri32 (x : Int32) : R32 x.toInt := ⟨by have := x.le_toInt; omega, by have := x.toInt_lt; omega⟩
theorem ri64 (x : Int64) : R64 x.toInt := ⟨by have := x.le_toInt; omega, by have := x.toInt_lt; omega⟩
theorem e32 {a : Int32} {x : Int} (h : R32 x) (e : a.toInt = x) : Int32.ofInt x = a := Int32.toInt_inj.mp (by rw [t32 h, e])
theorem e64 {a : Int64} {x : Int} (h : R64 x) (e : a.toInt = x) : Int64.ofInt x = a := Int64.toInt_inj.mp (by rw [t64 h, e])
theorem q_add {x y : Int} (hx : R32 x) (hy : R32 y) : Int32.ofInt (w32 (x + y)) = Int32.ofInt x + Int32.ofInt y := e32 (r_w32 _) (by rw [Int32.toInt_add, t32 hx, t32 hy]; exact bm32 _)
theorem q_sub {x y : Int} (hx : R32 x) (hy : R32 y) : Int32.ofInt (w32 (x - y)) = Int32.ofInt x - Int32.ofInt y := e32 (r_w32 _) (by rw [Int32.toInt_sub, t32 hx, t32 hy]; exact bm32 _)
theorem q_mul {x y : Int} (hx : R32 x) (hy : R32 y) : Int32.ofInt (w32 (x * y)) = Int32.ofInt x * Int32.ofInt y := e32 (r_w32 _) (by rw [Int32.toInt_mul, t32 hx, t32 hy]; exact bm32 _)
theorem q_neg {x : Int} (hx : R32 x) : Int32.ofInt (w32 (-x)) = -Int32.ofInt x := e32 (r_w32 _) (by rw [Int32.toInt_neg, t32 hx]; exact bm32 _)
theorem q_div {x y : Int} (hx : R32 x) (hy : R32 y) : Int32.ofInt (w32 (x.tdiv y)) = Int32.ofInt x / Int32.ofInt y := e32 (r_w32 _) (by rw [Int32.toInt_div, t32 hx, t32 hy]; exact bm32 _)
theorem r_tmod {x y : Int} (hx : R32 x) : R32 (x.tmod y) := by
  unfold R32 at hx ⊢
  have h1 : (x.tmod y).natAbs = x.natAbs % y.natAbs := Int.natAbs_tmod ..
  have h2 := Nat.mod_le x.natAbs y.natAbs
  rcases Int.le_total 0 x with h | h
  · have := Int.tmod_nonneg y h
    omega
  · have h3 := Int.tmod_nonneg y (show 0 ≤ -x by omega)
    rw [Int.neg_tmod] at h3
    omega
theorem q_rem {x y : Int} (hx : R32 x) (hy : R32 y) : Int32.ofInt (x.tmod y) = Int32.ofInt x - Int32.ofInt x / Int32.ofInt y * Int32.ofInt y :=
  e32 (r_tmod hx) (by rw [irem_eq_mod, Int32.toInt_mod, t32 hx, t32 hy])
theorem q_ladd {x y : Int} (hx : R64 x) (hy : R64 y) : Int64.ofInt (w64 (x + y)) = Int64.ofInt x + Int64.ofInt y := e64 (r_w64 _) (by rw [Int64.toInt_add, t64 hx, t64 hy]; exact bm64 _)
theorem q_lsub {x y : Int} (hx : R64 x) (hy : R64 y) : Int64.ofInt (w64 (x - y)) = Int64.ofInt x - Int64.ofInt y := e64 (r_w64 _) (by rw [Int64.toInt_sub, t64 hx, t64 hy]; exact bm64 _)
theorem q_lmul {x y : Int} (hx : R64 x) (hy : R64 y) : Int64.ofInt (w64 (x * y)) = Int64.ofInt x * Int64.ofInt y := e64 (r_w64 _) (by rw [Int64.toInt_mul, t64 hx, t64 hy]; exact bm64 _)
def iand (x y : Int) : Int := (Int32.ofInt x &&& Int32.ofInt y).toInt
def ior (x y : Int) : Int := (Int32.ofInt x ||| Int32.ofInt y).toInt
def ixor (x y : Int) : Int := (Int32.ofInt x ^^^ Int32.ofInt y).toInt
def ishl (x y : Int) : Int := (Int32.ofInt x <<< (Int32.ofInt y &&& 31)).toInt
def ishr (x y : Int) : Int := (Int32.ofInt x >>> (Int32.ofInt y &&& 31)).toInt
def iushr (x y : Int) : Int := (XT.ushr (Int32.ofInt x) (Int32.ofInt y)).toInt
def land (x y : Int) : Int := (Int64.ofInt x &&& Int64.ofInt y).toInt
def lor (x y : Int) : Int := (Int64.ofInt x ||| Int64.ofInt y).toInt
def lxor (x y : Int) : Int := (Int64.ofInt x ^^^ Int64.ofInt y).toInt
def lshl (x y : Int) : Int := (Int64.ofInt x <<< ((Int32.ofInt y).toInt64 &&& 63)).toInt
def lshr (x y : Int) : Int := (Int64.ofInt x >>> ((Int32.ofInt y).toInt64 &&& 63)).toInt
def lushr (x y : Int) : Int := (XT.ushrL (Int64.ofInt x) (Int32.ofInt y)).toInt
def i2b (x : Int) : Int := (x + 128) % 256 - 128
def i2s (x : Int) : Int := (x + 32768) % 65536 - 32768
def lcmp (x y : Int) : Int := if y < x then 1 else if x = y then 0 else -1
theorem q_i2b {x : Int} (hx : R32 x) : Int32.ofInt (i2b x) = (Int32.ofInt x).toInt8.toInt32 :=
  e32 (by unfold R32 i2b; omega) (by rw [Int8.toInt_toInt32, Int32.toInt_toInt8, t32 hx]; unfold i2b; rw [Int.bmod_def]; split <;> omega)
theorem q_i2s {x : Int} (hx : R32 x) : Int32.ofInt (i2s x) = (Int32.ofInt x).toInt16.toInt32 :=
  e32 (by unfold R32 i2s; omega) (by rw [Int16.toInt_toInt32, Int32.toInt_toInt16, t32 hx]; unfold i2s; rw [Int.bmod_def]; split <;> omega)
theorem q_i2l {x : Int} (hx : R32 x) : Int64.ofInt x = (Int32.ofInt x).toInt64 := e64 (by unfold R32 at hx; unfold R64; omega) (by rw [Int32.toInt_toInt64, t32 hx])
theorem q_l2i {x : Int} (hx : R64 x) : Int32.ofInt (w32 x) = (Int64.ofInt x).toInt32 := e32 (r_w32 _) (by rw [Int64.toInt_toInt32, t64 hx]; exact bm32 _)
theorem q_lcmp {x y : Int} (hx : R64 x) (hy : R64 y) : Int32.ofInt (lcmp x y) = XT.cmpL (Int64.ofInt x) (Int64.ofInt y) := by
  unfold lcmp XT.cmpL
  simp only [Int64.lt_iff_toInt_lt, ← Int64.toInt_inj, t64 hx, t64 hy]
  split
  · rfl
  · split <;> rfl
theorem r_lcmp (x y : Int) : R32 (lcmp x y) := by unfold R32 lcmp; split <;> (try split) <;> omega
theorem r_i2b (x : Int) : R32 (i2b x) := by unfold R32 i2b; omega
theorem r_i2s (x : Int) : R32 (i2s x) := by unfold R32 i2s; omega
theorem q_mod2 {x : Int} (hx : R32 x) : Int32.ofInt (x % 2) = Int32.ofInt x &&& 1 := by
  apply Int32.toInt_inj.mp
  rw [t32 (by unfold R32; omega)]
  rcases and_one (Int32.ofInt x) with h | h
  all_goals
    have h1 := congrArg (fun z : Int32 => z.toBitVec.toNat) h
    simp only [Int32.toBitVec_and] at h1
    have h2 : (Int32.ofInt x).toBitVec.toInt = x := t32 hx
    rw [BitVec.toInt_eq_toNat_cond] at h2
    have h3 : ((Int32.ofInt x).toBitVec &&& (1 : Int32).toBitVec).toNat = (Int32.ofInt x).toBitVec.toNat % 2 := by
      rw [BitVec.toNat_and]; exact Nat.and_one_is_mod _
    rw [h3] at h1
    rw [h]
    have h4 : (0 : Int32).toBitVec.toNat = 0 := rfl
    have h5 : (1 : Int32).toBitVec.toNat = 1 := rfl
    have h6 : (0 : Int32).toInt = 0 := rfl
    have h7 : (1 : Int32).toInt = 1 := rfl
    split at h2 <;> omega
/-! # 2. values, variables, the operand stack -/
abbrev AV : Type := Sum Int (Sum Int (Option Nat))
abbrev vI (x : Int) : AV := .inl x
abbrev vL (x : Int) : AV := .inr (.inl x)
abbrev vR (h : Nat) : AV := .inr (.inr (some h))
abbrev vN : AV := .inr (.inr none)
def conc (A : Nat → Addr) : AV → Value
  | .inl x => .int (Int32.ofInt x)
  | .inr (.inl x) => .long (Int64.ofInt x)
  | .inr (.inr (some h)) => .ref (A h)
  | .inr (.inr none) => .null
def okV : AV → Prop
  | .inl x => R32 x
  | .inr (.inl x) => R64 x
  | .inr (.inr _) => True
def okSt : List AV → Prop
  | [] => True
  | v :: st => okV v ∧ okSt st
/-- none: the second half of a long; some none: unset -/
abbrev Sl : Type := Option (Option AV)
abbrev sv (v : AV) : Sl := some (some v)
abbrev sU : Sl := some none
abbrev s2 : Sl := none
def concS (A : Nat → Addr) : Sl → Slot
  | none => .second
  | some none => .unset
  | some (some v) => .val (conc A v)
/-- a variable's slot by its kind: 0 one slot, 1 a long's first, 2 its second -/
def okS : Nat → Sl → Prop
  | k, none => k = 2
  | _, some none => True
  | k, some (some (.inl x)) => k = 0 ∧ R32 x
  | k, some (some (.inr (.inl x))) => k = 1 ∧ R64 x
  | k, some (some (.inr (.inr _))) => k = 0
def okL : List Nat → List Sl → Prop
  | [], [] => True
  | k :: ks, s :: ss => okS k s ∧ okL ks ss
  | _, _ => False
def nth {α : Type} : List α → Nat → Option α
  | [], _ => none
  | a :: _, 0 => some a
  | _ :: l, n + 1 => nth l n
def setN {α : Type} : List α → Nat → α → List α
  | [], _, _ => []
  | _ :: l, 0, b => b :: l
  | a :: l, n + 1, b => a :: setN l n b
theorem nth_eq {α : Type} : ∀ (l : List α) (k : Nat), nth l k = l[k]?
  | [], _ => by simp [nth]
  | a :: l, 0 => by simp [nth]
  | a :: l, n + 1 => by simp [nth, nth_eq l n]
theorem setN_eq {α : Type} : ∀ (l : List α) (k : Nat) (b : α), setN l k b = l.set k b
  | [], _, _ => by simp [setN]
  | a :: l, 0, b => by simp [setN]
  | a :: l, n + 1, b => by simp [setN, setN_eq l n]
def cL (A : Nat → Addr) (L : List Sl) : Array Slot := (L.map (concS A)).toArray
def cSt (A : Nat → Addr) (st : List AV) : List Value := st.map (conc A)
theorem cL_get {A : Nat → Addr} {L : List Sl} {k : Nat} {s : Sl} (h : nth L k = some s) : (cL A L)[k]? = some (concS A s) := by
  rw [nth_eq] at h; simp [cL, h]
theorem cL_set (A : Nat → Addr) (L : List Sl) (k : Nat) (s : Sl) : cL A (setN L k s) = (cL A L).setIfInBounds k (concS A s) := by
  rw [setN_eq]; simp [cL, List.map_set]
theorem okL_get : ∀ {ks : List Nat} {L : List Sl} {k : Nat} {s : Sl}, okL ks L → nth L k = some s → ∃ j, nth ks k = some j ∧ okS j s
  | [], [], _, _, _, h => by simp [nth] at h
  | [], _ :: _, _, _, ok, _ => ok.elim
  | _ :: _, [], _, _, ok, _ => ok.elim
  | j :: ks, s :: L, 0, s', ok, h => by simp only [nth, Option.some.injEq] at h; subst h; exact ⟨j, rfl, ok.1⟩
  | j :: ks, s :: L, n + 1, s', ok, h => okL_get (ks := ks) (L := L) (k := n) ok.2 h
theorem okL_at : ∀ {ks : List Nat} {L : List Sl} {k j : Nat}, okL ks L → nth ks k = some j → ∃ s, nth L k = some s ∧ okS j s
  | [], _, _, _, _, h => by simp [nth] at h
  | _ :: _, [], _, _, ok, _ => ok.elim
  | j :: ks, s :: L, 0, j', ok, h => by simp only [nth, Option.some.injEq] at h; subst h; exact ⟨s, rfl, ok.1⟩
  | j :: ks, s :: L, n + 1, j', ok, h => okL_at (ks := ks) (L := L) (k := n) ok.2 h
theorem okL_set : ∀ {ks : List Nat} {L : List Sl} {k j : Nat} {s : Sl}, okL ks L → nth ks k = some j → okS j s → okL ks (setN L k s)
  | [], _, _, _, _, _, h, _ => by simp [nth] at h
  | _ :: _, [], _, _, _, ok, _, _ => ok.elim
  | j :: ks, s0 :: L, 0, j', s, ok, h, hs => by simp only [nth, Option.some.injEq] at h; subst h; exact ⟨hs, ok.2⟩
  | j :: ks, s0 :: L, n + 1, j', s, ok, h, hs => ⟨ok.1, okL_set (ks := ks) (L := L) (k := n) ok.2 h hs⟩
theorem okL_len : ∀ {ks : List Nat} {L : List Sl}, okL ks L → L.length = ks.length
  | [], [], _ => rfl
  | [], _ :: _, ok => ok.elim
  | _ :: _, [], ok => ok.elim
  | _ :: ks, _ :: L, ok => by simp [okL_len (ks := ks) (L := L) ok.2]
theorem st1 {A : Nat → Addr} {km : List Nat} {L : List Sl} {k : Nat} (ok : okL km L) (hk : nth km k = some 0) {v : Value} (hv : v.category = 1) :
    storeLocals (cL A L) k v = some ((cL A L).setIfInBounds k (.val v)) := by
  obtain ⟨s, hs, hok⟩ := okL_at ok hk
  refine XS.store1 (cL_get hs) ?_ hv
  match s, hok with
  | some none, _ => exact Or.inl rfl
  | some (some (.inl x)), _ => exact Or.inr ⟨_, rfl, rfl⟩
  | some (some (.inr (.inr none))), _ => exact Or.inr ⟨_, rfl, rfl⟩
  | some (some (.inr (.inr (some h)))), _ => exact Or.inr ⟨_, rfl, rfl⟩
theorem store2 {l : Array Slot} {k : Nat} {x : Int64} {o o' : Slot} (h1 : l[k]? = some o) (h2 : l[k + 1]? = some o') (ho : o = .unset ∨ ∃ z, o = .val (.long z)) (ho' : o' = .unset ∨ o' = .second) :
    storeLocals l k (.long x) = some ((l.setIfInBounds k (.val (.long x))).setIfInBounds (k + 1) .second) := by
  obtain ⟨i1, g1⟩ := Array.getElem?_eq_some_iff.mp h1
  obtain ⟨i2, g2⟩ := Array.getElem?_eq_some_iff.mp h2
  have ne : k + 1 ≠ k := by omega
  have e : ((l.setIfInBounds (k + 1) .unset).setIfInBounds k (.val (.long x))).setIfInBounds (k + 1) .second = (l.setIfInBounds k (.val (.long x))).setIfInBounds (k + 1) .second := by
    apply Array.ext_getElem?
    intro i
    simp only [Array.getElem?_setIfInBounds, Array.size_setIfInBounds]
    by_cases q : k + 1 = i <;> by_cases q' : k = i <;> simp [q, q']
  rcases ho with rfl | ⟨z, rfl⟩ <;> rcases ho' with rfl | rfl <;> simp [storeLocals, storeSelf, setAt, Value.category, i1, i2, g1, g2, ne, e]
theorem st2 {A : Nat → Addr} {km : List Nat} {L : List Sl} {k : Nat} (ok : okL km L) (hk : nth km k = some 1) (hk' : nth km (k + 1) = some 2) {x : Int64} :
    storeLocals (cL A L) k (.long x) = some (((cL A L).setIfInBounds k (.val (.long x))).setIfInBounds (k + 1) .second) := by
  obtain ⟨s, hs, hok⟩ := okL_at ok hk
  obtain ⟨s', hs', hok'⟩ := okL_at ok hk'
  refine store2 (cL_get hs) (cL_get hs') ?_ ?_
  · match s, hok with
    | some none, _ => exact Or.inl rfl
    | some (some (.inr (.inl z))), _ => exact Or.inr ⟨_, rfl⟩
  · match s', hok' with
    | none, _ => exact Or.inr rfl
    | some none, _ => exact Or.inl rfl
end Jvm.OwnKit
namespace Jvm.OwnKit
open Sem ClassFile Op Lib Jvm.Stand Jvm.Free Jvm.LawKit Jvm.RoadKit
/-! # 3. plain instructions -/
def ldI (L : List Sl) (k : Nat) (st : List AV) : Option (List Sl × List AV) := match nth L k with
  | some (some (some (.inl x))) => some (L, .inl x :: st)
  | _ => none
def ldJ (L : List Sl) (k : Nat) (st : List AV) : Option (List Sl × List AV) := match nth L k with
  | some (some (some (.inr (.inl x)))) => some (L, .inr (.inl x) :: st)
  | _ => none
def ldA (L : List Sl) (k : Nat) (st : List AV) : Option (List Sl × List AV) := match nth L k with
  | some (some (some (.inr (.inr r)))) => some (L, .inr (.inr r) :: st)
  | _ => none
def stoI (km : List Nat) (L : List Sl) (k : Nat) (st : List AV) : Option (List Sl × List AV) := match nth km k, st with
  | some 0, .inl x :: st => some (setN L k (some (some (.inl x))), st)
  | _, _ => none
def stoA (km : List Nat) (L : List Sl) (k : Nat) (st : List AV) : Option (List Sl × List AV) := match nth km k, st with
  | some 0, .inr (.inr r) :: st => some (setN L k (some (some (.inr (.inr r)))), st)
  | _, _ => none
def stoJ (km : List Nat) (L : List Sl) (k : Nat) (st : List AV) : Option (List Sl × List AV) := match nth km k, nth km (k + 1), st with
  | some 1, some 2, .inr (.inl x) :: st => some (setN (setN L k (some (some (.inr (.inl x))))) (k + 1) none, st)
  | _, _, _ => none
def incI (km : List Nat) (L : List Sl) (k : Nat) (c : Int) (st : List AV) : Option (List Sl × List AV) := match nth km k, nth L k with
  | some 0, some (some (some (.inl x))) => some (setN L k (some (some (.inl (w32 (x + c))))), st)
  | _, _ => none
def bI (f : Int → Int → Int) (L : List Sl) (st : List AV) : Option (List Sl × List AV) := match st with
  | .inl y :: .inl x :: st => some (L, .inl (f x y) :: st)
  | _ => none
def bJ (f : Int → Int → Int) (L : List Sl) (st : List AV) : Option (List Sl × List AV) := match st with
  | .inr (.inl y) :: .inr (.inl x) :: st => some (L, .inr (.inl (f x y)) :: st)
  | _ => none
def sJ (f : Int → Int → Int) (L : List Sl) (st : List AV) : Option (List Sl × List AV) := match st with
  | .inl y :: .inr (.inl x) :: st => some (L, .inr (.inl (f x y)) :: st)
  | _ => none
def uI (f : Int → Int) (L : List Sl) (st : List AV) : Option (List Sl × List AV) := match st with
  | .inl x :: st => some (L, .inl (f x) :: st)
  | _ => none
def cat1 : AV → Bool
  | .inr (.inl _) => false
  | _ => true

def pst (km : List Nat) (i : Instr) (L : List Sl) (st : List AV) : Option (List Sl × List AV) := match i with
  | .iload k => ldI L k st
  | .iload_n k => ldI L k.val st
  | .lload k => ldJ L k st
  | .lload_n k => ldJ L k.val st
  | .aload k => ldA L k st
  | .aload_n k => ldA L k.val st
  | .istore k => stoI km L k st
  | .istore_n k => stoI km L k.val st
  | .lstore k => stoJ km L k st
  | .lstore_n k => stoJ km L k.val st
  | .astore k => stoA km L k st
  | .astore_n k => stoA km L k.val st
  | .iinc k c => incI km L k c st
  | .iconst c => some (L, .inl c :: st)
  | .bipush c => some (L, .inl c :: st)
  | .sipush c => some (L, .inl c :: st)
  | .lconst c => some (L, .inr (.inl (c.val : Int)) :: st)
  | .aconst_null => some (L, .inr (.inr none) :: st)
  | .iadd => bI (fun x y => w32 (x + y)) L st
  | .isub => bI (fun x y => w32 (x - y)) L st
  | .imul => bI (fun x y => w32 (x * y)) L st
  | .iand => bI iand L st
  | .ior => bI ior L st
  | .ixor => bI ixor L st
  | .ishl => bI ishl L st
  | .ishr => bI ishr L st
  | .iushr => bI iushr L st
  | .ladd => bJ (fun x y => w64 (x + y)) L st
  | .lsub => bJ (fun x y => w64 (x - y)) L st
  | .lmul => bJ (fun x y => w64 (x * y)) L st
  | .land => bJ land L st
  | .lor => bJ lor L st
  | .lxor => bJ lxor L st
  | .lshl => sJ lshl L st
  | .lshr => sJ lshr L st
  | .lushr => sJ lushr L st
  | .ineg => uI (fun x => w32 (-x)) L st
  | .i2b => uI i2b L st
  | .i2s => uI i2s L st
  | .i2l => match st with
    | .inl x :: st => some (L, .inr (.inl x) :: st)
    | _ => none
  | .l2i => match st with
    | .inr (.inl x) :: st => some (L, .inl (w32 x) :: st)
    | _ => none
  | .lcmp => match st with
    | .inr (.inl y) :: .inr (.inl x) :: st => some (L, .inl (lcmp x y) :: st)
    | _ => none
  | .pop => match st with
    | v :: st => bif cat1 v then some (L, st) else none
    | _ => none
  | .dup => match st with
    | v :: st => bif cat1 v then some (L, v :: v :: st) else none
    | _ => none
  | .dup2 => match st with
    | .inr (.inl x) :: st => some (L, .inr (.inl x) :: .inr (.inl x) :: st)
    | v :: w :: st => bif cat1 v && cat1 w then some (L, v :: w :: v :: w :: st) else none
    | _ => none
  | _ => none
/-- how long an instruction is (a tableswitch apart), and whether its constant is a small one -/
def ilen : Instr → Nat
  | .iload _ | .lload _ | .aload _ | .istore _ | .lstore _ | .astore _ => 2
  | .bipush _ | .ldc _ | .newarray _ => 2
  | .sipush _ | .iinc _ _ | .ldc_w _ | .ldc2_w _ | .goto _ | .ifCond _ _ | .if_icmp _ _ | .getfield _ | .putfield _ | .invokevirtual _ | .invokespecial _ | .invokestatic _ | .new _ => 3
  | _ => 1
def small : Instr → Bool
  | .iconst c => decide (-2147483648 ≤ c ∧ c < 2147483648)
  | .bipush c => decide (-128 ≤ c ∧ c < 128)
  | .sipush c => decide (-32768 ≤ c ∧ c < 32768)
  | .iinc _ c => decide (-2147483648 ≤ c ∧ c < 2147483648)
  | _ => true
theorem ldI_ok {L L' : List Sl} {k : Nat} {st st' : List AV} (h : ldI L k st = some (L', st')) : ∃ x, nth L k = some (sv (vI x)) ∧ L' = L ∧ st' = vI x :: st := by
  unfold ldI at h; split at h
  · rename_i x e; cases h; exact ⟨x, e, rfl, rfl⟩
  · cases h
theorem ldJ_ok {L L' : List Sl} {k : Nat} {st st' : List AV} (h : ldJ L k st = some (L', st')) : ∃ x, nth L k = some (sv (vL x)) ∧ L' = L ∧ st' = vL x :: st := by
  unfold ldJ at h; split at h
  · rename_i x e; cases h; exact ⟨x, e, rfl, rfl⟩
  · cases h
theorem ldA_ok {L L' : List Sl} {k : Nat} {st st' : List AV} (h : ldA L k st = some (L', st')) : ∃ r, nth L k = some (sv (.inr (.inr r))) ∧ L' = L ∧ st' = .inr (.inr r) :: st := by
  unfold ldA at h; split at h
  · rename_i x e; cases h; exact ⟨x, e, rfl, rfl⟩
  · cases h
theorem stoI_ok {km : List Nat} {L L' : List Sl} {k : Nat} {st st' : List AV} (h : stoI km L k st = some (L', st')) : ∃ x, nth km k = some 0 ∧ st = vI x :: st' ∧ L' = setN L k (sv (vI x)) := by
  unfold stoI at h; split at h
  · rename_i x st0 e; cases h; exact ⟨x, e, rfl, rfl⟩
  · cases h
theorem stoA_ok {km : List Nat} {L L' : List Sl} {k : Nat} {st st' : List AV} (h : stoA km L k st = some (L', st')) : ∃ r, nth km k = some 0 ∧ st = .inr (.inr r) :: st' ∧ L' = setN L k (sv (.inr (.inr r))) := by
  unfold stoA at h; split at h
  · rename_i x st0 e; cases h; exact ⟨x, e, rfl, rfl⟩
  · cases h
theorem stoJ_ok {km : List Nat} {L L' : List Sl} {k : Nat} {st st' : List AV} (h : stoJ km L k st = some (L', st')) : ∃ x, nth km k = some 1 ∧ nth km (k + 1) = some 2 ∧ st = vL x :: st' ∧ L' = setN (setN L k (sv (vL x))) (k + 1) none := by
  unfold stoJ at h; split at h
  · rename_i x st0 e e'; cases h; exact ⟨x, e, e', rfl, rfl⟩
  · cases h
theorem incI_ok {km : List Nat} {L L' : List Sl} {k : Nat} {c : Int} {st st' : List AV} (h : incI km L k c st = some (L', st')) : ∃ x, nth km k = some 0 ∧ nth L k = some (sv (vI x)) ∧ st' = st ∧ L' = setN L k (sv (vI (w32 (x + c)))) := by
  unfold incI at h; split at h
  · rename_i x e e'; cases h; exact ⟨x, e, e', rfl, rfl⟩
  · cases h
theorem bI_ok {f : Int → Int → Int} {L L' : List Sl} {st st' : List AV} (h : bI f L st = some (L', st')) : ∃ x y r, st = vI y :: vI x :: r ∧ L' = L ∧ st' = vI (f x y) :: r := by
  unfold bI at h; split at h
  · rename_i y x r; cases h; exact ⟨x, y, r, rfl, rfl, rfl⟩
  · cases h
theorem bJ_ok {f : Int → Int → Int} {L L' : List Sl} {st st' : List AV} (h : bJ f L st = some (L', st')) : ∃ x y r, st = vL y :: vL x :: r ∧ L' = L ∧ st' = vL (f x y) :: r := by
  unfold bJ at h; split at h
  · rename_i y x r; cases h; exact ⟨x, y, r, rfl, rfl, rfl⟩
  · cases h
theorem sJ_ok {f : Int → Int → Int} {L L' : List Sl} {st st' : List AV} (h : sJ f L st = some (L', st')) : ∃ x y r, st = vI y :: vL x :: r ∧ L' = L ∧ st' = vL (f x y) :: r := by
  unfold sJ at h; split at h
  · rename_i y x r; cases h; exact ⟨x, y, r, rfl, rfl, rfl⟩
  · cases h
theorem uI_ok {f : Int → Int} {L L' : List Sl} {st st' : List AV} (h : uI f L st = some (L', st')) : ∃ x r, st = vI x :: r ∧ L' = L ∧ st' = vI (f x) :: r := by
  unfold uI at h; split at h
  · rename_i x r; cases h; exact ⟨x, r, rfl, rfl, rfl⟩
  · cases h
theorem cat1_ok {A : Nat → Addr} {v : AV} (h : cat1 v = true) : (conc A v).category = 1 := by
  match v, h with
  | .inl x, _ => rfl
  | .inr (.inr none), _ => rfl
  | .inr (.inr (some a)), _ => rfl
theorem isRef_ok {A : Nat → Addr} (r : Option Nat) : (conc A (.inr (.inr r))).isRef = true := by cases r <;> rfl
theorem r_c8 {c : Int} (h : -128 ≤ c ∧ c < 128) : Int32.ofInt c = (Int8.ofInt c).toInt32 := by
  refine e32 (by unfold R32; omega) ?_
  rw [Int8.toInt_toInt32, Int8.toInt_ofInt_of_le (by omega) (by omega)]
theorem r_c16 {c : Int} (h : -32768 ≤ c ∧ c < 32768) : Int32.ofInt c = (Int16.ofInt c).toInt32 := by
  refine e32 (by unfold R32; omega) ?_
  rw [Int16.toInt_toInt32, Int16.toInt_ofInt_of_le (by omega) (by omega)]
theorem q_inc {x c : Int} (hx : R32 x) (hc : R32 c) : Int32.ofInt (w32 (x + c)) = Int32.ofInt x + Int32.ofInt c := q_add hx hc
section Pst
variable {tb : Tables} [Ours tb] {e : Env} {below : List Frame} {m : MethodId} {c : Code} {A : Nat → Addr}
/-- what a plain step's law says -/
def Goo (tb : Tables) [Ours tb] (e : Env) (below : List Frame) (m : MethodId) (c : Code) (A : Nat → Addr) (km : List Nat) (pc pc' : Nat) (L L' : List Sl) (st st' : List AV) : Prop :=
  (okL km L' ∧ okSt st') ∧ ∀ T, At T m c below → ∀ target, Steps tb e below (T.setTop (mkF m pc' (cL A L') (cSt A st'))) target → Steps tb e below (T.setTop (mkF m pc (cL A L) (cSt A st))) target
theorem cs_val {A : Nat → Addr} {v : AV} {w : Value} (h : conc A v = w) : concS A (sv v) = .val w := by rw [← h]; rfl

theorem pst_ok (hx : tb.exec = Jvm.exec) {pc : Nat} {i : Instr} {km : List Nat} {L L' : List Sl} {st st' : List AV} (hd : decode c.code pc = .ok (i, ilen i)) (hsm : small i = true)
    (hp : pst km i L st = some (L', st')) (ok : okL km L) (oks : okSt st) : Goo tb e below m c A km pc (pc + ilen i) L L' st st' := by
  cases i with
  | iload k =>
    obtain ⟨x, hl, rfl, rfl⟩ := ldI_ok hp
    obtain ⟨j, hj, hok⟩ := okL_get ok hl
    exact ⟨⟨ok, hok.2, oks⟩, fun T h target k => XS.iload h hx rfl hd (cL_get hl) k⟩
  | iload_n k =>
    obtain ⟨x, hl, rfl, rfl⟩ := ldI_ok hp
    obtain ⟨j, hj, hok⟩ := okL_get ok hl
    exact ⟨⟨ok, hok.2, oks⟩, fun T h target k => XS.iloadN h hx rfl hd (cL_get hl) k⟩
  | lload k =>
    obtain ⟨x, hl, rfl, rfl⟩ := ldJ_ok hp
    obtain ⟨j, hj, hok⟩ := okL_get ok hl
    exact ⟨⟨ok, hok.2, oks⟩, fun T h target k => XT.lload h hx rfl hd (cL_get hl) k⟩
  | lload_n k =>
    obtain ⟨x, hl, rfl, rfl⟩ := ldJ_ok hp
    obtain ⟨j, hj, hok⟩ := okL_get ok hl
    exact ⟨⟨ok, hok.2, oks⟩, fun T h target k => XT.lloadN h hx rfl hd (cL_get hl) k⟩
  | aload k =>
    obtain ⟨r, hl, rfl, rfl⟩ := ldA_ok hp
    exact ⟨⟨ok, trivial, oks⟩, fun T h target k => XS.aload h hx rfl hd (cL_get hl) (isRef_ok r) k⟩
  | aload_n k =>
    obtain ⟨r, hl, rfl, rfl⟩ := ldA_ok hp
    exact ⟨⟨ok, trivial, oks⟩, fun T h target k => XS.aloadN h hx rfl hd (cL_get hl) (isRef_ok r) k⟩
  | istore k =>
    obtain ⟨x, hk, rfl, rfl⟩ := stoI_ok hp
    exact ⟨⟨okL_set ok hk ⟨rfl, oks.1⟩, oks.2⟩, fun T h target k => XS.istore h hx rfl hd rfl (st1 ok hk rfl) (by rw [cL_set] at k; exact k)⟩
  | istore_n k =>
    obtain ⟨x, hk, rfl, rfl⟩ := stoI_ok hp
    exact ⟨⟨okL_set ok hk ⟨rfl, oks.1⟩, oks.2⟩, fun T h target k => XS.istoreN h hx rfl hd rfl (st1 ok hk rfl) (by rw [cL_set] at k; exact k)⟩
  | lstore k =>
    obtain ⟨x, hk, hk', rfl, rfl⟩ := stoJ_ok hp
    exact ⟨⟨okL_set (okL_set ok hk ⟨rfl, oks.1⟩) hk' rfl, oks.2⟩, fun T h target k => XT.lstore h hx rfl hd rfl (st2 ok hk hk') (by rw [cL_set, cL_set] at k; exact k)⟩
  | lstore_n k =>
    obtain ⟨x, hk, hk', rfl, rfl⟩ := stoJ_ok hp
    exact ⟨⟨okL_set (okL_set ok hk ⟨rfl, oks.1⟩) hk' rfl, oks.2⟩, fun T h target k => XT.lstoreN h hx rfl hd rfl (st2 ok hk hk') (by rw [cL_set, cL_set] at k; exact k)⟩
  | astore k =>
    obtain ⟨r, hk, rfl, rfl⟩ := stoA_ok hp
    exact ⟨⟨okL_set ok hk rfl, oks.2⟩, fun T h target k => XS.astore h hx rfl hd rfl (isRef_ok r) (st1 ok hk (cat1_ok (v := .inr (.inr r)) rfl)) (by rw [cL_set] at k; exact k)⟩
  | astore_n k =>
    obtain ⟨r, hk, rfl, rfl⟩ := stoA_ok hp
    exact ⟨⟨okL_set ok hk rfl, oks.2⟩, fun T h target k => XS.astoreN h hx rfl hd rfl (isRef_ok r) (st1 ok hk (cat1_ok (v := .inr (.inr r)) rfl)) (by rw [cL_set] at k; exact k)⟩
  | iinc k cc =>
    obtain ⟨x, hk, hl, rfl, rfl⟩ := incI_ok hp
    obtain ⟨j, hj, hok⟩ := okL_get ok hl
    have hc : R32 cc := (of_decide_eq_true hsm : -2147483648 ≤ cc ∧ cc < 2147483648)
    refine ⟨⟨okL_set ok hk ⟨rfl, r_w32 _⟩, oks⟩, fun T h target k => XS.iinc h hx rfl hd (cL_get hl) (st1 ok hk rfl) ?_⟩
    rw [cL_set, cs_val (w := .int (Int32.ofInt x + Int32.ofInt cc)) (by show Value.int _ = _; rw [q_inc hok.2 hc])] at k
    exact k
  | iconst cc =>
    cases hp
    have hc : R32 cc := (of_decide_eq_true hsm : -2147483648 ≤ cc ∧ cc < 2147483648)
    exact ⟨⟨ok, hc, oks⟩, fun T h target k => XS.iconst h hx rfl hd k⟩
  | bipush cc =>
    cases hp
    have hc := of_decide_eq_true hsm
    refine ⟨⟨ok, (by show R32 cc; unfold R32; omega), oks⟩, fun T h target k => XS.bipush h hx rfl hd ?_⟩
    rw [← r_c8 hc]
    exact k
  | sipush cc =>
    cases hp
    have hc := of_decide_eq_true hsm
    refine ⟨⟨ok, (by show R32 cc; unfold R32; omega), oks⟩, fun T h target k => XS.sipush h hx rfl hd ?_⟩
    rw [← r_c16 hc]
    exact k
  | lconst cc =>
    cases hp
    refine ⟨⟨ok, (by show R64 _; unfold R64; have := cc.isLt; omega), oks⟩, fun T h target k => XT.lconst h hx rfl hd ?_⟩
    rw [← Int64.ofInt_eq_ofNat]
    exact k
  | aconst_null =>
    cases hp
    exact ⟨⟨ok, trivial, oks⟩, fun T h target k => XS.aconstNull h hx rfl hd k⟩
  | iadd =>
    obtain ⟨x, y, r, rfl, rfl, rfl⟩ := bI_ok hp
    refine ⟨⟨ok, r_w32 _, oks.2.2⟩, fun T h target k => XS.iadd h hx rfl hd rfl ?_⟩
    rw [← q_add oks.2.1 oks.1]
    exact k
  | isub =>
    obtain ⟨x, y, r, rfl, rfl, rfl⟩ := bI_ok hp
    refine ⟨⟨ok, r_w32 _, oks.2.2⟩, fun T h target k => XS.isub h hx rfl hd rfl ?_⟩
    rw [← q_sub oks.2.1 oks.1]
    exact k
  | imul =>
    obtain ⟨x, y, r, rfl, rfl, rfl⟩ := bI_ok hp
    refine ⟨⟨ok, r_w32 _, oks.2.2⟩, fun T h target k => XS.imul h hx rfl hd rfl ?_⟩
    rw [← q_mul oks.2.1 oks.1]
    exact k
  | iand =>
    obtain ⟨x, y, r, rfl, rfl, rfl⟩ := bI_ok hp
    refine ⟨⟨ok, ri32 _, oks.2.2⟩, fun T h target k => XS.iand h hx rfl hd rfl ?_⟩
    have k' : Steps tb e below (T.setTop (mkF m (pc + 1) (cL A _) (.int (Int32.ofInt (iand x y)) :: cSt A r))) target := k
    rw [iand, Int32.ofInt_toInt] at k'
    exact k'
  | ior =>
    obtain ⟨x, y, r, rfl, rfl, rfl⟩ := bI_ok hp
    refine ⟨⟨ok, ri32 _, oks.2.2⟩, fun T h target k => XT.ior h hx rfl hd rfl ?_⟩
    have k' : Steps tb e below (T.setTop (mkF m (pc + 1) (cL A _) (.int (Int32.ofInt (ior x y)) :: cSt A r))) target := k
    rw [ior, Int32.ofInt_toInt] at k'
    exact k'
  | ixor =>
    obtain ⟨x, y, r, rfl, rfl, rfl⟩ := bI_ok hp
    refine ⟨⟨ok, ri32 _, oks.2.2⟩, fun T h target k => XT.ixor h hx rfl hd rfl ?_⟩
    have k' : Steps tb e below (T.setTop (mkF m (pc + 1) (cL A _) (.int (Int32.ofInt (ixor x y)) :: cSt A r))) target := k
    rw [ixor, Int32.ofInt_toInt] at k'
    exact k'
  | ishl =>
    obtain ⟨x, y, r, rfl, rfl, rfl⟩ := bI_ok hp
    refine ⟨⟨ok, ri32 _, oks.2.2⟩, fun T h target k => XT.ishl h hx rfl hd rfl ?_⟩
    have k' : Steps tb e below (T.setTop (mkF m (pc + 1) (cL A _) (.int (Int32.ofInt (ishl x y)) :: cSt A r))) target := k
    rw [ishl, Int32.ofInt_toInt] at k'
    exact k'
  | ishr =>
    obtain ⟨x, y, r, rfl, rfl, rfl⟩ := bI_ok hp
    refine ⟨⟨ok, ri32 _, oks.2.2⟩, fun T h target k => XT.ishr h hx rfl hd rfl ?_⟩
    have k' : Steps tb e below (T.setTop (mkF m (pc + 1) (cL A _) (.int (Int32.ofInt (ishr x y)) :: cSt A r))) target := k
    rw [ishr, Int32.ofInt_toInt] at k'
    exact k'
  | iushr =>
    obtain ⟨x, y, r, rfl, rfl, rfl⟩ := bI_ok hp
    refine ⟨⟨ok, ri32 _, oks.2.2⟩, fun T h target k => XT.iushr h hx rfl hd rfl ?_⟩
    have k' : Steps tb e below (T.setTop (mkF m (pc + 1) (cL A _) (.int (Int32.ofInt (iushr x y)) :: cSt A r))) target := k
    rw [iushr, Int32.ofInt_toInt] at k'
    exact k'
  | ladd =>
    obtain ⟨x, y, r, rfl, rfl, rfl⟩ := bJ_ok hp
    refine ⟨⟨ok, r_w64 _, oks.2.2⟩, fun T h target k => XT.ladd h hx rfl hd rfl ?_⟩
    rw [← q_ladd oks.2.1 oks.1]
    exact k
  | lsub =>
    obtain ⟨x, y, r, rfl, rfl, rfl⟩ := bJ_ok hp
    refine ⟨⟨ok, r_w64 _, oks.2.2⟩, fun T h target k => XT.lsub h hx rfl hd rfl ?_⟩
    rw [← q_lsub oks.2.1 oks.1]
    exact k
  | lmul =>
    obtain ⟨x, y, r, rfl, rfl, rfl⟩ := bJ_ok hp
    refine ⟨⟨ok, r_w64 _, oks.2.2⟩, fun T h target k => XT.lmul h hx rfl hd rfl ?_⟩
    rw [← q_lmul oks.2.1 oks.1]
    exact k
  | land =>
    obtain ⟨x, y, r, rfl, rfl, rfl⟩ := bJ_ok hp
    refine ⟨⟨ok, ri64 _, oks.2.2⟩, fun T h target k => XT.land h hx rfl hd rfl ?_⟩
    have k' : Steps tb e below (T.setTop (mkF m (pc + 1) (cL A _) (.long (Int64.ofInt (land x y)) :: cSt A r))) target := k
    rw [land, Int64.ofInt_toInt] at k'
    exact k'
  | lor =>
    obtain ⟨x, y, r, rfl, rfl, rfl⟩ := bJ_ok hp
    refine ⟨⟨ok, ri64 _, oks.2.2⟩, fun T h target k => XT.lor h hx rfl hd rfl ?_⟩
    have k' : Steps tb e below (T.setTop (mkF m (pc + 1) (cL A _) (.long (Int64.ofInt (lor x y)) :: cSt A r))) target := k
    rw [lor, Int64.ofInt_toInt] at k'
    exact k'
  | lxor =>
    obtain ⟨x, y, r, rfl, rfl, rfl⟩ := bJ_ok hp
    refine ⟨⟨ok, ri64 _, oks.2.2⟩, fun T h target k => XT.lxor h hx rfl hd rfl ?_⟩
    have k' : Steps tb e below (T.setTop (mkF m (pc + 1) (cL A _) (.long (Int64.ofInt (lxor x y)) :: cSt A r))) target := k
    rw [lxor, Int64.ofInt_toInt] at k'
    exact k'
  | lshl =>
    obtain ⟨x, y, r, rfl, rfl, rfl⟩ := sJ_ok hp
    refine ⟨⟨ok, ri64 _, oks.2.2⟩, fun T h target k => XT.lshl h hx rfl hd rfl ?_⟩
    have k' : Steps tb e below (T.setTop (mkF m (pc + 1) (cL A _) (.long (Int64.ofInt (lshl x y)) :: cSt A r))) target := k
    rw [lshl, Int64.ofInt_toInt] at k'
    exact k'
  | lshr =>
    obtain ⟨x, y, r, rfl, rfl, rfl⟩ := sJ_ok hp
    refine ⟨⟨ok, ri64 _, oks.2.2⟩, fun T h target k => XT.lshr h hx rfl hd rfl ?_⟩
    have k' : Steps tb e below (T.setTop (mkF m (pc + 1) (cL A _) (.long (Int64.ofInt (lshr x y)) :: cSt A r))) target := k
    rw [lshr, Int64.ofInt_toInt] at k'
    exact k'
  | lushr =>
    obtain ⟨x, y, r, rfl, rfl, rfl⟩ := sJ_ok hp
    refine ⟨⟨ok, ri64 _, oks.2.2⟩, fun T h target k => XT.lushr h hx rfl hd rfl ?_⟩
    have k' : Steps tb e below (T.setTop (mkF m (pc + 1) (cL A _) (.long (Int64.ofInt (lushr x y)) :: cSt A r))) target := k
    rw [lushr, Int64.ofInt_toInt] at k'
    exact k'
  | ineg =>
    obtain ⟨x, r, rfl, rfl, rfl⟩ := uI_ok hp
    refine ⟨⟨ok, r_w32 _, oks.2⟩, fun T h target k => XS.ineg h hx rfl hd rfl ?_⟩
    rw [← q_neg oks.1]
    exact k
  | i2b =>
    obtain ⟨x, r, rfl, rfl, rfl⟩ := uI_ok hp
    refine ⟨⟨ok, r_i2b _, oks.2⟩, fun T h target k => XT.i2b h hx rfl hd rfl ?_⟩
    rw [← q_i2b oks.1]
    exact k
  | i2s =>
    obtain ⟨x, r, rfl, rfl, rfl⟩ := uI_ok hp
    refine ⟨⟨ok, r_i2s _, oks.2⟩, fun T h target k => XT.i2s h hx rfl hd rfl ?_⟩
    rw [← q_i2s oks.1]
    exact k
  | i2l =>
    unfold pst at hp; simp only at hp; split at hp
    · rename_i x r
      cases hp
      refine ⟨⟨ok, (by have := oks.1; unfold okV R32 at this; show R64 x; unfold R64; omega), oks.2⟩, fun T h target k => XT.i2l h hx rfl hd rfl ?_⟩
      rw [← q_i2l oks.1]
      exact k
    · cases hp
  | l2i =>
    unfold pst at hp; simp only at hp; split at hp
    · rename_i x r
      cases hp
      refine ⟨⟨ok, r_w32 _, oks.2⟩, fun T h target k => XT.l2i h hx rfl hd rfl ?_⟩
      rw [← q_l2i oks.1]
      exact k
    · cases hp
  | lcmp =>
    unfold pst at hp; simp only at hp; split at hp
    · rename_i y x r
      cases hp
      refine ⟨⟨ok, r_lcmp _ _, oks.2.2⟩, fun T h target k => XT.lcmp h hx rfl hd rfl ?_⟩
      rw [← q_lcmp oks.2.1 oks.1]
      exact k
    · cases hp
  | pop =>
    unfold pst at hp; simp only at hp; split at hp
    · rename_i v r
      cases hc : cat1 v
      · rw [hc] at hp; cases hp
      · rw [hc] at hp; cases hp
        exact ⟨⟨ok, oks.2⟩, fun T h target k => XT.pop h hx rfl hd rfl (cat1_ok hc) k⟩
    · cases hp
  | dup =>
    unfold pst at hp; simp only at hp; split at hp
    · rename_i v r
      cases hc : cat1 v
      · rw [hc] at hp; cases hp
      · rw [hc] at hp; cases hp
        exact ⟨⟨ok, oks.1, oks.1, oks.2⟩, fun T h target k => XS.dup h hx rfl hd rfl (cat1_ok hc) k⟩
    · cases hp
  | dup2 =>
    unfold pst at hp; simp only at hp; split at hp
    · rename_i x r
      cases hp
      exact ⟨⟨ok, oks.1, oks.1, oks.2⟩, fun T h target k => XT.dup2L h hx rfl hd rfl k⟩
    · rename_i v w r hne
      cases hc : (cat1 v && cat1 w)
      · rw [hc] at hp; cases hp
      · rw [hc] at hp; cases hp
        rw [Bool.and_eq_true] at hc
        exact ⟨⟨ok, oks.1, oks.2.1, oks.1, oks.2.1, oks.2.2⟩, fun T h target k => XT.dup2 h hx rfl hd rfl (cat1_ok hc.1) (cat1_ok hc.2) k⟩
    · cases hp
  | _ => cases hp
end Pst
end Jvm.OwnKit
namespace Jvm.OwnKit
open Sem ClassFile Op Lib Jvm.Stand Jvm.Free Jvm.LawKit Jvm.RoadKit
/-! # 4. the machine: what a stretch of bytecode computes -/
abbrev Ent : Type := Nat × Instr × Nat × List Nat
def br {α : Type} (cd : ClassFile.Cond) (x y : Int) (a b : α) : α := match cd with
  | .eq => if x = y then a else b
  | .ne => if x = y then b else a
  | .lt => if x < y then a else b
  | .ge => if x < y then b else a
  | .gt => if y < x then a else b
  | .le => if y < x then b else a
def sw {α : Type} (x : Int) (d : α) (k : Nat → α) : Int → List Nat → α
  | _, [] => d
  | v, t :: ts => if x = v then k t else sw x d k (v + 1) ts
def look {α : Type} : List (Nat × α) → Nat → Option α
  | [], _ => none
  | e :: l, n => bif Nat.beq e.1 n then some e.2 else look l n
theorem look_mem {α : Type} : ∀ {l : List (Nat × α)} {n : Nat} {a : α}, look l n = some a → (n, a) ∈ l
  | [], _, _, h => by simp [look] at h
  | e :: l, n, a, h => by
    unfold look at h
    cases hb : Nat.beq e.1 n
    · rw [hb] at h; exact List.mem_cons_of_mem _ (look_mem (l := l) h)
    · rw [hb] at h
      have h1 := Nat.eq_of_beq_eq_true hb
      simp only [cond_true, Option.some.injEq] at h
      subst h1; subst h; exact List.mem_cons_self ..
abbrev RS (σ : Type) : Type := Option (Int × σ)
abbrev Fn (σ : Type) : Type := List Sl → List AV → Nat → σ → RS σ
abbrev Jn (σ : Type) : Type := List Sl → List AV → σ → RS σ
abbrev Hop (σ : Type) : Type := Instr → List AV → Nat → σ → (List AV → Nat → σ → RS σ) → RS σ
def act {σ : Type} (km : List Nat) (rk qF : Nat) (hop : Hop σ) (en : Ent) (L : List Sl) (st : List AV) (q : Nat) (S : σ) (go : Nat → Fn σ) : RS σ :=
  match en.2.1 with
  | .goto _ => go (en.2.2.2.headD 0) L st q S
  | .if_icmp cd _ => match st with
    | .inl y :: .inl x :: st => br cd x y (go (en.2.2.2.headD 0) L st q S) (go (en.1 + en.2.2.1) L st q S)
    | _ => none
  | .ifCond cd _ => match st with
    | .inl x :: st => br cd x 0 (go (en.2.2.2.headD 0) L st q S) (go (en.1 + en.2.2.1) L st q S)
    | _ => none
  | .tableswitch _ lo _ _ => match st with
    | .inl x :: st => sw x (go (en.2.2.2.headD 0) L st q S) (fun t => go t L st q S) lo en.2.2.2.tail
    | _ => none
  | .idiv => match st with
    | .inl y :: .inl x :: st => if y = 0 then none else go (en.1 + en.2.2.1) L (.inl (w32 (x.tdiv y)) :: st) q S
    | _ => none
  | .irem => match st with
    | .inl y :: .inl x :: st => if y = 0 then none else go (en.1 + en.2.2.1) L (.inl (x.tmod y) :: st) q S
    | _ => none
  | .ireturn => match st with
    | .inl x :: _ => bif Nat.beq q qF then (match rk with
      | 1 => some (x, S)
      | 3 => some (x % 2, S)
      | _ => none) else none
    | _ => none
  | .lreturn => match st with
    | .inr (.inl x) :: _ => bif Nat.beq q qF then (match rk with
      | 2 => some (x, S)
      | _ => none) else none
    | _ => none
  | .return_ => match st with
    | [] => bif Nat.beq q qF then (match rk with
      | 0 => some (0, S)
      | _ => none) else none
    | _ => none
  | i => match pst km i L st with
    | some r => go (en.1 + en.2.2.1) r.1 r.2 q S
    | none => hop i st q S (fun st' q' S' => go (en.1 + en.2.2.1) L st' q' S')
def den {σ : Type} (km : List Nat) (rk qF : Nat) (hop : Hop σ) (jl : List (Nat × Nat × Jn σ)) : List Ent → Nat → Fn σ
  | [], _, _, _, _, _ => none
  | en :: rest, pc, L, st, q, S =>
    bif Nat.beq en.1 pc then
      act km rk qF hop en L st q S (fun pc' L' st' q' S' => match look jl pc' with
        | some f => bif Nat.beq f.1 q' then f.2 L' st' S' else none
        | none => den km rk qF hop jl rest pc' L' st' q' S')
    else den km rk qF hop jl rest pc L st q S
def tgOk (en : Ent) : Bool := match en.2.1 with
  | .goto o => (match en.2.2.2 with | [t] => decide ((en.1 : Int) + o = t) | _ => false) && decide (en.2.2.1 = 3)
  | .ifCond _ o => (match en.2.2.2 with | [t] => decide ((en.1 : Int) + o = t) | _ => false) && decide (en.2.2.1 = 3)
  | .if_icmp _ o => (match en.2.2.2 with | [t] => decide ((en.1 : Int) + o = t) | _ => false) && decide (en.2.2.1 = 3)
  | .tableswitch d lo hi offs => match en.2.2.2 with
    | t :: ts => decide ((en.1 : Int) + d = t) && decide (offs.toList.map (fun o => (en.1 : Int) + o) = ts.map (fun (t : Nat) => (t : Int))) && decide (hi = lo + (ts.length : Int) - 1)
    | _ => false
  | i => decide (en.2.2.1 = ilen i)
def entOk (code : ByteArray) (en : Ent) : Bool := decide (decode code en.1 = .ok (en.2.1, en.2.2.1)) && small en.2.1 && tgOk en
def codeOk (code : ByteArray) (l : List Ent) : Bool := l.all (entOk code)
def Val (rk : Nat) (x : Int) : Option Value := match rk with
  | 0 => none
  | 2 => some (.long (Int64.ofInt x))
  | _ => some (.int (Int32.ofInt x))
def okR (rk : Nat) (x : Int) : Prop := match rk with
  | 0 => True
  | 2 => R64 x
  | _ => R32 x
def Qr {σ : Type} (rk qF : Nat) (Hp : Nat → σ → Heap → Prop) (r : Int × σ) (v : Option Value) (h : Heap) : Prop := v = Val rk r.1 ∧ okR rk r.1 ∧ Hp qF r.2 h
def RK (rk : Nat) (rt : Option FieldType) : Prop := (rk = 0 ∧ rt = none) ∨ (rk = 1 ∧ rt = some .int) ∨ (rk = 2 ∧ rt = some .long) ∨ (rk = 3 ∧ rt = some .boolean)
section Goes
variable (p : Program) (l : Launch) (e : Env) (R : Room) (s : State) (m : MethodId) (args : Array Value) (below : List Frame) (meth : Method) (c : Code)
/-- from pc, with these variables and this stack, over a heap that meets P, the run returns, and Q says what and over which heap -/
def Goes (n0 kc kn : Nat) (pc : Nat) (Ls : Array Slot) (st : List Value) (cells slots : Nat) (P : Heap → Prop) (Q : Option Value → Heap → Prop) : Prop :=
  ∀ (T : State) (L : List Jvm.Loc), Stand p l e R s m args below meth c T L cells slots → Fr n0 L → P T.heap →
    ∃ (t : State) (v : Option Value) (L' : List Jvm.Loc), Steps p.tables e below (T.setTop (mkF m pc Ls st)) t ∧ t.status = .running ∧ Ended t below (.returned v) ∧ Q v t.heap ∧ Fr n0 L' ∧ s.WarmedH t.vm ∧ s.sameButNew ({ t with vm := s.vm } : State) L' kc kn
def HopOk {σ : Type} (A : Nat → Addr) (n0 kc kn : Nat) (cA sA : Nat → Nat) (Hp : Nat → σ → Heap → Prop) (hop : Hop σ) : Prop :=
  ∀ (pc : Nat) (i : Instr) (L : List Sl) (st : List AV) (q : Nat) (S : σ) (k : List AV → Nat → σ → RS σ) (r : Int × σ), decode c.code pc = .ok (i, ilen i) → L.length = c.maxLocals → okSt st → hop i st q S k = some r →
    ∃ st' q' S', k st' q' S' = some r ∧ ∀ Q, (okSt st' → Goes p l e R s m args below meth c n0 kc kn (pc + ilen i) (cL A L) (cSt A st') (cA q') (sA q') (Hp q' S') Q) → Goes p l e R s m args below meth c n0 kc kn pc (cL A L) (cSt A st) (cA q) (sA q) (Hp q S) Q
def JOk {σ : Type} (A : Nat → Addr) (n0 kc kn : Nat) (cA sA : Nat → Nat) (Hp : Nat → σ → Heap → Prop) (km : List Nat) (rk qF : Nat) (x : Nat × Nat × Jn σ) : Prop :=
  ∀ (L : List Sl) (st : List AV) (S : σ) (r : Int × σ), x.2.2 L st S = some r → okL km L → okSt st →
    Goes p l e R s m args below meth c n0 kc kn x.1 (cL A L) (cSt A st) (cA x.2.1) (sA x.2.1) (Hp x.2.1 S) (Qr rk qF Hp r)
end Goes
section Den
variable {p : Program} {l : Launch} {e : Env} {R : Room} {s : State} {m : MethodId} {args : Array Value} {below : List Frame} {meth : Method} {c : Code}
theorem Goes.pre {n0 kc kn pc pc' cells slots : Nat} {Ls Ls' : Array Slot} {st st' : List Value} {P : Heap → Prop} {Q : Option Value → Heap → Prop}
    (h : Goes p l e R s m args below meth c n0 kc kn pc' Ls' st' cells slots P Q)
    (f : ∀ T, At T m c below → ∀ target, Steps p.tables e below (T.setTop (mkF m pc' Ls' st')) target → Steps p.tables e below (T.setTop (mkF m pc Ls st)) target) :
    Goes p l e R s m args below meth c n0 kc kn pc Ls st cells slots P Q := fun T L X N hP => by
  obtain ⟨t, v, L', h1, h2⟩ := h T L X N hP
  exact ⟨t, v, L', f T X.here t h1, h2⟩
theorem br_ok {α : Type} (cd : ClassFile.Cond) {x y : Int} (hx : R32 x) (hy : R32 y) (a b : α) : br cd x y a b = if if_icmp.holds cd (Int32.ofInt x) (Int32.ofInt y) = true then a else b := by
  have e1 : (Int32.ofInt x = Int32.ofInt y) ↔ x = y := by rw [← Int32.toInt_inj, t32 hx, t32 hy]
  have e2 : (Int32.ofInt x < Int32.ofInt y) ↔ x < y := by rw [Int32.lt_iff_toInt_lt, t32 hx, t32 hy]
  have e3 : (Int32.ofInt y < Int32.ofInt x) ↔ y < x := by rw [Int32.lt_iff_toInt_lt, t32 hx, t32 hy]
  have e4 : (Int32.ofInt x ≤ Int32.ofInt y) ↔ x ≤ y := by rw [Int32.le_iff_toInt_le, t32 hx, t32 hy]
  have e5 : (Int32.ofInt y ≤ Int32.ofInt x) ↔ y ≤ x := by rw [Int32.le_iff_toInt_le, t32 hx, t32 hy]
  cases cd
  · simp [br, if_icmp.holds, e1]
  · simp only [br, if_icmp.holds, bne_iff_ne, ne_eq, e1]; by_cases q : x = y <;> simp [q]
  · simp [br, if_icmp.holds, e2]
  · simp only [br, if_icmp.holds, ge_iff_le, decide_eq_true_eq, e5]; by_cases q : x < y
    · rw [if_pos q, if_neg (by omega)]
    · rw [if_neg q, if_pos (by omega)]
  · simp [br, if_icmp.holds, e3]
  · simp only [br, if_icmp.holds, decide_eq_true_eq, e4]; by_cases q : y < x
    · rw [if_pos q, if_neg (by omega)]
    · rw [if_neg q, if_pos (by omega)]
theorem br0_ok {α : Type} (cd : ClassFile.Cond) {x : Int} (hx : R32 x) (a b : α) : br cd x 0 a b = if ifCond.holds cd (Int32.ofInt x) = true then a else b := by
  rw [br_ok cd hx (show R32 0 by unfold R32; omega)]
  cases cd <;> rfl
theorem sw_cases {α : Type} (x : Int) (d : α) (k : Nat → α) : ∀ (ts : List Nat) (v : Int), (∃ j t, ts[j]? = some t ∧ x = v + (j : Nat) ∧ sw x d k v ts = k t) ∨ ((x < v ∨ v + (ts.length : Int) - 1 < x) ∧ sw x d k v ts = d)
  | [], v => Or.inr ⟨by simp; omega, rfl⟩
  | t :: ts, v => by
    unfold sw
    by_cases h : x = v
    · left; exact ⟨0, t, rfl, by simp [h], by rw [if_pos h]⟩
    · rw [if_neg h]
      rcases sw_cases x d k ts (v + 1) with ⟨j, t', h1, h2, h3⟩ | ⟨h1, h2⟩
      · left; exact ⟨j + 1, t', by simpa using h1, by push_cast; omega, h3⟩
      · right; exact ⟨by simp only [List.length_cons]; push_cast; omega, h2⟩
theorem Goes.ret {n0 kc kn pc cells slots : Nat} {Ls : Array Slot} {st : List Value} {P : Heap → Prop} {Q : Option Value → Heap → Prop} {v : Option Value} (hlk : meth.locks = false) (hv : meth.sig.returnType = none → v = none)
    (hc : cells ≤ kc) (hn : slots ≤ kn) (hQ : ∀ h, P h → Q v h)
    (hs : ∀ (T : State) (L : List Jvm.Loc), Stand p l e R s m args below meth c T L cells slots → ∀ fs, (∀ (f : JFrame) (acts : List Action), f.method = m → f.locked = none → f.entered = [] → (doReturn e (T.setTop f) acts v).1 = T.setFrames fs) → Steps p.tables e below (T.setTop (mkF m pc Ls st)) (T.setFrames fs)) :
    Goes p l e R s m args below meth c n0 kc kn pc Ls st cells slots P Q := fun T L X N hP => by
  obtain ⟨fs, hr, hrun, hended, hW, hsame⟩ := X.leave (v := v) hv hlk
  exact ⟨T.setFrames fs, v, L, hs T L X fs hr, hrun, hended, hQ _ hP, N, hW, hsame.mono hc hn⟩
theorem tg1 {tg : List Nat} {pc0 len : Nat} {o : Int} (h : ((match tg with | [t] => decide ((pc0 : Int) + o = t) | _ => false) && decide (len = 3)) = true) : ∃ t, tg = [t] ∧ (pc0 : Int) + o = (t : Nat) ∧ len = 3 := by
  rw [Bool.and_eq_true] at h
  obtain ⟨h1, h2⟩ := h
  split at h1
  · rename_i t; exact ⟨t, rfl, of_decide_eq_true h1, of_decide_eq_true h2⟩
  · cases h1
theorem tgs {tg : List Nat} {pc0 len : Nat} {d lo hi : Int} {offs : Array Int} (h : tgOk (pc0, .tableswitch d lo hi offs, len, tg) = true) : ∃ t ts, tg = t :: ts ∧ (pc0 : Int) + d = (t : Nat) ∧ offs.toList.map (fun o => (pc0 : Int) + o) = ts.map (fun (t : Nat) => (t : Int)) ∧ hi = lo + (ts.length : Int) - 1 := by
  simp only [tgOk] at h
  split at h
  · rename_i t ts
    simp only [Bool.and_eq_true, decide_eq_true_eq] at h
    exact ⟨t, ts, rfl, h.1.1, h.1.2, h.2⟩
  · cases h
theorem offs_at {pc0 : Nat} {offs : Array Int} {ts : List Nat} (h : offs.toList.map (fun o => (pc0 : Int) + o) = ts.map (fun (t : Nat) => (t : Int))) {j t : Nat} (hj : ts[j]? = some t) : ∃ o, offs[j]? = some o ∧ (pc0 : Int) + o = (t : Nat) := by
  have h1 : (ts.map (fun (t : Nat) => (t : Int)))[j]? = some (t : Int) := by simp [hj]
  rw [← h, List.getElem?_map] at h1
  cases ho : offs.toList[j]? with
  | none => rw [ho] at h1; cases h1
  | some o => rw [ho] at h1; exact ⟨o, by simpa using ho, by simpa using h1⟩
theorem ne0 {y : Int} (hy : R32 y) (h : ¬ y = 0) : Int32.ofInt y ≠ 0 := fun q => h (by
  have := congrArg Int32.toInt q
  rw [t32 hy] at this
  exact this)
theorem act_ok {σ : Type} {A : Nat → Addr} {n0 kc kn rk qF : Nat} {cA sA : Nat → Nat} {Hp : Nat → σ → Heap → Prop} {hop : Hop σ} {km : List Nat}
    (hx : p.tables.exec = Jvm.exec) (hlk : meth.locks = false) (hrk : RK rk meth.sig.returnType) (hkm : km.length = c.maxLocals) (hkc : cA qF ≤ kc) (hkn : sA qF ≤ kn)
    (hhop : HopOk p l e R s m args below meth c A n0 kc kn cA sA Hp hop) {pc0 : Nat} {i : Instr} {len : Nat} {tg : List Nat} (hent : entOk c.code (pc0, i, len, tg) = true) {L : List Sl} {st : List AV} {q : Nat} {S : σ} {r : Int × σ} {go : Nat → Fn σ}
    (hgo' : ∀ pc' L' st' q' S', go pc' L' st' q' S' = some r → okL km L' → okSt st' → Goes p l e R s m args below meth c n0 kc kn pc' (cL A L') (cSt A st') (cA q') (sA q') (Hp q' S') (Qr rk qF Hp r))
    (h : act km rk qF hop (pc0, i, len, tg) L st q S go = some r) (ok : okL km L) (oks : okSt st) : Goes p l e R s m args below meth c n0 kc kn pc0 (cL A L) (cSt A st) (cA q) (sA q) (Hp q S) (Qr rk qF Hp r) := by
  simp only [entOk, Bool.and_eq_true, decide_eq_true_eq] at hent
  obtain ⟨⟨hd, hsm⟩, htg⟩ := hent
  have plain : act km rk qF hop (pc0, i, len, tg) L st q S go = (match pst km i L st with | some r => go (pc0 + len) r.1 r.2 q S | none => hop i st q S (fun st' q' S' => go (pc0 + len) L st' q' S')) → len = ilen i → Goes p l e R s m args below meth c n0 kc kn pc0 (cL A L) (cSt A st) (cA q) (sA q) (Hp q S) (Qr rk qF Hp r) := by
    intro ha hlen
    subst hlen
    rw [ha] at h
    cases hp : pst km i L st with
    | some r' =>
      rw [hp] at h
      obtain ⟨L', st'⟩ := r'
      have w := pst_ok (A := A) (e := e) (below := below) (m := m) (tb := p.tables) hx hd hsm hp ok oks
      exact (hgo' _ _ _ _ _ h w.1.1 w.1.2).pre w.2
    | none =>
      rw [hp] at h
      obtain ⟨st', q', S', h1, h3⟩ := hhop pc0 i L st q S _ r hd (by rw [okL_len ok, hkm]) oks h
      exact h3 _ fun h2 => hgo' _ _ _ _ _ h1 ok h2
  cases i with
  | goto o =>
    obtain ⟨t, rfl, ht, rfl⟩ := tg1 htg
    exact (hgo' _ _ _ _ _ h ok oks).pre fun T hT target k => XS.goto (pc0 := pc0) hT hx rfl rfl hd (by omega) (by show ((pc0 : Int) + o).toNat = t; omega) k
  | if_icmp cd o =>
    obtain ⟨t, rfl, ht, rfl⟩ := tg1 htg
    simp only [act] at h
    split at h
    · rename_i y x st'
      rw [br_ok cd oks.2.1 oks.1] at h
      split at h
      · rename_i hh
        exact (hgo' _ _ _ _ _ h ok oks.2.2).pre fun T hT target k => XS.icmpYes (pc0 := pc0) hT hx rfl rfl hd rfl hh (by omega) (by show ((pc0 : Int) + o).toNat = t; omega) k
      · rename_i hh
        exact (hgo' _ _ _ _ _ h ok oks.2.2).pre fun T hT target k => XS.icmpNo hT hx rfl hd rfl (by simpa using hh) k
    · cases h
  | ifCond cd o =>
    obtain ⟨t, rfl, ht, rfl⟩ := tg1 htg
    simp only [act] at h
    split at h
    · rename_i x st'
      rw [br0_ok cd oks.1] at h
      split at h
      · rename_i hh
        exact (hgo' _ _ _ _ _ h ok oks.2).pre fun T hT target k => XS.ifYes (pc0 := pc0) hT hx rfl rfl hd rfl hh (by omega) (by show ((pc0 : Int) + o).toNat = t; omega) k
      · rename_i hh
        exact (hgo' _ _ _ _ _ h ok oks.2).pre fun T hT target k => XS.ifNo hT hx rfl hd rfl (by simpa using hh) k
    · cases h
  | tableswitch d lo hi offs =>
    obtain ⟨t, ts, rfl, ht, hts, hhi⟩ := tgs htg
    simp only [act] at h
    split at h
    · rename_i x st'
      rcases sw_cases x (go t L st' q S) (fun t => go t L st' q S) ts lo with ⟨j, tj, h1, h2, h3⟩ | ⟨h1, h3⟩
      · change sw x (go t L st' q S) (fun t => go t L st' q S) lo ts = some r at h
        rw [h3] at h
        have hj := (List.getElem?_eq_some_iff.mp h1).1
        obtain ⟨o, ho, hoo⟩ := offs_at hts h1
        refine (hgo' _ _ _ _ _ h ok oks.2).pre fun T hT target k => XS.tswIn (pc0 := pc0) hT hx rfl rfl hd rfl ?_ (o := o) ?_ (by omega) (by omega) k
        · rw [t32 oks.1]; omega
        · rw [t32 oks.1, show (x - lo).toNat = j by omega]; exact ho
      · change sw x (go t L st' q S) (fun t => go t L st' q S) lo ts = some r at h
        rw [h3] at h
        refine (hgo' _ _ _ _ _ h ok oks.2).pre fun T hT target k => XS.tswOut (pc0 := pc0) hT hx rfl rfl hd rfl ?_ (by omega) (by omega) k
        rw [t32 oks.1]; omega
    · cases h
  | idiv =>
    have hlen : len = 1 := of_decide_eq_true htg
    subst hlen
    simp only [act] at h
    split at h
    · rename_i y x st'
      split at h
      · cases h
      · rename_i hy
        refine (hgo' _ _ _ _ _ h ok ⟨r_w32 _, oks.2.2⟩).pre fun T hT target k => XS.idiv hT hx rfl hd rfl (ne0 oks.1 hy) ?_
        rw [← q_div oks.2.1 oks.1]
        exact k
    · cases h
  | irem =>
    have hlen : len = 1 := of_decide_eq_true htg
    subst hlen
    simp only [act] at h
    split at h
    · rename_i y x st'
      split at h
      · cases h
      · rename_i hy
        refine (hgo' _ _ _ _ _ h ok ⟨r_tmod oks.2.1, oks.2.2⟩).pre fun T hT target k => XS.irem hT hx rfl hd rfl (ne0 oks.1 hy) ?_
        rw [← q_rem oks.2.1 oks.1]
        exact k
    · cases h
  | ireturn =>
    have hlen : len = 1 := of_decide_eq_true htg
    subst hlen
    simp only [act] at h
    split at h
    · rename_i x st'
      cases hq : Nat.beq q qF
      · rw [hq] at h; cases h
      · rw [hq] at h
        have hqq := Nat.eq_of_beq_eq_true hq
        subst hqq
        simp only [cond_true] at h
        rcases hrk with ⟨rfl, hrt⟩ | ⟨rfl, hrt⟩ | ⟨rfl, hrt⟩ | ⟨rfl, hrt⟩
        · cases h
        · cases h
          exact Goes.ret hlk (fun h => by rw [hrt] at h; cases h) hkc hkn (fun h hP => ⟨rfl, oks.1, hP⟩) fun T L' X fs hr => retOut X hx hrt rfl (Or.inl ⟨rfl, Or.inl rfl, _, rfl⟩) hd hr
        · cases h
        · cases h
          refine Goes.ret (v := some (.int (nar .boolean (Int32.ofInt x)))) hlk (fun h => by rw [hrt] at h; cases h) hkc hkn (fun h hP => ⟨?_, (by show R32 (x % 2); unfold R32; omega), hP⟩) fun T L' X fs hr => retN X hx hrt (Or.inl rfl) hd hr
          show some (Value.int (Int32.ofInt x &&& 1)) = some (Value.int (Int32.ofInt (x % 2)))
          rw [q_mod2 oks.1]
    · cases h
  | lreturn =>
    have hlen : len = 1 := of_decide_eq_true htg
    subst hlen
    simp only [act] at h
    split at h
    · rename_i x st'
      cases hq : Nat.beq q qF
      · rw [hq] at h; cases h
      · rw [hq] at h
        have hqq := Nat.eq_of_beq_eq_true hq
        subst hqq
        simp only [cond_true] at h
        rcases hrk with ⟨rfl, hrt⟩ | ⟨rfl, hrt⟩ | ⟨rfl, hrt⟩ | ⟨rfl, hrt⟩
        · cases h
        · cases h
        · cases h
          exact Goes.ret hlk (fun h => by rw [hrt] at h; cases h) hkc hkn (fun h hP => ⟨rfl, oks.1, hP⟩) fun T L' X fs hr => retOut X hx hrt rfl (Or.inr (Or.inl ⟨rfl, rfl, _, rfl⟩)) hd hr
        · cases h
    · cases h
  | return_ =>
    have hlen : len = 1 := of_decide_eq_true htg
    subst hlen
    simp only [act] at h
    split at h
    · cases hq : Nat.beq q qF
      · rw [hq] at h; cases h
      · rw [hq] at h
        have hqq := Nat.eq_of_beq_eq_true hq
        subst hqq
        simp only [cond_true] at h
        rcases hrk with ⟨rfl, hrt⟩ | ⟨rfl, hrt⟩ | ⟨rfl, hrt⟩ | ⟨rfl, hrt⟩
        · cases h
          exact Goes.ret hlk (fun _ => rfl) hkc hkn (fun h hP => ⟨rfl, trivial, hP⟩) fun T L' X fs hr => X.returnOut hx hrt hd hr
        · cases h
        · cases h
        · cases h
    · cases h
  | _ => exact plain rfl (of_decide_eq_true htg)
theorem den_ok {σ : Type} {A : Nat → Addr} {n0 kc kn rk qF : Nat} {cA sA : Nat → Nat} {Hp : Nat → σ → Heap → Prop} {hop : Hop σ} {km : List Nat} {jl : List (Nat × Nat × Jn σ)}
    (hx : p.tables.exec = Jvm.exec) (hlk : meth.locks = false) (hrk : RK rk meth.sig.returnType) (hkm : km.length = c.maxLocals) (hkc : cA qF ≤ kc) (hkn : sA qF ≤ kn)
    (hhop : HopOk p l e R s m args below meth c A n0 kc kn cA sA Hp hop) (hJ : ∀ x ∈ jl, JOk p l e R s m args below meth c A n0 kc kn cA sA Hp km rk qF x) :
    ∀ (lst : List Ent), codeOk c.code lst = true → ∀ (pc : Nat) (L : List Sl) (st : List AV) (q : Nat) (S : σ) (r : Int × σ), den km rk qF hop jl lst pc L st q S = some r → okL km L → okSt st →
      Goes p l e R s m args below meth c n0 kc kn pc (cL A L) (cSt A st) (cA q) (sA q) (Hp q S) (Qr rk qF Hp r) := by
  intro lst
  induction lst with
  | nil => intro _ pc L st q S r h; simp [den] at h
  | cons en rest ih =>
    intro hcode pc L st q S r h ok oks
    simp only [codeOk, List.all_cons, Bool.and_eq_true] at hcode
    have ih' := ih hcode.2
    unfold den at h
    cases hb : Nat.beq en.1 pc
    · rw [hb] at h; exact ih' pc L st q S r h ok oks
    · rw [hb] at h
      have hpc := Nat.eq_of_beq_eq_true hb
      simp only [cond_true] at h
      obtain ⟨pc0, i, len, tg⟩ := en
      dsimp only at hpc
      subst hpc
      have hgo : ∀ pc' L' st' q' S', (match look jl pc' with | some f => bif Nat.beq f.1 q' then f.2 L' st' S' else none | none => den km rk qF hop jl rest pc' L' st' q' S') = some r → okL km L' → okSt st' → Goes p l e R s m args below meth c n0 kc kn pc' (cL A L') (cSt A st') (cA q') (sA q') (Hp q' S') (Qr rk qF Hp r) := by
        intro pc' L' st' q' S' h' ok' oks'
        cases hl : look jl pc' with
        | none => rw [hl] at h'; exact ih' pc' L' st' q' S' r h' ok' oks'
        | some f =>
          rw [hl] at h'
          cases hq : Nat.beq f.1 q'
          · simp only [hq, cond_false] at h'; cases h'
          · simp only [hq, cond_true] at h'
            have hqq := Nat.eq_of_beq_eq_true hq
            subst hqq
            exact hJ _ (look_mem hl) L' st' S' r h' ok' oks'
      generalize hgd : (fun (pc' : Nat) (L' : List Sl) (st' : List AV) (q' : Nat) (S' : σ) => match look jl pc' with | some f => bif Nat.beq f.1 q' then f.2 L' st' S' else none | none => den km rk qF hop jl rest pc' L' st' q' S') = go at h
      have hgo' : ∀ pc' L' st' q' S', go pc' L' st' q' S' = some r → okL km L' → okSt st' → Goes p l e R s m args below meth c n0 kc kn pc' (cL A L') (cSt A st') (cA q') (sA q') (Hp q' S') (Qr rk qF Hp r) := by
        intro pc' L' st' q' S' h' ok' oks'
        subst hgd
        exact hgo pc' L' st' q' S' h' ok' oks'
      exact act_ok hx hlk hrk hkm hkc hkn hhop hcode.1 hgo' h ok oks
/-! ## the machine that goes by its text: one instruction a turn -/
def seek : List Ent → Nat → List Ent
  | [], _ => []
  | e :: l, n => bif Nat.beq e.1 n then e :: l else seek l n
def seek2 (full rest : List Ent) (pc pc' : Nat) : List Ent := bif Nat.blt pc pc' then seek rest pc' else seek full pc'
def run {σ : Type} (km : List Nat) (rk qF : Nat) (hop : Hop σ) (full : List Ent) : Nat → List Ent → List Sl → List AV → Nat → σ → RS σ
  | 0, _, _, _, _, _ => none
  | _ + 1, [], _, _, _, _ => none
  | n + 1, en :: rest, L, st, q, S => act km rk qF hop en L st q S (fun pc' L' st' q' S' => run km rk qF hop full n (seek2 full rest en.1 pc') L' st' q' S')
theorem seek_ok (code : ByteArray) : ∀ (l : List Ent) (n : Nat), codeOk code l = true → codeOk code (seek l n) = true ∧ (seek l n = [] ∨ ∃ en rest, seek l n = en :: rest ∧ en.1 = n)
  | [], _, h => ⟨h, Or.inl rfl⟩
  | e :: l, n, h => by
    unfold seek
    cases hb : Nat.beq e.1 n
    · simp only [cond_false]
      have h' := h
      simp only [codeOk, List.all_cons, Bool.and_eq_true] at h'
      exact seek_ok code l n h'.2
    · simp only [cond_true]
      exact ⟨h, Or.inr ⟨e, l, rfl, Nat.eq_of_beq_eq_true hb⟩⟩
theorem seek2_ok (code : ByteArray) {full rest : List Ent} (hf : codeOk code full = true) (hr : codeOk code rest = true) (pc n : Nat) : codeOk code (seek2 full rest pc n) = true ∧ (seek2 full rest pc n = [] ∨ ∃ en rest', seek2 full rest pc n = en :: rest' ∧ en.1 = n) := by
  unfold seek2
  cases Nat.blt pc n
  · exact seek_ok code full n hf
  · exact seek_ok code rest n hr
theorem run_nil {σ : Type} {km : List Nat} {rk qF : Nat} {hop : Hop σ} {full : List Ent} {L : List Sl} {st : List AV} {q : Nat} {S : σ} : ∀ n, run km rk qF hop full n [] L st q S = none
  | 0 => rfl
  | _ + 1 => rfl
theorem run_ok {σ : Type} {A : Nat → Addr} {n0 kc kn rk qF : Nat} {cA sA : Nat → Nat} {Hp : Nat → σ → Heap → Prop} {hop : Hop σ} {km : List Nat}
    (hx : p.tables.exec = Jvm.exec) (hlk : meth.locks = false) (hrk : RK rk meth.sig.returnType) (hkm : km.length = c.maxLocals) (hkc : cA qF ≤ kc) (hkn : sA qF ≤ kn)
    (hhop : HopOk p l e R s m args below meth c A n0 kc kn cA sA Hp hop) {full : List Ent} (hfull : codeOk c.code full = true) :
    ∀ (n : Nat) (en : Ent) (rest : List Ent) (L : List Sl) (st : List AV) (q : Nat) (S : σ) (r : Int × σ), codeOk c.code (en :: rest) = true → run km rk qF hop full n (en :: rest) L st q S = some r → okL km L → okSt st →
      Goes p l e R s m args below meth c n0 kc kn en.1 (cL A L) (cSt A st) (cA q) (sA q) (Hp q S) (Qr rk qF Hp r) := by
  intro n
  induction n with
  | zero => intro en rest L st q S r _ h; cases h
  | succ n ih =>
    intro en rest L st q S r hc h ok oks
    have hc' := hc
    simp only [codeOk, List.all_cons, Bool.and_eq_true] at hc'
    obtain ⟨pc0, i, len, tg⟩ := en
    unfold run at h
    refine act_ok hx hlk hrk hkm hkc hkn hhop hc'.1 (fun pc' L' st' q' S' h' ok' oks' => ?_) h ok oks
    obtain ⟨k1, k2⟩ := seek2_ok c.code hfull hc'.2 pc0 pc'
    rcases k2 with e | ⟨en', rest', e, e'⟩
    · dsimp only at h'
      rw [e, run_nil] at h'; cases h'
    · dsimp only at h'
      rw [e] at h' k1
      have := ih en' rest' L' st' q' S' r k1 h' ok' oks'
      rw [e'] at this
      exact this
end Den
/-! ## the same, said of every run -/
def Ctx (l : Launch) (Z : State) (own : String) (bytes : ByteArray) (maxL : Nat) (ret : Option FieldType) (ct : Bool) (R : Room) (p : Program) (e : Env) (s : State) (m : MethodId) (args : Array Value) (below : List Frame) (meth : Method) (c : Code) : Prop :=
  p.tables.exec = Jvm.exec ∧ c.code = bytes ∧ c.maxLocals = maxL ∧ meth.sig.returnType = ret ∧ meth.locks = false ∧ Z.Warmed39 s.vm ∧ s.vm.findClass own = some m.cls ∧ (ct = true → meth.name = "<init>")
section All
variable {σ ι : Type}
def HopAll (l : Launch) (Z : State) (own : String) (bytes : ByteArray) (maxL : Nat) (ret : Option FieldType) (ct : Bool) (R : Room) (A : ι → Nat → Addr) (n0 hz : ι → Nat) (cA sA : Nat → Nat) (Hp : ι → Nat → σ → Heap → Prop) (hop : Hop σ) : Prop :=
  ∀ p e s m args below meth c, Ctx l Z own bytes maxL ret ct R p e s m args below meth c → ∀ i : ι, s.heap.size = hz i → HopOk p l e R s m args below meth c (A i) (n0 i) R.cells R.slots cA sA (Hp i) hop
def Blk (l : Launch) (Z : State) (own : String) (bytes : ByteArray) (maxL : Nat) (ret : Option FieldType) (ct : Bool) (R : Room) (A : ι → Nat → Addr) (n0 hz : ι → Nat) (cA sA : Nat → Nat) (Hp : ι → Nat → σ → Heap → Prop) (km : List Nat) (rk qF : Nat) (x : Nat × Nat × Jn σ) : Prop :=
  ∀ p e s m args below meth c, Ctx l Z own bytes maxL ret ct R p e s m args below meth c → ∀ i : ι, s.heap.size = hz i → JOk p l e R s m args below meth c (A i) (n0 i) R.cells R.slots cA sA (Hp i) km rk qF x
variable {l : Launch} {Z : State} {own : String} {bytes : ByteArray} {maxL : Nat} {ret : Option FieldType} {ct : Bool} {R : Room} {A : ι → Nat → Addr} {n0 hz : ι → Nat} {cA sA : Nat → Nat} {Hp : ι → Nat → σ → Heap → Prop} {km : List Nat} {rk qF : Nat} {hop : Hop σ}
theorem blk_of_den {jl : List (Nat × Nat × Jn σ)} {lst : List Ent} {pc q : Nat} {fn : Jn σ} (hhop : HopAll l Z own bytes maxL ret ct R A n0 hz cA sA Hp hop) (hrk : RK rk ret) (hkm : km.length = maxL) (hkc : cA qF ≤ R.cells) (hkn : sA qF ≤ R.slots) (hcode : codeOk bytes lst = true)
    (hJ : ∀ x ∈ jl, Blk l Z own bytes maxL ret ct R A n0 hz cA sA Hp km rk qF x) (hfn : ∀ L st S r, okL km L → fn L st S = some r → den km rk qF hop jl lst pc L st q S = some r) : Blk l Z own bytes maxL ret ct R A n0 hz cA sA Hp km rk qF (pc, q, fn) := by
  intro p e s m args below meth c hc i hsz L st S r h ok oks
  obtain ⟨h1, h2, h3, h4, h5, h6, h7, h8⟩ := hc
  exact den_ok h1 h5 (by rw [h4]; exact hrk) (by rw [h3]; exact hkm) hkc hkn (hhop p e s m args below meth c ⟨h1, h2, h3, h4, h5, h6, h7, h8⟩ i hsz) (fun x hx => hJ x hx p e s m args below meth c ⟨h1, h2, h3, h4, h5, h6, h7, h8⟩ i hsz) lst (by rw [h2]; exact hcode) pc L st q S r (hfn L st S r ok h) ok oks
theorem blk_none {pc q : Nat} {fn : Jn σ} (h : ∀ L st S, fn L st S = none) : Blk l Z own bytes maxL ret ct R A n0 hz cA sA Hp km rk qF (pc, q, fn) := by
  intro p e s m args below meth c hc i hsz L st S r hh
  rw [show (pc, q, fn).2.2 L st S = none from h L st S] at hh; cases hh
theorem blk_of_run {full : List Ent} {n q : Nat} (hhop : HopAll l Z own bytes maxL ret ct R A n0 hz cA sA Hp hop) (hrk : RK rk ret) (hkm : km.length = maxL) (hkc : cA qF ≤ R.cells) (hkn : sA qF ≤ R.slots) (hcode : codeOk bytes full = true) :
    Blk l Z own bytes maxL ret ct R A n0 hz cA sA Hp km rk qF (0, q, fun L st S => run km rk qF hop full n (seek full 0) L st q S) := by
  intro p e s m args below meth c hc i hsz L st S r h ok oks
  obtain ⟨h1, h2, h3, h4, h5, h6, h7, h8⟩ := hc
  have hcode' : codeOk c.code full = true := by rw [h2]; exact hcode
  obtain ⟨k1, k2⟩ := seek_ok c.code full 0 hcode'
  dsimp only at h ⊢
  rcases k2 with e' | ⟨en', rest', e', e''⟩
  · rw [e', run_nil] at h; cases h
  · rw [e'] at h k1
    have := run_ok h1 h5 (by rw [h4]; exact hrk) (by rw [h3]; exact hkm) hkc hkn (hhop p e s m args below meth c ⟨h1, h2, h3, h4, h5, h6, h7, h8⟩ i hsz) hcode' n en' rest' L st q S r k1 h ok oks
    rw [e''] at this
    exact this
def flat : List AV → List Sl
  | [] => []
  | .inr (.inl x) :: as => sv (vL x) :: s2 :: flat as
  | v :: as => sv v :: flat as
def entryL (as : List AV) (maxL : Nat) : List Sl := flat as ++ List.replicate (maxL - (flat as).length) sU
theorem flat_fold (A : Nat → Addr) : ∀ (as : List AV) (acc : Array Slot), (as.map (conc A)).foldl (init := acc) (fun acc v => if v.category = 2 then (acc.push (.val v)).push .second else acc.push (.val v)) = acc ++ ((flat as).map (concS A)).toArray
  | [], acc => by simp [flat]
  | .inl x :: as, acc => by
    have h : (conc A (.inl x)).category = 1 := rfl
    simp only [List.map_cons, List.foldl_cons, flat]
    rw [flat_fold A as]; simp [h, concS, ← Array.append_singleton_assoc]
  | .inr (.inl x) :: as, acc => by
    have h : (conc A (.inr (.inl x))).category = 2 := rfl
    simp only [List.map_cons, List.foldl_cons, flat]
    rw [flat_fold A as]; simp [h, concS, ← Array.append_singleton_assoc]
  | .inr (.inr r) :: as, acc => by
    have h : (conc A (.inr (.inr r))).category = 1 := by cases r <;> rfl
    simp only [List.map_cons, List.foldl_cons, flat]
    rw [flat_fold A as]; simp [h, concS, ← Array.append_singleton_assoc]
theorem entry_eq (A : Nat → Addr) (m : MethodId) (as : List AV) (maxL : Nat) : entryFrame m (as.map (conc A)).toArray maxL = mkF m 0 (cL A (entryL as maxL)) [] := by
  have h : argsToLocals (as.map (conc A)).toArray maxL = cL A (entryL as maxL) := by
    unfold argsToLocals
    simp only [List.foldl_toArray]
    rw [flat_fold A as #[]]
    simp [cL, entryL, concS]
  simp [entryFrame, h]
theorem met_of_blk {y : MethodName} {ws : List Jvm.Cond} {q0 : Nat} {fn : Jn σ} (hB : Blk l Z own bytes maxL ret ct R A n0 hz cA sA Hp km rk qF (0, q0, fn)) (hpl : plainName y.cls = true) (hy : y.cls = own) (hct : ct = true → y.name = "<init>") (h0c : cA q0 = 0) (h0s : sA q0 = 0)
    {i : ι} {as : List AV} {S : σ} {r : Int × σ} {h0 : Heap} (hf : fn (entryL as maxL) [] S = some r) (hok : okL km (entryL as maxL)) (hH : Hp i q0 S h0) (hz0 : h0.size = hz i) :
    MetFree l y (head1 (Jvm.Cond.code y bytes maxL ret :: ws) R) (fun a U => a = (as.map (conc (A i))).toArray ∧ Z.Warmed39 U.vm ∧ U.heap = h0) (fun _ _ _ _ _ => True)
      (fun _ U o U' => ∃ v L, o = .returned v ∧ ((v = Val rk r.1 ∧ okR rk r.1) ∧ Fr (n0 i) L ∧ Hp i qF r.2 U'.heap) ∧ FrameEnd U o U' L R.cells R.slots) := by
  refine MetFree.of_bodySF (plainFor_of_name hpl) hisR ?_
  intro p e s m args below meth c s₁ Bd hml0 hP hK
  obtain ⟨rfl, hZ, hh⟩ := hP
  have hown : s.vm.findClass own = some m.cls := by rw [← hy]; exact findClass_of_methodNamed Bd.named
  have hnm := (name_of_methodNamed Bd.named Bd.method).1
  have X0 : Stand p l e R s m (as.map (conc (A i))).toArray below meth c s₁ [] 0 0 := Stand.of_body Bd
  have e0 : s₁.heap = h0 := by rw [← hh, Bd.state]; rfl
  have G := hB p e s m (as.map (conc (A i))).toArray below meth c ⟨Bd.exec, Bd.bytes, hml0, Bd.returns, Bd.notSynchronized, hZ, hown, fun h => by rw [hnm]; exact hct h⟩ i (by rw [hh]; exact hz0) (entryL as maxL) [] S r hf hok trivial
  obtain ⟨t, v, L, h1, h2, h3, h4, h5, h6, h7⟩ := G s₁ [] (by dsimp only; rw [h0c, h0s]; exact X0) (Fr.nil _) (by rw [e0]; exact hH)
  exact ⟨t, .returned v, castTop (entry_eq (A i) m as maxL) h1, h2, h3, v, L, rfl, ⟨⟨h4.1, h4.2.1⟩, h5, h4.2.2⟩, ⟨v, rfl⟩, h6, h7⟩
end All
end Jvm.OwnKit
namespace Jvm.OwnKit
open Sem ClassFile Op Lib Jvm.Stand Jvm.Free Jvm.LawKit Jvm.RoadKit
/-! # 5. an object and its arrays -/
abbrev St : Type := Nat → Int → Int
def stw (S : St) (h : Nat) (i v : Int) : St := fun h' i' => if h' = h ∧ i' = i then v else S h' i'
/-- a field: its pool number; its place in S 0, its kind (0 int, 1 boolean, h + 2 a reference to the array h), 1 if final, name, descriptor -/
abbrev FE : Type := Nat × Int × Nat × Nat × String × String
/-- an array: its number; its kind (0 int, 1 boolean, 2 byte, 3 short, 4 long), its length -/
abbrev AE : Type := Nat × Nat × Int
def tyOf : Nat → FieldType
  | 0 => .int
  | 1 => .boolean
  | 2 => .byte
  | 3 => .short
  | _ => .long
def isJ (k : Nat) : Bool := Nat.beq k 4
def ev (k : Nat) (x : Int) : Value := bif isJ k then .long (Int64.ofInt x) else .int (Int32.ofInt x)
def el (k : Nat) (x : Int) : AV := bif isJ k then vL x else vI x
def okE (k : Nat) (x : Int) : Prop := bif isJ k then R64 x else R32 x
theorem conc_el (A : Nat → Addr) (k : Nat) (x : Int) : conc A (el k x) = ev k x := by unfold el ev; cases isJ k <;> rfl
theorem okV_el {k : Nat} {x : Int} (h : okE k x) : okV (el k x) := by unfold okE at h; unfold el; cases hj : isJ k <;> rw [hj] at h <;> exact h
theorem ok0 (k : Nat) : okE k 0 := by unfold okE; cases isJ k <;> (simp only [cond_true, cond_false]; first | (unfold R32; omega) | (unfold R64; omega))
def fval (a q : Nat) (S : St) (f : FE) : Value := match f.2.2.1 with
  | 0 => .int (Int32.ofInt (S 0 f.2.1))
  | 1 => .int (Int32.ofInt (S 0 f.2.1))
  | h + 2 => if 2 * h ≤ q then .ref (a + h) else .null
def ArrIs (Z : State) (h : Heap) (b k : Nat) (len : Int) (g : Int → Int) : Prop := ∃ cell : Cell, Arr Z h b cell (tyOf k) ∧ (cell.slots.size : Int) = len ∧ ∀ i : Nat, i < cell.slots.size → cell.slots[i]? = some (ev k (g i)) ∧ okE k (g i)
def Clu (Z : State) (a : Nat) (C : String) (fs : List FE) (as : List AE) (q : Nat) (S : St) (h : Heap) : Prop :=
  Exa Z h a C ∧ (∀ f ∈ fs, Fld Z h a C f.2.2.2.2.1 f.2.2.2.2.2 (fval a q S f) ∧ (f.2.2.1 < 2 → R32 (S 0 f.2.1))) ∧
  (∀ t ∈ as, 2 * t.1 ≤ q + 1 → ArrIs Z h (a + t.1) t.2.1 t.2.2 (S t.1)) ∧ (∀ t ∈ as, q + 1 < 2 * t.1 → ∀ i, S t.1 i = 0)
def Off (h0 h : Heap) (a K : Nat) (ct : Bool) (q : Nat) : Prop := (∀ b, b < a → h[b]? = h0[b]?) ∧ (∀ b, a + K < b → h[b]? = h0[b]?) ∧ h.size = (bif ct then a + 1 + (q + 1) / 2 else h0.size)
def fsOk (fs : List FE) (as : List AE) (K : Nat) : Bool :=
  fs.all (fun x => fs.all (fun y => decide (x.1 = y.1) || (decide (x.2.1 ≠ y.2.1) && decide (x.2.2.2.2.1 ≠ y.2.2.2.2.1) && (decide (x.2.2.1 < 2) || decide (x.2.2.1 ≠ y.2.2.1))))) &&
  fs.all (fun x => match x.2.2.1 with
    | 0 => decide (parseFieldDescriptor x.2.2.2.2.2 = some .int)
    | 1 => decide (parseFieldDescriptor x.2.2.2.2.2 = some .boolean)
    | h + 2 => as.any (fun t => decide (t.1 = h) && decide (parseFieldDescriptor x.2.2.2.2.2 = some (.array (tyOf t.2.1))))) &&
  as.all (fun x => as.all (fun y => decide (x = y) || decide (x.1 ≠ y.1))) && as.all (fun x => decide (1 ≤ x.1) && decide (x.1 ≤ K) && decide (x.2.1 ≤ 4) && decide (0 ≤ x.2.2) && decide (x.2.2 ≤ 1000000))
def keysOk : List FE → Bool
  | [] => true
  | x :: fs => fs.all (fun y => decide (x.1 ≠ y.1)) && keysOk fs
theorem keys_inj : ∀ {fs : List FE}, keysOk fs = true → ∀ {x y : FE}, x ∈ fs → y ∈ fs → x.1 = y.1 → x = y
  | [], _, _, _, hx, _, _ => (nomatch hx)
  | z :: fs, hk, x, y, hx, hy, he => by
    simp only [keysOk, Bool.and_eq_true, List.all_eq_true, decide_eq_true_eq] at hk
    rcases List.mem_cons.mp hx with e1 | h1 <;> rcases List.mem_cons.mp hy with e2 | h2
    · rw [e1, e2]
    · subst e1; exact absurd he (hk.1 _ h2)
    · subst e2; exact absurd he.symm (hk.1 _ h1)
    · exact keys_inj hk.2 h1 h2 he
def FOk (Z : State) (a0 : Array Value) (C : String) (x : FE) : Prop := (Jvm.Cond.fieldLink C x.1 C x.2.2.2.2.1 x.2.2.2.2.2).before a0 Z = true ∧ ((x.2.2.2.1 = 0 ∧ (Jvm.Cond.lays C C x.2.2.2.2.1 x.2.2.2.2.2).before a0 Z = true) ∨ (x.2.2.2.1 ≠ 0 ∧ (Jvm.Cond.laysFinal C C x.2.2.2.2.1 x.2.2.2.2.2).before a0 Z = true))
theorem fc {α : Type} {P : α → Prop} {a : α} {l : List α} (h : P a) (t : ∀ x ∈ l, P x) : ∀ x ∈ a :: l, P x := fun x hx => (List.mem_cons.mp hx).elim (fun e => e ▸ h) (t x)
theorem fn {α : Type} {P : α → Prop} : ∀ x ∈ ([] : List α), P x := fun _ h => nomatch h
def ClsOk (Z : State) (a0 : Array Value) (C : String) (kk : Nat) (fs : List FE) (as : List AE) (K : Nat) : Prop :=
  (Jvm.Cond.instantiable C kk).before a0 Z = true ∧ (∀ x ∈ fs, FOk Z a0 C x) ∧
  (∀ t ∈ as, (Jvm.Cond.arrayClass (tyOf t.2.1)).before a0 Z = true) ∧ fsOk fs as K = true ∧ keysOk fs = true
section Clu
variable {Z : State} {a0 : Array Value} {C : String} {kk : Nat} {fs : List FE} {as : List AE} {K a q : Nat} {S : St} {h h' h0 : Heap} {ct : Bool}
theorem ClsOk.field (H : ClsOk Z a0 C kk fs as K) {x y : FE} (hx : x ∈ fs) (hy : y ∈ fs) : x = y ∨ (x.2.1 ≠ y.2.1 ∧ x.2.2.2.2.1 ≠ y.2.2.2.2.1 ∧ (x.2.2.1 < 2 ∨ x.2.2.1 ≠ y.2.2.1)) := by
  obtain ⟨-, -, -, h4, h5⟩ := H
  simp only [fsOk, Bool.and_eq_true, List.all_eq_true, Bool.or_eq_true, decide_eq_true_eq] at h4
  rcases h4.1.1.1 x hx y hy with h | ⟨⟨h1, h2⟩, h3⟩
  · exact Or.inl (keys_inj h5 hx hy h)
  · exact Or.inr ⟨h1, h2, h3⟩
theorem ClsOk.desc (H : ClsOk Z a0 C kk fs as K) {x : FE} (hx : x ∈ fs) : (x.2.2.1 = 0 ∧ parseFieldDescriptor x.2.2.2.2.2 = some .int) ∨ (x.2.2.1 = 1 ∧ parseFieldDescriptor x.2.2.2.2.2 = some .boolean) ∨ ∃ t ∈ as, x.2.2.1 = t.1 + 2 ∧ parseFieldDescriptor x.2.2.2.2.2 = some (.array (tyOf t.2.1)) := by
  obtain ⟨-, -, -, h4, -⟩ := H
  simp only [fsOk, Bool.and_eq_true, List.all_eq_true] at h4
  have h := h4.1.1.2 x hx
  split at h
  · rename_i e; exact Or.inl ⟨e, of_decide_eq_true h⟩
  · rename_i e; exact Or.inr (Or.inl ⟨e, of_decide_eq_true h⟩)
  · rename_i n e
    obtain ⟨t, ht, h⟩ := List.any_eq_true.mp h
    rw [Bool.and_eq_true, decide_eq_true_eq, decide_eq_true_eq] at h
    exact Or.inr (Or.inr ⟨t, ht, by rw [e, h.1], h.2⟩)
theorem ClsOk.laid (H : ClsOk Z a0 C kk fs as K) {x : FE} (hx : x ∈ fs) : Laid Z a0 C C x.2.2.2.2.1 x.2.2.2.2.2 := (H.2.1 x hx).2.imp (·.2) (·.2)
theorem ClsOk.parse (H : ClsOk Z a0 C kk fs as K) {x : FE} (hx : x ∈ fs) : ∃ t, parseFieldDescriptor x.2.2.2.2.2 = some t := by
  rcases H.desc hx with ⟨-, e⟩ | ⟨-, e⟩ | ⟨t, -, -, e⟩ <;> exact ⟨_, e⟩
theorem ClsOk.slots (H : ClsOk Z a0 C kk fs as K) {x y : FE} (hx : x ∈ fs) (hy : y ∈ fs) (hn : x.2.2.2.2.1 ≠ y.2.2.2.2.1) : Jvm.RoadKit.slotOf Z C x.2.2.2.2.1 x.2.2.2.2.2 ≠ Jvm.RoadKit.slotOf Z C y.2.2.2.2.1 y.2.2.2.2.2 := by
  obtain ⟨t, ht⟩ := H.parse hx
  obtain ⟨t', ht'⟩ := H.parse hy
  exact slot_ne (H.laid hx) (H.laid hy) hn ht ht'
theorem ClsOk.arr (H : ClsOk Z a0 C kk fs as K) {x y : AE} (hx : x ∈ as) (hy : y ∈ as) (h : x.1 = y.1) : x = y := by
  obtain ⟨-, -, -, h4, -⟩ := H
  simp only [fsOk, Bool.and_eq_true, List.all_eq_true, Bool.or_eq_true, decide_eq_true_eq] at h4
  rcases h4.1.2 x hx y hy with e | e
  · exact e
  · exact absurd h e
theorem ClsOk.arrK (H : ClsOk Z a0 C kk fs as K) {x : AE} (hx : x ∈ as) : 1 ≤ x.1 ∧ x.1 ≤ K ∧ x.2.1 ≤ 4 ∧ 0 ≤ x.2.2 ∧ x.2.2 ≤ 1000000 := by
  obtain ⟨-, -, -, h4, -⟩ := H
  simp only [fsOk, Bool.and_eq_true, List.all_eq_true, decide_eq_true_eq] at h4
  have h := h4.2 x hx
  exact ⟨h.1.1.1.1, h.1.1.1.2, h.1.1.2, h.1.2, h.2⟩
theorem clu_int (H : ClsOk Z a0 C kk fs as K) (c : Clu Z a C fs as q S h) {x : FE} (hx : x ∈ fs) (hk : x.2.2.1 < 2) {v : Int} (hv : R32 v) (W : Wr h h' a (Jvm.RoadKit.slotOf Z C x.2.2.2.2.1 x.2.2.2.2.2) (.int (Int32.ofInt v))) : Clu Z a C fs as q (stw S 0 x.2.1 v) h' := by
  obtain ⟨c1, c2, c3, c4⟩ := c
  refine ⟨c1.wr W, fun y hy => ?_, fun t ht hq => ?_, fun t ht hq i => ?_⟩
  · rcases H.field hx hy with rfl | ⟨n1, n2, -⟩
    · have e : fval a q (stw S 0 x.2.1 v) x = .int (Int32.ofInt v) := by
        unfold fval
        have : x.2.2.1 = 0 ∨ x.2.2.1 = 1 := by omega
        rcases this with e | e <;> rw [e] <;> simp [stw]
      exact ⟨by rw [e]; exact (c2 x hy).1.same W, fun _ => by simpa [stw] using hv⟩
    · have e : stw S 0 x.2.1 v 0 y.2.1 = S 0 y.2.1 := by simp [stw, Ne.symm n1]
      have e' : fval a q (stw S 0 x.2.1 v) y = fval a q S y := by unfold fval; split <;> simp [e]
      exact ⟨by rw [e']; exact (c2 y hy).1.other W (Or.inr (H.slots hy hx (Ne.symm n2))), fun hk' => by rw [e]; exact (c2 y hy).2 hk'⟩
  · have hK := H.arrK ht
    obtain ⟨cell, g1, g2, g3⟩ := c3 t ht hq
    have e : stw S 0 x.2.1 v t.1 = S t.1 := by funext i; have : t.1 ≠ 0 := by omega
                                               simp [stw, this]
    exact ⟨cell, g1.other W (show (a + t.1 : Nat) ≠ a by omega), g2, by rw [e]; exact g3⟩
  · have hK := H.arrK ht
    have : t.1 ≠ 0 := by omega
    have := c4 t ht hq i
    simp [stw, *]
theorem clu_arr (H : ClsOk Z a0 C kk fs as K) (c : Clu Z a C fs as q S h) {t : AE} (ht : t ∈ as) (hq : 2 * t.1 ≤ q + 1) {i v : Int} (hi : 0 ≤ i) (hi' : i < t.2.2) (hv : okE t.2.1 v) (W : Wr h h' (a + t.1) i.toNat (ev t.2.1 v)) : Clu Z a C fs as q (stw S t.1 i v) h' := by
  obtain ⟨c1, c2, c3, c4⟩ := c
  have hK := H.arrK ht
  refine ⟨c1.wr W, fun y hy => ?_, fun u hu hq' => ?_, fun u hu hq' j => ?_⟩
  · have e : stw S t.1 i v 0 y.2.1 = S 0 y.2.1 := by have : ¬ (0 = t.1) := by omega
                                                     simp [stw, this]
    have e' : fval a q (stw S t.1 i v) y = fval a q S y := by unfold fval; split <;> simp [e]
    exact ⟨by rw [e']; exact (c2 y hy).1.other W (Or.inl (show (a : Nat) ≠ a + t.1 by omega)), fun hk' => by rw [e]; exact (c2 y hy).2 hk'⟩
  · by_cases hut : u.1 = t.1
    · have := H.arr hu ht hut
      subst this
      obtain ⟨cell, g1, g2, g3⟩ := c3 u hu hq'
      refine ⟨_, g1.same W, by rw [sz_set]; exact g2, fun j hj => ?_⟩
      rw [sz_set] at hj
      by_cases hji : (j : Int) = i
      · have : j = i.toNat := by omega
        subst this
        have e : stw S u.1 i v u.1 ((i.toNat : Nat) : Int) = v := by simp [stw, hji]
        rw [e]
        exact ⟨by simp [Cell.setSlot, hj], hv⟩
      · have e : stw S u.1 i v u.1 (j : Int) = S u.1 j := by simp [stw, hji]
        rw [e]
        refine ⟨?_, (g3 j hj).2⟩
        rw [← (g3 j hj).1]
        exact Array.getElem?_setIfInBounds_ne (by omega)
    · obtain ⟨cell, g1, g2, g3⟩ := c3 u hu hq'
      have e : stw S t.1 i v u.1 = S u.1 := by funext j; simp [stw, hut]
      exact ⟨cell, g1.other W (show (a + u.1 : Nat) ≠ a + t.1 by omega), g2, by rw [e]; exact g3⟩
  · have : u.1 ≠ t.1 := by omega
    have := c4 u hu hq' j
    simp [stw, *]
theorem clu_ref (H : ClsOk Z a0 C kk fs as K) (c : Clu Z a C fs as q S h) {x : FE} (hx : x ∈ fs) {n : Nat} (hk : x.2.2.1 = n + 2) (hq : q + 1 = 2 * n) (W : Wr h h' a (Jvm.RoadKit.slotOf Z C x.2.2.2.2.1 x.2.2.2.2.2) (.ref (a + n))) : Clu Z a C fs as (q + 1) S h' := by
  obtain ⟨c1, c2, c3, c4⟩ := c
  refine ⟨c1.wr W, fun y hy => ⟨?_, (c2 y hy).2⟩, fun t ht hq' => ?_, fun t ht hq' => c4 t ht (by omega)⟩
  · rcases H.field hx hy with rfl | ⟨n1, n2, n3⟩
    · have e : fval a (q + 1) S x = .ref (a + n) := by unfold fval; rw [hk]; simp; omega
      rw [e]; exact (c2 x hy).1.same W
    · have e : fval a (q + 1) S y = fval a q S y := by
        unfold fval
        split
        · rfl
        · rfl
        · rename_i h2 e2
          have : h2 ≠ n := fun z => by subst z; rcases n3 with n3 | n3 <;> omega
          by_cases z : 2 * h2 ≤ q
          · rw [if_pos z, if_pos (by omega)]
          · rw [if_neg z, if_neg (by omega)]
      rw [e]; exact (c2 y hy).1.other W (Or.inr (H.slots hy hx (Ne.symm n2)))
  · have hK := H.arrK ht
    obtain ⟨cell, g1, g2, g3⟩ := c3 t ht (by omega)
    exact ⟨cell, g1.other W (show (a + t.1 : Nat) ≠ a by omega), g2, g3⟩
theorem clu_new (H : ClsOk Z a0 C kk fs as K) (c : Clu Z a C fs as q S h) {t : AE} (ht : t ∈ as) (hq : q + 2 = 2 * t.1) {cA : ClassId} {n : Int32} (hn : n.toInt = t.2.2) (E : Ext h h') (Ar : Arr Z h' (a + t.1) (newA cA (tyOf t.2.1) n) (tyOf t.2.1)) : Clu Z a C fs as (q + 1) S h' := by
  obtain ⟨c1, c2, c3, c4⟩ := c
  have hKt := H.arrK ht
  refine ⟨c1.ext E, fun y hy => ⟨?_, (c2 y hy).2⟩, fun u hu hq' => ?_, fun u hu hq' => c4 u hu (by omega)⟩
  · have e : fval a (q + 1) S y = fval a q S y := by
      unfold fval
      split
      · rfl
      · rfl
      · rename_i h2 e2
        by_cases z : 2 * h2 ≤ q
        · rw [if_pos z, if_pos (by omega)]
        · rw [if_neg z, if_neg (by omega)]
    rw [e]; exact (c2 y hy).1.ext E
  · by_cases hut : u.1 = t.1
    · have := H.arr hu ht hut
      subst this
      have hz := c4 u hu (by omega)
      refine ⟨_, Ar, by rw [sz_new, ← hn]; have := hKt.2.2.2.1; simp only [Int32.toNatClampNeg]; omega, fun j hj => ?_⟩
      rw [sz_new] at hj
      rw [hz]
      refine ⟨?_, ok0 _⟩
      have hd : defaultValue (tyOf u.2.1) = ev u.2.1 0 := by
        have h4 := hKt.2.2.1
        generalize u.2.1 = k at h4 ⊢
        match k, h4 with
        | 0, _ => rfl
        | 1, _ => rfl
        | 2, _ => rfl
        | 3, _ => rfl
        | 4, _ => rfl
      rw [← hd]
      simp [newA, hj]
    · obtain ⟨cell, g1, g2, g3⟩ := c3 u hu (by omega)
      exact ⟨cell, g1.ext E, g2, g3⟩
theorem off_wr {j sl : Nat} {v : Value} (O : Off h0 h a K ct q) (W : Wr h h' (a + j) sl v) (hj : j ≤ K) : Off h0 h' a K ct q := by
  obtain ⟨o1, o2, o3⟩ := O
  have hsz := W.size
  obtain ⟨cell, -, -, -, rfl⟩ := W
  refine ⟨fun b hb => ?_, fun b hb => ?_, by rw [hsz]; exact o3⟩
  · rw [← o1 b hb]; exact Array.getElem?_setIfInBounds_ne (by omega)
  · rw [← o2 b hb]; exact Array.getElem?_setIfInBounds_ne (by omega)
end Clu
/-! ## its methods' own steps -/
def pushR (rk : Nat) (x : Int) (st : List AV) : List AV := match rk with
  | 0 => st
  | 2 => vL x :: st
  | _ => vI x :: st
def argsOf : Nat → List AV → List AV → Option (List AV × List AV)
  | 0, acc, st => some (acc, st)
  | n + 1, acc, v :: st => argsOf n (v :: acc) st
  | _ + 1, _, [] => none
def wt : List AV → Nat
  | [] => 0
  | .inr (.inl _) :: st => wt st + 2
  | _ :: st => wt st + 1
/-- a callee: number of its plain arguments, what it returns, what it computes -/
abbrev ME (σ : Type) : Type := Nat × Nat × (List AV → σ → RS σ)
def getC (fs : List FE) (idx : Nat) (st : List AV) (q : Nat) (S : St) (k : List AV → Nat → St → RS St) : RS St := match st with
  | .inr (.inr (some 0)) :: st => (match look fs idx with
    | some f => (match f.2.1 with
      | 0 => k (.inl (S 0 f.1) :: st) q S
      | 1 => k (.inl (S 0 f.1) :: st) q S
      | h + 2 => bif Nat.ble (2 * h) q then k (.inr (.inr (some h)) :: st) q S else none)
    | none => none)
  | _ => none
def putC (fs : List FE) (ct : Bool) (idx : Nat) (st : List AV) (q : Nat) (S : St) (k : List AV → Nat → St → RS St) : RS St := match st with
  | .inl x :: .inr (.inr (some 0)) :: st => (match look fs idx with
    | some f => bif ct || Nat.beq f.2.2.1 0 then (match f.2.1 with
      | 0 => k st q (stw S 0 f.1 x)
      | 1 => k st q (stw S 0 f.1 (x % 2))
      | _ => none) else none
    | none => none)
  | .inr (.inr (some n)) :: .inr (.inr (some 0)) :: st => (match look fs idx with
    | some f => bif ct && Nat.beq f.2.1 (n + 2) && Nat.beq (q + 1) (2 * n) then k st (q + 1) S else none
    | none => none)
  | _ => none
def aldC (as : List AE) (ok : Nat → Bool) (st : List AV) (q : Nat) (S : St) (k : List AV → Nat → St → RS St) : RS St := match st with
  | .inl i :: .inr (.inr (some h)) :: st => (match look as h with
    | some t => bif ok t.1 && Nat.ble (2 * h) (q + 1) then (if 0 ≤ i ∧ i < t.2 then k (el t.1 (S h i) :: st) q S else none) else none
    | none => none)
  | _ => none
/-- what a store keeps of a value -/
def nr (k : Nat) (x : Int) : Int := match k with
  | 1 => x % 2
  | 2 => i2b x
  | 3 => i2s x
  | _ => x
def astC (as : List AE) (ok : Nat → Bool) (st : List AV) (q : Nat) (S : St) (k : List AV → Nat → St → RS St) : RS St := match st with
  | .inl x :: .inl i :: .inr (.inr (some h)) :: st => (match look as h with
    | some t => bif ok t.1 && Nat.ble (2 * h) (q + 1) && !isJ t.1 then (if 0 ≤ i ∧ i < t.2 then k st q (stw S h i (nr t.1 x)) else none) else none
    | none => none)
  | .inr (.inl x) :: .inl i :: .inr (.inr (some h)) :: st => (match look as h with
    | some t => bif ok t.1 && Nat.ble (2 * h) (q + 1) && isJ t.1 then (if 0 ≤ i ∧ i < t.2 then k st q (stw S h i x) else none) else none
    | none => none)
  | _ => none
def lenC (as : List AE) (st : List AV) (q : Nat) (S : St) (k : List AV → Nat → St → RS St) : RS St := match st with
  | .inr (.inr (some h)) :: st => (match look as h with
    | some t => bif Nat.ble (2 * h) (q + 1) then k (.inl t.2 :: st) q S else none
    | none => none)
  | _ => none
def atyOk (aty : ArrayType) (k : Nat) : Bool := decide (newarray.typeOf aty = tyOf k)
def newC (as : List AE) (ct : Bool) (aty : ArrayType) (st : List AV) (q : Nat) (S : St) (k : List AV → Nat → St → RS St) : RS St := match st with
  | .inl n :: st => (match look as (q / 2 + 1) with
    | some t => bif ct && atyOk aty t.1 && Nat.beq (q + 2) (2 * (q / 2 + 1)) then (if n = t.2 then k (.inr (.inr (some (q / 2 + 1))) :: st) (q + 1) S else none) else none
    | none => none)
  | _ => none
def virC (K W : Nat) (ml : List (Nat × ME St)) (idx : Nat) (st : List AV) (q : Nat) (S : St) (k : List AV → Nat → St → RS St) : RS St := match look ml idx with
  | some t => (match argsOf t.1 [] st with
    | some (as, .inr (.inr (some 0)) :: st') => bif Nat.beq q (2 * K) && Nat.ble (wt st') W then (t.2.2 (.inr (.inr (some 0)) :: as) S).bind (fun r => k (pushR t.2.1 r.1 st') q r.2) else none
    | _ => none)
  | none => none
def staC (K W : Nat) (sl : List (Nat × ME St)) (idx : Nat) (st : List AV) (q : Nat) (S : St) (k : List AV → Nat → St → RS St) : RS St := match look sl idx with
  | some t => (match argsOf t.1 [] st with
    | some (as, st') => bif Nat.beq q (2 * K) && Nat.ble (wt st') W then (t.2.2 as S).bind (fun r => k (pushR t.2.1 r.1 st') q r.2) else none
    | _ => none)
  | none => none
def hopC (fs : List FE) (as : List AE) (K W : Nat) (ct : Bool) (oi : Nat) (cI cJ : List (Nat × Int)) (ml sl : List (Nat × ME St)) : Hop St := fun i st q S k => match i with
  | .getfield idx => getC fs idx st q S k
  | .putfield idx => putC fs ct idx st q S k
  | .iaload => aldC as (fun n => Nat.beq n 0) st q S k
  | .baload => aldC as (fun n => Nat.beq n 1 || Nat.beq n 2) st q S k
  | .saload => aldC as (fun n => Nat.beq n 3) st q S k
  | .laload => aldC as (fun n => Nat.beq n 4) st q S k
  | .iastore => astC as (fun n => Nat.beq n 0) st q S k
  | .bastore => astC as (fun n => Nat.beq n 1 || Nat.beq n 2) st q S k
  | .sastore => astC as (fun n => Nat.beq n 3) st q S k
  | .lastore => astC as (fun n => Nat.beq n 4) st q S k
  | .arraylength => lenC as st q S k
  | .newarray aty => newC as ct aty st q S k
  | .ldc idx => (match look cI idx with
    | some x => k (.inl x :: st) q S
    | none => none)
  | .ldc_w idx => (match look cI idx with
    | some x => k (.inl x :: st) q S
    | none => none)
  | .ldc2_w idx => (match look cJ idx with
    | some x => k (.inr (.inl x) :: st) q S
    | none => none)
  | .invokespecial idx => (match st with
    | .inr (.inr (some 0)) :: st => bif ct && Nat.beq idx oi && Nat.ble (wt st) W then k st q S else none
    | _ => none)
  | .invokevirtual idx => virC K W ml idx st q S k
  | .invokestatic idx => staC K W sl idx st q S k
  | _ => none
end Jvm.OwnKit
namespace Jvm.OwnKit
open Sem ClassFile Op Lib Jvm.Stand Jvm.Free Jvm.LawKit Jvm.RoadKit
/-! # 6. a class's methods -/
/-- where the object lies, where the new cells begin, the heap at the call -/
abbrev IC : Type := Nat × Nat × Heap
def AC (i : IC) : Nat → Addr := fun j => i.1 + j
def nC (i : IC) : Nat := i.2.1
def zC (i : IC) : Nat := i.2.2.size
def HC (Z : State) (C : String) (fs : List FE) (as : List AE) (K : Nat) (ct : Bool) (i : IC) (q : Nat) (S : St) (h : Heap) : Prop := i.2.1 ≤ i.1 ∧ Clu Z i.1 C fs as q S h ∧ Off i.2.2 h i.1 K ct q ∧ (ct = true → i.2.2.size = i.1 + 1)
def lenAt (as : List AE) (n : Nat) : Nat := match look as n with
  | some t => t.2.toNat
  | none => 0
def sumTo (f : Nat → Nat) : Nat → Nat
  | 0 => 0
  | n + 1 => sumTo f n + f (n + 1)
theorem sumTo_mono (f : Nat → Nat) {m n : Nat} (h : m ≤ n) : sumTo f m ≤ sumTo f n := by
  induction h with
  | refl => exact Nat.le_refl _
  | step _ ih => exact Nat.le_trans ih (Nat.le_add_right _ _)
def cC (ct : Bool) (q : Nat) : Nat := bif ct then (q + 1) / 2 else 0
def sC (as : List AE) (ct : Bool) (q : Nat) : Nat := bif ct then sumTo (lenAt as) ((q + 1) / 2) else 0
def Con (l : Launch) (Z : State) (C : String) (fs : List FE) (as : List AE) (K : Nat) (y : MethodName) (bytes : ByteArray) (maxL : Nat) (ret : Option FieldType) (rm : Room) (rk : Nat) (f : List AV → St → RS St) : Prop :=
  ∀ (i : IC) (av : List AV) (S : St) (r : Int × St), f av S = some r → okSt av → HC Z C fs as K false i (2 * K) S i.2.2 →
    MetFree l y (head1 [Jvm.Cond.code y bytes maxL ret] rm) (fun x U => x = (av.map (conc (AC i))).toArray ∧ Z.Warmed39 U.vm ∧ U.heap = i.2.2) (fun _ _ _ _ _ => True)
      (fun _ U o U' => ∃ v L, o = .returned v ∧ ((v = Val rk r.1 ∧ okR rk r.1) ∧ Fr (nC i) L ∧ HC Z C fs as K false i (2 * K) r.2 U'.heap) ∧ FrameEnd U o U' L rm.cells rm.slots)
def notMH (C : String) : Prop := C ≠ "java/lang/invoke/MethodHandle" ∧ C ≠ "java/lang/invoke/VarHandle"
def VirOk (l : Launch) (Z : State) (a0 : Array Value) (C : String) (fs : List FE) (as : List AE) (K W : Nat) (R : Room) (x : Nat × ME St) : Prop :=
  ∃ (y : MethodName) (bytes : ByteArray) (maxL : Nat) (ret : Option FieldType) (rm : Room) (ps : List FieldType), y.cls = C ∧ (Jvm.Cond.methodLink C x.1 y).before a0 Z = true ∧ (Jvm.Cond.instanceMethod y).before a0 Z = true ∧
    ((Jvm.Cond.privateMethod y).before a0 Z = true ∨ ((Jvm.Cond.declares y).before a0 Z = true ∧ (Jvm.Cond.selects C y y).before a0 Z = true)) ∧ (Jvm.Cond.code y bytes maxL ret).before a0 Z = true ∧
    parseMethodDescriptor y.desc = some ⟨ps, ret⟩ ∧ ps.length = x.2.1 ∧ rm.cells = 0 ∧ rm.slots = 0 ∧ rm.frames + 1 ≤ R.frames ∧ W + (maxL + 11) + rm.locals ≤ R.locals ∧ Con l Z C fs as K y bytes maxL ret rm x.2.2.1 x.2.2.2
def StatOk (l : Launch) (Z : State) (a0 : Array Value) (C : String) (fs : List FE) (as : List AE) (K W : Nat) (R : Room) (x : Nat × ME St) : Prop :=
  ∃ (y : MethodName) (bytes : ByteArray) (maxL : Nat) (ret : Option FieldType) (rm : Room) (ps : List FieldType), y.cls = C ∧ (Jvm.Cond.methodLink C x.1 y).before a0 Z = true ∧ (Jvm.Cond.static y).before a0 Z = true ∧
    (Jvm.Cond.code y bytes maxL ret).before a0 Z = true ∧
    parseMethodDescriptor y.desc = some ⟨ps, ret⟩ ∧ ps.length = x.2.1 ∧ rm.cells = 0 ∧ rm.slots = 0 ∧ rm.frames + 1 ≤ R.frames ∧ W + (maxL + 11) + rm.locals ≤ R.locals ∧ Con l Z C fs as K y bytes maxL ret rm x.2.2.1 x.2.2.2
theorem okSt_app : ∀ {as bs : List AV}, okSt (as ++ bs) ↔ okSt as ∧ okSt bs
  | [], bs => by simp [okSt]
  | a :: as, bs => by simp [okSt, okSt_app (as := as), and_assoc]
theorem okSt_rev {as : List AV} : okSt as.reverse ↔ okSt as := by
  induction as with
  | nil => simp
  | cons a as ih => simp [okSt_app, ih, okSt, and_comm]
theorem argsOf_ok : ∀ {n : Nat} {acc st as rest : List AV}, argsOf n acc st = some (as, rest) → ∃ zs, zs.length = n ∧ as = zs ++ acc ∧ st = zs.reverse ++ rest
  | 0, acc, st, as, rest, h => by simp only [argsOf, Option.some.injEq, Prod.mk.injEq] at h; exact ⟨[], rfl, h.1.symm, h.2⟩
  | n + 1, acc, [], as, rest, h => by simp [argsOf] at h
  | n + 1, acc, v :: st, as, rest, h => by
    obtain ⟨zs, h1, h2, h3⟩ := argsOf_ok (n := n) (acc := v :: acc) (st := st) h
    exact ⟨zs ++ [v], by simp [h1], by simp [h2], by simp [h3]⟩
theorem wt_eq (A : Nat → Addr) : ∀ st : List AV, ((cSt A st).map fun v => v.category).sum = wt st
  | [] => rfl
  | .inl x :: st => by have := wt_eq A st; simp only [cSt, List.map_cons, List.sum_cons, wt] at this ⊢; rw [this]; show 1 + _ = _; omega
  | .inr (.inl x) :: st => by have := wt_eq A st; simp only [cSt, List.map_cons, List.sum_cons, wt] at this ⊢; rw [this]; show 2 + _ = _; omega
  | .inr (.inr none) :: st => by have := wt_eq A st; simp only [cSt, List.map_cons, List.sum_cons, wt] at this ⊢; rw [this]; show 1 + _ = _; omega
  | .inr (.inr (some h)) :: st => by have := wt_eq A st; simp only [cSt, List.map_cons, List.sum_cons, wt] at this ⊢; rw [this]; show 1 + _ = _; omega
theorem push_val (A : Nat → Addr) (rk : Nat) (x : Int) (st : List AV) : (Val rk x).toList ++ cSt A st = cSt A (pushR rk x st) := by
  unfold Val pushR
  split <;> rfl
theorem push_ok {rk : Nat} {x : Int} {st : List AV} (h : okR rk x) (oks : okSt st) : okSt (pushR rk x st) := by
  unfold pushR
  unfold okR at h
  split at h
  · exact oks
  · exact ⟨h, oks⟩
  · exact ⟨h, oks⟩
section Steps
variable {p : Program} {l : Launch} {e : Env} {R : Room} {s : State} {m : MethodId} {args : Array Value} {below : List Frame} {meth : Method} {c : Code} {Z : State} {a0 : Array Value}
theorem Goes.step {n0 kc kn pc pc' cells slots cells' slots' : Nat} {Ls Ls' : Array Slot} {st st' : List Value} {P P' : Heap → Prop} {Q : Option Value → Heap → Prop} {φ : Prop}
    (f : ∀ (T : State) (L : List Jvm.Loc), Stand p l e R s m args below meth c T L cells slots → P T.heap → ∃ (T' : State) (Lx : List Jvm.Loc), Stand p l e R s m args below meth c T' (L ++ Lx) cells' slots' ∧ Fr n0 Lx ∧ P' T'.heap ∧ φ ∧ ∀ target, Steps p.tables e below (T'.setTop (mkF m pc' Ls' st')) target → Steps p.tables e below (T.setTop (mkF m pc Ls st)) target)
    (G : φ → Goes p l e R s m args below meth c n0 kc kn pc' Ls' st' cells' slots' P' Q) : Goes p l e R s m args below meth c n0 kc kn pc Ls st cells slots P Q := fun T L X N hP => by
  obtain ⟨T', Lx, X', N', hP', hφ, st⟩ := f T L X hP
  obtain ⟨t, v, L', h1, h2⟩ := G hφ T' (L ++ Lx) X' (N.app N') hP'
  exact ⟨t, v, L', st t h1, h2⟩
theorem Fr.one {n0 a sl : Nat} (h : n0 ≤ a) : Fr n0 [(⟨a, sl⟩ : Jvm.Loc)] := fun y hy => by cases List.mem_singleton.mp hy; exact h
theorem Off.trans {h0 h1 h2 : Heap} {a K q : Nat} {ct : Bool} (O : Off h0 h1 a K ct q) (O' : Off h1 h2 a K false q) : Off h0 h2 a K ct q :=
  ⟨fun b hb => (O'.1 b hb).trans (O.1 b hb), fun b hb => (O'.2.1 b hb).trans (O.2.1 b hb), O'.2.2.trans O.2.2⟩
end Steps
end Jvm.OwnKit
namespace Jvm.OwnKit
open Sem ClassFile Op Lib Jvm.Stand Jvm.Free Jvm.LawKit Jvm.RoadKit
theorem getC_ok {fs : List FE} {idx : Nat} {st : List AV} {q : Nat} {S : St} {k : List AV → Nat → St → RS St} {r : Int × St} (h : getC fs idx st q S k = some r) :
    ∃ st1 f v, st = vR 0 :: st1 ∧ look fs idx = some f ∧ k (v :: st1) q S = some r ∧ ((f.2.1 < 2 ∧ v = vI (S 0 f.1)) ∨ ∃ n, f.2.1 = n + 2 ∧ 2 * n ≤ q ∧ v = vR n) := by
  unfold getC at h
  split at h
  · rename_i st1
    split at h
    · rename_i f hf
      split at h
      · rename_i e; exact ⟨st1, f, _, rfl, hf, h, Or.inl ⟨by omega, rfl⟩⟩
      · rename_i e; exact ⟨st1, f, _, rfl, hf, h, Or.inl ⟨by omega, rfl⟩⟩
      · rename_i n e
        cases hb : Nat.ble (2 * n) q
        · rw [hb] at h; cases h
        · rw [hb] at h; exact ⟨st1, f, _, rfl, hf, h, Or.inr ⟨n, e, Nat.le_of_ble_eq_true hb, rfl⟩⟩
    · cases h
  · cases h
theorem putC_ok {fs : List FE} {ct : Bool} {idx : Nat} {st : List AV} {q : Nat} {S : St} {k : List AV → Nat → St → RS St} {r : Int × St} (h : putC fs ct idx st q S k = some r) :
    (∃ st1 f x y, st = vI x :: vR 0 :: st1 ∧ look fs idx = some f ∧ (ct = true ∨ f.2.2.1 = 0) ∧ k st1 q (stw S 0 f.1 y) = some r ∧ ((f.2.1 = 0 ∧ y = x) ∨ (f.2.1 = 1 ∧ y = x % 2))) ∨
    (∃ st1 f n, st = vR n :: vR 0 :: st1 ∧ look fs idx = some f ∧ ct = true ∧ f.2.1 = n + 2 ∧ q + 1 = 2 * n ∧ k st1 (q + 1) S = some r) := by
  unfold putC at h
  split at h
  · rename_i x st1
    left
    split at h
    · rename_i f hf
      cases hb : (ct || Nat.beq f.2.2.1 0)
      · rw [hb] at h; cases h
      · rw [hb] at h
        have hb' : ct = true ∨ f.2.2.1 = 0 := by
          rcases Bool.or_eq_true_iff.mp hb with g | g
          · exact Or.inl g
          · exact Or.inr (Nat.eq_of_beq_eq_true g)
        simp only [cond_true] at h
        split at h
        · rename_i e; exact ⟨st1, f, x, _, rfl, hf, hb', h, Or.inl ⟨e, rfl⟩⟩
        · rename_i e; exact ⟨st1, f, x, _, rfl, hf, hb', h, Or.inr ⟨e, rfl⟩⟩
        · cases h
    · cases h
  · rename_i n st1
    right
    split at h
    · rename_i f hf
      cases hb : (ct && Nat.beq f.2.1 (n + 2) && Nat.beq (q + 1) (2 * n))
      · rw [hb] at h; cases h
      · rw [hb] at h
        rw [Bool.and_eq_true, Bool.and_eq_true] at hb
        exact ⟨st1, f, n, rfl, hf, hb.1.1, Nat.eq_of_beq_eq_true hb.1.2, Nat.eq_of_beq_eq_true hb.2, h⟩
    · cases h
  · cases h
theorem aldC_ok {as : List AE} {ok : Nat → Bool} {st : List AV} {q : Nat} {S : St} {k : List AV → Nat → St → RS St} {r : Int × St} (h : aldC as ok st q S k = some r) :
    ∃ j n st1 t, st = vI j :: vR n :: st1 ∧ look as n = some t ∧ ok t.1 = true ∧ 2 * n ≤ q + 1 ∧ 0 ≤ j ∧ j < t.2 ∧ k (el t.1 (S n j) :: st1) q S = some r := by
  unfold aldC at h
  split at h
  · rename_i j n st1
    split at h
    · rename_i t ht
      cases hb : (ok t.1 && Nat.ble (2 * n) (q + 1))
      · rw [hb] at h; cases h
      · rw [hb] at h
        rw [Bool.and_eq_true] at hb
        simp only [cond_true] at h
        split at h
        · rename_i hj; exact ⟨j, n, st1, t, rfl, ht, hb.1, Nat.le_of_ble_eq_true hb.2, hj.1, hj.2, h⟩
        · cases h
    · cases h
  · cases h
theorem astC_ok {as : List AE} {ok : Nat → Bool} {st : List AV} {q : Nat} {S : St} {k : List AV → Nat → St → RS St} {r : Int × St} (h : astC as ok st q S k = some r) :
    (∃ x j n st1 t, st = vI x :: vI j :: vR n :: st1 ∧ look as n = some t ∧ ok t.1 = true ∧ isJ t.1 = false ∧ 2 * n ≤ q + 1 ∧ 0 ≤ j ∧ j < t.2 ∧ k st1 q (stw S n j (nr t.1 x)) = some r) ∨
    (∃ x j n st1 t, st = vL x :: vI j :: vR n :: st1 ∧ look as n = some t ∧ ok t.1 = true ∧ isJ t.1 = true ∧ 2 * n ≤ q + 1 ∧ 0 ≤ j ∧ j < t.2 ∧ k st1 q (stw S n j x) = some r) := by
  unfold astC at h
  split at h
  · rename_i x j n st1
    left
    split at h
    · rename_i t ht
      cases hb : (ok t.1 && Nat.ble (2 * n) (q + 1) && !isJ t.1)
      · rw [hb] at h; cases h
      · rw [hb] at h
        rw [Bool.and_eq_true, Bool.and_eq_true, Bool.not_eq_true'] at hb
        simp only [cond_true] at h
        split at h
        · rename_i hj; exact ⟨x, j, n, st1, t, rfl, ht, hb.1.1, hb.2, Nat.le_of_ble_eq_true hb.1.2, hj.1, hj.2, h⟩
        · cases h
    · cases h
  · rename_i x j n st1
    right
    split at h
    · rename_i t ht
      cases hb : (ok t.1 && Nat.ble (2 * n) (q + 1) && isJ t.1)
      · rw [hb] at h; cases h
      · rw [hb] at h
        rw [Bool.and_eq_true, Bool.and_eq_true] at hb
        simp only [cond_true] at h
        split at h
        · rename_i hj; exact ⟨x, j, n, st1, t, rfl, ht, hb.1.1, hb.2, Nat.le_of_ble_eq_true hb.1.2, hj.1, hj.2, h⟩
        · cases h
    · cases h
  · cases h
theorem lenC_ok {as : List AE} {st : List AV} {q : Nat} {S : St} {k : List AV → Nat → St → RS St} {r : Int × St} (h : lenC as st q S k = some r) :
    ∃ n st1 t, st = vR n :: st1 ∧ look as n = some t ∧ 2 * n ≤ q + 1 ∧ k (vI t.2 :: st1) q S = some r := by
  unfold lenC at h
  split at h
  · rename_i n st1
    split at h
    · rename_i t ht
      cases hb : Nat.ble (2 * n) (q + 1)
      · rw [hb] at h; cases h
      · rw [hb] at h; exact ⟨n, st1, t, rfl, ht, Nat.le_of_ble_eq_true hb, h⟩
    · cases h
  · cases h
theorem newC_ok {as : List AE} {ct : Bool} {aty : ArrayType} {st : List AV} {q : Nat} {S : St} {k : List AV → Nat → St → RS St} {r : Int × St} (h : newC as ct aty st q S k = some r) :
    ∃ st1 t, st = vI t.2 :: st1 ∧ look as (q / 2 + 1) = some t ∧ ct = true ∧ newarray.typeOf aty = tyOf t.1 ∧ q + 2 = 2 * (q / 2 + 1) ∧ k (vR (q / 2 + 1) :: st1) (q + 1) S = some r := by
  unfold newC at h
  split at h
  · rename_i n st1
    split at h
    · rename_i t ht
      cases hb : (ct && atyOk aty t.1 && Nat.beq (q + 2) (2 * (q / 2 + 1)))
      · rw [hb] at h; cases h
      · rw [hb] at h
        rw [Bool.and_eq_true, Bool.and_eq_true] at hb
        simp only [cond_true] at h
        split at h
        · rename_i hn; subst hn; exact ⟨st1, t, rfl, ht, hb.1.1, of_decide_eq_true hb.1.2, Nat.eq_of_beq_eq_true hb.2, h⟩
        · cases h
    · cases h
  · cases h
theorem virC_ok {K W : Nat} {ml : List (Nat × ME St)} {idx : Nat} {st : List AV} {q : Nat} {S : St} {k : List AV → Nat → St → RS St} {r : Int × St} (h : virC K W ml idx st q S k = some r) :
    ∃ t as st1 r1, look ml idx = some t ∧ as.length = t.1 ∧ st = as.reverse ++ vR 0 :: st1 ∧ q = 2 * K ∧ wt st1 ≤ W ∧ t.2.2 (vR 0 :: as) S = some r1 ∧ k (pushR t.2.1 r1.1 st1) q r1.2 = some r := by
  unfold virC at h
  split at h
  · rename_i t ht
    split at h
    · rename_i as st1 ha
      obtain ⟨zs, h1, h2, h3⟩ := argsOf_ok ha
      rw [List.append_nil] at h2
      subst h2
      cases hb : (Nat.beq q (2 * K) && Nat.ble (wt st1) W)
      · rw [hb] at h; cases h
      · rw [hb] at h
        rw [Bool.and_eq_true] at hb
        simp only [cond_true] at h
        obtain ⟨r1, hr1, hr2⟩ := Option.bind_eq_some_iff.mp h
        exact ⟨t, _, st1, r1, ht, h1, h3, Nat.eq_of_beq_eq_true hb.1, Nat.le_of_ble_eq_true hb.2, hr1, hr2⟩
    · cases h
  · cases h
theorem staC_ok {K W : Nat} {sl : List (Nat × ME St)} {idx : Nat} {st : List AV} {q : Nat} {S : St} {k : List AV → Nat → St → RS St} {r : Int × St} (h : staC K W sl idx st q S k = some r) :
    ∃ t as st1 r1, look sl idx = some t ∧ as.length = t.1 ∧ st = as.reverse ++ st1 ∧ q = 2 * K ∧ wt st1 ≤ W ∧ t.2.2 as S = some r1 ∧ k (pushR t.2.1 r1.1 st1) q r1.2 = some r := by
  unfold staC at h
  split at h
  · rename_i t ht
    split at h
    · rename_i as st1 ha
      obtain ⟨zs, h1, h2, h3⟩ := argsOf_ok ha
      rw [List.append_nil] at h2
      subst h2
      cases hb : (Nat.beq q (2 * K) && Nat.ble (wt st1) W)
      · rw [hb] at h; cases h
      · rw [hb] at h
        rw [Bool.and_eq_true] at hb
        simp only [cond_true] at h
        obtain ⟨r1, hr1, hr2⟩ := Option.bind_eq_some_iff.mp h
        exact ⟨t, _, st1, r1, ht, h1, h3, Nat.eq_of_beq_eq_true hb.1, Nat.le_of_ble_eq_true hb.2, hr1, hr2⟩
    · cases h
  · cases h
theorem idx_ok {j : Int} (hj : R32 j) (h0 : 0 ≤ j) : ¬ (Int32.ofInt j < 0) ∧ (Int32.ofInt j).toNatClampNeg = j.toNat := by
  have h1 := t32 hj
  refine ⟨fun q => ?_, by simp only [Int32.toNatClampNeg, h1]⟩
  rw [Int32.lt_iff_toInt_lt, h1] at q
  have h2 : (0 : Int32).toInt = 0 := rfl
  omega
theorem in_ok {j : Int} {n : Nat} (hj : R32 j) (h0 : 0 ≤ j) (h1 : j < (n : Int)) : ¬ (Int32.ofInt j < 0 ∨ n ≤ (Int32.ofInt j).toNatClampNeg) := by
  obtain ⟨g1, g2⟩ := idx_ok hj h0
  rw [g2]; rintro (g | g)
  · exact g1 g
  · omega
theorem nr_ok {k : Nat} {x : Int} (hx : R32 x) : R32 (nr k x) := by
  unfold nr; split
  · unfold R32; omega
  · exact r_i2b x
  · exact r_i2s x
  · exact hx
theorem nar_nr {k : Nat} {x : Int} (hk : k ≤ 3) (hx : R32 x) : nar (tyOf k) (Int32.ofInt x) = Int32.ofInt (nr k x) := by
  match k, hk with
  | 0, _ => rfl
  | 1, _ => exact (q_mod2 hx).symm
  | 2, _ => exact (q_i2b hx).symm
  | 3, _ => exact (q_i2s hx).symm
section Hop
variable {l : Launch} {Z : State} {a0 : Array Value} {C : String} {kk : Nat} {fs : List FE} {as : List AE} {K W : Nat} {ct : Bool} {oi : Nat} {cI cJ : List (Nat × Int)} {ml sl : List (Nat × ME St)} {bytes : ByteArray} {maxL : Nat} {ret : Option FieldType} {R : Room}
set_option maxHeartbeats 8000000 in
theorem hopC_all (H : ClsOk Z a0 C kk fs as K) (hC : notMH C) (wz : (Jvm.Cond.initialized C).before a0 Z = true)
    (hoi : ct = true → (Jvm.Cond.methodLink C oi Lib.objectInit).before a0 Z = true ∧ (Jvm.Cond.instanceMethod Lib.objectInit).before a0 Z = true ∧ (Jvm.Cond.code Lib.objectInit ⟨#[0xb1]⟩ 1 none).before a0 Z = true ∧ 1 ≤ R.frames ∧ W + 12 ≤ R.locals)
    (hcI : ∀ x ∈ cI, (Jvm.Cond.constant C x.1 (Int32.ofInt x.2)).before a0 Z = true ∧ R32 x.2) (hcJ : ∀ x ∈ cJ, (Jvm.Cond.constantLong C x.1 (Int64.ofInt x.2)).before a0 Z = true ∧ R64 x.2)
    (hml : ∀ x ∈ ml, VirOk l Z a0 C fs as K W R x) (hsl : ∀ x ∈ sl, StatOk l Z a0 C fs as K W R x) (hrc : cC ct (2 * K) ≤ R.cells) (hrs : sC as ct (2 * K) ≤ R.slots) :
    HopAll l Z C bytes maxL ret ct R AC nC zC (cC ct) (sC as ct) (HC Z C fs as K ct) (hopC fs as K W ct oi cI cJ ml sl) := by
  intro p e s m args below meth c hctx i hsz pc ins L st q S k r hd hL oks h
  obtain ⟨hx, hby, hml0, hret, hlk, hZ, hown, hnm⟩ := hctx
  have hsize : (cL (AC i) L).size = c.maxLocals := by simp [cL, hL]
  have ald : ∀ (ok : Nat → Bool) (hdd : ∃ z : Unit, True), aldC as ok st q S k = some r → (∀ (T : State) (Lo : List Jvm.Loc) (X : Stand p l e R s m args below meth c T Lo (cC ct q) (sC as ct q)) (cell : Cell) (t : Nat) (j : Int) (b : Nat) (v : Value) (rest : List Value), ok t = true → t ≤ 4 → Arr Z T.heap b cell (tyOf t) → ¬ (Int32.ofInt j < 0 ∨ cell.slots.size ≤ (Int32.ofInt j).toNatClampNeg) → cell.slots[(Int32.ofInt j).toNatClampNeg]? = some v → ∀ target, Steps p.tables e below (T.setTop (mkF m (pc + ilen ins) (cL (AC i) L) (v :: rest))) target → Steps p.tables e below (T.setTop (mkF m pc (cL (AC i) L) (.int (Int32.ofInt j) :: .ref b :: rest))) target) →
      ∃ st' q' S', k st' q' S' = some r ∧ ∀ Q, (okSt st' → Goes p l e R s m args below meth c (nC i) R.cells R.slots (pc + ilen ins) (cL (AC i) L) (cSt (AC i) st') (cC ct q') (sC as ct q') (HC Z C fs as K ct i q' S') Q) → Goes p l e R s m args below meth c (nC i) R.cells R.slots pc (cL (AC i) L) (cSt (AC i) st) (cC ct q) (sC as ct q) (HC Z C fs as K ct i q S) Q := by
    intro ok _ h law
    obtain ⟨j, n, st1, t, rfl, ht, hok, hn, hj0, hj1, hk⟩ := aldC_ok h
    refine ⟨_, _, _, hk, fun Q G => Goes.step (φ := okSt (el t.1 (S n j) :: st1)) (fun T Lo X hP => ?_) G⟩
    obtain ⟨hna, hclu, hoff, hz⟩ := hP
    have hm := look_mem ht
    have hK := H.arrK hm
    obtain ⟨cell, g1, g2, g3⟩ := hclu.2.2.1 _ hm hn
    have hidx := idx_ok oks.1 hj0
    have hjn : j.toNat < cell.slots.size := by have : (cell.slots.size : Int) = t.2 := g2; omega
    have hcast : ((j.toNat : Nat) : Int) = j := by omega
    obtain ⟨g4, g5⟩ := g3 j.toNat hjn
    rw [hcast] at g4 g5
    refine ⟨T, [], by rw [List.append_nil]; exact X, Fr.nil _, ⟨hna, hclu, hoff, hz⟩, ⟨okV_el g5, oks.2.2⟩, fun target kk => ?_⟩
    refine law T Lo X cell t.1 j (i.1 + n) (ev t.1 (S n j)) (cSt (AC i) st1) hok hK.2.2.1 g1 (in_ok oks.1 hj0 (by have : (cell.slots.size : Int) = t.2 := g2; omega)) (by rw [hidx.2]; exact g4) target ?_
    have e1 : cSt (AC i) (el t.1 (S n j) :: st1) = ev t.1 (S n j) :: cSt (AC i) st1 := by simp only [cSt, List.map_cons, conc_el]
    rw [e1] at kk; exact kk
  have ast : ∀ (ok : Nat → Bool), (∀ t, ok t = true → t ≤ 3) → astC as ok st q S k = some r → (∀ (T : State) (Lo : List Jvm.Loc) (X : Stand p l e R s m args below meth c T Lo (cC ct q) (sC as ct q)) (cell : Cell) (t : Nat) (x j : Int) (b : Nat) (rest : List Value), ok t = true → Arr Z T.heap b cell (tyOf t) → ¬ (Int32.ofInt j < 0 ∨ cell.slots.size ≤ (Int32.ofInt j).toNatClampNeg) → ∃ T' h', Stand p l e R s m args below meth c T' (Lo ++ [⟨b, (Int32.ofInt j).toNatClampNeg⟩]) (cC ct q) (sC as ct q) ∧ T'.heap = h' ∧ Wr T.heap h' b (Int32.ofInt j).toNatClampNeg (.int (nar (tyOf t) (Int32.ofInt x))) ∧ ∀ target, Steps p.tables e below (T'.setTop (mkF m (pc + ilen ins) (cL (AC i) L) rest)) target → Steps p.tables e below (T.setTop (mkF m pc (cL (AC i) L) (.int (Int32.ofInt x) :: .int (Int32.ofInt j) :: .ref b :: rest))) target) →
      ∃ st' q' S', k st' q' S' = some r ∧ ∀ Q, (okSt st' → Goes p l e R s m args below meth c (nC i) R.cells R.slots (pc + ilen ins) (cL (AC i) L) (cSt (AC i) st') (cC ct q') (sC as ct q') (HC Z C fs as K ct i q' S') Q) → Goes p l e R s m args below meth c (nC i) R.cells R.slots pc (cL (AC i) L) (cSt (AC i) st) (cC ct q) (sC as ct q) (HC Z C fs as K ct i q S) Q := by
    intro ok hok3 h law
    rcases astC_ok h with ⟨x, j, n, st1, t, rfl, ht, hok, hJ, hn, hj0, hj1, hk⟩ | ⟨x, j, n, st1, t, rfl, ht, hok, hJ, hn, hj0, hj1, hk⟩
    · refine ⟨_, _, _, hk, fun Q G => Goes.step (φ := okSt st1) (fun T Lo X hP => ?_) G⟩
      obtain ⟨hna, hclu, hoff, hz⟩ := hP
      have hm := look_mem ht
      have hK := H.arrK hm
      obtain ⟨cell, g1, g2, g3⟩ := hclu.2.2.1 _ hm hn
      have hidx := idx_ok oks.2.1 hj0
      obtain ⟨T', h', X', e', Wx, stp⟩ := law T Lo X cell t.1 x j (i.1 + n) (cSt (AC i) st1) hok g1 (in_ok oks.2.1 hj0 (by have : (cell.slots.size : Int) = t.2 := g2; omega))
      subst e'
      have hnr : Value.int (nar (tyOf t.1) (Int32.ofInt x)) = ev t.1 (nr t.1 x) := by
        unfold ev; rw [hJ]; simp only [cond_false]; congr 1; exact nar_nr (hok3 _ hok) oks.1
      rw [hidx.2, hnr] at Wx
      have hokE : okE t.1 (nr t.1 x) := by unfold okE; rw [hJ]; exact nr_ok oks.1
      exact ⟨T', _, X', Fr.one (by unfold nC; have := hK.1; omega), ⟨hna, clu_arr H hclu hm hn hj0 hj1 hokE Wx, off_wr hoff Wx hK.2.1, hz⟩, oks.2.2.2, stp⟩
    · have := hok3 _ hok
      have := Nat.eq_of_beq_eq_true hJ
      omega
  cases ins with
  | getfield idx =>
    obtain ⟨st1, f, v, rfl, hf, hk, hv⟩ := getC_ok h
    refine ⟨_, _, _, hk, fun Q G => Goes.step (φ := okSt (v :: st1)) (fun T Lo X hP => ?_) G⟩
    obtain ⟨hna, hclu, hoff, hz⟩ := hP
    have hm := look_mem hf
    have F := (hclu.2.1 _ hm).1
    have hval : fval i.1 q S (idx, f) = conc (AC i) v := by
      unfold fval
      rcases hv with ⟨h2, rfl⟩ | ⟨n, hn, hq, rfl⟩
      · have : f.2.1 = 0 ∨ f.2.1 = 1 := by omega
        rcases this with e1 | e1 <;> simp only [e1] <;> rfl
      · simp only [hn, hq, if_true]; rfl
    have hokv : okV v := by
      rcases hv with ⟨h2, rfl⟩ | ⟨n, hn, hq, rfl⟩
      · exact (hclu.2.1 _ hm).2 h2
      · trivial
    rw [hval] at F
    obtain ⟨T', X', e', stp⟩ := getF X hx hZ hown (host := "") (Or.inl (H.2.1 _ hm).1) Via.refl rfl F (g := mkF m pc (cL (AC i) L) (cSt (AC i) (vR 0 :: st1))) rfl rfl hd
    exact ⟨T', [], by rw [List.append_nil]; exact X', Fr.nil _, by rw [e']; exact ⟨hna, hclu, hoff, hz⟩, ⟨hokv, oks.2⟩, stp⟩
  | putfield idx =>
    rcases putC_ok h with ⟨st1, f, x, y, rfl, hf, hfin, hk, hv⟩ | ⟨st1, f, n, rfl, hf, hct, hn, hq, hk⟩
    · refine ⟨_, _, _, hk, fun Q G => Goes.step (φ := okSt st1) (fun T Lo X hP => ?_) G⟩
      obtain ⟨hna, hclu, hoff, hz⟩ := hP
      have hm := look_mem hf
      have F := (hclu.2.1 _ hm).1
      have hlay : (Jvm.Cond.lays C C f.2.2.2.1 f.2.2.2.2).before a0 Z = true ∨ ((Jvm.Cond.laysFinal C C f.2.2.2.1 f.2.2.2.2).before a0 Z = true ∧ C = C ∧ meth.name = "<init>") := by
        rcases (H.2.1 _ hm).2 with ⟨-, w⟩ | ⟨w0, w⟩
        · exact Or.inl w
        · rcases hfin with hfin | hfin
          · exact Or.inr ⟨w, rfl, hnm hfin⟩
          · exact absurd hfin w0
      have hy : R32 y := by
        rcases hv with ⟨-, rfl⟩ | ⟨-, rfl⟩
        · exact oks.1
        · unfold R32; omega
      have hk2 : f.2.1 < 2 := by rcases hv with ⟨e1, -⟩ | ⟨e1, -⟩ <;> omega
      have hput : ∃ ty, parseFieldDescriptor f.2.2.2.2 = some ty ∧ narrow ty (.int (Int32.ofInt x)) = .int (Int32.ofInt y) ∧ fits ty (.int (Int32.ofInt y)) = true := by
        rcases H.desc hm with ⟨e1, e2⟩ | ⟨e1, e2⟩ | ⟨t, -, e1, -⟩
        · rcases hv with ⟨-, rfl⟩ | ⟨e3, -⟩
          · exact ⟨_, e2, rfl, rfl⟩
          · dsimp only at e1; omega
        · rcases hv with ⟨e3, -⟩ | ⟨-, rfl⟩
          · dsimp only at e1; omega
          · have e4 : Int32.ofInt (x % 2) = nar .boolean (Int32.ofInt x) := q_mod2 oks.1
            exact ⟨_, e2, by rw [e4]; rfl, by rw [e4]; exact fits_nar_bool _⟩
        · dsimp only at e1; omega
      obtain ⟨ty, ht1, ht2, ht3⟩ := hput
      obtain ⟨T', h', X', e', Wx, stp⟩ := putFN X hx hZ hown (H.2.1 _ hm).1 Via.refl rfl F hclu.1 hlay H.1 ht1 ht2 ht3 (g := mkF m pc (cL (AC i) L) (cSt (AC i) (vI x :: vR 0 :: st1))) rfl rfl hd
      subst e'
      exact ⟨T', _, X', Fr.one hna, ⟨hna, clu_int H hclu hm hk2 hy Wx, off_wr (j := 0) hoff Wx (Nat.zero_le _), hz⟩, oks.2.2, stp⟩
    · refine ⟨_, _, _, hk, fun Q G => Goes.step (φ := okSt st1) (fun T Lo X hP => ?_) G⟩
      obtain ⟨hna, hclu, hoff, hz⟩ := hP
      have hm := look_mem hf
      have F := (hclu.2.1 _ hm).1
      have hlay : (Jvm.Cond.lays C C f.2.2.2.1 f.2.2.2.2).before a0 Z = true ∨ ((Jvm.Cond.laysFinal C C f.2.2.2.1 f.2.2.2.2).before a0 Z = true ∧ C = C ∧ meth.name = "<init>") := by
        rcases (H.2.1 _ hm).2 with ⟨-, w⟩ | ⟨w0, w⟩
        · exact Or.inl w
        · exact Or.inr ⟨w, rfl, hnm hct⟩
      have hty : ∃ t, parseFieldDescriptor f.2.2.2.2 = some (.array t) := by
        rcases H.desc hm with ⟨e1, e2⟩ | ⟨e1, e2⟩ | ⟨t, -, -, e1⟩
        · dsimp only at e1; omega
        · dsimp only at e1; omega
        · exact ⟨_, e1⟩
      obtain ⟨t, hty⟩ := hty
      obtain ⟨T', h', X', e', Wx, stp⟩ := putFN X hx hZ hown (H.2.1 _ hm).1 Via.refl rfl F hclu.1 hlay H.1 hty (v := .ref (i.1 + n)) (v' := .ref (i.1 + n)) rfl rfl (g := mkF m pc (cL (AC i) L) (cSt (AC i) (vR n :: vR 0 :: st1))) rfl rfl hd
      subst e'
      have hc' : cC ct (q + 1) = cC ct q := by subst hct; simp only [cC, cond_true]; omega
      have hs' : sC as ct (q + 1) = sC as ct q := by subst hct; simp only [sC, cond_true]; rw [show (q + 1 + 1) / 2 = (q + 1) / 2 by omega]
      have hoff' : Off i.2.2 T'.heap i.1 K ct (q + 1) := by
        have O := off_wr (j := 0) hoff Wx (Nat.zero_le _)
        refine ⟨O.1, O.2.1, O.2.2.trans ?_⟩
        subst hct; simp only [cond_true]; omega
      exact ⟨T', _, by rw [hc', hs']; exact X', Fr.one hna, ⟨hna, clu_ref H hclu hm hn hq Wx, hoff', hz⟩, oks.2.2, stp⟩
  | iaload =>
    refine ald (fun n => Nat.beq n 0) ⟨(), trivial⟩ h fun T Lo X cell t j b v rest ht h4 A1 A2 A3 target kk => ?_
    have := Nat.eq_of_beq_eq_true ht; subst this
    exact X.iaload hx A1.1 (State.isArrayOf_alike hZ.alike A1.2.1) A1.2.2 A2 A3 (g := mkF m pc (cL (AC i) L) (.int (Int32.ofInt j) :: .ref b :: rest)) rfl rfl hd target kk
  | saload =>
    refine ald (fun n => Nat.beq n 3) ⟨(), trivial⟩ h fun T Lo X cell t j b v rest ht h4 A1 A2 A3 target kk => ?_
    have := Nat.eq_of_beq_eq_true ht; subst this
    exact X.saload hx A1.1 (State.isArrayOf_alike hZ.alike A1.2.1) A1.2.2 A2 A3 (g := mkF m pc (cL (AC i) L) (.int (Int32.ofInt j) :: .ref b :: rest)) rfl rfl hd target kk
  | laload =>
    refine ald (fun n => Nat.beq n 4) ⟨(), trivial⟩ h fun T Lo X cell t j b v rest ht h4 A1 A2 A3 target kk => ?_
    have := Nat.eq_of_beq_eq_true ht; subst this
    exact X.laload hx A1.1 (State.isArrayOf_alike hZ.alike A1.2.1) A1.2.2 A2 A3 (g := mkF m pc (cL (AC i) L) (.int (Int32.ofInt j) :: .ref b :: rest)) rfl rfl hd target kk
  | baload =>
    refine ald (fun n => Nat.beq n 1 || Nat.beq n 2) ⟨(), trivial⟩ h fun T Lo X cell t j b v rest ht h4 A1 A2 A3 target kk => ?_
    rcases Bool.or_eq_true_iff.mp ht with ht | ht
    · have := Nat.eq_of_beq_eq_true ht; subst this
      exact X.baloadBooleans hx A1.1 (State.isArrayOf_alike hZ.alike A1.2.1) A1.2.2 A2 A3 (g := mkF m pc (cL (AC i) L) (.int (Int32.ofInt j) :: .ref b :: rest)) rfl rfl hd target kk
    · have := Nat.eq_of_beq_eq_true ht; subst this
      exact X.baloadBytes hx A1.1 (State.isArrayOf_alike hZ.alike A1.2.1) A1.2.2 A2 A3 (g := mkF m pc (cL (AC i) L) (.int (Int32.ofInt j) :: .ref b :: rest)) rfl rfl hd target kk
  | iastore =>
    refine ast (fun n => Nat.beq n 0) (fun t ht => by have := Nat.eq_of_beq_eq_true ht; omega) h fun T Lo X cell t x j b rest ht A1 A2 => ?_
    have := Nat.eq_of_beq_eq_true ht; subst this
    exact stI X hx hZ rfl A1 A2 (g := mkF m pc (cL (AC i) L) (.int (Int32.ofInt x) :: .int (Int32.ofInt j) :: .ref b :: rest)) rfl rfl hd
  | sastore =>
    refine ast (fun n => Nat.beq n 3) (fun t ht => by have := Nat.eq_of_beq_eq_true ht; omega) h fun T Lo X cell t x j b rest ht A1 A2 => ?_
    have := Nat.eq_of_beq_eq_true ht; subst this
    exact stS X hx hZ rfl A1 A2 (g := mkF m pc (cL (AC i) L) (.int (Int32.ofInt x) :: .int (Int32.ofInt j) :: .ref b :: rest)) rfl rfl hd
  | bastore =>
    refine ast (fun n => Nat.beq n 1 || Nat.beq n 2) (fun t ht => by rcases Bool.or_eq_true_iff.mp ht with ht | ht <;> (have := Nat.eq_of_beq_eq_true ht; omega)) h fun T Lo X cell t x j b rest ht A1 A2 => ?_
    rcases Bool.or_eq_true_iff.mp ht with ht | ht
    · have := Nat.eq_of_beq_eq_true ht; subst this
      exact stZ X hx hZ rfl A1 A2 (g := mkF m pc (cL (AC i) L) (.int (Int32.ofInt x) :: .int (Int32.ofInt j) :: .ref b :: rest)) rfl rfl hd
    · have := Nat.eq_of_beq_eq_true ht; subst this
      exact stB X hx hZ rfl A1 A2 (g := mkF m pc (cL (AC i) L) (.int (Int32.ofInt x) :: .int (Int32.ofInt j) :: .ref b :: rest)) rfl rfl hd
  | lastore =>
    change astC as (fun n => Nat.beq n 4) st q S k = some r at h
    rcases astC_ok h with ⟨x, j, n, st1, t, rfl, ht, hok, hJ, hn, hj0, hj1, hk⟩ | ⟨x, j, n, st1, t, rfl, ht, hok, hJ, hn, hj0, hj1, hk⟩
    · have h4 := Nat.eq_of_beq_eq_true hok
      rw [h4] at hJ; cases hJ
    · refine ⟨_, _, _, hk, fun Q G => Goes.step (φ := okSt st1) (fun T Lo X hP => ?_) G⟩
      obtain ⟨hna, hclu, hoff, hz⟩ := hP
      have hm := look_mem ht
      have hK := H.arrK hm
      obtain ⟨cell, g1, g2, g3⟩ := hclu.2.2.1 _ hm hn
      have hidx := idx_ok oks.2.1 hj0
      have h4 := Nat.eq_of_beq_eq_true hok
      have g1' : Arr Z T.heap (i.1 + n) cell .long := by have q := g1; simp only [h4] at q; exact q
      obtain ⟨T', h', X', e', Wx, stp⟩ := stJ X hx hZ rfl g1' (j := Int32.ofInt j) (x := Int64.ofInt x) (in_ok oks.2.1 hj0 (by have : (cell.slots.size : Int) = t.2 := g2; omega)) (g := mkF m pc (cL (AC i) L) (cSt (AC i) (vL x :: vI j :: vR n :: st1))) rfl rfl hd
      subst e'
      have hnr : Value.long (Int64.ofInt x) = ev t.1 x := by unfold ev; rw [hJ]; rfl
      rw [hidx.2, hnr] at Wx
      have hokE : okE t.1 x := by unfold okE; rw [hJ]; exact oks.1
      exact ⟨T', _, X', Fr.one (by unfold nC; have := hK.1; omega), ⟨hna, clu_arr H hclu hm hn hj0 hj1 hokE Wx, off_wr hoff Wx hK.2.1, hz⟩, oks.2.2.2, stp⟩
  | arraylength =>
    obtain ⟨n, st1, t, rfl, ht, hn, hk⟩ := lenC_ok h
    refine ⟨_, _, _, hk, fun Q G => Goes.step (φ := okSt (vI t.2 :: st1)) (fun T Lo X hP => ?_) G⟩
    obtain ⟨hna, hclu, hoff, hz⟩ := hP
    have hm := look_mem ht
    have hK := H.arrK hm
    obtain ⟨cell, g1, g2, g3⟩ := hclu.2.2.1 _ hm hn
    refine ⟨T, [], by rw [List.append_nil]; exact X, Fr.nil _, ⟨hna, hclu, hoff, hz⟩, ⟨(by show R32 t.2; have h1 := hK.2.2.2.1; have h2 := hK.2.2.2.2; dsimp only at h1 h2; unfold R32; omega), oks.2⟩, fun target kk => ?_⟩
    refine X.arraylength hx g1.1 (State.isArrayOf_alike hZ.alike g1.2.1) (g := mkF m pc (cL (AC i) L) (cSt (AC i) (vR n :: st1))) rfl rfl hd target ?_
    have e1 : cell.slots.size.toInt32 = Int32.ofInt t.2 := by
      have : t.2 = ((cell.slots.size : Nat) : Int) := g2.symm
      rw [this, Int32.ofInt_eq_ofNat]
    rw [e1]; exact kk
  | newarray aty =>
    obtain ⟨st1, t, rfl, ht, hct, hty, hq, hk⟩ := newC_ok h
    refine ⟨_, _, _, hk, fun Q G => Goes.step (φ := okSt (vR (q / 2 + 1) :: st1)) (fun T Lo X hP => ?_) G⟩
    obtain ⟨hna, hclu, hoff, hz⟩ := hP
    have hm := look_mem ht
    have hK := H.arrK hm
    have hK0 := hK.2.2.2.1
    dsimp only at hK hK0
    subst hct
    have hw := H.2.2.1 _ hm
    have hw' : (Jvm.Cond.arrayClass (newarray.typeOf aty)).before a0 Z = true := by rw [hty]; exact hw
    have hsT : T.heap.size = i.1 + (q / 2 + 1) := by have := hoff.2.2; simp only [cond_true] at this; omega
    have hcell : cC true q + 1 ≤ R.cells := by have h1 := hrc; simp only [cC, cond_true] at h1 ⊢; omega
    have hsl1 : sC as true (q + 1) = sC as true q + t.2.toNat := by
      have e1 : (q + 1 + 1) / 2 = (q + 1) / 2 + 1 := by omega
      have e2 : (q + 1) / 2 + 1 = q / 2 + 1 := by omega
      simp only [sC, cond_true, e1, sumTo]
      rw [e2, lenAt, ht]
    have hsl2 : sC as true q + t.2.toNat ≤ R.slots := by
      rw [← hsl1]
      refine Nat.le_trans ?_ hrs
      simp only [sC, cond_true]
      exact sumTo_mono _ (by omega)
    have ht0 := idx_ok oks.1 hK0
    obtain ⟨T', h', cA, X', e', E, Ar, stp⟩ := newP X hx hZ hw' rfl (g := mkF m pc (cL (AC i) L) (cSt (AC i) (vI t.2 :: st1))) rfl hd (n := Int32.ofInt t.2) rfl ht0.1 (cap := t.2.toNat) (by rw [ht0.2]; exact Nat.le_refl _) (by omega) hcell hsl2
    subst e'
    rw [hsT, hty] at Ar
    have hs1 : T'.heap.size ≤ s.heap.size + (cC true q + 1) := X'.heapSize
    have hs2 : (i.1 + (q / 2 + 1) : Nat) < T'.heap.size := Ar.lt
    have hs3 : s.heap.size = i.1 + 1 := by rw [hsz]; exact hz rfl
    have hs4 : T'.heap.size = i.1 + 1 + (q + 1 + 1) / 2 := by simp only [cC, cond_true] at hs1; omega
    have hc' : cC true (q + 1) = cC true q + 1 := by simp only [cC, cond_true]; omega
    refine ⟨T', [], by rw [List.append_nil, hc', hsl1]; exact X', Fr.nil _, ⟨hna, clu_new (t := (q / 2 + 1, t)) H hclu hm hq (t32 oks.1) E Ar, ⟨fun b hb => ?_, fun b hb => ?_, by simp only [cond_true]; exact hs4⟩, hz⟩, ⟨trivial, oks.2⟩, fun target kk => stp target ?_⟩
    · rw [← hoff.1 b hb]
      have : b < T.heap.size := by omega
      rw [Array.getElem?_eq_getElem this]
      exact E.2 b _ (Array.getElem?_eq_getElem this)
    · rw [← hoff.2.1 b hb, Array.getElem?_eq_none (by omega), Array.getElem?_eq_none (by omega)]
    · rw [hsT]; exact kk
  | ldc idx =>
    change (match look cI idx with | some x => k (.inl x :: st) q S | none => none) = some r at h
    split at h
    · rename_i x hl
      have hm := hcI _ (look_mem hl)
      refine ⟨_, _, _, h, fun Q G => Goes.step (φ := okSt (vI x :: st)) (fun T Lo X hP => ?_) G⟩
      exact ⟨T, [], by rw [List.append_nil]; exact X, Fr.nil _, hP, ⟨hm.2, oks⟩, fun target kk => X.ldcI hx hown (mvT hZ hm.1) (g := mkF m pc (cL (AC i) L) (cSt (AC i) st)) rfl hd kk⟩
    · cases h
  | ldc_w idx =>
    change (match look cI idx with | some x => k (.inl x :: st) q S | none => none) = some r at h
    split at h
    · rename_i x hl
      have hm := hcI _ (look_mem hl)
      refine ⟨_, _, _, h, fun Q G => Goes.step (φ := okSt (vI x :: st)) (fun T Lo X hP => ?_) G⟩
      exact ⟨T, [], by rw [List.append_nil]; exact X, Fr.nil _, hP, ⟨hm.2, oks⟩, fun target kk => X.ldcWI hx hown (mvT hZ hm.1) (g := mkF m pc (cL (AC i) L) (cSt (AC i) st)) rfl hd kk⟩
    · cases h
  | ldc2_w idx =>
    change (match look cJ idx with | some x => k (.inr (.inl x) :: st) q S | none => none) = some r at h
    split at h
    · rename_i x hl
      have hm := hcJ _ (look_mem hl)
      refine ⟨_, _, _, h, fun Q G => Goes.step (φ := okSt (vL x :: st)) (fun T Lo X hP => ?_) G⟩
      exact ⟨T, [], by rw [List.append_nil]; exact X, Fr.nil _, hP, ⟨hm.2, oks⟩, fun target kk => X.ldc2J hx hown (mvT hZ hm.1) (g := mkF m pc (cL (AC i) L) (cSt (AC i) st)) rfl hd kk⟩
    · cases h
  | invokespecial idx =>
    change (match st with | .inr (.inr (some 0)) :: st => bif ct && Nat.beq idx oi && Nat.ble (wt st) W then k st q S else none | _ => none) = some r at h
    split at h
    · rename_i st1
      cases hb : (ct && Nat.beq idx oi && Nat.ble (wt st1) W)
      · rw [hb] at h; cases h
      · rw [hb] at h
        rw [Bool.and_eq_true, Bool.and_eq_true] at hb
        have hi := Nat.eq_of_beq_eq_true hb.1.2
        subst hi
        obtain ⟨w1, w2, w3, w4, w5⟩ := hoi hb.1.1
        have hwt := Nat.le_of_ble_eq_true hb.2
        have hsum : 2 * 0 + ((cSt (AC i) st1).map fun v => v.category).sum ≤ W := by have := wt_eq (AC i) st1; omega
        refine ⟨_, _, _, h, fun Q G => Goes.step (φ := okSt st1) (fun T Lo X hP => ?_) G⟩
        obtain ⟨T', X', e', stp⟩ := initO X hx hZ hown w1 w2 w3 rfl (g := mkF m pc (cL (AC i) L) (cSt (AC i) (vR 0 :: st1))) rfl hsize rfl hd w4 (W := W) hsum w5
        exact ⟨T', [], by rw [List.append_nil]; exact X', Fr.nil _, by rw [e']; exact hP, oks.2, stp⟩
    · cases h
  | invokevirtual idx =>
    obtain ⟨t, av, st1, r1, ht, hlen, rfl, hq, hwt, hf, hk⟩ := virC_ok h
    subst hq
    obtain ⟨y, bs, mL, rt, rm, ps, y0, y1, y2, y3, y4, y5, y6, y7, y8, y9, y10, con⟩ := hml _ (look_mem ht)
    have oks' := okSt_app.mp oks
    refine ⟨_, _, _, hk, fun Q G => Goes.step (φ := okSt (pushR t.2.1 r1.1 st1)) (fun T Lo X hP => ?_) G⟩
    obtain ⟨hna, hclu, hoff, hz⟩ := hP
    have hM := con (i.1, i.2.1, T.heap) (vR 0 :: av) S r1 hf ⟨trivial, okSt_rev.mp oks'.1⟩ ⟨hna, hclu, ⟨fun _ _ => rfl, fun _ _ => rfl, rfl⟩, fun hh => nomatch hh⟩
    have hB := backOf (Q := fun v hh Lc => (v = Val t.2.1 r1.1 ∧ okR t.2.1 r1.1) ∧ Fr i.2.1 Lc ∧ HC Z C fs as K false (i.1, i.2.1, T.heap) (2 * K) r1.2 hh) (R := R) (p := p) (e := e) (below := below) (s := s) (args := args) (len := 3) (W := W) hM hZ y4 (by rw [y0]; exact wz) y9 y10
    have hst : cSt (AC i) (av.reverse ++ vR 0 :: st1) = (av.map (conc (AC i))).reverse ++ .ref (AC i 0) :: cSt (AC i) st1 := by simp [cSt, conc]
    have hsum : 2 * 0 + ((cSt (AC i) st1).map fun v => v.category).sum ≤ W := by have := wt_eq (AC i) st1; omega
    have hcell : cC ct (2 * K) + rm.cells ≤ R.cells := by rw [y7]; exact hrc
    have hslot : sC as ct (2 * K) + rm.slots ≤ R.slots := by rw [y8]; exact hrs
    have hyC : y.cls ≠ "java/lang/invoke/MethodHandle" ∧ y.cls ≠ "java/lang/invoke/VarHandle" := by rw [y0]; exact hC
    obtain ⟨v, vm₁, ⟨T', L', k', n'⟩, hW₁, X', ⟨Lc, hQ, l1, l2, l3⟩, stp⟩ : ∃ (v : Option Value) (vm₁ : Vm) (B : Pt), s.WarmedH vm₁ ∧ Stand p l e R s m args below meth c B.U B.locs B.cells B.slots ∧ (∃ Lc, (((v = Val t.2.1 r1.1 ∧ okR t.2.1 r1.1) ∧ Fr i.2.1 Lc ∧ HC Z C fs as K false (i.1, i.2.1, T.heap) (2 * K) r1.2 B.U.heap)) ∧ B.locs = Lo ++ Lc ∧ B.cells = cC ct (2 * K) + rm.cells ∧ B.slots = sC as ct (2 * K) + rm.slots) ∧
        Steps p.tables e below (T.setTop (mkF m pc (cL (AC i) L) (cSt (AC i) (av.reverse ++ vR 0 :: st1)))) (B.U.setTop { (mkF m pc (cL (AC i) L) (cSt (AC i) (av.reverse ++ vR 0 :: st1))) with pc := pc + 3, stack := v.toList ++ cSt (AC i) st1 }) := by
      rcases y3 with y3 | ⟨y3, y3'⟩
      · have hpriv := Jvm.Cond.privateMethod_at (mvP hZ y3 (args := #[]))
        obtain ⟨cell, kc, g1, g2, g3, g4, -⟩ := hclu.1
        obtain ⟨cZ, kZ, z1, z2, z3, z4, -⟩ := Jvm.Cond.instantiable_spec (mvT hZ H.1 (args := args))
        have hsel : (Jvm.Cond.selects y.cls y y).before args s = true := by
          refine selects_self_of_private (c := cZ) (k := kZ) (by rw [y0]; exact z1) z2 ?_ hpriv (mvT hZ y2) hyC
          exact (Bool.or_eq_false_iff.mp z4).1
        exact X.privateBack hx (y := y) hown (mvT hZ y1) (mvT hZ y2) hsel hpriv (mvT hZ y4) hyC hB (g := mkF m pc (cL (AC i) L) (cSt (AC i) (av.reverse ++ vR 0 :: st1))) rfl hsize (Steps.refl _) (a := i.1) g1 (fun qq eq => by rw [eq] at g4; cases g4) (argsL := av.map (conc (AC i))) (rest := cSt (AC i) st1) (lenOf y5 (by simp [hlen, y6])) hst hsum hd (fun _ _ => ⟨rfl, rfl, hcell, hslot⟩)
      · obtain ⟨cB, kB, q1, q2, q3⟩ := isOf (s := s) (T := T) hZ rfl hclu.1
        exact X.virtualBack hx (y := y) (z := y) hown (mvT hZ y1) (mvT hZ y3) (notFace_of_selects (args := #[]) (mvT hZ y3')) (mvT hZ y3') (mvT hZ y2) hyC hB q1 q3 (g := mkF m pc (cL (AC i) L) (cSt (AC i) (av.reverse ++ vR 0 :: st1))) rfl hsize (Steps.refl _) (argsL := av.map (conc (AC i))) (rest := cSt (AC i) st1) (lenOf y5 (by simp [hlen, y6])) hst hsum hd (fun _ _ => ⟨rfl, rfl, hcell, hslot⟩)
    dsimp only [Pt.U, Pt.locs, Pt.cells, Pt.slots] at X' hQ l1 l2 l3 stp
    subst l1 l2 l3
    obtain ⟨⟨rfl, hokr⟩, hFr, hna', hclu', hoff', -⟩ := hQ
    rw [y7, y8, Nat.add_zero, Nat.add_zero] at X'
    refine ⟨T', Lc, X', hFr, ⟨hna, hclu', hoff.trans hoff', hz⟩, push_ok hokr oks'.2.2, fun target kk => stp.trans ?_⟩
    rw [push_val]; exact kk
  | invokestatic idx =>
    obtain ⟨t, av, st1, r1, ht, hlen, rfl, hq, hwt, hf, hk⟩ := staC_ok h
    subst hq
    obtain ⟨y, bs, mL, rt, rm, ps, y0, y1, y2, y4, y5, y6, y7, y8, y9, y10, con⟩ := hsl _ (look_mem ht)
    have oks' := okSt_app.mp oks
    refine ⟨_, _, _, hk, fun Q G => Goes.step (φ := okSt (pushR t.2.1 r1.1 st1)) (fun T Lo X hP => ?_) G⟩
    obtain ⟨hna, hclu, hoff, hz⟩ := hP
    have hM := con (i.1, i.2.1, T.heap) av S r1 hf (okSt_rev.mp oks'.1) ⟨hna, hclu, ⟨fun _ _ => rfl, fun _ _ => rfl, rfl⟩, fun hh => nomatch hh⟩
    have wz' : (Jvm.Cond.initialized y.cls).before a0 Z = true := by rw [y0]; exact wz
    have hB := backOf (Q := fun v hh Lc => (v = Val t.2.1 r1.1 ∧ okR t.2.1 r1.1) ∧ Fr i.2.1 Lc ∧ HC Z C fs as K false (i.1, i.2.1, T.heap) (2 * K) r1.2 hh) (R := R) (p := p) (e := e) (below := below) (s := s) (args := args) (len := 3) (W := W) hM hZ y4 wz' y9 y10
    have hst : cSt (AC i) (av.reverse ++ st1) = (av.map (conc (AC i))).reverse ++ cSt (AC i) st1 := by simp [cSt]
    have hsum : 2 * 0 + ((cSt (AC i) st1).map fun v => v.category).sum ≤ W := by have := wt_eq (AC i) st1; omega
    have hcell : cC ct (2 * K) + rm.cells ≤ R.cells := by rw [y7]; exact hrc
    have hslot : sC as ct (2 * K) + rm.slots ≤ R.slots := by rw [y8]; exact hrs
    have hyC : y.cls ≠ "java/lang/invoke/MethodHandle" ∧ y.cls ≠ "java/lang/invoke/VarHandle" := by rw [y0]; exact hC
    obtain ⟨v, vm₁, ⟨T', L', k', n'⟩, hW₁, X', ⟨Lc, hQ, l1, l2, l3⟩, stp⟩ := Jvm.LawKit.callS X hx (y := y) hown (mvT hZ y1) (mvT hZ y2) (mvT hZ wz') (mvT hZ y4) hyC hB (g := mkF m pc (cL (AC i) L) (cSt (AC i) (av.reverse ++ st1))) rfl hsize (argsL := av.map (conc (AC i))) (rest := cSt (AC i) st1) (lenOf y5 (by simp [hlen, y6])) hst hsum hd (fun _ _ => ⟨rfl, rfl, hcell, hslot⟩)
    dsimp only [Pt.U, Pt.locs, Pt.cells, Pt.slots] at X' hQ l1 l2 l3 stp
    subst l1 l2 l3
    obtain ⟨⟨rfl, hokr⟩, hFr, hna', hclu', hoff', -⟩ := hQ
    rw [y7, y8, Nat.add_zero, Nat.add_zero] at X'
    refine ⟨T', Lc, X', hFr, ⟨hna, hclu', hoff.trans hoff', hz⟩, push_ok hokr oks'.2, fun target kk => stp target ?_⟩
    rw [push_val]; exact kk
  | _ => cases h
def kmOk : List Nat → List AV → Bool
  | _, [] => true
  | 0 :: ks, .inl _ :: as => kmOk ks as
  | 0 :: ks, .inr (.inr _) :: as => kmOk ks as
  | 1 :: 2 :: ks, .inr (.inl _) :: as => kmOk ks as
  | _, _ => false
theorem okL_unset : ∀ (km : List Nat), okL km (List.replicate km.length sU)
  | [] => trivial
  | _ :: ks => ⟨trivial, okL_unset ks⟩
theorem okL_flat : ∀ {km : List Nat} {av : List AV}, kmOk km av = true → okSt av → ∀ n, (flat av).length + n = km.length → okL km (flat av ++ List.replicate n sU)
  | km, [], _, _, n, hn => by
    simp only [flat, List.length_nil, Nat.zero_add] at hn
    subst hn; exact okL_unset km
  | 0 :: ks, .inl x :: as, h, oks, n, hn => ⟨⟨rfl, oks.1⟩, okL_flat (km := ks) (av := as) h oks.2 n (by simp only [flat, List.length_cons] at hn; omega)⟩
  | 0 :: ks, .inr (.inr r) :: as, h, oks, n, hn => ⟨rfl, okL_flat (km := ks) (av := as) h oks.2 n (by simp only [flat, List.length_cons] at hn; omega)⟩
  | 1 :: 2 :: ks, .inr (.inl x) :: as, h, oks, n, hn => ⟨⟨rfl, oks.1⟩, rfl, okL_flat (km := ks) (av := as) h oks.2 n (by simp only [flat, List.length_cons] at hn; omega)⟩
theorem flat_le : ∀ {km : List Nat} {av : List AV}, kmOk km av = true → (flat av).length ≤ km.length
  | _, [], _ => Nat.zero_le _
  | 0 :: ks, .inl x :: as, h => by have := flat_le (km := ks) (av := as) h; simp only [flat, List.length_cons]; omega
  | 0 :: ks, .inr (.inr r) :: as, h => by have := flat_le (km := ks) (av := as) h; simp only [flat, List.length_cons]; omega
  | 1 :: 2 :: ks, .inr (.inl x) :: as, h => by have := flat_le (km := ks) (av := as) h; simp only [flat, List.length_cons]; omega
theorem okL_entry {km : List Nat} {av : List AV} {maxL : Nat} (h : kmOk km av = true) (oks : okSt av) (hl : km.length = maxL) : okL km (entryL av maxL) := by
  subst hl
  exact okL_flat h oks _ (by have := flat_le h; omega)
/-- a method's contract off its first block -/
theorem con_of {y : MethodName} {km : List Nat} {rk : Nat} {fn : Jn St} {f : List AV → St → RS St} (hB : Blk l Z C bytes maxL ret false R AC nC zC (cC false) (sC as false) (HC Z C fs as K false) km rk (2 * K) (0, 2 * K, fn)) (hpl : plainName C = true) (hy : y.cls = C)
    (hf : ∀ av S r, f av S = some r → okSt av → fn (entryL av maxL) [] S = some r ∧ okL km (entryL av maxL)) : Con l Z C fs as K y bytes maxL ret R rk f := by
  intro i av S r h oks hH
  obtain ⟨h1, h2⟩ := hf av S r h oks
  exact met_of_blk (ws := []) hB (by rw [hy]; exact hpl) hy (fun hh => nomatch hh) rfl rfl h1 h2 hH rfl
end Hop
end Jvm.OwnKit
namespace Jvm.OwnKit
open Sem ClassFile Op Lib Jvm.Stand Jvm.Free Jvm.LawKit Jvm.RoadKit
/-! # 7. a law: it makes objects, calls them, reads its script -/
/-- where the new cells begin, how long the heap is at the call, the heap at the start, where the script lies -/
abbrev IL : Type := Nat × Nat × Heap × Nat
def AL (nob K : Nat) (i : IL) : Nat → Addr := fun h => if h < nob then i.1 + h * (K + 1) else i.2.2.2
def nL (i : IL) : Nat := i.1
def zL (i : IL) : Nat := i.2.1
def szL (K q : Nat) : Nat := q / 2 * (K + 1) + q % 2
def slL (nf sm q : Nat) : Nat := (q + 1) / 2 * nf + q / 2 * sm
def zS : St := fun _ _ => 0
def ConK (l : Launch) (Z : State) (C : String) (fs : List FE) (as : List AE) (K : Nat) (y : MethodName) (bytes : ByteArray) (maxL : Nat) (rm : Room) (f : List AV → St → RS St) : Prop :=
  ∀ (i : IC) (av : List AV) (S : St) (r : Int × St), f av S = some r → okSt av → HC Z C fs as K true i 0 S i.2.2 →
    MetFree l y (head1 [Jvm.Cond.code y bytes maxL none] rm) (fun x U => x = (av.map (conc (AC i))).toArray ∧ Z.Warmed39 U.vm ∧ U.heap = i.2.2) (fun _ _ _ _ _ => True)
      (fun _ U o U' => ∃ v L, o = .returned v ∧ ((v = Val 0 r.1 ∧ okR 0 r.1) ∧ Fr (nC i) L ∧ HC Z C fs as K true i (2 * K) r.2 U'.heap) ∧ FrameEnd U o U' L rm.cells rm.slots)
def noRef : List AV → Bool
  | [] => true
  | .inr (.inr _) :: _ => false
  | _ :: as => noRef as
theorem noRef_conc (A B : Nat → Addr) : ∀ {as : List AV}, noRef as = true → as.map (conc A) = as.map (conc B)
  | [], _ => rfl
  | .inl x :: as, h => by simp only [List.map_cons]; rw [noRef_conc A B (as := as) h]; rfl
  | .inr (.inl x) :: as, h => by simp only [List.map_cons]; rw [noRef_conc A B (as := as) h]; rfl
  | .inr (.inr x) :: as, h => by cases h
section Law
variable {σ : Type}
def HL (Z : State) (C : String) (fs : List FE) (as : List AE) (K : Nat) (gt : Nat → σ → St) (mk scr : Bool) (len : Int) (sc : Int → Int) (i : IL) (q : Nat) (S : σ) (h : Heap) : Prop :=
  (∀ b, b < i.1 → h[b]? = i.2.2.1[b]?) ∧ i.2.2.1.size = i.1 ∧ h.size = i.1 + szL K q ∧ (∀ j, 2 * j + 2 ≤ q → Clu Z (i.1 + j * (K + 1)) C fs as (2 * K) (gt j S) h) ∧ (∀ j, q = 2 * j + 1 → Clu Z (i.1 + j * (K + 1)) C fs as 0 (gt j S) h) ∧
  (scr = true → i.2.2.2 < i.1 ∧ R32 len ∧ ArrIs Z i.2.2.1 i.2.2.2 0 len sc) ∧ (mk = true → i.2.1 = i.1)
/-- a law's own helper (under 16 times its pool number and how far the objects are made): number of arguments, what it returns, what it computes -/
abbrev SE (σ : Type) : Type := Nat × Nat × (List AV → σ → RS σ)
def newL (nob ni : Nat) (mk : Bool) (pt : Nat → σ → St → σ) (idx : Nat) (st : List AV) (q : Nat) (S : σ) (k : List AV → Nat → σ → RS σ) : RS σ :=
  bif mk && Nat.beq idx ni && Nat.beq q (2 * (q / 2)) && Nat.ble (q / 2 + 1) nob then k (.inr (.inr (some (q / 2))) :: st) (q + 1) (pt (q / 2) S zS) else none
def iniL (nob W ci cna : Nat) (mk : Bool) (fc : List AV → St → RS St) (gt : Nat → σ → St) (pt : Nat → σ → St → σ) (idx : Nat) (st : List AV) (q : Nat) (S : σ) (k : List AV → Nat → σ → RS σ) : RS σ := match argsOf cna [] st with
  | some (as, .inr (.inr (some j)) :: st') => bif mk && Nat.beq idx ci && Nat.beq q (2 * j + 1) && Nat.ble (j + 1) nob && Nat.ble (wt st') W && noRef as then (fc (.inr (.inr (some 0)) :: as) (gt j S)).bind (fun r => k st' (q + 1) (pt j S r.2)) else none
  | _ => none
def virL (nob W : Nat) (ml : List (Nat × ME St)) (gt : Nat → σ → St) (pt : Nat → σ → St → σ) (idx : Nat) (st : List AV) (q : Nat) (S : σ) (k : List AV → Nat → σ → RS σ) : RS σ := match look ml idx with
  | some t => (match argsOf t.1 [] st with
    | some (as, .inr (.inr (some j)) :: st') => bif Nat.beq q (2 * (q / 2)) && Nat.ble (2 * j + 2) q && Nat.ble (j + 1) nob && Nat.ble (wt st') W && noRef as then (t.2.2 (.inr (.inr (some 0)) :: as) (gt j S)).bind (fun r => k (pushR t.2.1 r.1 st') q (pt j S r.2)) else none
    | _ => none)
  | none => none
def staL (W : Nat) (sl : List (Nat × SE σ)) (idx : Nat) (st : List AV) (q : Nat) (S : σ) (k : List AV → Nat → σ → RS σ) : RS σ := match look sl (16 * idx + q) with
  | some t => (match argsOf t.1 [] st with
    | some (as, st') => bif Nat.ble q 15 && Nat.ble (wt st') W then (t.2.2 as S).bind (fun r => k (pushR t.2.1 r.1 st') q r.2) else none
    | _ => none)
  | none => none
def ialL (nob : Nat) (scr : Bool) (len : Int) (sc : Int → Int) (st : List AV) (q : Nat) (S : σ) (k : List AV → Nat → σ → RS σ) : RS σ := match st with
  | .inl i :: .inr (.inr (some h)) :: st => bif scr && Nat.beq h nob then (if 0 ≤ i ∧ i < len then k (.inl (sc i) :: st) q S else none) else none
  | _ => none
def alnL (nob : Nat) (scr : Bool) (len : Int) (st : List AV) (q : Nat) (S : σ) (k : List AV → Nat → σ → RS σ) : RS σ := match st with
  | .inr (.inr (some h)) :: st => bif scr && Nat.beq h nob then k (.inl len :: st) q S else none
  | _ => none
def hopL (nob W ni ci cna : Nat) (mk : Bool) (fc : List AV → St → RS St) (ml : List (Nat × ME St)) (sl : List (Nat × SE σ)) (cI cJ : List (Nat × Int)) (gt : Nat → σ → St) (pt : Nat → σ → St → σ) (scr : Bool) (len : Int) (sc : Int → Int) : Hop σ := fun i st q S k => match i with
  | .new idx => newL nob ni mk pt idx st q S k
  | .invokespecial idx => iniL nob W ci cna mk fc gt pt idx st q S k
  | .invokevirtual idx => virL nob W ml gt pt idx st q S k
  | .invokestatic idx => staL W sl idx st q S k
  | .iaload => ialL nob scr len sc st q S k
  | .arraylength => alnL nob scr len st q S k
  | .ldc idx => (match look cI idx with
    | some x => k (.inl x :: st) q S
    | none => none)
  | .ldc_w idx => (match look cI idx with
    | some x => k (.inl x :: st) q S
    | none => none)
  | .ldc2_w idx => (match look cJ idx with
    | some x => k (.inr (.inl x) :: st) q S
    | none => none)
  | _ => none
def VirL (l : Launch) (Z : State) (a0 : Array Value) (own C : String) (fs : List FE) (as : List AE) (K W : Nat) (R : Room) (x : Nat × ME St) : Prop :=
  ∃ (y : MethodName) (bytes : ByteArray) (maxL : Nat) (ret : Option FieldType) (rm : Room) (ps : List FieldType), y.cls = C ∧ (Jvm.Cond.methodLink own x.1 y).before a0 Z = true ∧ (Jvm.Cond.instanceMethod y).before a0 Z = true ∧
    ((Jvm.Cond.declares y).before a0 Z = true ∧ (Jvm.Cond.selects C y y).before a0 Z = true) ∧ (Jvm.Cond.code y bytes maxL ret).before a0 Z = true ∧
    parseMethodDescriptor y.desc = some ⟨ps, ret⟩ ∧ ps.length = x.2.1 ∧ rm.cells = 0 ∧ rm.slots = 0 ∧ rm.frames + 1 ≤ R.frames ∧ W + (maxL + 11) + rm.locals ≤ R.locals ∧ Con l Z C fs as K y bytes maxL ret rm x.2.2.1 x.2.2.2
def ConL (l : Launch) (Z : State) (C : String) (fs : List FE) (as : List AE) (K nob : Nat) (gt : Nat → σ → St) (scr : Bool) (len : Int) (sc : Int → Int) (y : MethodName) (bytes : ByteArray) (maxL : Nat) (ret : Option FieldType) (rm : Room) (rk qs : Nat) (f : List AV → σ → RS σ) : Prop :=
  ∀ (i : IL) (av : List AV) (S : σ) (r : Int × σ) (h : Heap), f av S = some r → okSt av → i.2.1 = h.size → HL Z C fs as K gt false scr len sc i qs S h →
    MetFree l y (head1 [Jvm.Cond.code y bytes maxL ret] rm) (fun x U => x = (av.map (conc (AL nob K i))).toArray ∧ Z.Warmed39 U.vm ∧ U.heap = h) (fun _ _ _ _ _ => True)
      (fun _ U o U' => ∃ v L, o = .returned v ∧ ((v = Val rk r.1 ∧ okR rk r.1) ∧ Fr (nL i) L ∧ HL Z C fs as K gt false scr len sc i qs r.2 U'.heap) ∧ FrameEnd U o U' L rm.cells rm.slots)
def StaL (l : Launch) (Z : State) (a0 : Array Value) (own C : String) (fs : List FE) (as : List AE) (K nob W : Nat) (R : Room) (gt : Nat → σ → St) (scr : Bool) (len : Int) (sc : Int → Int) (x : Nat × SE σ) : Prop :=
  ∃ (y : MethodName) (bytes : ByteArray) (maxL : Nat) (ret : Option FieldType) (rm : Room) (ps : List FieldType), y.cls = own ∧ (Jvm.Cond.methodLink own (x.1 / 16) y).before a0 Z = true ∧ (Jvm.Cond.static y).before a0 Z = true ∧ (Jvm.Cond.initialized own).before a0 Z = true ∧
    (Jvm.Cond.code y bytes maxL ret).before a0 Z = true ∧
    parseMethodDescriptor y.desc = some ⟨ps, ret⟩ ∧ ps.length = x.2.1 ∧ rm.cells = 0 ∧ rm.slots = 0 ∧ rm.frames + 1 ≤ R.frames ∧ W + (maxL + 11) + rm.locals ≤ R.locals ∧ ConL l Z C fs as K nob gt scr len sc y bytes maxL ret rm x.2.2.1 (x.1 % 16) x.2.2.2
theorem clu_same {Z : State} {a0 : Array Value} {C : String} {kk : Nat} {fs : List FE} {as : List AE} {K a q : Nat} {S : St} {h h' : Heap} (H : ClsOk Z a0 C kk fs as K) (c : Clu Z a C fs as q S h) (e : ∀ b, a ≤ b → b ≤ a + K → h'[b]? = h[b]?) : Clu Z a C fs as q S h' := by
  obtain ⟨c1, c2, c3, c4⟩ := c
  refine ⟨?_, fun f hf => ⟨?_, (c2 f hf).2⟩, fun t ht hq => ?_, c4⟩
  · obtain ⟨cell, k, h1, r⟩ := c1
    exact ⟨cell, k, by rw [e a (Nat.le_refl _) (by omega)]; exact h1, r⟩
  · obtain ⟨cell, cf, k, i, f', h1, r⟩ := (c2 f hf).1
    exact ⟨cell, cf, k, i, f', by rw [e a (Nat.le_refl _) (by omega)]; exact h1, r⟩
  · have hK := H.arrK ht
    obtain ⟨cell, ⟨g0, g1⟩, g2⟩ := c3 t ht hq
    exact ⟨cell, ⟨by rw [e _ (by omega) (by omega)]; exact g0, g1⟩, g2⟩
theorem clu_raw {Z : State} {a0 : Array Value} {C : String} {kk : Nat} {fs : List FE} {as : List AE} {K a : Nat} {h : Heap} (H : ClsOk Z a0 C kk fs as K) (E : Exa Z h a C) (D : ∀ {O nm d : String} {ty : FieldType}, Laid Z a0 C O nm d → parseFieldDescriptor d = some ty → Fld Z h a O nm d (defaultValue ty)) : Clu Z a C fs as 0 zS h := by
  refine ⟨E, fun f hf => ⟨?_, fun _ => by unfold zS R32; omega⟩, fun t ht hq => ?_, fun t ht hq i => rfl⟩
  · rcases H.desc hf with ⟨e1, e2⟩ | ⟨e1, e2⟩ | ⟨t, ht, e1, e2⟩
    · have := D (H.laid hf) e2
      have e3 : fval a 0 zS f = defaultValue .int := by unfold fval; rw [e1]; rfl
      rw [e3]; exact this
    · have := D (H.laid hf) e2
      have e3 : fval a 0 zS f = defaultValue .boolean := by unfold fval; rw [e1]; rfl
      rw [e3]; exact this
    · have := D (H.laid hf) e2
      have hK := H.arrK ht
      have e3 : fval a 0 zS f = .null := by unfold fval; rw [e1]; simp; omega
      rw [e3]; exact this
  · have hK := H.arrK ht
    omega
end Law
end Jvm.OwnKit
namespace Jvm.OwnKit
open Sem ClassFile Op Lib Jvm.Stand Jvm.Free Jvm.LawKit Jvm.RoadKit
section LawHop
variable {σ : Type} {l : Launch} {Z : State} {a0 : Array Value} {own C : String} {kk : Nat} {fs : List FE} {as : List AE} {K W nob ni ci cna : Nat} {mk : Bool} {fc : List AV → St → RS St} {cI cJ : List (Nat × Int)} {ml : List (Nat × ME St)} {sl : List (Nat × SE σ)} {gt : Nat → σ → St} {pt : Nat → σ → St → σ} {scr : Bool} {len : Int} {sc : Int → Int} {bytes : ByteArray} {maxL : Nat} {ret : Option FieldType} {R : Room}
theorem newL_ok {idx : Nat} {st : List AV} {q : Nat} {S : σ} {k : List AV → Nat → σ → RS σ} {r : Int × σ} (h : newL nob ni mk pt idx st q S k = some r) : mk = true ∧ idx = ni ∧ q = 2 * (q / 2) ∧ q / 2 + 1 ≤ nob ∧ k (vR (q / 2) :: st) (q + 1) (pt (q / 2) S zS) = some r := by
  unfold newL at h
  cases hb : (mk && Nat.beq idx ni && Nat.beq q (2 * (q / 2)) && Nat.ble (q / 2 + 1) nob)
  · rw [hb] at h; cases h
  · rw [hb] at h
    simp only [Bool.and_eq_true] at hb
    exact ⟨hb.1.1.1, Nat.eq_of_beq_eq_true hb.1.1.2, Nat.eq_of_beq_eq_true hb.1.2, Nat.le_of_ble_eq_true hb.2, h⟩
theorem iniL_ok {idx : Nat} {st : List AV} {q : Nat} {S : σ} {k : List AV → Nat → σ → RS σ} {r : Int × σ} (h : iniL nob W ci cna mk fc gt pt idx st q S k = some r) :
    ∃ av j st1 r1, mk = true ∧ idx = ci ∧ av.length = cna ∧ st = av.reverse ++ vR j :: st1 ∧ q = 2 * j + 1 ∧ j + 1 ≤ nob ∧ wt st1 ≤ W ∧ noRef av = true ∧ fc (vR 0 :: av) (gt j S) = some r1 ∧ k st1 (q + 1) (pt j S r1.2) = some r := by
  unfold iniL at h
  split at h
  · rename_i av j st1 ha
    obtain ⟨zs, h1, h2, h3⟩ := argsOf_ok ha
    rw [List.append_nil] at h2
    subst h2
    cases hb : (mk && Nat.beq idx ci && Nat.beq q (2 * j + 1) && Nat.ble (j + 1) nob && Nat.ble (wt st1) W && noRef av)
    · rw [hb] at h; cases h
    · rw [hb] at h
      simp only [Bool.and_eq_true] at hb
      simp only [cond_true] at h
      obtain ⟨r1, hr1, hr2⟩ := Option.bind_eq_some_iff.mp h
      exact ⟨av, j, st1, r1, hb.1.1.1.1.1, Nat.eq_of_beq_eq_true hb.1.1.1.1.2, h1, h3, Nat.eq_of_beq_eq_true hb.1.1.1.2, Nat.le_of_ble_eq_true hb.1.1.2, Nat.le_of_ble_eq_true hb.1.2, hb.2, hr1, hr2⟩
  · cases h
theorem virL_ok {idx : Nat} {st : List AV} {q : Nat} {S : σ} {k : List AV → Nat → σ → RS σ} {r : Int × σ} (h : virL nob W ml gt pt idx st q S k = some r) :
    ∃ t av j st1 r1, look ml idx = some t ∧ av.length = t.1 ∧ st = av.reverse ++ vR j :: st1 ∧ q = 2 * (q / 2) ∧ 2 * j + 2 ≤ q ∧ j + 1 ≤ nob ∧ wt st1 ≤ W ∧ noRef av = true ∧ t.2.2 (vR 0 :: av) (gt j S) = some r1 ∧ k (pushR t.2.1 r1.1 st1) q (pt j S r1.2) = some r := by
  unfold virL at h
  split at h
  · rename_i t ht
    split at h
    · rename_i av j st1 ha
      obtain ⟨zs, h1, h2, h3⟩ := argsOf_ok ha
      rw [List.append_nil] at h2
      subst h2
      cases hb : (Nat.beq q (2 * (q / 2)) && Nat.ble (2 * j + 2) q && Nat.ble (j + 1) nob && Nat.ble (wt st1) W && noRef av)
      · rw [hb] at h; cases h
      · rw [hb] at h
        simp only [Bool.and_eq_true] at hb
        simp only [cond_true] at h
        obtain ⟨r1, hr1, hr2⟩ := Option.bind_eq_some_iff.mp h
        exact ⟨t, av, j, st1, r1, ht, h1, h3, Nat.eq_of_beq_eq_true hb.1.1.1.1, Nat.le_of_ble_eq_true hb.1.1.1.2, Nat.le_of_ble_eq_true hb.1.1.2, Nat.le_of_ble_eq_true hb.1.2, hb.2, hr1, hr2⟩
    · cases h
  · cases h
theorem staL_ok {idx : Nat} {st : List AV} {q : Nat} {S : σ} {k : List AV → Nat → σ → RS σ} {r : Int × σ} (h : staL W sl idx st q S k = some r) :
    ∃ t av st1 r1, look sl (16 * idx + q) = some t ∧ av.length = t.1 ∧ st = av.reverse ++ st1 ∧ q ≤ 15 ∧ wt st1 ≤ W ∧ t.2.2 av S = some r1 ∧ k (pushR t.2.1 r1.1 st1) q r1.2 = some r := by
  unfold staL at h
  split at h
  · rename_i t ht
    split at h
    · rename_i av st1 ha
      obtain ⟨zs, h1, h2, h3⟩ := argsOf_ok ha
      rw [List.append_nil] at h2
      subst h2
      cases hb : (Nat.ble q 15 && Nat.ble (wt st1) W)
      · rw [hb] at h; cases h
      · rw [hb] at h
        simp only [Bool.and_eq_true] at hb
        simp only [cond_true] at h
        obtain ⟨r1, hr1, hr2⟩ := Option.bind_eq_some_iff.mp h
        exact ⟨t, av, st1, r1, ht, h1, h3, Nat.le_of_ble_eq_true hb.1, Nat.le_of_ble_eq_true hb.2, hr1, hr2⟩
    · cases h
  · cases h
theorem mul_le_of {j n K : Nat} (h : j + 1 ≤ n) : j * (K + 1) + (K + 1) ≤ n * (K + 1) := by
  have := Nat.mul_le_mul_right (K + 1) h
  rw [Nat.add_mul, Nat.one_mul] at this; exact this
/-- one object's cells have changed: the others' facts stand -/
theorem HL_call {i : IL} {q j : Nat} {S : σ} {x : St} {h h' : Heap} (H : ClsOk Z a0 C kk fs as K) (hgp : ∀ j j' S x, j < nob → j' < nob → gt j' (pt j S x) = if j' = j then x else gt j' S) (hnob : ∀ j', 2 * j' + 2 ≤ q → j' < nob) (hq : q = 2 * (q / 2)) (hj : 2 * j + 2 ≤ q) (hL : HL Z C fs as K gt mk scr len sc i q S h)
    (hC : Clu Z (i.1 + j * (K + 1)) C fs as (2 * K) x h') (hO : Off h h' (i.1 + j * (K + 1)) K false (2 * K)) : HL Z C fs as K gt mk scr len sc i q (pt j S x) h' := by
  obtain ⟨l1, l2, l3, l4, l5, l6, l7⟩ := hL
  obtain ⟨o1, o2, o3⟩ := hO
  simp only [cond_false] at o3
  refine ⟨fun b hb => ?_, l2, by rw [o3]; exact l3, fun j' hj' => ?_, fun j' hj' => by omega, l6, l7⟩
  · rw [o1 b (by omega)]; exact l1 b hb
  · rw [hgp j j' S x (hnob j hj) (hnob j' hj')]
    by_cases e : j' = j
    · subst e; rw [if_pos rfl]; exact hC
    · rw [if_neg e]
      refine clu_same H (l4 j' hj') fun b hb1 hb2 => ?_
      by_cases e' : j' < j
      · have := mul_le_of (K := K) (show j' + 1 ≤ j by omega)
        exact o1 b (by omega)
      · have := mul_le_of (K := K) (show j + 1 ≤ j' by omega)
        exact o2 b (by omega)
set_option maxHeartbeats 8000000 in
theorem hopL_all (H : ClsOk Z a0 C kk fs as K) (hC : notMH C) (hO : notMH own) (wz : (Jvm.Cond.initialized C).before a0 Z = true)
    (hgp : ∀ j j' S x, j < nob → j' < nob → gt j' (pt j S x) = if j' = j then x else gt j' S)
    (hnew : mk = true → (Jvm.Cond.classLink own ni C).before a0 Z = true ∧ ∃ (y : MethodName) (bs : ByteArray) (mL : Nat) (rm : Room) (ps : List FieldType), y.cls = C ∧ y.name = "<init>" ∧ (Jvm.Cond.methodLink own ci y).before a0 Z = true ∧ (Jvm.Cond.instanceMethod y).before a0 Z = true ∧ (Jvm.Cond.code y bs mL none).before a0 Z = true ∧ parseMethodDescriptor y.desc = some ⟨ps, none⟩ ∧ ps.length = cna ∧ rm.cells = K ∧ rm.slots = sumTo (lenAt as) K ∧ rm.frames + 1 ≤ R.frames ∧ W + (mL + 11) + rm.locals ≤ R.locals ∧ ConK l Z C fs as K y bs mL rm fc)
    (hrm : mk = true → szL K (2 * nob) ≤ R.cells ∧ slL kk (sumTo (lenAt as) K) (2 * nob) ≤ R.slots) (hmk : mk = false → nob = nob)
    (hcI : ∀ x ∈ cI, (Jvm.Cond.constant own x.1 (Int32.ofInt x.2)).before a0 Z = true ∧ R32 x.2) (hcJ : ∀ x ∈ cJ, (Jvm.Cond.constantLong own x.1 (Int64.ofInt x.2)).before a0 Z = true ∧ R64 x.2)
    (hml : ∀ x ∈ ml, VirL l Z a0 own C fs as K W R x) (hsl : ∀ x ∈ sl, StaL l Z a0 own C fs as K nob W R gt scr len sc x) :
    HopAll l Z own bytes maxL ret false R (AL nob K) nL zL (fun q => bif mk then szL K q else 0) (fun q => bif mk then slL kk (sumTo (lenAt as) K) q else 0) (fun i q S h => HL Z C fs as K gt mk scr len sc i q S h ∧ q ≤ 2 * nob) (hopL nob W ni ci cna mk fc ml sl cI cJ gt pt scr len sc) := by
  intro p e s m args below meth c hctx i hsz pc ins L st q S k r hd hL oks h
  obtain ⟨hx, hby, hml0, hret, hlk, hZ, hown, hnm⟩ := hctx
  have hsize : (cL (AL nob K i) L).size = c.maxLocals := by simp [cL, hL]
  have hAL : ∀ j, j + 1 ≤ nob → AL nob K i j = i.1 + j * (K + 1) := fun j hj => by unfold AL; rw [if_pos (by omega)]
  have hroom : ∀ q', q' ≤ 2 * nob → (bif mk then szL K q' else 0) ≤ R.cells ∧ (bif mk then slL kk (sumTo (lenAt as) K) q' else 0) ≤ R.slots := by
    intro q' hq'
    cases hm : mk
    · simp
    · obtain ⟨h1, h2⟩ := hrm hm
      simp only [cond_true]
      have e1 : 2 * nob / 2 = nob := by omega
      have e2 : 2 * nob % 2 = 0 := by omega
      have e3 : (2 * nob + 1) / 2 = nob := by omega
      simp only [szL, slL, e1, e2, e3] at h1 h2 ⊢
      have g1 : q' / 2 ≤ nob := by omega
      have g2 : (q' + 1) / 2 ≤ nob := by omega
      refine ⟨?_, Nat.le_trans (Nat.add_le_add (Nat.mul_le_mul_right _ g2) (Nat.mul_le_mul_right _ g1)) h2⟩
      by_cases g3 : q' / 2 = nob
      · have : q' % 2 = 0 := by omega
        rw [this, g3]; exact h1
      · have := mul_le_of (K := K) (show q' / 2 + 1 ≤ nob by omega)
        omega
  cases ins with
  | new idx =>
    obtain ⟨hmk1, rfl, hq, hqn, hk⟩ := newL_ok h
    obtain ⟨wl, -⟩ := hnew hmk1
    refine ⟨_, _, _, hk, fun Q G => Goes.step (φ := okSt (vR (q / 2) :: st)) (fun T Lo X hP => ?_) G⟩
    obtain ⟨⟨l1, l2, l3, l4, l5, l6, l7⟩, hqb⟩ := hP
    have hr := hroom (q + 1) (by omega)
    have hr0 := hroom q (by omega)
    subst hmk1
    simp only [cond_true] at hr hr0 X ⊢
    have ec : szL K (q + 1) = szL K q + 1 := by unfold szL; have e1 : (q + 1) / 2 = q / 2 := by omega
                                                rw [e1]; omega
    have es : slL kk (sumTo (lenAt as) K) (q + 1) = slL kk (sumTo (lenAt as) K) q + kk := by
      unfold slL
      have e1 : (q + 1) / 2 = q / 2 := by omega
      have e2 : (q + 1 + 1) / 2 = q / 2 + 1 := by omega
      rw [e1, e2, Nat.add_mul, Nat.one_mul]; omega
    have hszT : T.heap.size = i.1 + q / 2 * (K + 1) := by rw [l3]; unfold szL; omega
    obtain ⟨T', h', X', e', E, Ex, D, -, stp⟩ := newO X hx hZ hown wl H.1 wz rfl (g := mkF m pc (cL (AL nob K i) L) (cSt (AL nob K i) st)) rfl hd (by rw [← ec]; exact hr.1) (by rw [← es]; exact hr.2)
    subst e'
    rw [hszT] at Ex D
    have hs1 : T'.heap.size ≤ s.heap.size + (szL K q + 1) := X'.heapSize
    have hs2 : (i.1 + q / 2 * (K + 1) : Nat) < T'.heap.size := Ex.lt
    have hs3 : s.heap.size = i.1 := by rw [hsz]; exact l7 rfl
    have hkeep : ∀ b, b < T.heap.size → T'.heap[b]? = T.heap[b]? := fun b hb => by
      rw [Array.getElem?_eq_getElem hb]; exact E.2 b _ (Array.getElem?_eq_getElem hb)
    refine ⟨T', [], by rw [List.append_nil, ec, es]; exact X', Fr.nil _, ⟨⟨fun b hb => ?_, l2, ?_, fun j hj => ?_, fun j hj => ?_, l6, l7⟩, by omega⟩, ⟨trivial, oks⟩, fun target kk' => stp target ?_⟩
    · rw [hkeep b (by omega)]; exact l1 b hb
    · rw [ec]; unfold szL at hs1 ⊢; omega
    · have hj' : 2 * j + 2 ≤ q := by omega
      rw [hgp _ _ _ _ (by omega) (by omega), if_neg (by omega)]
      refine clu_same H (l4 j hj') fun b hb1 hb2 => hkeep b ?_
      have := mul_le_of (K := K) (show j + 1 ≤ q / 2 by omega)
      omega
    · have hj' : j = q / 2 := by omega
      subst hj'
      rw [hgp _ _ _ _ (by omega) (by omega), if_pos rfl]
      exact clu_raw H Ex D
    · rw [hszT]
      have := hAL (q / 2) hqn
      show Steps p.tables e below (T'.setTop (mkF m (pc + 3) (cL (AL nob K i) L) (.ref (i.1 + q / 2 * (K + 1)) :: cSt (AL nob K i) st))) target
      rw [← this]; exact kk'
  | invokespecial idx =>
    obtain ⟨av, j, st1, r1, hmk1, rfl, hlen, rfl, hq, hjn, hwt, hnr, hf, hk⟩ := iniL_ok h
    obtain ⟨-, y, bs, mL, rm, ps, y0, y0', y1, y2, y4, y5, y6, y7, y8, y9, y10, con⟩ := hnew hmk1
    have oks' := okSt_app.mp oks
    refine ⟨_, _, _, hk, fun Q G => Goes.step (φ := okSt st1) (fun T Lo X hP => ?_) G⟩
    obtain ⟨⟨l1, l2, l3, l4, l5, l6, l7⟩, hqb⟩ := hP
    have hr := hroom (q + 1) (by omega)
    subst hmk1
    simp only [cond_true] at hr X ⊢
    have ec : szL K (q + 1) = szL K q + K := by
      unfold szL
      have e1 : (q + 1) / 2 = q / 2 + 1 := by omega
      rw [e1, Nat.add_mul, Nat.one_mul]; omega
    have es : slL kk (sumTo (lenAt as) K) (q + 1) = slL kk (sumTo (lenAt as) K) q + sumTo (lenAt as) K := by
      unfold slL
      have e1 : (q + 1) / 2 = q / 2 + 1 := by omega
      have e2 : (q + 1 + 1) / 2 = (q + 1) / 2 := by omega
      rw [e2, e1]
      simp only [Nat.add_mul, Nat.one_mul]; omega
    have hj : j = q / 2 := by omega
    have hclu := l5 j hq
    have hszT : T.heap.size = i.1 + j * (K + 1) + 1 := by rw [l3]; unfold szL; rw [← hj]; omega
    have hM := con (i.1 + j * (K + 1), i.1, T.heap) (vR 0 :: av) (gt j S) r1 hf ⟨trivial, okSt_rev.mp oks'.1⟩ ⟨Nat.le_add_right _ _, hclu, ⟨fun _ _ => rfl, fun _ _ => rfl, by simp only [cond_true]; exact hszT⟩, fun _ => hszT⟩
    have hB := backOf (Q := fun v hh Lc => (v = Val 0 r1.1 ∧ okR 0 r1.1) ∧ Fr i.1 Lc ∧ HC Z C fs as K true (i.1 + j * (K + 1), i.1, T.heap) (2 * K) r1.2 hh) (R := R) (p := p) (e := e) (below := below) (s := s) (args := args) (len := 3) (W := W) hM hZ y4 (by rw [y0]; exact wz) y9 y10
    have hst : cSt (AL nob K i) (av.reverse ++ vR j :: st1) = (av.map (conc (AL nob K i))).reverse ++ .ref (AL nob K i j) :: cSt (AL nob K i) st1 := by simp [cSt, conc]
    have hsum : 2 * 0 + ((cSt (AL nob K i) st1).map fun v => v.category).sum ≤ W := by have := wt_eq (AL nob K i) st1; omega
    have hargs : (Value.ref (AL nob K i j) :: av.map (conc (AL nob K i))).toArray = ((vR 0 :: av).map (conc (AC (i.1 + j * (K + 1), i.1, T.heap)))).toArray := by
      rw [hAL j hjn, noRef_conc (AL nob K i) (AC (i.1 + j * (K + 1), i.1, T.heap)) hnr]; rfl
    have hyC : y.cls ≠ "java/lang/invoke/MethodHandle" ∧ y.cls ≠ "java/lang/invoke/VarHandle" := by rw [y0]; exact hC
    obtain ⟨v, vm₁, ⟨T', L', k', n'⟩, hW₁, X', ⟨Lc, hQ, l1', l2', l3'⟩, stp⟩ := X.specialBack hx (y := y) y0' hown (mvT hZ y1) (mvT hZ y2) (mvT hZ y4) hyC hB (g := mkF m pc (cL (AL nob K i) L) (cSt (AL nob K i) (av.reverse ++ vR j :: st1))) rfl hsize (Steps.refl _) (a := AL nob K i j) (argsL := av.map (conc (AL nob K i))) (rest := cSt (AL nob K i) st1) (lenOf y5 (by simp [hlen, y6])) hst hsum hd (fun _ _ => ⟨hargs, rfl, by show szL K q + rm.cells ≤ _; rw [y7, ← ec]; exact hr.1, by show slL kk _ q + rm.slots ≤ _; rw [y8, ← es]; exact hr.2⟩)
    dsimp only [Pt.U, Pt.locs, Pt.cells, Pt.slots] at X' hQ l1' l2' l3' stp
    subst l1' l2' l3'
    obtain ⟨⟨rfl, hokr⟩, hFr, hna', hclu', ⟨o1, o2, o3⟩, -⟩ := hQ
    rw [y7, y8, ← ec, ← es] at X'
    dsimp only at o1 o2 o3
    simp only [cond_true] at o3
    refine ⟨T', Lc, X', hFr, ⟨⟨fun b hb => ?_, l2, ?_, fun j' hj' => ?_, fun j' hj' => by omega, l6, l7⟩, by omega⟩, oks'.2.2, fun target kk' => stp.trans kk'⟩
    · rw [o1 b (by omega)]; exact l1 b hb
    · rw [o3, ec]; unfold szL; rw [← hj]; omega
    · rw [hgp _ _ _ _ (by omega) (by omega)]
      by_cases e1 : j' = j
      · subst e1; rw [if_pos rfl]; exact hclu'
      · rw [if_neg e1]
        refine clu_same H (l4 j' (by omega)) fun b hb1 hb2 => o1 b ?_
        have := mul_le_of (K := K) (show j' + 1 ≤ j by omega)
        omega
  | invokevirtual idx =>
    obtain ⟨t, av, j, st1, r1, ht, hlen, rfl, hq, hjq, hjn, hwt, hnr, hf, hk⟩ := virL_ok h
    obtain ⟨y, bs, mL, rt, rm, ps, y0, y1, y2, ⟨y3, y3'⟩, y4, y5, y6, y7, y8, y9, y10, con⟩ := hml _ (look_mem ht)
    have oks' := okSt_app.mp oks
    refine ⟨_, _, _, hk, fun Q G => Goes.step (φ := okSt (pushR t.2.1 r1.1 st1)) (fun T Lo X hP => ?_) G⟩
    obtain ⟨hH, hqb⟩ := hP
    have hr := hroom q hqb
    have hclu := hH.2.2.2.1 j hjq
    have hM := con (i.1 + j * (K + 1), i.1, T.heap) (vR 0 :: av) (gt j S) r1 hf ⟨trivial, okSt_rev.mp oks'.1⟩ ⟨Nat.le_add_right _ _, hclu, ⟨fun _ _ => rfl, fun _ _ => rfl, rfl⟩, fun hh => nomatch hh⟩
    have hB := backOf (Q := fun v hh Lc => (v = Val t.2.1 r1.1 ∧ okR t.2.1 r1.1) ∧ Fr i.1 Lc ∧ HC Z C fs as K false (i.1 + j * (K + 1), i.1, T.heap) (2 * K) r1.2 hh) (R := R) (p := p) (e := e) (below := below) (s := s) (args := args) (len := 3) (W := W) hM hZ y4 (by rw [y0]; exact wz) y9 y10
    have hst : cSt (AL nob K i) (av.reverse ++ vR j :: st1) = (av.map (conc (AL nob K i))).reverse ++ .ref (AL nob K i j) :: cSt (AL nob K i) st1 := by simp [cSt, conc]
    have hsum : 2 * 0 + ((cSt (AL nob K i) st1).map fun v => v.category).sum ≤ W := by have := wt_eq (AL nob K i) st1; omega
    have hargs : (Value.ref (AL nob K i j) :: av.map (conc (AL nob K i))).toArray = ((vR 0 :: av).map (conc (AC (i.1 + j * (K + 1), i.1, T.heap)))).toArray := by
      rw [hAL j hjn, noRef_conc (AL nob K i) (AC (i.1 + j * (K + 1), i.1, T.heap)) hnr]; rfl
    have hyC : y.cls ≠ "java/lang/invoke/MethodHandle" ∧ y.cls ≠ "java/lang/invoke/VarHandle" := by rw [y0]; exact hC
    have hExa : Exa Z T.heap (AL nob K i j) C := by rw [hAL j hjn]; exact hclu.1
    obtain ⟨cB, kB, q1, q2, q3⟩ := isOf (s := s) (T := T) hZ rfl hExa
    obtain ⟨v, vm₁, ⟨T', L', k', n'⟩, hW₁, X', ⟨Lc, hQ, l1', l2', l3'⟩, stp⟩ := X.virtualBack hx (y := y) (z := y) hown (mvT hZ y1) (mvT hZ y3) (notFace_of_selects (args := #[]) (mvT hZ y3')) (mvT hZ y3') (mvT hZ y2) hyC hB q1 q3 (g := mkF m pc (cL (AL nob K i) L) (cSt (AL nob K i) (av.reverse ++ vR j :: st1))) rfl hsize (Steps.refl _) (argsL := av.map (conc (AL nob K i))) (rest := cSt (AL nob K i) st1) (lenOf y5 (by simp [hlen, y6])) hst hsum hd (fun _ _ => ⟨hargs, rfl, by rw [y7]; exact hr.1, by rw [y8]; exact hr.2⟩)
    dsimp only [Pt.U, Pt.locs, Pt.cells, Pt.slots] at X' hQ l1' l2' l3' stp
    subst l1' l2' l3'
    obtain ⟨⟨rfl, hokr⟩, hFr, hna', hclu', hoff', -⟩ := hQ
    rw [y7, y8, Nat.add_zero, Nat.add_zero] at X'
    refine ⟨T', Lc, X', hFr, ⟨HL_call H hgp (fun j' hj' => by omega) hq hjq hH hclu' hoff', hqb⟩, push_ok hokr oks'.2.2, fun target kk' => stp.trans ?_⟩
    rw [push_val]; exact kk'
  | invokestatic idx =>
    obtain ⟨t, av, st1, r1, ht, hlen, rfl, hq, hwt, hf, hk⟩ := staL_ok h
    obtain ⟨y, bs, mL, rt, rm, ps, y0, y1, y2, y3, y4, y5, y6, y7, y8, y9, y10, con⟩ := hsl _ (look_mem ht)
    have oks' := okSt_app.mp oks
    refine ⟨_, _, _, hk, fun Q G => Goes.step (φ := okSt (pushR t.2.1 r1.1 st1)) (fun T Lo X hP => ?_) G⟩
    obtain ⟨hH, hqb⟩ := hP
    have hr := hroom q hqb
    have hq16 : (16 * idx + q) / 16 = idx := by omega
    have hq17 : (16 * idx + q) % 16 = q := by omega
    dsimp only at y1 con
    rw [hq16] at y1
    rw [hq17] at con
    obtain ⟨l1, l2, l3, l4, l5, l6, l7⟩ := hH
    have hM := con (i.1, T.heap.size, i.2.2.1, i.2.2.2) av S r1 T.heap hf (okSt_rev.mp oks'.1) rfl ⟨l1, l2, l3, l4, l5, l6, fun hh => nomatch hh⟩
    have wz' : (Jvm.Cond.initialized y.cls).before a0 Z = true := by rw [y0]; exact y3
    have hB := backOf (Q := fun v hh Lc => (v = Val t.2.1 r1.1 ∧ okR t.2.1 r1.1) ∧ Fr i.1 Lc ∧ HL Z C fs as K gt false scr len sc (i.1, T.heap.size, i.2.2.1, i.2.2.2) q r1.2 hh) (R := R) (p := p) (e := e) (below := below) (s := s) (args := args) (len := 3) (W := W) hM hZ y4 wz' y9 y10
    have hst : cSt (AL nob K i) (av.reverse ++ st1) = (av.map (conc (AL nob K i))).reverse ++ cSt (AL nob K i) st1 := by simp [cSt]
    have hsum : 2 * 0 + ((cSt (AL nob K i) st1).map fun v => v.category).sum ≤ W := by have := wt_eq (AL nob K i) st1; omega
    have hyC : y.cls ≠ "java/lang/invoke/MethodHandle" ∧ y.cls ≠ "java/lang/invoke/VarHandle" := by rw [y0]; exact hO
    obtain ⟨v, vm₁, ⟨T', L', k', n'⟩, hW₁, X', ⟨Lc, hQ, l1', l2', l3'⟩, stp⟩ := Jvm.LawKit.callS X hx (y := y) hown (mvT hZ y1) (mvT hZ y2) (mvT hZ wz') (mvT hZ y4) hyC hB (g := mkF m pc (cL (AL nob K i) L) (cSt (AL nob K i) (av.reverse ++ st1))) rfl hsize (argsL := av.map (conc (AL nob K i))) (rest := cSt (AL nob K i) st1) (lenOf y5 (by simp [hlen, y6])) hst hsum hd (fun _ _ => ⟨rfl, rfl, by rw [y7]; exact hr.1, by rw [y8]; exact hr.2⟩)
    dsimp only [Pt.U, Pt.locs, Pt.cells, Pt.slots] at X' hQ l1' l2' l3' stp
    subst l1' l2' l3'
    obtain ⟨⟨rfl, hokr⟩, hFr, m1, m2, m3, m4, m5, m6, m7⟩ := hQ
    rw [y7, y8, Nat.add_zero, Nat.add_zero] at X'
    refine ⟨T', Lc, X', hFr, ⟨⟨m1, m2, m3, m4, m5, l6, l7⟩, hqb⟩, push_ok hokr oks'.2, fun target kk' => stp target ?_⟩
    rw [push_val]; exact kk'
  | iaload =>
    change ialL nob scr len sc st q S k = some r at h
    unfold ialL at h
    split at h
    · rename_i j n st1
      cases hb : (scr && Nat.beq n nob)
      · rw [hb] at h; cases h
      · rw [hb] at h
        rw [Bool.and_eq_true] at hb
        simp only [cond_true] at h
        split at h
        · rename_i hj
          have hn := Nat.eq_of_beq_eq_true hb.2
          subst hn
          refine ⟨_, _, _, h, fun Q G => Goes.step (φ := okSt (vI (sc j) :: st1)) (fun T Lo X hP => ?_) G⟩
          obtain ⟨⟨l1, l2, l3, l4, l5, l6, l7⟩, hqb⟩ := hP
          obtain ⟨m1, m2, cell, g1, g2, g3⟩ := l6 hb.1
          have hidx := idx_ok oks.1 hj.1
          have hA : AL n K i n = i.2.2.2 := by unfold AL; rw [if_neg (by omega)]
          have hjn : j.toNat < cell.slots.size := by omega
          have hcast : ((j.toNat : Nat) : Int) = j := by omega
          obtain ⟨g4, g5⟩ := g3 j.toNat hjn
          rw [hcast] at g4 g5
          have hcell : T.heap[i.2.2.2]? = some cell := by rw [l1 _ m1]; exact g1.1
          refine ⟨T, [], by rw [List.append_nil]; exact X, Fr.nil _, ⟨⟨l1, l2, l3, l4, l5, l6, l7⟩, hqb⟩, ⟨g5, oks.2.2⟩, fun target kk' => ?_⟩
          exact X.iaload hx hcell (State.isArrayOf_alike hZ.alike g1.2.1) g1.2.2 (in_ok oks.1 hj.1 (by omega)) (by rw [hidx.2]; exact g4) (g := mkF m pc (cL (AL n K i) L) (cSt (AL n K i) (vI j :: vR n :: st1))) rfl (by rw [← hA]; rfl) hd target kk'
        · cases h
    · cases h
  | arraylength =>
    change alnL nob scr len st q S k = some r at h
    unfold alnL at h
    split at h
    · rename_i n st1
      cases hb : (scr && Nat.beq n nob)
      · rw [hb] at h; cases h
      · rw [hb] at h
        rw [Bool.and_eq_true] at hb
        simp only [cond_true] at h
        have hn := Nat.eq_of_beq_eq_true hb.2
        subst hn
        refine ⟨_, _, _, h, fun Q G => Goes.step (φ := okSt (vI len :: st1)) (fun T Lo X hP => ?_) G⟩
        obtain ⟨⟨l1, l2, l3, l4, l5, l6, l7⟩, hqb⟩ := hP
        obtain ⟨m1, m2, cell, g1, g2, g3⟩ := l6 hb.1
        have hA : AL n K i n = i.2.2.2 := by unfold AL; rw [if_neg (by omega)]
        have hcell : T.heap[i.2.2.2]? = some cell := by rw [l1 _ m1]; exact g1.1
        refine ⟨T, [], by rw [List.append_nil]; exact X, Fr.nil _, ⟨⟨l1, l2, l3, l4, l5, l6, l7⟩, hqb⟩, ⟨m2, oks.2⟩, fun target kk' => ?_⟩
        refine X.arraylength hx hcell (State.isArrayOf_alike hZ.alike g1.2.1) (g := mkF m pc (cL (AL n K i) L) (cSt (AL n K i) (vR n :: st1))) rfl (by rw [← hA]; rfl) hd target ?_
        have e1 : cell.slots.size.toInt32 = Int32.ofInt len := by
          rw [← g2, Int32.ofInt_eq_ofNat]
        rw [e1]; exact kk'
    · cases h
  | ldc idx =>
    change (match look cI idx with | some x => k (.inl x :: st) q S | none => none) = some r at h
    split at h
    · rename_i x hl
      have hm := hcI _ (look_mem hl)
      refine ⟨_, _, _, h, fun Q G => Goes.step (φ := okSt (vI x :: st)) (fun T Lo X hP => ?_) G⟩
      exact ⟨T, [], by rw [List.append_nil]; exact X, Fr.nil _, hP, ⟨hm.2, oks⟩, fun target kk' => X.ldcI hx hown (mvT hZ hm.1) (g := mkF m pc (cL (AL nob K i) L) (cSt (AL nob K i) st)) rfl hd kk'⟩
    · cases h
  | ldc_w idx =>
    change (match look cI idx with | some x => k (.inl x :: st) q S | none => none) = some r at h
    split at h
    · rename_i x hl
      have hm := hcI _ (look_mem hl)
      refine ⟨_, _, _, h, fun Q G => Goes.step (φ := okSt (vI x :: st)) (fun T Lo X hP => ?_) G⟩
      exact ⟨T, [], by rw [List.append_nil]; exact X, Fr.nil _, hP, ⟨hm.2, oks⟩, fun target kk' => X.ldcWI hx hown (mvT hZ hm.1) (g := mkF m pc (cL (AL nob K i) L) (cSt (AL nob K i) st)) rfl hd kk'⟩
    · cases h
  | ldc2_w idx =>
    change (match look cJ idx with | some x => k (.inr (.inl x) :: st) q S | none => none) = some r at h
    split at h
    · rename_i x hl
      have hm := hcJ _ (look_mem hl)
      refine ⟨_, _, _, h, fun Q G => Goes.step (φ := okSt (vL x :: st)) (fun T Lo X hP => ?_) G⟩
      exact ⟨T, [], by rw [List.append_nil]; exact X, Fr.nil _, hP, ⟨hm.2, oks⟩, fun target kk' => X.ldc2J hx hown (mvT hZ hm.1) (g := mkF m pc (cL (AL nob K i) L) (cSt (AL nob K i) st)) rfl hd kk'⟩
    · cases h
  | _ => cases h
/-- a helper's contract off its first block -/
theorem conL_of {y : MethodName} {km : List Nat} {rk qs : Nat} {fn : Jn σ} {i : IL} {av : List AV} {S : σ} {r : Int × σ} {h : Heap} (hB : Blk l Z own bytes maxL ret false R (AL nob K) nL zL (fun _ => 0) (fun _ => 0) (fun i q S h => HL Z C fs as K gt false scr len sc i q S h ∧ q ≤ 2 * nob) km rk qs (0, qs, fn)) (hpl : plainName own = true) (hy : y.cls = own) (hq : qs ≤ 2 * nob)
    (hf : fn (entryL av maxL) [] S = some r) (hok : okL km (entryL av maxL)) (hz : i.2.1 = h.size) (hH : HL Z C fs as K gt false scr len sc i qs S h) :
    MetFree l y (head1 [Jvm.Cond.code y bytes maxL ret] R) (fun x U => x = (av.map (conc (AL nob K i))).toArray ∧ Z.Warmed39 U.vm ∧ U.heap = h) (fun _ _ _ _ _ => True)
      (fun _ U o U' => ∃ v L, o = .returned v ∧ ((v = Val rk r.1 ∧ okR rk r.1) ∧ Fr (nL i) L ∧ HL Z C fs as K gt false scr len sc i qs r.2 U'.heap) ∧ FrameEnd U o U' L R.cells R.slots) := by
  intro p e ha hc hk s m args below hfr happ hP hK
  obtain ⟨n, o, h1, h2, h3, v, L, h4, ⟨h5, h6, h7⟩, h8⟩ := met_of_blk (ws := []) hB (by rw [hy]; exact hpl) hy (fun hh => nomatch hh) rfl rfl hf hok ⟨hH, hq⟩ hz.symm p e ha hc hk s m args below hfr happ hP hK
  exact ⟨n, o, h1, h2, h3, v, L, h4, ⟨h5, h6, h7.1⟩, h8⟩
/-- the constructor's contract off its first block -/
theorem conK_of {y : MethodName} {km : List Nat} {fn : Jn St} {f : List AV → St → RS St} (hB : Blk l Z C bytes maxL none true R AC nC zC (cC true) (sC as true) (HC Z C fs as K true) km 0 (2 * K) (0, 0, fn)) (hpl : plainName C = true) (hy : y.cls = C) (hyn : y.name = "<init>")
    (hf : ∀ av S r, f av S = some r → okSt av → fn (entryL av maxL) [] S = some r ∧ okL km (entryL av maxL)) : ConK l Z C fs as K y bytes maxL R f := by
  intro i av S r h oks hH
  obtain ⟨h1, h2⟩ := hf av S r h oks
  exact met_of_blk (ws := []) hB (by rw [hy]; exact hpl) hy (fun _ => hyn) rfl rfl h1 h2 hH rfl
end LawHop
/-! # 8. from the sheet's words to the walk -/
theorem init_own {s : State} {m : MethodId} {args a : Array Value} {below : List Frame} {x : MethodName} (hn : s.methodNamed? x = some m) (hr : s.ripe m args below = true) : (Jvm.Cond.initialized x.cls).before a s = true := by
  have hc := findClass_of_methodNamed hn
  rw [State.ripe_iff, Bool.and_eq_true] at hr
  have h1 := hr.1
  unfold State.classRipe at h1
  cases hk : s.vm.classes[m.cls]? with
  | none => rw [hk] at h1; cases h1
  | some k =>
    rw [hk] at h1
    simp only [Option.any_some, decide_eq_true_eq] at h1
    simp [Cond.before, Cond.holds, Cond.value, hc, hk, h1]
def scOf (c : Cell) (j : Int) : Int := match c.slots[j.toNat]? with
  | some (.int x) => x.toInt
  | _ => 0
theorem script_of {s : State} {a : Addr} {c : Cell} (hf : Fit s) (A : Arr s s.heap a c .int) : ArrIs s s.heap a 0 c.slots.size (scOf c) := by
  refine ⟨c, A, rfl, fun i hi => ?_⟩
  have q := hf A.1 hi
  obtain ⟨hs, k, hk, comp, hkind⟩ := A.2.1
  have e : s.slotType? c.cls c.vm i = some .int := by
    cases hq : c.vm <;> first | exact absurd hq (hs _) | simp [State.slotType?, hk, hkind]
  have q2 : fits .int c.slots[i] = true := by simpa [State.fitsSlot, e] using q
  obtain ⟨x, hx⟩ := fit_I q2 (Or.inl rfl)
  have h1 : c.slots[i]? = some (.int x) := by rw [Array.getElem?_eq_getElem hi, hx]
  have h2 : scOf c (i : Int) = x.toInt := by simp [scOf, h1]
  rw [h2]
  exact ⟨by rw [h1]; show some (Value.int x) = some (Value.int (Int32.ofInt x.toInt)); rw [Int32.ofInt_toInt], ri32 x⟩
end Jvm.OwnKit
namespace Jvm.OwnKit
open Sem ClassFile Op Lib Jvm.Stand Jvm.Free Jvm.LawKit Jvm.RoadKit
/-! # 9. plain lemmas -/
theorem stw_eq (S : St) (h : Nat) (i v : Int) : stw S h i v h i = v := by simp [stw]
theorem stw_h (S : St) {h h' : Nat} (i v j : Int) (e : h' ≠ h) : stw S h i v h' j = S h' j := by simp [stw, e]
theorem stw_i (S : St) (h h' : Nat) {i j : Int} (v : Int) (e : j ≠ i) : stw S h i v h' j = S h' j := by simp [stw, e]
theorem w32_of {x : Int} (h1 : -2147483648 ≤ x) (h2 : x < 2147483648) : w32 x = x := w32_id ⟨h1, h2⟩
theorem w64_of {x : Int} (h1 : -9223372036854775808 ≤ x) (h2 : x < 9223372036854775808) : w64 x = x := w64_id ⟨h1, h2⟩
theorem lcmp_eq0 (x y : Int) : lcmp x y = 0 ↔ x = y := by unfold lcmp; split <;> (try split) <;> omega
theorem script_len {s : State} {a : Addr} {cl : Cell} {lim : Int32} {t : Term} {args : Array Value} {first : State} {o : Option Outcome} {idx : List Nat} (e0 : t.eval args first o idx s = some (.ref a)) (Ar : Arr s s.heap a cl .int) (n1 : (Jvm.Cond.le (Jvm.Term.length t) (Jvm.Term.int lim)).value args first o s idx = some true) : (cl.slots.size : Int) ≤ lim.toInt := by
  cases hl : (Jvm.Term.length t).eval args first o idx s with
  | none => simp [Cond.value, hl] at n1
  | some v =>
    obtain ⟨b, cell, h1, h2, h3, h4⟩ := Jvm.Lib.length_spec hl
    obtain rfl : a = b := by rw [e0] at h1; cases h1; rfl
    have h5 := (Jvm.Lib.arrayAt_spec h2).1
    obtain rfl : cl = cell := by have := Ar.1; rw [this] at h5; cases h5; rfl
    subst h4
    have hi : (Jvm.Term.int lim).eval args first o idx s = some (.int lim) := rfl
    have h6 : (Jvm.Cond.le (Jvm.Term.length t) (Jvm.Term.int lim)).value args first o s idx = some (decide (cl.slots.size.toInt32 ≤ lim)) := by simp only [Cond.value, hl, hi]
    have h7 := gotT h6 n1
    rw [Int32.le_iff_toInt_le] at h7
    have h8 : cl.slots.size.toInt32.toInt = cl.slots.size := Int32.toInt_ofNat_of_lt h3
    rw [h8] at h7
    exact h7
theorem staL_mk {σ : Type} {l : Launch} {Z : State} {a0 : Array Value} {own C : String} {fs : List FE} {as : List AE} {K nob W : Nat} {R : Room} {gt : Nat → σ → St} {scr : Bool} {len : Int} {sc : Int → Int} {k n rk : Nat} {F : List AV → σ → RS σ} (idx q : Nat) (h1 : k / 16 = idx) (h2 : k % 16 = q)
    (h : ∃ (y : MethodName) (bytes : ByteArray) (maxL : Nat) (ret : Option FieldType) (rm : Room) (ps : List FieldType), y.cls = own ∧ (Jvm.Cond.methodLink own idx y).before a0 Z = true ∧ (Jvm.Cond.static y).before a0 Z = true ∧ (Jvm.Cond.initialized own).before a0 Z = true ∧
      (Jvm.Cond.code y bytes maxL ret).before a0 Z = true ∧ parseMethodDescriptor y.desc = some ⟨ps, ret⟩ ∧ ps.length = n ∧ rm.cells = 0 ∧ rm.slots = 0 ∧ rm.frames + 1 ≤ R.frames ∧ W + (maxL + 11) + rm.locals ≤ R.locals ∧ ConL l Z C fs as K nob gt scr len sc y bytes maxL ret rm rk q F) :
    StaL l Z a0 own C fs as K nob W R gt scr len sc (k, n, rk, F) := by
  subst h1; subst h2; exact h
end Jvm.OwnKit
namespace Jvm.Pilot.@@N@@
open Jvm Jvm.ClassFile Sem Op Lib Jvm.Free Jvm.Stand Jvm.LawKit Jvm.RoadKit Bundle Jvm.OwnKit Jvm.Pilot.@@N@@.Jvm.D
/-! ## the class's fields and arrays -/
def fsT : List FE := [(7, 0, 3, 1, "opKind", "[I"), (13, 1, 4, 1, "opKey", "[I"), (16, 2, 5, 1, "opValue", "[I"), (19, 3, 6, 1, "opCover", "[J"), (23, 4, 7, 1, "context", "[J"), (26, 5, 8, 1, "clock", "[I"), (29, 6, 9, 1, "regStore", "[J"), (32, 7, 10, 1, "flagStore", "[J"), (35, 8, 11, 1, "viewValue", "[I"), (38, 9, 12, 1, "viewFlags", "[I"), (41, 10, 13, 1, "viewKeys", "[I"), (44, 11, 14, 1, "seq", "[I"), (47, 12, 15, 1, "low", "[I"), (50, 13, 16, 1, "acked", "[I"), (53, 14, 17, 1, "received", "[I"), (56, 15, 18, 1, "ring", "[J"), (59, 16, 19, 1, "msgKind", "[I"), (62, 17, 20, 1, "msgFrom", "[I"), (65, 18, 21, 1, "msgTo", "[I"), (68, 19, 22, 1, "msgStart", "[I"), (71, 20, 23, 1, "msgEnd", "[I"), (74, 21, 24, 1, "msgContext", "[J"), (77, 22, 25, 1, "msgDelta", "[J"), (84, 23, 0, 0, "keyCount", "I"), (88, 24, 0, 0, "slotCount", "I"), (91, 25, 0, 0, "capacity", "I")]
def asT : List AE := [(1, 0, 64), (2, 0, 64), (3, 0, 64), (4, 4, 64), (5, 4, 4), (6, 0, 16), (7, 4, 32), (8, 4, 32), (9, 0, 128), (10, 0, 4), (11, 0, 4), (12, 0, 4), (13, 0, 4), (14, 0, 16), (15, 0, 16), (16, 4, 32), (17, 0, 12), (18, 0, 12), (19, 0, 12), (20, 0, 12), (21, 0, 12), (22, 4, 12), (23, 4, 12)]
-- S 0 0: opKind [I (the array S 1, of 64)
-- S 0 1: opKey [I (the array S 2, of 64)
-- S 0 2: opValue [I (the array S 3, of 64)
-- S 0 3: opCover [J (the array S 4, of 64)
-- S 0 4: context [J (the array S 5, of 4)
-- S 0 5: clock [I (the array S 6, of 16)
-- S 0 6: regStore [J (the array S 7, of 32)
-- S 0 7: flagStore [J (the array S 8, of 32)
-- S 0 8: viewValue [I (the array S 9, of 128)
-- S 0 9: viewFlags [I (the array S 10, of 4)
-- S 0 10: viewKeys [I (the array S 11, of 4)
-- S 0 11: seq [I (the array S 12, of 4)
-- S 0 12: low [I (the array S 13, of 4)
-- S 0 13: acked [I (the array S 14, of 16)
-- S 0 14: received [I (the array S 15, of 16)
-- S 0 15: ring [J (the array S 16, of 32)
-- S 0 16: msgKind [I (the array S 17, of 12)
-- S 0 17: msgFrom [I (the array S 18, of 12)
-- S 0 18: msgTo [I (the array S 19, of 12)
-- S 0 19: msgStart [I (the array S 20, of 12)
-- S 0 20: msgEnd [I (the array S 21, of 12)
-- S 0 21: msgContext [J (the array S 22, of 12)
-- S 0 22: msgDelta [J (the array S 23, of 12)
-- S 0 23: keyCount I
-- S 0 24: slotCount I
-- S 0 25: capacity I
theorem pnC : plainName "DeltaCausalMap" = true := by first | (simp [plainName, overriddenIn]; done) | decide +kernel
theorem pnL : plainName "DeltaCausalMapL2" = true := by first | (simp [plainName, overriddenIn]; done) | decide +kernel
theorem mhC : notMH "DeltaCausalMap" := by unfold notMH; decide
theorem mhL : notMH "DeltaCausalMapL2" := by unfold notMH; decide
set_option maxRecDepth 65536 in
theorem fsT_ok : fsOk fsT asT 23 = true := by decide +kernel
set_option maxRecDepth 65536 in
theorem fsT_keys : keysOk fsT = true := by decide +kernel
set_option maxRecDepth 65536 in
set_option maxHeartbeats 4000000 in
theorem clsT {Z : State} {a0 : Array Value} (hw : ∀ d ∈ tables_1, d.before a0 Z = true) : ClsOk Z a0 "DeltaCausalMap" 26 fsT asT 23 :=
  ⟨(hw _ (List.mem_of_getElem? (i := 1) rfl)), (fc ⟨(hw _ (List.mem_of_getElem? (i := 10) rfl)), Or.inr ⟨by decide, (hw _ (List.mem_of_getElem? (i := 11) rfl))⟩⟩ (fc ⟨(hw _ (List.mem_of_getElem? (i := 12) rfl)), Or.inr ⟨by decide, (hw _ (List.mem_of_getElem? (i := 13) rfl))⟩⟩ (fc ⟨(hw _ (List.mem_of_getElem? (i := 14) rfl)), Or.inr ⟨by decide, (hw _ (List.mem_of_getElem? (i := 15) rfl))⟩⟩ (fc ⟨(hw _ (List.mem_of_getElem? (i := 17) rfl)), Or.inr ⟨by decide, (hw _ (List.mem_of_getElem? (i := 18) rfl))⟩⟩ (fc ⟨(hw _ (List.mem_of_getElem? (i := 19) rfl)), Or.inr ⟨by decide, (hw _ (List.mem_of_getElem? (i := 20) rfl))⟩⟩ (fc ⟨(hw _ (List.mem_of_getElem? (i := 21) rfl)), Or.inr ⟨by decide, (hw _ (List.mem_of_getElem? (i := 22) rfl))⟩⟩ (fc ⟨(hw _ (List.mem_of_getElem? (i := 23) rfl)), Or.inr ⟨by decide, (hw _ (List.mem_of_getElem? (i := 24) rfl))⟩⟩ (fc ⟨(hw _ (List.mem_of_getElem? (i := 25) rfl)), Or.inr ⟨by decide, (hw _ (List.mem_of_getElem? (i := 26) rfl))⟩⟩ (fc ⟨(hw _ (List.mem_of_getElem? (i := 27) rfl)), Or.inr ⟨by decide, (hw _ (List.mem_of_getElem? (i := 28) rfl))⟩⟩ (fc ⟨(hw _ (List.mem_of_getElem? (i := 29) rfl)), Or.inr ⟨by decide, (hw _ (List.mem_of_getElem? (i := 30) rfl))⟩⟩ (fc ⟨(hw _ (List.mem_of_getElem? (i := 31) rfl)), Or.inr ⟨by decide, (hw _ (List.mem_of_getElem? (i := 32) rfl))⟩⟩ (fc ⟨(hw _ (List.mem_of_getElem? (i := 33) rfl)), Or.inr ⟨by decide, (hw _ (List.mem_of_getElem? (i := 34) rfl))⟩⟩ (fc ⟨(hw _ (List.mem_of_getElem? (i := 35) rfl)), Or.inr ⟨by decide, (hw _ (List.mem_of_getElem? (i := 36) rfl))⟩⟩ (fc ⟨(hw _ (List.mem_of_getElem? (i := 37) rfl)), Or.inr ⟨by decide, (hw _ (List.mem_of_getElem? (i := 38) rfl))⟩⟩ (fc ⟨(hw _ (List.mem_of_getElem? (i := 39) rfl)), Or.inr ⟨by decide, (hw _ (List.mem_of_getElem? (i := 40) rfl))⟩⟩ (fc ⟨(hw _ (List.mem_of_getElem? (i := 41) rfl)), Or.inr ⟨by decide, (hw _ (List.mem_of_getElem? (i := 42) rfl))⟩⟩ (fc ⟨(hw _ (List.mem_of_getElem? (i := 43) rfl)), Or.inr ⟨by decide, (hw _ (List.mem_of_getElem? (i := 44) rfl))⟩⟩ (fc ⟨(hw _ (List.mem_of_getElem? (i := 45) rfl)), Or.inr ⟨by decide, (hw _ (List.mem_of_getElem? (i := 46) rfl))⟩⟩ (fc ⟨(hw _ (List.mem_of_getElem? (i := 47) rfl)), Or.inr ⟨by decide, (hw _ (List.mem_of_getElem? (i := 48) rfl))⟩⟩ (fc ⟨(hw _ (List.mem_of_getElem? (i := 49) rfl)), Or.inr ⟨by decide, (hw _ (List.mem_of_getElem? (i := 50) rfl))⟩⟩ (fc ⟨(hw _ (List.mem_of_getElem? (i := 51) rfl)), Or.inr ⟨by decide, (hw _ (List.mem_of_getElem? (i := 52) rfl))⟩⟩ (fc ⟨(hw _ (List.mem_of_getElem? (i := 53) rfl)), Or.inr ⟨by decide, (hw _ (List.mem_of_getElem? (i := 54) rfl))⟩⟩ (fc ⟨(hw _ (List.mem_of_getElem? (i := 55) rfl)), Or.inr ⟨by decide, (hw _ (List.mem_of_getElem? (i := 56) rfl))⟩⟩ (fc ⟨(hw _ (List.mem_of_getElem? (i := 61) rfl)), Or.inl ⟨rfl, (hw _ (List.mem_of_getElem? (i := 62) rfl))⟩⟩ (fc ⟨(hw _ (List.mem_of_getElem? (i := 63) rfl)), Or.inl ⟨rfl, (hw _ (List.mem_of_getElem? (i := 64) rfl))⟩⟩ (fc ⟨(hw _ (List.mem_of_getElem? (i := 65) rfl)), Or.inl ⟨rfl, (hw _ (List.mem_of_getElem? (i := 66) rfl))⟩⟩ fn)))))))))))))))))))))))))), (fc (hw _ (List.mem_of_getElem? (i := 9) rfl)) (fc (hw _ (List.mem_of_getElem? (i := 9) rfl)) (fc (hw _ (List.mem_of_getElem? (i := 9) rfl)) (fc (hw _ (List.mem_of_getElem? (i := 16) rfl)) (fc (hw _ (List.mem_of_getElem? (i := 16) rfl)) (fc (hw _ (List.mem_of_getElem? (i := 9) rfl)) (fc (hw _ (List.mem_of_getElem? (i := 16) rfl)) (fc (hw _ (List.mem_of_getElem? (i := 16) rfl)) (fc (hw _ (List.mem_of_getElem? (i := 9) rfl)) (fc (hw _ (List.mem_of_getElem? (i := 9) rfl)) (fc (hw _ (List.mem_of_getElem? (i := 9) rfl)) (fc (hw _ (List.mem_of_getElem? (i := 9) rfl)) (fc (hw _ (List.mem_of_getElem? (i := 9) rfl)) (fc (hw _ (List.mem_of_getElem? (i := 9) rfl)) (fc (hw _ (List.mem_of_getElem? (i := 9) rfl)) (fc (hw _ (List.mem_of_getElem? (i := 16) rfl)) (fc (hw _ (List.mem_of_getElem? (i := 9) rfl)) (fc (hw _ (List.mem_of_getElem? (i := 9) rfl)) (fc (hw _ (List.mem_of_getElem? (i := 9) rfl)) (fc (hw _ (List.mem_of_getElem? (i := 9) rfl)) (fc (hw _ (List.mem_of_getElem? (i := 9) rfl)) (fc (hw _ (List.mem_of_getElem? (i := 16) rfl)) (fc (hw _ (List.mem_of_getElem? (i := 16) rfl)) fn))))))))))))))))))))))), fsT_ok, fsT_keys⟩
def cIT : List (Nat × Int) := [(157, 2147483647)]
def cJT : List (Nat × Int) := [(143, (-1))]
set_option maxRecDepth 65536 in
theorem cIT_ok {Z : State} {a0 : Array Value} (hw : ∀ d ∈ tables_1, d.before a0 Z = true) : ∀ x ∈ cIT, (Jvm.Cond.constant "DeltaCausalMap" x.1 (Int32.ofInt x.2)).before a0 Z = true ∧ R32 x.2 := fc ⟨(hw _ (List.mem_of_getElem? (i := 155) rfl)), by unfold R32; decide⟩ (fn)
set_option maxRecDepth 65536 in
theorem cJT_ok {Z : State} {a0 : Array Value} (hw : ∀ d ∈ tables_1, d.before a0 Z = true) : ∀ x ∈ cJT, (Jvm.Cond.constantLong "DeltaCausalMap" x.1 (Int64.ofInt x.2)).before a0 Z = true ∧ R64 x.2 := fc ⟨(hw _ (List.mem_of_getElem? (i := 166) rfl)), by unfold R64; decide⟩ (fn)
/-! ## DeltaCausalMap.clamp:(III)I -/
set_option maxRecDepth 65536 in
set_option maxHeartbeats 4000000 in
theorem m_clamp_hop (l : Launch) {Z : State} {a0 : Array Value} (hw : ∀ d ∈ tables_1, d.before a0 Z = true) (N : Nat) : HopAll l Z "DeltaCausalMap" prog_1_method_45_code 4 (some .int) false ({ frames := 0, cells := 0, slots := 0, locals := 0 } : Room) AC nC zC (cC false) (sC asT false) (HC Z "DeltaCausalMap" fsT asT 23 false) (hopC fsT asT 23 0 false 1 cIT cJT [] []) :=
  hopC_all (clsT hw) mhC (hw _ (List.mem_of_getElem? (i := 2) rfl)) (fun h => nomatch h) (cIT_ok hw) (cJT_ok hw) fn fn (by decide) (by decide)
def m_clamp (N : Nat) (x1 : Int) (x2 : Int) (x3 : Int) (S : St) : RS St :=
  (if x1 < x2 then
    some (x2, S)
  else
    (if x3 < x1 then
      some (x3, S)
    else
      some (x1, S)))
def m_clamp_0_P (f : Int → Int → Int → St → RS St) : Jn St := fun L st S => match L, st with
  | [_, some (some (.inl x1)), some (some (.inl x2)), some (some (.inl x3))], [] => f x1 x2 x3 S
  | _, _ => none
def m_clamp_c : List Ent := [(0, .iload_n 1, 1, []), (1, .iload_n 2, 1, []), (2, .if_icmp .ge 5, 3, [7]), (5, .iload_n 2, 1, []), (6, .ireturn, 1, []), (7, .iload_n 1, 1, []), (8, .iload_n 3, 1, []), (9, .if_icmp .le 5, 3, [14]), (12, .iload_n 3, 1, []), (13, .ireturn, 1, []), (14, .iload_n 1, 1, []), (15, .ireturn, 1, [])]
set_option maxRecDepth 65536 in
theorem m_clamp_cOk : codeOk prog_1_method_45_code m_clamp_c = true := by decide +kernel
set_option maxRecDepth 65536 in
set_option maxHeartbeats 4000000 in
theorem m_clamp_0_ok (l : Launch) {Z : State} {a0 : Array Value} (hw : ∀ d ∈ tables_1, d.before a0 Z = true) (N : Nat) : Blk l Z "DeltaCausalMap" prog_1_method_45_code 4 (some .int) false ({ frames := 0, cells := 0, slots := 0, locals := 0 } : Room) AC nC zC (cC false) (sC asT false) (HC Z "DeltaCausalMap" fsT asT 23 false) [0, 0, 0, 0] 1 46 (0, 46, m_clamp_0_P (m_clamp N)) :=
  blk_of_den (jl := []) (lst := m_clamp_c) (m_clamp_hop l hw N) (Or.inr (Or.inl ⟨rfl, rfl⟩)) rfl (by decide) (by decide) m_clamp_cOk fn (fun L st S r ok h => by unfold m_clamp_0_P at h; split at h; exact h; cases h)
def m_clamp_F (N : Nat) : List AV → St → RS St := fun av S => match av with
  | [.inr (.inr (some 0)), .inl x1, .inl x2, .inl x3] => m_clamp N x1 x2 x3 S
  | _ => none
theorem m_clamp_P0 (f : Int → Int → Int → St → RS St) (x1 : Int) (x2 : Int) (x3 : Int) (S : St) : m_clamp_0_P f (entryL [.inr (.inr (some 0)), .inl x1, .inl x2, .inl x3] 4) [] S = f x1 x2 x3 S := rfl
set_option maxRecDepth 65536 in
set_option maxHeartbeats 4000000 in
theorem m_clamp_con (l : Launch) {Z : State} {a0 : Array Value} (hw : ∀ d ∈ tables_1, d.before a0 Z = true) (N : Nat) : Con l Z "DeltaCausalMap" fsT asT 23 (⟨"DeltaCausalMap", "clamp", "(III)I"⟩ : MethodName) prog_1_method_45_code 4 (some .int) ({ frames := 0, cells := 0, slots := 0, locals := 0 } : Room) 1 (m_clamp_F N) :=
  con_of (m_clamp_0_ok l hw N) pnC rfl (fun av S r h oks => by unfold m_clamp_F at h; split at h; exact ⟨(m_clamp_P0 _ _ _ _ _).trans h, okL_entry rfl oks rfl⟩; cases h)
set_option maxRecDepth 65536 in
theorem m_clamp_vir (l : Launch) {Z : State} {a0 : Array Value} (hw : ∀ d ∈ tables_1, d.before a0 Z = true) (N : Nat) (W : Nat) (R : Room) (h1 : 1 ≤ R.frames) (h2 : W + 15 ≤ R.locals) : VirOk l Z a0 "DeltaCausalMap" fsT asT 23 W R (80, 3, 1, m_clamp_F N) :=
  ⟨(⟨"DeltaCausalMap", "clamp", "(III)I"⟩ : MethodName), prog_1_method_45_code, 4, (some .int), ({ frames := 0, cells := 0, slots := 0, locals := 0 } : Room), [.int, .int, .int], rfl, (hw _ (List.mem_of_getElem? (i := 57) rfl)), (hw _ (List.mem_of_getElem? (i := 58) rfl)), Or.inl (hw _ (List.mem_of_getElem? (i := 59) rfl)), (hw _ (List.mem_of_getElem? (i := 60) rfl)), by decide +kernel, rfl, rfl, rfl, h1, by dsimp only; omega, m_clamp_con l hw N⟩
/-! ## DeltaCausalMap.<init>:(III)V -/
set_option maxRecDepth 65536 in
set_option maxHeartbeats 4000000 in
theorem m_init_hop (l : Launch) {Z : State} {a0 : Array Value} (hw : ∀ d ∈ tables_1, d.before a0 Z = true) (N : Nat) : HopAll l Z "DeltaCausalMap" prog_1_method_1_code 4 none true ({ frames := 1, cells := 23, slots := 632, locals := 16 } : Room) AC nC zC (cC true) (sC asT true) (HC Z "DeltaCausalMap" fsT asT 23 true) (hopC fsT asT 23 1 true 1 cIT cJT [(80, 3, 1, m_clamp_F N)] []) :=
  hopC_all (clsT hw) mhC (hw _ (List.mem_of_getElem? (i := 2) rfl)) (fun _ => ⟨(hw _ (List.mem_of_getElem? (i := 6) rfl)), (hw _ (List.mem_of_getElem? (i := 7) rfl)), (hw _ (List.mem_of_getElem? (i := 8) rfl)), by decide, by decide⟩) (cIT_ok hw) (cJT_ok hw) (fc (m_clamp_vir l hw N _ _ (by decide) (by decide)) fn) fn (by decide) (by decide)
def m_init (N : Nat) (x1 : Int) (x2 : Int) (x3 : Int) (S : St) : RS St :=
  ((m_clamp N x1 2 8 S).bind fun r1 =>
  ((m_clamp N x2 2 12 (stw r1.2 0 23 r1.1)).bind fun r2 =>
  ((m_clamp N x3 1 8 (stw r2.2 0 24 r2.1)).bind fun r3 =>
  some (0, stw r3.2 0 25 r3.1))))
def m_init_0_P (f : Int → Int → Int → St → RS St) : Jn St := fun L st S => match L, st with
  | [some (some (.inr (.inr (some 0)))), some (some (.inl x1)), some (some (.inl x2)), some (some (.inl x3))], [] => f x1 x2 x3 S
  | _, _ => none
def m_init_c : List Ent := [(0, .aload_n 0, 1, []), (1, .invokespecial 1, 3, []), (4, .aload_n 0, 1, []), (5, .bipush 64, 2, []), (7, .newarray .int, 2, []), (9, .putfield 7, 3, []), (12, .aload_n 0, 1, []), (13, .bipush 64, 2, []), (15, .newarray .int, 2, []), (17, .putfield 13, 3, []), (20, .aload_n 0, 1, []), (21, .bipush 64, 2, []), (23, .newarray .int, 2, []), (25, .putfield 16, 3, []), (28, .aload_n 0, 1, []), (29, .bipush 64, 2, []), (31, .newarray .long, 2, []), (33, .putfield 19, 3, []), (36, .aload_n 0, 1, []), (37, .iconst 4, 1, []), (38, .newarray .long, 2, []), (40, .putfield 23, 3, []), (43, .aload_n 0, 1, []), (44, .bipush 16, 2, []), (46, .newarray .int, 2, []), (48, .putfield 26, 3, []), (51, .aload_n 0, 1, []), (52, .bipush 32, 2, []), (54, .newarray .long, 2, []), (56, .putfield 29, 3, []), (59, .aload_n 0, 1, []), (60, .bipush 32, 2, []), (62, .newarray .long, 2, []), (64, .putfield 32, 3, []), (67, .aload_n 0, 1, []), (68, .sipush 128, 3, []), (71, .newarray .int, 2, []), (73, .putfield 35, 3, []), (76, .aload_n 0, 1, []), (77, .iconst 4, 1, []), (78, .newarray .int, 2, []), (80, .putfield 38, 3, []), (83, .aload_n 0, 1, []), (84, .iconst 4, 1, []), (85, .newarray .int, 2, []), (87, .putfield 41, 3, []), (90, .aload_n 0, 1, []), (91, .iconst 4, 1, []), (92, .newarray .int, 2, []), (94, .putfield 44, 3, []), (97, .aload_n 0, 1, []), (98, .iconst 4, 1, []), (99, .newarray .int, 2, []), (101, .putfield 47, 3, []), (104, .aload_n 0, 1, []), (105, .bipush 16, 2, []), (107, .newarray .int, 2, []), (109, .putfield 50, 3, []), (112, .aload_n 0, 1, []), (113, .bipush 16, 2, []), (115, .newarray .int, 2, []), (117, .putfield 53, 3, []), (120, .aload_n 0, 1, []), (121, .bipush 32, 2, []), (123, .newarray .long, 2, []), (125, .putfield 56, 3, []), (128, .aload_n 0, 1, []), (129, .bipush 12, 2, []), (131, .newarray .int, 2, []), (133, .putfield 59, 3, []), (136, .aload_n 0, 1, []), (137, .bipush 12, 2, []), (139, .newarray .int, 2, []), (141, .putfield 62, 3, []), (144, .aload_n 0, 1, []), (145, .bipush 12, 2, []), (147, .newarray .int, 2, []), (149, .putfield 65, 3, []), (152, .aload_n 0, 1, []), (153, .bipush 12, 2, []), (155, .newarray .int, 2, []), (157, .putfield 68, 3, []), (160, .aload_n 0, 1, []), (161, .bipush 12, 2, []), (163, .newarray .int, 2, []), (165, .putfield 71, 3, []), (168, .aload_n 0, 1, []), (169, .bipush 12, 2, []), (171, .newarray .long, 2, []), (173, .putfield 74, 3, []), (176, .aload_n 0, 1, []), (177, .bipush 12, 2, []), (179, .newarray .long, 2, []), (181, .putfield 77, 3, []), (184, .aload_n 0, 1, []), (185, .aload_n 0, 1, []), (186, .iload_n 1, 1, []), (187, .iconst 2, 1, []), (188, .bipush 8, 2, []), (190, .invokevirtual 80, 3, []), (193, .putfield 84, 3, []), (196, .aload_n 0, 1, []), (197, .aload_n 0, 1, []), (198, .iload_n 2, 1, []), (199, .iconst 2, 1, []), (200, .bipush 12, 2, []), (202, .invokevirtual 80, 3, []), (205, .putfield 88, 3, []), (208, .aload_n 0, 1, []), (209, .aload_n 0, 1, []), (210, .iload_n 3, 1, []), (211, .iconst 1, 1, []), (212, .bipush 8, 2, []), (214, .invokevirtual 80, 3, []), (217, .putfield 91, 3, []), (220, .return_, 1, [])]
set_option maxRecDepth 65536 in
theorem m_init_cOk : codeOk prog_1_method_1_code m_init_c = true := by decide +kernel
set_option maxRecDepth 65536 in
set_option maxHeartbeats 4000000 in
theorem m_init_0_ok (l : Launch) {Z : State} {a0 : Array Value} (hw : ∀ d ∈ tables_1, d.before a0 Z = true) (N : Nat) : Blk l Z "DeltaCausalMap" prog_1_method_1_code 4 none true ({ frames := 1, cells := 23, slots := 632, locals := 16 } : Room) AC nC zC (cC true) (sC asT true) (HC Z "DeltaCausalMap" fsT asT 23 true) [0, 0, 0, 0] 0 46 (0, 0, m_init_0_P (m_init N)) :=
  blk_of_den (jl := []) (lst := m_init_c) (m_init_hop l hw N) (Or.inl ⟨rfl, rfl⟩) rfl (by decide) (by decide) m_init_cOk fn (fun L st S r ok h => by unfold m_init_0_P at h; split at h; exact h; cases h)
def m_init_F (N : Nat) : List AV → St → RS St := fun av S => match av with
  | [.inr (.inr (some 0)), .inl x1, .inl x2, .inl x3] => m_init N x1 x2 x3 S
  | _ => none
theorem m_init_P0 (f : Int → Int → Int → St → RS St) (x1 : Int) (x2 : Int) (x3 : Int) (S : St) : m_init_0_P f (entryL [.inr (.inr (some 0)), .inl x1, .inl x2, .inl x3] 4) [] S = f x1 x2 x3 S := rfl
set_option maxRecDepth 65536 in
set_option maxHeartbeats 4000000 in
theorem m_init_con (l : Launch) {Z : State} {a0 : Array Value} (hw : ∀ d ∈ tables_1, d.before a0 Z = true) (N : Nat) : ConK l Z "DeltaCausalMap" fsT asT 23 (⟨"DeltaCausalMap", "<init>", "(III)V"⟩ : MethodName) prog_1_method_1_code 4 ({ frames := 1, cells := 23, slots := 632, locals := 16 } : Room) (m_init_F N) :=
  conK_of (m_init_0_ok l hw N) pnC rfl rfl (fun av S r h oks => by unfold m_init_F at h; split at h; exact ⟨(m_init_P0 _ _ _ _ _).trans h, okL_entry rfl oks rfl⟩; cases h)
/-! ## DeltaCausalMap.validReplica:(I)Z -/
set_option maxRecDepth 65536 in
set_option maxHeartbeats 4000000 in
theorem m_validReplica_hop (l : Launch) {Z : State} {a0 : Array Value} (hw : ∀ d ∈ tables_1, d.before a0 Z = true) (N : Nat) : HopAll l Z "DeltaCausalMap" prog_1_method_42_code 2 (some .boolean) false ({ frames := 0, cells := 0, slots := 0, locals := 0 } : Room) AC nC zC (cC false) (sC asT false) (HC Z "DeltaCausalMap" fsT asT 23 false) (hopC fsT asT 23 0 false 1 cIT cJT [] []) :=
  hopC_all (clsT hw) mhC (hw _ (List.mem_of_getElem? (i := 2) rfl)) (fun h => nomatch h) (cIT_ok hw) (cJT_ok hw) fn fn (by decide) (by decide)
def m_validReplica (N : Nat) (x1 : Int) (S : St) : RS St :=
  (if x1 < 0 then
    some (0, S)
  else
    (if x1 < 4 then
      some (1, S)
    else
      some (0, S)))
def m_validReplica_0_P (f : Int → St → RS St) : Jn St := fun L st S => match L, st with
  | [_, some (some (.inl x1))], [] => f x1 S
  | _, _ => none
def m_validReplica_c : List Ent := [(0, .iload_n 1, 1, []), (1, .ifCond .lt 12, 3, [13]), (4, .iload_n 1, 1, []), (5, .iconst 4, 1, []), (6, .if_icmp .ge 7, 3, [13]), (9, .iconst 1, 1, []), (10, .goto 4, 3, [14]), (13, .iconst 0, 1, []), (14, .ireturn, 1, [])]
set_option maxRecDepth 65536 in
theorem m_validReplica_cOk : codeOk prog_1_method_42_code m_validReplica_c = true := by decide +kernel
set_option maxRecDepth 65536 in
set_option maxHeartbeats 4000000 in
theorem m_validReplica_0_ok (l : Launch) {Z : State} {a0 : Array Value} (hw : ∀ d ∈ tables_1, d.before a0 Z = true) (N : Nat) : Blk l Z "DeltaCausalMap" prog_1_method_42_code 2 (some .boolean) false ({ frames := 0, cells := 0, slots := 0, locals := 0 } : Room) AC nC zC (cC false) (sC asT false) (HC Z "DeltaCausalMap" fsT asT 23 false) [0, 0] 3 46 (0, 46, m_validReplica_0_P (m_validReplica N)) :=
  blk_of_den (jl := []) (lst := m_validReplica_c) (m_validReplica_hop l hw N) (Or.inr (Or.inr (Or.inr ⟨rfl, rfl⟩))) rfl (by decide) (by decide) m_validReplica_cOk fn (fun L st S r ok h => by unfold m_validReplica_0_P at h; split at h; exact h; cases h)
def m_validReplica_F (N : Nat) : List AV → St → RS St := fun av S => match av with
  | [.inr (.inr (some 0)), .inl x1] => m_validReplica N x1 S
  | _ => none
theorem m_validReplica_P0 (f : Int → St → RS St) (x1 : Int) (S : St) : m_validReplica_0_P f (entryL [.inr (.inr (some 0)), .inl x1] 2) [] S = f x1 S := rfl
set_option maxRecDepth 65536 in
set_option maxHeartbeats 4000000 in
theorem m_validReplica_con (l : Launch) {Z : State} {a0 : Array Value} (hw : ∀ d ∈ tables_1, d.before a0 Z = true) (N : Nat) : Con l Z "DeltaCausalMap" fsT asT 23 (⟨"DeltaCausalMap", "validReplica", "(I)Z"⟩ : MethodName) prog_1_method_42_code 2 (some .boolean) ({ frames := 0, cells := 0, slots := 0, locals := 0 } : Room) 3 (m_validReplica_F N) :=
  con_of (m_validReplica_0_ok l hw N) pnC rfl (fun av S r h oks => by unfold m_validReplica_F at h; split at h; exact ⟨(m_validReplica_P0 _ _ _).trans h, okL_entry rfl oks rfl⟩; cases h)
set_option maxRecDepth 65536 in
theorem m_validReplica_vir (l : Launch) {Z : State} {a0 : Array Value} (hw : ∀ d ∈ tables_1, d.before a0 Z = true) (N : Nat) (W : Nat) (R : Room) (h1 : 1 ≤ R.frames) (h2 : W + 13 ≤ R.locals) : VirOk l Z a0 "DeltaCausalMap" fsT asT 23 W R (109, 1, 3, m_validReplica_F N) :=
  ⟨(⟨"DeltaCausalMap", "validReplica", "(I)Z"⟩ : MethodName), prog_1_method_42_code, 2, (some .boolean), ({ frames := 0, cells := 0, slots := 0, locals := 0 } : Room), [.int], rfl, (hw _ (List.mem_of_getElem? (i := 76) rfl)), (hw _ (List.mem_of_getElem? (i := 77) rfl)), Or.inl (hw _ (List.mem_of_getElem? (i := 78) rfl)), (hw _ (List.mem_of_getElem? (i := 79) rfl)), by decide +kernel, rfl, rfl, rfl, h1, by dsimp only; omega, m_validReplica_con l hw N⟩
/-! ## DeltaCausalMap.validKey:(I)Z -/
set_option maxRecDepth 65536 in
set_option maxHeartbeats 4000000 in
theorem m_validKey_hop (l : Launch) {Z : State} {a0 : Array Value} (hw : ∀ d ∈ tables_1, d.before a0 Z = true) (N : Nat) : HopAll l Z "DeltaCausalMap" prog_1_method_43_code 2 (some .boolean) false ({ frames := 0, cells := 0, slots := 0, locals := 0 } : Room) AC nC zC (cC false) (sC asT false) (HC Z "DeltaCausalMap" fsT asT 23 false) (hopC fsT asT 23 0 false 1 cIT cJT [] []) :=
  hopC_all (clsT hw) mhC (hw _ (List.mem_of_getElem? (i := 2) rfl)) (fun h => nomatch h) (cIT_ok hw) (cJT_ok hw) fn fn (by decide) (by decide)
def m_validKey (N : Nat) (x1 : Int) (S : St) : RS St :=
  (if x1 < 0 then
    some (0, S)
  else
    (if x1 < S 0 23 then
      some (1, S)
    else
      some (0, S)))
def m_validKey_0_P (f : Int → St → RS St) : Jn St := fun L st S => match L, st with
  | [some (some (.inr (.inr (some 0)))), some (some (.inl x1))], [] => f x1 S
  | _, _ => none
def m_validKey_c : List Ent := [(0, .iload_n 1, 1, []), (1, .ifCond .lt 15, 3, [16]), (4, .iload_n 1, 1, []), (5, .aload_n 0, 1, []), (6, .getfield 84, 3, []), (9, .if_icmp .ge 7, 3, [16]), (12, .iconst 1, 1, []), (13, .goto 4, 3, [17]), (16, .iconst 0, 1, []), (17, .ireturn, 1, [])]
set_option maxRecDepth 65536 in
theorem m_validKey_cOk : codeOk prog_1_method_43_code m_validKey_c = true := by decide +kernel
set_option maxRecDepth 65536 in
set_option maxHeartbeats 4000000 in
theorem m_validKey_0_ok (l : Launch) {Z : State} {a0 : Array Value} (hw : ∀ d ∈ tables_1, d.before a0 Z = true) (N : Nat) : Blk l Z "DeltaCausalMap" prog_1_method_43_code 2 (some .boolean) false ({ frames := 0, cells := 0, slots := 0, locals := 0 } : Room) AC nC zC (cC false) (sC asT false) (HC Z "DeltaCausalMap" fsT asT 23 false) [0, 0] 3 46 (0, 46, m_validKey_0_P (m_validKey N)) :=
  blk_of_den (jl := []) (lst := m_validKey_c) (m_validKey_hop l hw N) (Or.inr (Or.inr (Or.inr ⟨rfl, rfl⟩))) rfl (by decide) (by decide) m_validKey_cOk fn (fun L st S r ok h => by unfold m_validKey_0_P at h; split at h; exact h; cases h)
def m_validKey_F (N : Nat) : List AV → St → RS St := fun av S => match av with
  | [.inr (.inr (some 0)), .inl x1] => m_validKey N x1 S
  | _ => none
theorem m_validKey_P0 (f : Int → St → RS St) (x1 : Int) (S : St) : m_validKey_0_P f (entryL [.inr (.inr (some 0)), .inl x1] 2) [] S = f x1 S := rfl
set_option maxRecDepth 65536 in
set_option maxHeartbeats 4000000 in
theorem m_validKey_con (l : Launch) {Z : State} {a0 : Array Value} (hw : ∀ d ∈ tables_1, d.before a0 Z = true) (N : Nat) : Con l Z "DeltaCausalMap" fsT asT 23 (⟨"DeltaCausalMap", "validKey", "(I)Z"⟩ : MethodName) prog_1_method_43_code 2 (some .boolean) ({ frames := 0, cells := 0, slots := 0, locals := 0 } : Room) 3 (m_validKey_F N) :=
  con_of (m_validKey_0_ok l hw N) pnC rfl (fun av S r h oks => by unfold m_validKey_F at h; split at h; exact ⟨(m_validKey_P0 _ _ _).trans h, okL_entry rfl oks rfl⟩; cases h)
set_option maxRecDepth 65536 in
theorem m_validKey_vir (l : Launch) {Z : State} {a0 : Array Value} (hw : ∀ d ∈ tables_1, d.before a0 Z = true) (N : Nat) (W : Nat) (R : Room) (h1 : 1 ≤ R.frames) (h2 : W + 13 ≤ R.locals) : VirOk l Z a0 "DeltaCausalMap" fsT asT 23 W R (112, 1, 3, m_validKey_F N) :=
  ⟨(⟨"DeltaCausalMap", "validKey", "(I)Z"⟩ : MethodName), prog_1_method_43_code, 2, (some .boolean), ({ frames := 0, cells := 0, slots := 0, locals := 0 } : Room), [.int], rfl, (hw _ (List.mem_of_getElem? (i := 80) rfl)), (hw _ (List.mem_of_getElem? (i := 81) rfl)), Or.inl (hw _ (List.mem_of_getElem? (i := 82) rfl)), (hw _ (List.mem_of_getElem? (i := 83) rfl)), by decide +kernel, rfl, rfl, rfl, h1, by dsimp only; omega, m_validKey_con l hw N⟩
/-! ## DeltaCausalMap.refuseTarget:(II)I -/
set_option maxRecDepth 65536 in
set_option maxHeartbeats 4000000 in
theorem m_refuseTarget_hop (l : Launch) {Z : State} {a0 : Array Value} (hw : ∀ d ∈ tables_1, d.before a0 Z = true) (N : Nat) : HopAll l Z "DeltaCausalMap" prog_1_method_7_code 3 (some .int) false ({ frames := 1, cells := 0, slots := 0, locals := 13 } : Room) AC nC zC (cC false) (sC asT false) (HC Z "DeltaCausalMap" fsT asT 23 false) (hopC fsT asT 23 0 false 1 cIT cJT [(109, 1, 3, m_validReplica_F N), (112, 1, 3, m_validKey_F N)] []) :=
  hopC_all (clsT hw) mhC (hw _ (List.mem_of_getElem? (i := 2) rfl)) (fun h => nomatch h) (cIT_ok hw) (cJT_ok hw) (fc (m_validReplica_vir l hw N _ _ (by decide) (by decide)) (fc (m_validKey_vir l hw N _ _ (by decide) (by decide)) fn)) fn (by decide) (by decide)
def m_refuseTarget (N : Nat) (x1 : Int) (x2 : Int) (S : St) : RS St :=
  ((m_validReplica N x1 S).bind fun r1 =>
  (if r1.1 = 0 then
    some ((-1), r1.2)
  else
    ((m_validKey N x2 r1.2).bind fun r2 =>
    (if r2.1 = 0 then
      some ((-2), r2.2)
    else
      some (0, r2.2)))))
def m_refuseTarget_0_P (f : Int → Int → St → RS St) : Jn St := fun L st S => match L, st with
  | [some (some (.inr (.inr (some 0)))), some (some (.inl x1)), some (some (.inl x2))], [] => f x1 x2 S
  | _, _ => none
def m_refuseTarget_c : List Ent := [(0, .aload_n 0, 1, []), (1, .iload_n 1, 1, []), (2, .invokevirtual 109, 3, []), (5, .ifCond .ne 5, 3, [10]), (8, .iconst (-1), 1, []), (9, .ireturn, 1, []), (10, .aload_n 0, 1, []), (11, .iload_n 2, 1, []), (12, .invokevirtual 112, 3, []), (15, .ifCond .ne 6, 3, [21]), (18, .bipush (-2), 2, []), (20, .ireturn, 1, []), (21, .iconst 0, 1, []), (22, .ireturn, 1, [])]
set_option maxRecDepth 65536 in
theorem m_refuseTarget_cOk : codeOk prog_1_method_7_code m_refuseTarget_c = true := by decide +kernel
set_option maxRecDepth 65536 in
set_option maxHeartbeats 4000000 in
theorem m_refuseTarget_0_ok (l : Launch) {Z : State} {a0 : Array Value} (hw : ∀ d ∈ tables_1, d.before a0 Z = true) (N : Nat) : Blk l Z "DeltaCausalMap" prog_1_method_7_code 3 (some .int) false ({ frames := 1, cells := 0, slots := 0, locals := 13 } : Room) AC nC zC (cC false) (sC asT false) (HC Z "DeltaCausalMap" fsT asT 23 false) [0, 0, 0] 1 46 (0, 46, m_refuseTarget_0_P (m_refuseTarget N)) :=
  blk_of_den (jl := []) (lst := m_refuseTarget_c) (m_refuseTarget_hop l hw N) (Or.inr (Or.inl ⟨rfl, rfl⟩)) rfl (by decide) (by decide) m_refuseTarget_cOk fn (fun L st S r ok h => by unfold m_refuseTarget_0_P at h; split at h; exact h; cases h)
def m_refuseTarget_F (N : Nat) : List AV → St → RS St := fun av S => match av with
  | [.inr (.inr (some 0)), .inl x1, .inl x2] => m_refuseTarget N x1 x2 S
  | _ => none
theorem m_refuseTarget_P0 (f : Int → Int → St → RS St) (x1 : Int) (x2 : Int) (S : St) : m_refuseTarget_0_P f (entryL [.inr (.inr (some 0)), .inl x1, .inl x2] 3) [] S = f x1 x2 S := rfl
set_option maxRecDepth 65536 in
set_option maxHeartbeats 4000000 in
theorem m_refuseTarget_con (l : Launch) {Z : State} {a0 : Array Value} (hw : ∀ d ∈ tables_1, d.before a0 Z = true) (N : Nat) : Con l Z "DeltaCausalMap" fsT asT 23 (⟨"DeltaCausalMap", "refuseTarget", "(II)I"⟩ : MethodName) prog_1_method_7_code 3 (some .int) ({ frames := 1, cells := 0, slots := 0, locals := 13 } : Room) 1 (m_refuseTarget_F N) :=
  con_of (m_refuseTarget_0_ok l hw N) pnC rfl (fun av S r h oks => by unfold m_refuseTarget_F at h; split at h; exact ⟨(m_refuseTarget_P0 _ _ _ _).trans h, okL_entry rfl oks rfl⟩; cases h)
set_option maxRecDepth 65536 in
theorem m_refuseTarget_vir (l : Launch) {Z : State} {a0 : Array Value} (hw : ∀ d ∈ tables_1, d.before a0 Z = true) (N : Nat) (W : Nat) (R : Room) (h1 : 2 ≤ R.frames) (h2 : W + 27 ≤ R.locals) : VirOk l Z a0 "DeltaCausalMap" fsT asT 23 W R (94, 2, 1, m_refuseTarget_F N) :=
  ⟨(⟨"DeltaCausalMap", "refuseTarget", "(II)I"⟩ : MethodName), prog_1_method_7_code, 3, (some .int), ({ frames := 1, cells := 0, slots := 0, locals := 13 } : Room), [.int, .int], rfl, (hw _ (List.mem_of_getElem? (i := 72) rfl)), (hw _ (List.mem_of_getElem? (i := 73) rfl)), Or.inl (hw _ (List.mem_of_getElem? (i := 74) rfl)), (hw _ (List.mem_of_getElem? (i := 75) rfl)), by decide +kernel, rfl, rfl, rfl, h1, by dsimp only; omega, m_refuseTarget_con l hw N⟩
/-! ## DeltaCausalMap.exhausted:(I)Z -/
set_option maxRecDepth 65536 in
set_option maxHeartbeats 4000000 in
theorem m_exhausted_hop (l : Launch) {Z : State} {a0 : Array Value} (hw : ∀ d ∈ tables_1, d.before a0 Z = true) (N : Nat) : HopAll l Z "DeltaCausalMap" prog_1_method_8_code 2 (some .boolean) false ({ frames := 0, cells := 0, slots := 0, locals := 0 } : Room) AC nC zC (cC false) (sC asT false) (HC Z "DeltaCausalMap" fsT asT 23 false) (hopC fsT asT 23 0 false 1 cIT cJT [] []) :=
  hopC_all (clsT hw) mhC (hw _ (List.mem_of_getElem? (i := 2) rfl)) (fun h => nomatch h) (cIT_ok hw) (cJT_ok hw) fn fn (by decide) (by decide)
def m_exhausted (N : Nat) (x1 : Int) (S : St) : RS St :=
  (if 0 ≤ w32 ((w32 (x1 * 4)) + x1) ∧ w32 ((w32 (x1 * 4)) + x1) < 16 then
  (if S 6 (w32 ((w32 (x1 * 4)) + x1)) < 16 then
    some (0, S)
  else
    some (1, S))
  else none)
def m_exhausted_0_P (f : Int → St → RS St) : Jn St := fun L st S => match L, st with
  | [some (some (.inr (.inr (some 0)))), some (some (.inl x1))], [] => f x1 S
  | _, _ => none
def m_exhausted_c : List Ent := [(0, .aload_n 0, 1, []), (1, .getfield 26, 3, []), (4, .iload_n 1, 1, []), (5, .iconst 4, 1, []), (6, .imul, 1, []), (7, .iload_n 1, 1, []), (8, .iadd, 1, []), (9, .iaload, 1, []), (10, .bipush 16, 2, []), (12, .if_icmp .lt 7, 3, [19]), (15, .iconst 1, 1, []), (16, .goto 4, 3, [20]), (19, .iconst 0, 1, []), (20, .ireturn, 1, [])]
set_option maxRecDepth 65536 in
theorem m_exhausted_cOk : codeOk prog_1_method_8_code m_exhausted_c = true := by decide +kernel
set_option maxRecDepth 65536 in
set_option maxHeartbeats 4000000 in
theorem m_exhausted_0_ok (l : Launch) {Z : State} {a0 : Array Value} (hw : ∀ d ∈ tables_1, d.before a0 Z = true) (N : Nat) : Blk l Z "DeltaCausalMap" prog_1_method_8_code 2 (some .boolean) false ({ frames := 0, cells := 0, slots := 0, locals := 0 } : Room) AC nC zC (cC false) (sC asT false) (HC Z "DeltaCausalMap" fsT asT 23 false) [0, 0] 3 46 (0, 46, m_exhausted_0_P (m_exhausted N)) :=
  blk_of_den (jl := []) (lst := m_exhausted_c) (m_exhausted_hop l hw N) (Or.inr (Or.inr (Or.inr ⟨rfl, rfl⟩))) rfl (by decide) (by decide) m_exhausted_cOk fn (fun L st S r ok h => by unfold m_exhausted_0_P at h; split at h; exact h; cases h)
def m_exhausted_F (N : Nat) : List AV → St → RS St := fun av S => match av with
  | [.inr (.inr (some 0)), .inl x1] => m_exhausted N x1 S
  | _ => none
theorem m_exhausted_P0 (f : Int → St → RS St) (x1 : Int) (S : St) : m_exhausted_0_P f (entryL [.inr (.inr (some 0)), .inl x1] 2) [] S = f x1 S := rfl
set_option maxRecDepth 65536 in
set_option maxHeartbeats 4000000 in
theorem m_exhausted_con (l : Launch) {Z : State} {a0 : Array Value} (hw : ∀ d ∈ tables_1, d.before a0 Z = true) (N : Nat) : Con l Z "DeltaCausalMap" fsT asT 23 (⟨"DeltaCausalMap", "exhausted", "(I)Z"⟩ : MethodName) prog_1_method_8_code 2 (some .boolean) ({ frames := 0, cells := 0, slots := 0, locals := 0 } : Room) 3 (m_exhausted_F N) :=
  con_of (m_exhausted_0_ok l hw N) pnC rfl (fun av S r h oks => by unfold m_exhausted_F at h; split at h; exact ⟨(m_exhausted_P0 _ _ _).trans h, okL_entry rfl oks rfl⟩; cases h)
set_option maxRecDepth 65536 in
theorem m_exhausted_vir (l : Launch) {Z : State} {a0 : Array Value} (hw : ∀ d ∈ tables_1, d.before a0 Z = true) (N : Nat) (W : Nat) (R : Room) (h1 : 1 ≤ R.frames) (h2 : W + 13 ≤ R.locals) : VirOk l Z a0 "DeltaCausalMap" fsT asT 23 W R (98, 1, 3, m_exhausted_F N) :=
  ⟨(⟨"DeltaCausalMap", "exhausted", "(I)Z"⟩ : MethodName), prog_1_method_8_code, 2, (some .boolean), ({ frames := 0, cells := 0, slots := 0, locals := 0 } : Room), [.int], rfl, (hw _ (List.mem_of_getElem? (i := 103) rfl)), (hw _ (List.mem_of_getElem? (i := 104) rfl)), Or.inl (hw _ (List.mem_of_getElem? (i := 105) rfl)), (hw _ (List.mem_of_getElem? (i := 106) rfl)), by decide +kernel, rfl, rfl, rfl, h1, by dsimp only; omega, m_exhausted_con l hw N⟩
/-! ## DeltaCausalMap.storeIndex:(II)I -/
set_option maxRecDepth 65536 in
set_option maxHeartbeats 4000000 in
theorem m_storeIndex_hop (l : Launch) {Z : State} {a0 : Array Value} (hw : ∀ d ∈ tables_1, d.before a0 Z = true) (N : Nat) : HopAll l Z "DeltaCausalMap" prog_1_method_15_code 3 (some .int) false ({ frames := 0, cells := 0, slots := 0, locals := 0 } : Room) AC nC zC (cC false) (sC asT false) (HC Z "DeltaCausalMap" fsT asT 23 false) (hopC fsT asT 23 0 false 1 cIT cJT [] []) :=
  hopC_all (clsT hw) mhC (hw _ (List.mem_of_getElem? (i := 2) rfl)) (fun h => nomatch h) (cIT_ok hw) (cJT_ok hw) fn fn (by decide) (by decide)
def m_storeIndex (N : Nat) (x1 : Int) (x2 : Int) (S : St) : RS St :=
  some (w32 ((w32 ((iand x1 3) * 8)) + (iand x2 7)), S)
def m_storeIndex_0_P (f : Int → Int → St → RS St) : Jn St := fun L st S => match L, st with
  | [_, some (some (.inl x1)), some (some (.inl x2))], [] => f x1 x2 S
  | _, _ => none
def m_storeIndex_c : List Ent := [(0, .iload_n 1, 1, []), (1, .iconst 3, 1, []), (2, .iand, 1, []), (3, .bipush 8, 2, []), (5, .imul, 1, []), (6, .iload_n 2, 1, []), (7, .bipush 7, 2, []), (9, .iand, 1, []), (10, .iadd, 1, []), (11, .ireturn, 1, [])]
set_option maxRecDepth 65536 in
theorem m_storeIndex_cOk : codeOk prog_1_method_15_code m_storeIndex_c = true := by decide +kernel
set_option maxRecDepth 65536 in
set_option maxHeartbeats 4000000 in
theorem m_storeIndex_0_ok (l : Launch) {Z : State} {a0 : Array Value} (hw : ∀ d ∈ tables_1, d.before a0 Z = true) (N : Nat) : Blk l Z "DeltaCausalMap" prog_1_method_15_code 3 (some .int) false ({ frames := 0, cells := 0, slots := 0, locals := 0 } : Room) AC nC zC (cC false) (sC asT false) (HC Z "DeltaCausalMap" fsT asT 23 false) [0, 0, 0] 1 46 (0, 46, m_storeIndex_0_P (m_storeIndex N)) :=
  blk_of_den (jl := []) (lst := m_storeIndex_c) (m_storeIndex_hop l hw N) (Or.inr (Or.inl ⟨rfl, rfl⟩)) rfl (by decide) (by decide) m_storeIndex_cOk fn (fun L st S r ok h => by unfold m_storeIndex_0_P at h; split at h; exact h; cases h)
def m_storeIndex_F (N : Nat) : List AV → St → RS St := fun av S => match av with
  | [.inr (.inr (some 0)), .inl x1, .inl x2] => m_storeIndex N x1 x2 S
  | _ => none
theorem m_storeIndex_P0 (f : Int → Int → St → RS St) (x1 : Int) (x2 : Int) (S : St) : m_storeIndex_0_P f (entryL [.inr (.inr (some 0)), .inl x1, .inl x2] 3) [] S = f x1 x2 S := rfl
set_option maxRecDepth 65536 in
set_option maxHeartbeats 4000000 in
theorem m_storeIndex_con (l : Launch) {Z : State} {a0 : Array Value} (hw : ∀ d ∈ tables_1, d.before a0 Z = true) (N : Nat) : Con l Z "DeltaCausalMap" fsT asT 23 (⟨"DeltaCausalMap", "storeIndex", "(II)I"⟩ : MethodName) prog_1_method_15_code 3 (some .int) ({ frames := 0, cells := 0, slots := 0, locals := 0 } : Room) 1 (m_storeIndex_F N) :=
  con_of (m_storeIndex_0_ok l hw N) pnC rfl (fun av S r h oks => by unfold m_storeIndex_F at h; split at h; exact ⟨(m_storeIndex_P0 _ _ _ _).trans h, okL_entry rfl oks rfl⟩; cases h)
set_option maxRecDepth 65536 in
theorem m_storeIndex_vir (l : Launch) {Z : State} {a0 : Array Value} (hw : ∀ d ∈ tables_1, d.before a0 Z = true) (N : Nat) (W : Nat) (R : Room) (h1 : 1 ≤ R.frames) (h2 : W + 14 ≤ R.locals) : VirOk l Z a0 "DeltaCausalMap" fsT asT 23 W R (127, 2, 1, m_storeIndex_F N) :=
  ⟨(⟨"DeltaCausalMap", "storeIndex", "(II)I"⟩ : MethodName), prog_1_method_15_code, 3, (some .int), ({ frames := 0, cells := 0, slots := 0, locals := 0 } : Room), [.int, .int], rfl, (hw _ (List.mem_of_getElem? (i := 115) rfl)), (hw _ (List.mem_of_getElem? (i := 116) rfl)), Or.inl (hw _ (List.mem_of_getElem? (i := 117) rfl)), (hw _ (List.mem_of_getElem? (i := 118) rfl)), by decide +kernel, rfl, rfl, rfl, h1, by dsimp only; omega, m_storeIndex_con l hw N⟩
/-! ## DeltaCausalMap.coverFor:(III)J -/
set_option maxRecDepth 65536 in
set_option maxHeartbeats 4000000 in
theorem m_coverFor_hop (l : Launch) {Z : State} {a0 : Array Value} (hw : ∀ d ∈ tables_1, d.before a0 Z = true) (N : Nat) : HopAll l Z "DeltaCausalMap" prog_1_method_10_code 5 (some .long) false ({ frames := 1, cells := 0, slots := 0, locals := 14 } : Room) AC nC zC (cC false) (sC asT false) (HC Z "DeltaCausalMap" fsT asT 23 false) (hopC fsT asT 23 0 false 1 cIT cJT [(127, 2, 1, m_storeIndex_F N)] []) :=
  hopC_all (clsT hw) mhC (hw _ (List.mem_of_getElem? (i := 2) rfl)) (fun h => nomatch h) (cIT_ok hw) (cJT_ok hw) (fc (m_storeIndex_vir l hw N _ _ (by decide) (by decide)) fn) fn (by decide) (by decide)
def m_coverFor (N : Nat) (x1 : Int) (x2 : Int) (x3 : Int) (S : St) : RS St :=
  ((m_storeIndex N x1 x2 S).bind fun r1 =>
  (if x3 = 1 then
    (if 0 ≤ r1.1 ∧ r1.1 < 32 then
    some (r1.2 7 r1.1, r1.2)
    else none)
  else
    (if x3 = 4 then
      (if 0 ≤ r1.1 ∧ r1.1 < 32 then
      (if 0 ≤ r1.1 ∧ r1.1 < 32 then
      some (lor (r1.2 7 r1.1) (r1.2 8 r1.1), r1.2)
      else none)
      else none)
    else
      (if 0 ≤ r1.1 ∧ r1.1 < 32 then
      some (r1.2 8 r1.1, r1.2)
      else none))))
def m_coverFor_0_P (f : Int → Int → Int → St → RS St) : Jn St := fun L st S => match L, st with
  | [some (some (.inr (.inr (some 0)))), some (some (.inl x1)), some (some (.inl x2)), some (some (.inl x3)), _], [] => f x1 x2 x3 S
  | _, _ => none
def m_coverFor_c : List Ent := [(0, .aload_n 0, 1, []), (1, .iload_n 1, 1, []), (2, .iload_n 2, 1, []), (3, .invokevirtual 127, 3, []), (6, .istore 4, 2, []), (8, .iload_n 3, 1, []), (9, .iconst 1, 1, []), (10, .if_icmp .ne 11, 3, [21]), (13, .aload_n 0, 1, []), (14, .getfield 29, 3, []), (17, .iload 4, 2, []), (19, .laload, 1, []), (20, .lreturn, 1, []), (21, .iload_n 3, 1, []), (22, .iconst 4, 1, []), (23, .if_icmp .ne 19, 3, [42]), (26, .aload_n 0, 1, []), (27, .getfield 29, 3, []), (30, .iload 4, 2, []), (32, .laload, 1, []), (33, .aload_n 0, 1, []), (34, .getfield 32, 3, []), (37, .iload 4, 2, []), (39, .laload, 1, []), (40, .lor, 1, []), (41, .lreturn, 1, []), (42, .aload_n 0, 1, []), (43, .getfield 32, 3, []), (46, .iload 4, 2, []), (48, .laload, 1, []), (49, .lreturn, 1, [])]
set_option maxRecDepth 65536 in
theorem m_coverFor_cOk : codeOk prog_1_method_10_code m_coverFor_c = true := by decide +kernel
set_option maxRecDepth 65536 in
set_option maxHeartbeats 4000000 in
theorem m_coverFor_0_ok (l : Launch) {Z : State} {a0 : Array Value} (hw : ∀ d ∈ tables_1, d.before a0 Z = true) (N : Nat) : Blk l Z "DeltaCausalMap" prog_1_method_10_code 5 (some .long) false ({ frames := 1, cells := 0, slots := 0, locals := 14 } : Room) AC nC zC (cC false) (sC asT false) (HC Z "DeltaCausalMap" fsT asT 23 false) [0, 0, 0, 0, 0] 2 46 (0, 46, m_coverFor_0_P (m_coverFor N)) :=
  blk_of_den (jl := []) (lst := m_coverFor_c) (m_coverFor_hop l hw N) (Or.inr (Or.inr (Or.inl ⟨rfl, rfl⟩))) rfl (by decide) (by decide) m_coverFor_cOk fn (fun L st S r ok h => by unfold m_coverFor_0_P at h; split at h; exact h; cases h)
def m_coverFor_F (N : Nat) : List AV → St → RS St := fun av S => match av with
  | [.inr (.inr (some 0)), .inl x1, .inl x2, .inl x3] => m_coverFor N x1 x2 x3 S
  | _ => none
theorem m_coverFor_P0 (f : Int → Int → Int → St → RS St) (x1 : Int) (x2 : Int) (x3 : Int) (S : St) : m_coverFor_0_P f (entryL [.inr (.inr (some 0)), .inl x1, .inl x2, .inl x3] 5) [] S = f x1 x2 x3 S := rfl
set_option maxRecDepth 65536 in
set_option maxHeartbeats 4000000 in
theorem m_coverFor_con (l : Launch) {Z : State} {a0 : Array Value} (hw : ∀ d ∈ tables_1, d.before a0 Z = true) (N : Nat) : Con l Z "DeltaCausalMap" fsT asT 23 (⟨"DeltaCausalMap", "coverFor", "(III)J"⟩ : MethodName) prog_1_method_10_code 5 (some .long) ({ frames := 1, cells := 0, slots := 0, locals := 14 } : Room) 2 (m_coverFor_F N) :=
  con_of (m_coverFor_0_ok l hw N) pnC rfl (fun av S r h oks => by unfold m_coverFor_F at h; split at h; exact ⟨(m_coverFor_P0 _ _ _ _ _).trans h, okL_entry rfl oks rfl⟩; cases h)
set_option maxRecDepth 65536 in
theorem m_coverFor_vir (l : Launch) {Z : State} {a0 : Array Value} (hw : ∀ d ∈ tables_1, d.before a0 Z = true) (N : Nat) (W : Nat) (R : Room) (h1 : 2 ≤ R.frames) (h2 : W + 30 ≤ R.locals) : VirOk l Z a0 "DeltaCausalMap" fsT asT 23 W R (115, 3, 2, m_coverFor_F N) :=
  ⟨(⟨"DeltaCausalMap", "coverFor", "(III)J"⟩ : MethodName), prog_1_method_10_code, 5, (some .long), ({ frames := 1, cells := 0, slots := 0, locals := 14 } : Room), [.int, .int, .int], rfl, (hw _ (List.mem_of_getElem? (i := 111) rfl)), (hw _ (List.mem_of_getElem? (i := 112) rfl)), Or.inl (hw _ (List.mem_of_getElem? (i := 113) rfl)), (hw _ (List.mem_of_getElem? (i := 114) rfl)), by decide +kernel, rfl, rfl, rfl, h1, by dsimp only; omega, m_coverFor_con l hw N⟩
/-! ## DeltaCausalMap.addDot:(II)V -/
set_option maxRecDepth 65536 in
set_option maxHeartbeats 4000000 in
theorem m_addDot_hop (l : Launch) {Z : State} {a0 : Array Value} (hw : ∀ d ∈ tables_1, d.before a0 Z = true) (N : Nat) : HopAll l Z "DeltaCausalMap" prog_1_method_12_code 7 none false ({ frames := 1, cells := 0, slots := 0, locals := 14 } : Room) AC nC zC (cC false) (sC asT false) (HC Z "DeltaCausalMap" fsT asT 23 false) (hopC fsT asT 23 0 false 1 cIT cJT [(127, 2, 1, m_storeIndex_F N)] []) :=
  hopC_all (clsT hw) mhC (hw _ (List.mem_of_getElem? (i := 2) rfl)) (fun h => nomatch h) (cIT_ok hw) (cJT_ok hw) (fc (m_storeIndex_vir l hw N _ _ (by decide) (by decide)) fn) fn (by decide) (by decide)
def m_addDot (N : Nat) (x1 : Int) (x2 : Int) (S : St) : RS St :=
  (if 0 ≤ w32 ((w32 (x1 * 4)) + (iand (iushr x2 4) 3)) ∧ w32 ((w32 (x1 * 4)) + (iand (iushr x2 4) 3)) < 16 then
  (if 0 ≤ w32 ((w32 (x1 * 4)) + (iand (iushr x2 4) 3)) ∧ w32 ((w32 (x1 * 4)) + (iand (iushr x2 4) 3)) < 16 then
  (if 0 ≤ x2 ∧ x2 < 64 then
  ((m_storeIndex N x1 ((stw S 6 (w32 ((w32 (x1 * 4)) + (iand (iushr x2 4) 3))) (w32 ((S 6 (w32 ((w32 (x1 * 4)) + (iand (iushr x2 4) 3)))) + 1))) 2 x2) (stw S 6 (w32 ((w32 (x1 * 4)) + (iand (iushr x2 4) 3))) (w32 ((S 6 (w32 ((w32 (x1 * 4)) + (iand (iushr x2 4) 3)))) + 1)))).bind fun r1 =>
  (if 0 ≤ x2 ∧ x2 < 64 then
  (if r1.2 1 x2 = 1 then
    (if 0 ≤ r1.1 ∧ r1.1 < 32 then
    (if 0 ≤ r1.1 ∧ r1.1 < 32 then
    some (0, stw r1.2 7 r1.1 (lor (r1.2 7 r1.1) (lshl 1 x2)))
    else none)
    else none)
  else
    (if 0 ≤ x2 ∧ x2 < 64 then
    (if r1.2 1 x2 = 2 then
      (if 0 ≤ r1.1 ∧ r1.1 < 32 then
      (if 0 ≤ r1.1 ∧ r1.1 < 32 then
      some (0, stw r1.2 8 r1.1 (lor (r1.2 8 r1.1) (lshl 1 x2)))
      else none)
      else none)
    else
      some (0, r1.2))
    else none))
  else none))
  else none)
  else none)
  else none)
def m_addDot_0_P (f : Int → Int → St → RS St) : Jn St := fun L st S => match L, st with
  | [some (some (.inr (.inr (some 0)))), some (some (.inl x1)), some (some (.inl x2)), _, _, _, _], [] => f x1 x2 S
  | _, _ => none
def m_addDot_c : List Ent := [(0, .iload_n 2, 1, []), (1, .iconst 4, 1, []), (2, .iushr, 1, []), (3, .iconst 3, 1, []), (4, .iand, 1, []), (5, .istore_n 3, 1, []), (6, .aload_n 0, 1, []), (7, .getfield 26, 3, []), (10, .iload_n 1, 1, []), (11, .iconst 4, 1, []), (12, .imul, 1, []), (13, .iload_n 3, 1, []), (14, .iadd, 1, []), (15, .aload_n 0, 1, []), (16, .getfield 26, 3, []), (19, .iload_n 1, 1, []), (20, .iconst 4, 1, []), (21, .imul, 1, []), (22, .iload_n 3, 1, []), (23, .iadd, 1, []), (24, .iaload, 1, []), (25, .iconst 1, 1, []), (26, .iadd, 1, []), (27, .iastore, 1, []), (28, .aload_n 0, 1, []), (29, .iload_n 1, 1, []), (30, .aload_n 0, 1, []), (31, .getfield 13, 3, []), (34, .iload_n 2, 1, []), (35, .iaload, 1, []), (36, .invokevirtual 127, 3, []), (39, .istore 4, 2, []), (41, .lconst 1, 1, []), (42, .iload_n 2, 1, []), (43, .lshl, 1, []), (44, .lstore 5, 2, []), (46, .aload_n 0, 1, []), (47, .getfield 7, 3, []), (50, .iload_n 2, 1, []), (51, .iaload, 1, []), (52, .iconst 1, 1, []), (53, .if_icmp .ne 18, 3, [71]), (56, .aload_n 0, 1, []), (57, .getfield 29, 3, []), (60, .iload 4, 2, []), (62, .dup2, 1, []), (63, .laload, 1, []), (64, .lload 5, 2, []), (66, .lor, 1, []), (67, .lastore, 1, []), (68, .goto 25, 3, [93]), (71, .aload_n 0, 1, []), (72, .getfield 7, 3, []), (75, .iload_n 2, 1, []), (76, .iaload, 1, []), (77, .iconst 2, 1, []), (78, .if_icmp .ne 15, 3, [93]), (81, .aload_n 0, 1, []), (82, .getfield 32, 3, []), (85, .iload 4, 2, []), (87, .dup2, 1, []), (88, .laload, 1, []), (89, .lload 5, 2, []), (91, .lor, 1, []), (92, .lastore, 1, []), (93, .return_, 1, [])]
set_option maxRecDepth 65536 in
theorem m_addDot_cOk : codeOk prog_1_method_12_code m_addDot_c = true := by decide +kernel
set_option maxRecDepth 65536 in
set_option maxHeartbeats 4000000 in
theorem m_addDot_0_ok (l : Launch) {Z : State} {a0 : Array Value} (hw : ∀ d ∈ tables_1, d.before a0 Z = true) (N : Nat) : Blk l Z "DeltaCausalMap" prog_1_method_12_code 7 none false ({ frames := 1, cells := 0, slots := 0, locals := 14 } : Room) AC nC zC (cC false) (sC asT false) (HC Z "DeltaCausalMap" fsT asT 23 false) [0, 0, 0, 0, 0, 1, 2] 0 46 (0, 46, m_addDot_0_P (m_addDot N)) :=
  blk_of_den (jl := []) (lst := m_addDot_c) (m_addDot_hop l hw N) (Or.inl ⟨rfl, rfl⟩) rfl (by decide) (by decide) m_addDot_cOk fn (fun L st S r ok h => by unfold m_addDot_0_P at h; split at h; exact h; cases h)
def m_addDot_F (N : Nat) : List AV → St → RS St := fun av S => match av with
  | [.inr (.inr (some 0)), .inl x1, .inl x2] => m_addDot N x1 x2 S
  | _ => none
theorem m_addDot_P0 (f : Int → Int → St → RS St) (x1 : Int) (x2 : Int) (S : St) : m_addDot_0_P f (entryL [.inr (.inr (some 0)), .inl x1, .inl x2] 7) [] S = f x1 x2 S := rfl
set_option maxRecDepth 65536 in
set_option maxHeartbeats 4000000 in
theorem m_addDot_con (l : Launch) {Z : State} {a0 : Array Value} (hw : ∀ d ∈ tables_1, d.before a0 Z = true) (N : Nat) : Con l Z "DeltaCausalMap" fsT asT 23 (⟨"DeltaCausalMap", "addDot", "(II)V"⟩ : MethodName) prog_1_method_12_code 7 none ({ frames := 1, cells := 0, slots := 0, locals := 14 } : Room) 0 (m_addDot_F N) :=
  con_of (m_addDot_0_ok l hw N) pnC rfl (fun av S r h oks => by unfold m_addDot_F at h; split at h; exact ⟨(m_addDot_P0 _ _ _ _).trans h, okL_entry rfl oks rfl⟩; cases h)
set_option maxRecDepth 65536 in
theorem m_addDot_vir (l : Launch) {Z : State} {a0 : Array Value} (hw : ∀ d ∈ tables_1, d.before a0 Z = true) (N : Nat) (W : Nat) (R : Room) (h1 : 2 ≤ R.frames) (h2 : W + 32 ≤ R.locals) : VirOk l Z a0 "DeltaCausalMap" fsT asT 23 W R (130, 2, 0, m_addDot_F N) :=
  ⟨(⟨"DeltaCausalMap", "addDot", "(II)V"⟩ : MethodName), prog_1_method_12_code, 7, none, ({ frames := 1, cells := 0, slots := 0, locals := 14 } : Room), [.int, .int], rfl, (hw _ (List.mem_of_getElem? (i := 123) rfl)), (hw _ (List.mem_of_getElem? (i := 124) rfl)), Or.inl (hw _ (List.mem_of_getElem? (i := 125) rfl)), (hw _ (List.mem_of_getElem? (i := 126) rfl)), by decide +kernel, rfl, rfl, rfl, h1, by dsimp only; omega, m_addDot_con l hw N⟩
/-! ## DeltaCausalMap.pruneStores:(IJ)V -/
set_option maxRecDepth 65536 in
set_option maxHeartbeats 4000000 in
theorem m_pruneStores_hop (l : Launch) {Z : State} {a0 : Array Value} (hw : ∀ d ∈ tables_1, d.before a0 Z = true) (N : Nat) : HopAll l Z "DeltaCausalMap" prog_1_method_13_code 7 none false ({ frames := 0, cells := 0, slots := 0, locals := 0 } : Room) AC nC zC (cC false) (sC asT false) (HC Z "DeltaCausalMap" fsT asT 23 false) (hopC fsT asT 23 0 false 1 cIT cJT [] []) :=
  hopC_all (clsT hw) mhC (hw _ (List.mem_of_getElem? (i := 2) rfl)) (fun h => nomatch h) (cIT_ok hw) (cJT_ok hw) fn fn (by decide) (by decide)
def m_pruneStores_17 (N : Nat) : Nat → Int → Int → Int → St → RS St
  | 0, _, _, _, _ => none
  | n + 1, x1, x4, x6, S =>
    (if x6 < 8 then
      (if 0 ≤ w32 ((w32 (x1 * 8)) + x6) ∧ w32 ((w32 (x1 * 8)) + x6) < 32 then
      (if 0 ≤ w32 ((w32 (x1 * 8)) + x6) ∧ w32 ((w32 (x1 * 8)) + x6) < 32 then
      (if 0 ≤ w32 ((w32 (x1 * 8)) + x6) ∧ w32 ((w32 (x1 * 8)) + x6) < 32 then
      (if 0 ≤ w32 ((w32 (x1 * 8)) + x6) ∧ w32 ((w32 (x1 * 8)) + x6) < 32 then
      m_pruneStores_17 N n x1 x4 (w32 (x6 + 1)) (stw (stw S 7 (w32 ((w32 (x1 * 8)) + x6)) (land (S 7 (w32 ((w32 (x1 * 8)) + x6))) x4)) 8 (w32 ((w32 (x1 * 8)) + x6)) (land ((stw S 7 (w32 ((w32 (x1 * 8)) + x6)) (land (S 7 (w32 ((w32 (x1 * 8)) + x6))) x4)) 8 (w32 ((w32 (x1 * 8)) + x6))) x4))
      else none)
      else none)
      else none)
      else none)
    else
      some (0, S))
def m_pruneStores_17_P (f : Int → Int → Int → St → RS St) : Jn St := fun L st S => match L, st with
  | [some (some (.inr (.inr (some 0)))), some (some (.inl x1)), _, _, some (some (.inr (.inl x4))), _, some (some (.inl x6))], [] => f x1 x4 x6 S
  | _, _ => none
def m_pruneStores (N : Nat) (x1 : Int) (x2 : Int) (S : St) : RS St :=
  (if lcmp x2 0 = 0 then
    some (0, S)
  else
    m_pruneStores_17 N N x1 (lxor x2 (-1)) 0 S)
def m_pruneStores_0_P (f : Int → Int → St → RS St) : Jn St := fun L st S => match L, st with
  | [some (some (.inr (.inr (some 0)))), some (some (.inl x1)), some (some (.inr (.inl x2))), _, _, _, _], [] => f x1 x2 S
  | _, _ => none
def m_pruneStores_c : List Ent := [(0, .lload_n 2, 1, []), (1, .lconst 0, 1, []), (2, .lcmp, 1, []), (3, .ifCond .ne 4, 3, [7]), (6, .return_, 1, []), (7, .lload_n 2, 1, []), (8, .ldc2_w 143, 3, []), (11, .lxor, 1, []), (12, .lstore 4, 2, []), (14, .iconst 0, 1, []), (15, .istore 6, 2, []), (17, .iload 6, 2, []), (19, .bipush 8, 2, []), (21, .if_icmp .ge 43, 3, [64]), (24, .aload_n 0, 1, []), (25, .getfield 29, 3, []), (28, .iload_n 1, 1, []), (29, .bipush 8, 2, []), (31, .imul, 1, []), (32, .iload 6, 2, []), (34, .iadd, 1, []), (35, .dup2, 1, []), (36, .laload, 1, []), (37, .lload 4, 2, []), (39, .land, 1, []), (40, .lastore, 1, []), (41, .aload_n 0, 1, []), (42, .getfield 32, 3, []), (45, .iload_n 1, 1, []), (46, .bipush 8, 2, []), (48, .imul, 1, []), (49, .iload 6, 2, []), (51, .iadd, 1, []), (52, .dup2, 1, []), (53, .laload, 1, []), (54, .lload 4, 2, []), (56, .land, 1, []), (57, .lastore, 1, []), (58, .iinc 6 1, 3, []), (61, .goto (-44), 3, [17]), (64, .return_, 1, [])]
set_option maxRecDepth 65536 in
theorem m_pruneStores_cOk : codeOk prog_1_method_13_code m_pruneStores_c = true := by decide +kernel
set_option maxRecDepth 65536 in
set_option maxHeartbeats 4000000 in
theorem m_pruneStores_17_ok (l : Launch) {Z : State} {a0 : Array Value} (hw : ∀ d ∈ tables_1, d.before a0 Z = true) (N : Nat) : ∀ n, Blk l Z "DeltaCausalMap" prog_1_method_13_code 7 none false ({ frames := 0, cells := 0, slots := 0, locals := 0 } : Room) AC nC zC (cC false) (sC asT false) (HC Z "DeltaCausalMap" fsT asT 23 false) [0, 0, 1, 2, 1, 2, 0] 0 46 (17, 46, m_pruneStores_17_P (m_pruneStores_17 N n))
  | 0 => blk_none (fun L st S => by unfold m_pruneStores_17_P; split <;> rfl)
  | n + 1 => have ih := m_pruneStores_17_ok l hw N n
    blk_of_den (jl := [(17, 46, m_pruneStores_17_P (m_pruneStores_17 N n))]) (lst := m_pruneStores_c) (m_pruneStores_hop l hw N) (Or.inl ⟨rfl, rfl⟩) rfl (by decide) (by decide) m_pruneStores_cOk (fc ih fn) (fun L st S r ok h => by unfold m_pruneStores_17_P at h; split at h; exact h; cases h)
set_option maxRecDepth 65536 in
set_option maxHeartbeats 4000000 in
theorem m_pruneStores_0_ok (l : Launch) {Z : State} {a0 : Array Value} (hw : ∀ d ∈ tables_1, d.before a0 Z = true) (N : Nat) : Blk l Z "DeltaCausalMap" prog_1_method_13_code 7 none false ({ frames := 0, cells := 0, slots := 0, locals := 0 } : Room) AC nC zC (cC false) (sC asT false) (HC Z "DeltaCausalMap" fsT asT 23 false) [0, 0, 1, 2, 1, 2, 0] 0 46 (0, 46, m_pruneStores_0_P (m_pruneStores N)) :=
  blk_of_den (jl := [(17, 46, m_pruneStores_17_P (m_pruneStores_17 N N))]) (lst := m_pruneStores_c) (m_pruneStores_hop l hw N) (Or.inl ⟨rfl, rfl⟩) rfl (by decide) (by decide) m_pruneStores_cOk (fc (m_pruneStores_17_ok l hw N N) fn) (fun L st S r ok h => by unfold m_pruneStores_0_P at h; split at h; exact h; cases h)
def m_pruneStores_F (N : Nat) : List AV → St → RS St := fun av S => match av with
  | [.inr (.inr (some 0)), .inl x1, .inr (.inl x2)] => m_pruneStores N x1 x2 S
  | _ => none
theorem m_pruneStores_P0 (f : Int → Int → St → RS St) (x1 : Int) (x2 : Int) (S : St) : m_pruneStores_0_P f (entryL [.inr (.inr (some 0)), .inl x1, .inr (.inl x2)] 7) [] S = f x1 x2 S := rfl
set_option maxRecDepth 65536 in
set_option maxHeartbeats 4000000 in
theorem m_pruneStores_con (l : Launch) {Z : State} {a0 : Array Value} (hw : ∀ d ∈ tables_1, d.before a0 Z = true) (N : Nat) : Con l Z "DeltaCausalMap" fsT asT 23 (⟨"DeltaCausalMap", "pruneStores", "(IJ)V"⟩ : MethodName) prog_1_method_13_code 7 none ({ frames := 0, cells := 0, slots := 0, locals := 0 } : Room) 0 (m_pruneStores_F N) :=
  con_of (m_pruneStores_0_ok l hw N) pnC rfl (fun av S r h oks => by unfold m_pruneStores_F at h; split at h; exact ⟨(m_pruneStores_P0 _ _ _ _).trans h, okL_entry rfl oks rfl⟩; cases h)
set_option maxRecDepth 65536 in
theorem m_pruneStores_vir (l : Launch) {Z : State} {a0 : Array Value} (hw : ∀ d ∈ tables_1, d.before a0 Z = true) (N : Nat) (W : Nat) (R : Room) (h1 : 1 ≤ R.frames) (h2 : W + 18 ≤ R.locals) : VirOk l Z a0 "DeltaCausalMap" fsT asT 23 W R (134, 2, 0, m_pruneStores_F N) :=
  ⟨(⟨"DeltaCausalMap", "pruneStores", "(IJ)V"⟩ : MethodName), prog_1_method_13_code, 7, none, ({ frames := 0, cells := 0, slots := 0, locals := 0 } : Room), [.int, .long], rfl, (hw _ (List.mem_of_getElem? (i := 127) rfl)), (hw _ (List.mem_of_getElem? (i := 128) rfl)), Or.inl (hw _ (List.mem_of_getElem? (i := 129) rfl)), (hw _ (List.mem_of_getElem? (i := 130) rfl)), by decide +kernel, rfl, rfl, rfl, h1, by dsimp only; omega, m_pruneStores_con l hw N⟩
/-! ## DeltaCausalMap.recordChange:(IJ)V -/
set_option maxRecDepth 65536 in
set_option maxHeartbeats 4000000 in
theorem m_recordChange_hop (l : Launch) {Z : State} {a0 : Array Value} (hw : ∀ d ∈ tables_1, d.before a0 Z = true) (N : Nat) : HopAll l Z "DeltaCausalMap" prog_1_method_14_code 4 none false ({ frames := 0, cells := 0, slots := 0, locals := 0 } : Room) AC nC zC (cC false) (sC asT false) (HC Z "DeltaCausalMap" fsT asT 23 false) (hopC fsT asT 23 0 false 1 cIT cJT [] []) :=
  hopC_all (clsT hw) mhC (hw _ (List.mem_of_getElem? (i := 2) rfl)) (fun h => nomatch h) (cIT_ok hw) (cJT_ok hw) fn fn (by decide) (by decide)
def m_recordChange (N : Nat) (x1 : Int) (x2 : Int) (S : St) : RS St :=
  (if 0 ≤ x1 ∧ x1 < 4 then
  (if 0 ≤ w32 ((w32 (x1 * 8)) + (iand (S 12 x1) 7)) ∧ w32 ((w32 (x1 * 8)) + (iand (S 12 x1) 7)) < 32 then
  (if 0 ≤ x1 ∧ x1 < 4 then
  (if 0 ≤ x1 ∧ x1 < 4 then
  some (0, stw (stw S 16 (w32 ((w32 (x1 * 8)) + (iand (S 12 x1) 7))) x2) 12 x1 (w32 (((stw S 16 (w32 ((w32 (x1 * 8)) + (iand (S 12 x1) 7))) x2) 12 x1) + 1)))
  else none)
  else none)
  else none)
  else none)
def m_recordChange_0_P (f : Int → Int → St → RS St) : Jn St := fun L st S => match L, st with
  | [some (some (.inr (.inr (some 0)))), some (some (.inl x1)), some (some (.inr (.inl x2))), _], [] => f x1 x2 S
  | _, _ => none
def m_recordChange_c : List Ent := [(0, .aload_n 0, 1, []), (1, .getfield 56, 3, []), (4, .iload_n 1, 1, []), (5, .bipush 8, 2, []), (7, .imul, 1, []), (8, .aload_n 0, 1, []), (9, .getfield 44, 3, []), (12, .iload_n 1, 1, []), (13, .iaload, 1, []), (14, .bipush 7, 2, []), (16, .iand, 1, []), (17, .iadd, 1, []), (18, .lload_n 2, 1, []), (19, .lastore, 1, []), (20, .aload_n 0, 1, []), (21, .getfield 44, 3, []), (24, .iload_n 1, 1, []), (25, .aload_n 0, 1, []), (26, .getfield 44, 3, []), (29, .iload_n 1, 1, []), (30, .iaload, 1, []), (31, .iconst 1, 1, []), (32, .iadd, 1, []), (33, .iastore, 1, []), (34, .return_, 1, [])]
set_option maxRecDepth 65536 in
theorem m_recordChange_cOk : codeOk prog_1_method_14_code m_recordChange_c = true := by decide +kernel
set_option maxRecDepth 65536 in
set_option maxHeartbeats 4000000 in
theorem m_recordChange_0_ok (l : Launch) {Z : State} {a0 : Array Value} (hw : ∀ d ∈ tables_1, d.before a0 Z = true) (N : Nat) : Blk l Z "DeltaCausalMap" prog_1_method_14_code 4 none false ({ frames := 0, cells := 0, slots := 0, locals := 0 } : Room) AC nC zC (cC false) (sC asT false) (HC Z "DeltaCausalMap" fsT asT 23 false) [0, 0, 1, 2] 0 46 (0, 46, m_recordChange_0_P (m_recordChange N)) :=
  blk_of_den (jl := []) (lst := m_recordChange_c) (m_recordChange_hop l hw N) (Or.inl ⟨rfl, rfl⟩) rfl (by decide) (by decide) m_recordChange_cOk fn (fun L st S r ok h => by unfold m_recordChange_0_P at h; split at h; exact h; cases h)
def m_recordChange_F (N : Nat) : List AV → St → RS St := fun av S => match av with
  | [.inr (.inr (some 0)), .inl x1, .inr (.inl x2)] => m_recordChange N x1 x2 S
  | _ => none
theorem m_recordChange_P0 (f : Int → Int → St → RS St) (x1 : Int) (x2 : Int) (S : St) : m_recordChange_0_P f (entryL [.inr (.inr (some 0)), .inl x1, .inr (.inl x2)] 4) [] S = f x1 x2 S := rfl
set_option maxRecDepth 65536 in
set_option maxHeartbeats 4000000 in
theorem m_recordChange_con (l : Launch) {Z : State} {a0 : Array Value} (hw : ∀ d ∈ tables_1, d.before a0 Z = true) (N : Nat) : Con l Z "DeltaCausalMap" fsT asT 23 (⟨"DeltaCausalMap", "recordChange", "(IJ)V"⟩ : MethodName) prog_1_method_14_code 4 none ({ frames := 0, cells := 0, slots := 0, locals := 0 } : Room) 0 (m_recordChange_F N) :=
  con_of (m_recordChange_0_ok l hw N) pnC rfl (fun av S r h oks => by unfold m_recordChange_F at h; split at h; exact ⟨(m_recordChange_P0 _ _ _ _).trans h, okL_entry rfl oks rfl⟩; cases h)
set_option maxRecDepth 65536 in
theorem m_recordChange_vir (l : Launch) {Z : State} {a0 : Array Value} (hw : ∀ d ∈ tables_1, d.before a0 Z = true) (N : Nat) (W : Nat) (R : Room) (h1 : 1 ≤ R.frames) (h2 : W + 15 ≤ R.locals) : VirOk l Z a0 "DeltaCausalMap" fsT asT 23 W R (137, 2, 0, m_recordChange_F N) :=
  ⟨(⟨"DeltaCausalMap", "recordChange", "(IJ)V"⟩ : MethodName), prog_1_method_14_code, 4, none, ({ frames := 0, cells := 0, slots := 0, locals := 0 } : Room), [.int, .long], rfl, (hw _ (List.mem_of_getElem? (i := 131) rfl)), (hw _ (List.mem_of_getElem? (i := 132) rfl)), Or.inl (hw _ (List.mem_of_getElem? (i := 133) rfl)), (hw _ (List.mem_of_getElem? (i := 134) rfl)), by decide +kernel, rfl, rfl, rfl, h1, by dsimp only; omega, m_recordChange_con l hw N⟩
/-! ## DeltaCausalMap.valueInSegment:(JI)I -/
set_option maxRecDepth 65536 in
set_option maxHeartbeats 4000000 in
theorem m_valueInSegment_hop (l : Launch) {Z : State} {a0 : Array Value} (hw : ∀ d ∈ tables_1, d.before a0 Z = true) (N : Nat) : HopAll l Z "DeltaCausalMap" prog_1_method_18_code 6 (some .int) false ({ frames := 0, cells := 0, slots := 0, locals := 0 } : Room) AC nC zC (cC false) (sC asT false) (HC Z "DeltaCausalMap" fsT asT 23 false) (hopC fsT asT 23 0 false 1 cIT cJT [] []) :=
  hopC_all (clsT hw) mhC (hw _ (List.mem_of_getElem? (i := 2) rfl)) (fun h => nomatch h) (cIT_ok hw) (cJT_ok hw) fn fn (by decide) (by decide)
def m_valueInSegment_29 (N : Nat) (x5 : Int) (S : St) : RS St :=
  (if 0 ≤ x5 ∧ x5 < 64 then
  some (S 3 x5, S)
  else none)
def m_valueInSegment_29_P (f : Int → St → RS St) : Jn St := fun L st S => match L, st with
  | [some (some (.inr (.inr (some 0)))), _, _, _, _, some (some (.inl x5))], [] => f x5 S
  | _, _ => none
def m_valueInSegment_3 (N : Nat) : Nat → Int → Int → Int → St → RS St
  | 0, _, _, _, _ => none
  | n + 1, x1, x3, x4, S =>
    (if x4 < 16 then
      (if lcmp (land (lushr x1 (w32 ((ishl x3 4) + x4))) 1) 0 = 0 then
        m_valueInSegment_3 N n x1 x3 (w32 (x4 + 1)) S
      else
        m_valueInSegment_29 N (w32 ((ishl x3 4) + x4)) S)
    else
      some (0, S))
def m_valueInSegment_3_P (f : Int → Int → Int → St → RS St) : Jn St := fun L st S => match L, st with
  | [some (some (.inr (.inr (some 0)))), some (some (.inr (.inl x1))), _, some (some (.inl x3)), some (some (.inl x4)), _], [] => f x1 x3 x4 S
  | _, _ => none
def m_valueInSegment (N : Nat) (x1 : Int) (x3 : Int) (S : St) : RS St :=
  m_valueInSegment_3 N N x1 x3 0 S
def m_valueInSegment_0_P (f : Int → Int → St → RS St) : Jn St := fun L st S => match L, st with
  | [some (some (.inr (.inr (some 0)))), some (some (.inr (.inl x1))), _, some (some (.inl x3)), _, _], [] => f x1 x3 S
  | _, _ => none
def m_valueInSegment_c : List Ent := [(0, .iconst 0, 1, []), (1, .istore 4, 2, []), (3, .iload 4, 2, []), (5, .bipush 16, 2, []), (7, .if_icmp .ge 36, 3, [43]), (10, .iload_n 3, 1, []), (11, .iconst 4, 1, []), (12, .ishl, 1, []), (13, .iload 4, 2, []), (15, .iadd, 1, []), (16, .istore 5, 2, []), (18, .lload_n 1, 1, []), (19, .iload 5, 2, []), (21, .lushr, 1, []), (22, .lconst 1, 1, []), (23, .land, 1, []), (24, .lconst 0, 1, []), (25, .lcmp, 1, []), (26, .ifCond .eq 11, 3, [37]), (29, .aload_n 0, 1, []), (30, .getfield 16, 3, []), (33, .iload 5, 2, []), (35, .iaload, 1, []), (36, .ireturn, 1, []), (37, .iinc 4 1, 3, []), (40, .goto (-37), 3, [3]), (43, .iconst 0, 1, []), (44, .ireturn, 1, [])]
set_option maxRecDepth 65536 in
theorem m_valueInSegment_cOk : codeOk prog_1_method_18_code m_valueInSegment_c = true := by decide +kernel
set_option maxRecDepth 65536 in
set_option maxHeartbeats 4000000 in
theorem m_valueInSegment_29_ok (l : Launch) {Z : State} {a0 : Array Value} (hw : ∀ d ∈ tables_1, d.before a0 Z = true) (N : Nat) : Blk l Z "DeltaCausalMap" prog_1_method_18_code 6 (some .int) false ({ frames := 0, cells := 0, slots := 0, locals := 0 } : Room) AC nC zC (cC false) (sC asT false) (HC Z "DeltaCausalMap" fsT asT 23 false) [0, 1, 2, 0, 0, 0] 1 46 (29, 46, m_valueInSegment_29_P (m_valueInSegment_29 N)) :=
  blk_of_den (jl := []) (lst := m_valueInSegment_c) (m_valueInSegment_hop l hw N) (Or.inr (Or.inl ⟨rfl, rfl⟩)) rfl (by decide) (by decide) m_valueInSegment_cOk fn (fun L st S r ok h => by unfold m_valueInSegment_29_P at h; split at h; exact h; cases h)
set_option maxRecDepth 65536 in
set_option maxHeartbeats 4000000 in
theorem m_valueInSegment_3_ok (l : Launch) {Z : State} {a0 : Array Value} (hw : ∀ d ∈ tables_1, d.before a0 Z = true) (N : Nat) : ∀ n, Blk l Z "DeltaCausalMap" prog_1_method_18_code 6 (some .int) false ({ frames := 0, cells := 0, slots := 0, locals := 0 } : Room) AC nC zC (cC false) (sC asT false) (HC Z "DeltaCausalMap" fsT asT 23 false) [0, 1, 2, 0, 0, 0] 1 46 (3, 46, m_valueInSegment_3_P (m_valueInSegment_3 N n))
  | 0 => blk_none (fun L st S => by unfold m_valueInSegment_3_P; split <;> rfl)
  | n + 1 => have ih := m_valueInSegment_3_ok l hw N n
    blk_of_den (jl := [(3, 46, m_valueInSegment_3_P (m_valueInSegment_3 N n)), (29, 46, m_valueInSegment_29_P (m_valueInSegment_29 N))]) (lst := m_valueInSegment_c) (m_valueInSegment_hop l hw N) (Or.inr (Or.inl ⟨rfl, rfl⟩)) rfl (by decide) (by decide) m_valueInSegment_cOk (fc ih (fc (m_valueInSegment_29_ok l hw N) fn)) (fun L st S r ok h => by unfold m_valueInSegment_3_P at h; split at h; exact h; cases h)
set_option maxRecDepth 65536 in
set_option maxHeartbeats 4000000 in
theorem m_valueInSegment_0_ok (l : Launch) {Z : State} {a0 : Array Value} (hw : ∀ d ∈ tables_1, d.before a0 Z = true) (N : Nat) : Blk l Z "DeltaCausalMap" prog_1_method_18_code 6 (some .int) false ({ frames := 0, cells := 0, slots := 0, locals := 0 } : Room) AC nC zC (cC false) (sC asT false) (HC Z "DeltaCausalMap" fsT asT 23 false) [0, 1, 2, 0, 0, 0] 1 46 (0, 46, m_valueInSegment_0_P (m_valueInSegment N)) :=
  blk_of_den (jl := [(3, 46, m_valueInSegment_3_P (m_valueInSegment_3 N N))]) (lst := m_valueInSegment_c) (m_valueInSegment_hop l hw N) (Or.inr (Or.inl ⟨rfl, rfl⟩)) rfl (by decide) (by decide) m_valueInSegment_cOk (fc (m_valueInSegment_3_ok l hw N N) fn) (fun L st S r ok h => by unfold m_valueInSegment_0_P at h; split at h; exact h; cases h)
def m_valueInSegment_F (N : Nat) : List AV → St → RS St := fun av S => match av with
  | [.inr (.inr (some 0)), .inr (.inl x1), .inl x3] => m_valueInSegment N x1 x3 S
  | _ => none
theorem m_valueInSegment_P0 (f : Int → Int → St → RS St) (x1 : Int) (x3 : Int) (S : St) : m_valueInSegment_0_P f (entryL [.inr (.inr (some 0)), .inr (.inl x1), .inl x3] 6) [] S = f x1 x3 S := rfl
set_option maxRecDepth 65536 in
set_option maxHeartbeats 4000000 in
theorem m_valueInSegment_con (l : Launch) {Z : State} {a0 : Array Value} (hw : ∀ d ∈ tables_1, d.before a0 Z = true) (N : Nat) : Con l Z "DeltaCausalMap" fsT asT 23 (⟨"DeltaCausalMap", "valueInSegment", "(JI)I"⟩ : MethodName) prog_1_method_18_code 6 (some .int) ({ frames := 0, cells := 0, slots := 0, locals := 0 } : Room) 1 (m_valueInSegment_F N) :=
  con_of (m_valueInSegment_0_ok l hw N) pnC rfl (fun av S r h oks => by unfold m_valueInSegment_F at h; split at h; exact ⟨(m_valueInSegment_P0 _ _ _ _).trans h, okL_entry rfl oks rfl⟩; cases h)
set_option maxRecDepth 65536 in
theorem m_valueInSegment_vir (l : Launch) {Z : State} {a0 : Array Value} (hw : ∀ d ∈ tables_1, d.before a0 Z = true) (N : Nat) (W : Nat) (R : Room) (h1 : 1 ≤ R.frames) (h2 : W + 17 ≤ R.locals) : VirOk l Z a0 "DeltaCausalMap" fsT asT 23 W R (149, 2, 1, m_valueInSegment_F N) :=
  ⟨(⟨"DeltaCausalMap", "valueInSegment", "(JI)I"⟩ : MethodName), prog_1_method_18_code, 6, (some .int), ({ frames := 0, cells := 0, slots := 0, locals := 0 } : Room), [.long, .int], rfl, (hw _ (List.mem_of_getElem? (i := 143) rfl)), (hw _ (List.mem_of_getElem? (i := 144) rfl)), Or.inl (hw _ (List.mem_of_getElem? (i := 145) rfl)), (hw _ (List.mem_of_getElem? (i := 146) rfl)), by decide +kernel, rfl, rfl, rfl, h1, by dsimp only; omega, m_valueInSegment_con l hw N⟩
/-! ## DeltaCausalMap.refreshRegister:(IIJ)V -/
set_option maxRecDepth 65536 in
set_option maxHeartbeats 4000000 in
theorem m_refreshRegister_hop (l : Launch) {Z : State} {a0 : Array Value} (hw : ∀ d ∈ tables_1, d.before a0 Z = true) (N : Nat) : HopAll l Z "DeltaCausalMap" prog_1_method_17_code 6 none false ({ frames := 1, cells := 0, slots := 0, locals := 19 } : Room) AC nC zC (cC false) (sC asT false) (HC Z "DeltaCausalMap" fsT asT 23 false) (hopC fsT asT 23 2 false 1 cIT cJT [(149, 2, 1, m_valueInSegment_F N)] []) :=
  hopC_all (clsT hw) mhC (hw _ (List.mem_of_getElem? (i := 2) rfl)) (fun h => nomatch h) (cIT_ok hw) (cJT_ok hw) (fc (m_valueInSegment_vir l hw N _ _ (by decide) (by decide)) fn) fn (by decide) (by decide)
def m_refreshRegister_3 (N : Nat) : Nat → Int → Int → Int → Int → St → RS St
  | 0, _, _, _, _, _ => none
  | n + 1, x1, x2, x3, x5, S =>
    (if x5 < 4 then
      ((m_valueInSegment N x3 x5 S).bind fun r1 =>
      (if 0 ≤ w32 ((w32 ((w32 (x1 * 32)) + (w32 (x2 * 4)))) + x5) ∧ w32 ((w32 ((w32 (x1 * 32)) + (w32 (x2 * 4)))) + x5) < 128 then
      m_refreshRegister_3 N n x1 x2 x3 (w32 (x5 + 1)) (stw r1.2 9 (w32 ((w32 ((w32 (x1 * 32)) + (w32 (x2 * 4)))) + x5)) r1.1)
      else none))
    else
      some (0, S))
def m_refreshRegister_3_P (f : Int → Int → Int → Int → St → RS St) : Jn St := fun L st S => match L, st with
  | [some (some (.inr (.inr (some 0)))), some (some (.inl x1)), some (some (.inl x2)), some (some (.inr (.inl x3))), _, some (some (.inl x5))], [] => f x1 x2 x3 x5 S
  | _, _ => none
def m_refreshRegister (N : Nat) (x1 : Int) (x2 : Int) (x3 : Int) (S : St) : RS St :=
  m_refreshRegister_3 N N x1 x2 x3 0 S
def m_refreshRegister_0_P (f : Int → Int → Int → St → RS St) : Jn St := fun L st S => match L, st with
  | [some (some (.inr (.inr (some 0)))), some (some (.inl x1)), some (some (.inl x2)), some (some (.inr (.inl x3))), _, _], [] => f x1 x2 x3 S
  | _, _ => none
def m_refreshRegister_c : List Ent := [(0, .iconst 0, 1, []), (1, .istore 5, 2, []), (3, .iload 5, 2, []), (5, .iconst 4, 1, []), (6, .if_icmp .ge 32, 3, [38]), (9, .aload_n 0, 1, []), (10, .getfield 35, 3, []), (13, .iload_n 1, 1, []), (14, .bipush 32, 2, []), (16, .imul, 1, []), (17, .iload_n 2, 1, []), (18, .iconst 4, 1, []), (19, .imul, 1, []), (20, .iadd, 1, []), (21, .iload 5, 2, []), (23, .iadd, 1, []), (24, .aload_n 0, 1, []), (25, .lload_n 3, 1, []), (26, .iload 5, 2, []), (28, .invokevirtual 149, 3, []), (31, .iastore, 1, []), (32, .iinc 5 1, 3, []), (35, .goto (-32), 3, [3]), (38, .return_, 1, [])]
set_option maxRecDepth 65536 in
theorem m_refreshRegister_cOk : codeOk prog_1_method_17_code m_refreshRegister_c = true := by decide +kernel
set_option maxRecDepth 65536 in
set_option maxHeartbeats 4000000 in
theorem m_refreshRegister_3_ok (l : Launch) {Z : State} {a0 : Array Value} (hw : ∀ d ∈ tables_1, d.before a0 Z = true) (N : Nat) : ∀ n, Blk l Z "DeltaCausalMap" prog_1_method_17_code 6 none false ({ frames := 1, cells := 0, slots := 0, locals := 19 } : Room) AC nC zC (cC false) (sC asT false) (HC Z "DeltaCausalMap" fsT asT 23 false) [0, 0, 0, 1, 2, 0] 0 46 (3, 46, m_refreshRegister_3_P (m_refreshRegister_3 N n))
  | 0 => blk_none (fun L st S => by unfold m_refreshRegister_3_P; split <;> rfl)
  | n + 1 => have ih := m_refreshRegister_3_ok l hw N n
    blk_of_den (jl := [(3, 46, m_refreshRegister_3_P (m_refreshRegister_3 N n))]) (lst := m_refreshRegister_c) (m_refreshRegister_hop l hw N) (Or.inl ⟨rfl, rfl⟩) rfl (by decide) (by decide) m_refreshRegister_cOk (fc ih fn) (fun L st S r ok h => by unfold m_refreshRegister_3_P at h; split at h; exact h; cases h)
set_option maxRecDepth 65536 in
set_option maxHeartbeats 4000000 in
theorem m_refreshRegister_0_ok (l : Launch) {Z : State} {a0 : Array Value} (hw : ∀ d ∈ tables_1, d.before a0 Z = true) (N : Nat) : Blk l Z "DeltaCausalMap" prog_1_method_17_code 6 none false ({ frames := 1, cells := 0, slots := 0, locals := 19 } : Room) AC nC zC (cC false) (sC asT false) (HC Z "DeltaCausalMap" fsT asT 23 false) [0, 0, 0, 1, 2, 0] 0 46 (0, 46, m_refreshRegister_0_P (m_refreshRegister N)) :=
  blk_of_den (jl := [(3, 46, m_refreshRegister_3_P (m_refreshRegister_3 N N))]) (lst := m_refreshRegister_c) (m_refreshRegister_hop l hw N) (Or.inl ⟨rfl, rfl⟩) rfl (by decide) (by decide) m_refreshRegister_cOk (fc (m_refreshRegister_3_ok l hw N N) fn) (fun L st S r ok h => by unfold m_refreshRegister_0_P at h; split at h; exact h; cases h)
def m_refreshRegister_F (N : Nat) : List AV → St → RS St := fun av S => match av with
  | [.inr (.inr (some 0)), .inl x1, .inl x2, .inr (.inl x3)] => m_refreshRegister N x1 x2 x3 S
  | _ => none
theorem m_refreshRegister_P0 (f : Int → Int → Int → St → RS St) (x1 : Int) (x2 : Int) (x3 : Int) (S : St) : m_refreshRegister_0_P f (entryL [.inr (.inr (some 0)), .inl x1, .inl x2, .inr (.inl x3)] 6) [] S = f x1 x2 x3 S := rfl
set_option maxRecDepth 65536 in
set_option maxHeartbeats 4000000 in
theorem m_refreshRegister_con (l : Launch) {Z : State} {a0 : Array Value} (hw : ∀ d ∈ tables_1, d.before a0 Z = true) (N : Nat) : Con l Z "DeltaCausalMap" fsT asT 23 (⟨"DeltaCausalMap", "refreshRegister", "(IIJ)V"⟩ : MethodName) prog_1_method_17_code 6 none ({ frames := 1, cells := 0, slots := 0, locals := 19 } : Room) 0 (m_refreshRegister_F N) :=
  con_of (m_refreshRegister_0_ok l hw N) pnC rfl (fun av S r h oks => by unfold m_refreshRegister_F at h; split at h; exact ⟨(m_refreshRegister_P0 _ _ _ _ _).trans h, okL_entry rfl oks rfl⟩; cases h)
set_option maxRecDepth 65536 in
theorem m_refreshRegister_vir (l : Launch) {Z : State} {a0 : Array Value} (hw : ∀ d ∈ tables_1, d.before a0 Z = true) (N : Nat) (W : Nat) (R : Room) (h1 : 2 ≤ R.frames) (h2 : W + 36 ≤ R.locals) : VirOk l Z a0 "DeltaCausalMap" fsT asT 23 W R (145, 3, 0, m_refreshRegister_F N) :=
  ⟨(⟨"DeltaCausalMap", "refreshRegister", "(IIJ)V"⟩ : MethodName), prog_1_method_17_code, 6, none, ({ frames := 1, cells := 0, slots := 0, locals := 19 } : Room), [.int, .int, .long], rfl, (hw _ (List.mem_of_getElem? (i := 139) rfl)), (hw _ (List.mem_of_getElem? (i := 140) rfl)), Or.inl (hw _ (List.mem_of_getElem? (i := 141) rfl)), (hw _ (List.mem_of_getElem? (i := 142) rfl)), by decide +kernel, rfl, rfl, rfl, h1, by dsimp only; omega, m_refreshRegister_con l hw N⟩
/-! ## DeltaCausalMap.refreshView:(I)V -/
set_option maxRecDepth 65536 in
set_option maxHeartbeats 4000000 in
theorem m_refreshView_hop (l : Launch) {Z : State} {a0 : Array Value} (hw : ∀ d ∈ tables_1, d.before a0 Z = true) (N : Nat) : HopAll l Z "DeltaCausalMap" prog_1_method_16_code 9 none false ({ frames := 2, cells := 0, slots := 0, locals := 36 } : Room) AC nC zC (cC false) (sC asT false) (HC Z "DeltaCausalMap" fsT asT 23 false) (hopC fsT asT 23 0 false 1 cIT cJT [(145, 3, 0, m_refreshRegister_F N)] []) :=
  hopC_all (clsT hw) mhC (hw _ (List.mem_of_getElem? (i := 2) rfl)) (fun h => nomatch h) (cIT_ok hw) (cJT_ok hw) (fc (m_refreshRegister_vir l hw N _ _ (by decide) (by decide)) fn) fn (by decide) (by decide)
def m_refreshView_94 (N : Nat) (x1 : Int) (x2 : Int) (x3 : Int) (S : St) : RS St :=
  (if 0 ≤ x1 ∧ x1 < 4 then
  (if 0 ≤ x1 ∧ x1 < 4 then
  some (0, stw (stw S 10 x1 x2) 11 x1 x3)
  else none)
  else none)
def m_refreshView_94_P (f : Int → Int → Int → St → RS St) : Jn St := fun L st S => match L, st with
  | [some (some (.inr (.inr (some 0)))), some (some (.inl x1)), some (some (.inl x2)), some (some (.inl x3)), _, _, _, _, _], [] => f x1 x2 x3 S
  | _, _ => none
def m_refreshView_79 (N : Nat) (k7 : Int → Int → Int → Int → St → RS St) (x1 : Int) (x2 : Int) (x3 : Int) (x4 : Int) (x5 : Int) (S : St) : RS St :=
  ((m_refreshRegister N x1 x4 x5 S).bind fun r1 =>
  k7 x1 x2 x3 (w32 (x4 + 1)) r1.2)
def m_refreshView_79_P (f : Int → Int → Int → Int → Int → St → RS St) : Jn St := fun L st S => match L, st with
  | [some (some (.inr (.inr (some 0)))), some (some (.inl x1)), some (some (.inl x2)), some (some (.inl x3)), some (some (.inl x4)), some (some (.inr (.inl x5))), _, _, _], [] => f x1 x2 x3 x4 x5 S
  | _, _ => none
def m_refreshView_72 (N : Nat) (k7 : Int → Int → Int → Int → St → RS St) (x1 : Int) (x2 : Int) (x3 : Int) (x4 : Int) (x5 : Int) (S : St) : RS St :=
  m_refreshView_79 N k7 x1 x2 (ior x3 (ishl 1 x4)) x4 x5 S
def m_refreshView_72_P (f : Int → Int → Int → Int → Int → St → RS St) : Jn St := fun L st S => match L, st with
  | [some (some (.inr (.inr (some 0)))), some (some (.inl x1)), some (some (.inl x2)), some (some (.inl x3)), some (some (.inl x4)), some (some (.inr (.inl x5))), _, _, _], [] => f x1 x2 x3 x4 x5 S
  | _, _ => none
def m_refreshView_58 (N : Nat) (k7 : Int → Int → Int → Int → St → RS St) (x1 : Int) (x2 : Int) (x3 : Int) (x4 : Int) (x5 : Int) (x7 : Int) (S : St) : RS St :=
  (if lcmp x5 0 = 0 then
    (if lcmp x7 0 = 0 then
      m_refreshView_79 N k7 x1 x2 x3 x4 x5 S
    else
      m_refreshView_72 N k7 x1 x2 x3 x4 x5 S)
  else
    m_refreshView_72 N k7 x1 x2 x3 x4 x5 S)
def m_refreshView_58_P (f : Int → Int → Int → Int → Int → Int → St → RS St) : Jn St := fun L st S => match L, st with
  | [some (some (.inr (.inr (some 0)))), some (some (.inl x1)), some (some (.inl x2)), some (some (.inl x3)), some (some (.inl x4)), some (some (.inr (.inl x5))), _, some (some (.inr (.inl x7))), _], [] => f x1 x2 x3 x4 x5 x7 S
  | _, _ => none
def m_refreshView_7 (N : Nat) : Nat → Int → Int → Int → Int → St → RS St
  | 0, _, _, _, _, _ => none
  | n + 1, x1, x2, x3, x4, S =>
    (if x4 < S 0 23 then
      (if 0 ≤ w32 ((w32 (x1 * 8)) + x4) ∧ w32 ((w32 (x1 * 8)) + x4) < 32 then
      (if 0 ≤ w32 ((w32 (x1 * 8)) + x4) ∧ w32 ((w32 (x1 * 8)) + x4) < 32 then
      (if lcmp (S 8 (w32 ((w32 (x1 * 8)) + x4))) 0 = 0 then
        m_refreshView_58 N (m_refreshView_7 N n) x1 x2 x3 x4 (S 7 (w32 ((w32 (x1 * 8)) + x4))) (S 8 (w32 ((w32 (x1 * 8)) + x4))) S
      else
        m_refreshView_58 N (m_refreshView_7 N n) x1 (ior x2 (ishl 1 x4)) x3 x4 (S 7 (w32 ((w32 (x1 * 8)) + x4))) (S 8 (w32 ((w32 (x1 * 8)) + x4))) S)
      else none)
      else none)
    else
      m_refreshView_94 N x1 x2 x3 S)
def m_refreshView_7_P (f : Int → Int → Int → Int → St → RS St) : Jn St := fun L st S => match L, st with
  | [some (some (.inr (.inr (some 0)))), some (some (.inl x1)), some (some (.inl x2)), some (some (.inl x3)), some (some (.inl x4)), _, _, _, _], [] => f x1 x2 x3 x4 S
  | _, _ => none
def m_refreshView (N : Nat) (x1 : Int) (S : St) : RS St :=
  m_refreshView_7 N N x1 0 0 0 S
def m_refreshView_0_P (f : Int → St → RS St) : Jn St := fun L st S => match L, st with
  | [some (some (.inr (.inr (some 0)))), some (some (.inl x1)), _, _, _, _, _, _, _], [] => f x1 S
  | _, _ => none
def m_refreshView_c : List Ent := [(0, .iconst 0, 1, []), (1, .istore_n 2, 1, []), (2, .iconst 0, 1, []), (3, .istore_n 3, 1, []), (4, .iconst 0, 1, []), (5, .istore 4, 2, []), (7, .iload 4, 2, []), (9, .aload_n 0, 1, []), (10, .getfield 84, 3, []), (13, .if_icmp .ge 81, 3, [94]), (16, .aload_n 0, 1, []), (17, .getfield 29, 3, []), (20, .iload_n 1, 1, []), (21, .bipush 8, 2, []), (23, .imul, 1, []), (24, .iload 4, 2, []), (26, .iadd, 1, []), (27, .laload, 1, []), (28, .lstore 5, 2, []), (30, .aload_n 0, 1, []), (31, .getfield 32, 3, []), (34, .iload_n 1, 1, []), (35, .bipush 8, 2, []), (37, .imul, 1, []), (38, .iload 4, 2, []), (40, .iadd, 1, []), (41, .laload, 1, []), (42, .lstore 7, 2, []), (44, .lload 7, 2, []), (46, .lconst 0, 1, []), (47, .lcmp, 1, []), (48, .ifCond .eq 10, 3, [58]), (51, .iload_n 2, 1, []), (52, .iconst 1, 1, []), (53, .iload 4, 2, []), (55, .ishl, 1, []), (56, .ior, 1, []), (57, .istore_n 2, 1, []), (58, .lload 5, 2, []), (60, .lconst 0, 1, []), (61, .lcmp, 1, []), (62, .ifCond .ne 10, 3, [72]), (65, .lload 7, 2, []), (67, .lconst 0, 1, []), (68, .lcmp, 1, []), (69, .ifCond .eq 10, 3, [79]), (72, .iload_n 3, 1, []), (73, .iconst 1, 1, []), (74, .iload 4, 2, []), (76, .ishl, 1, []), (77, .ior, 1, []), (78, .istore_n 3, 1, []), (79, .aload_n 0, 1, []), (80, .iload_n 1, 1, []), (81, .iload 4, 2, []), (83, .lload 5, 2, []), (85, .invokevirtual 145, 3, []), (88, .iinc 4 1, 3, []), (91, .goto (-84), 3, [7]), (94, .aload_n 0, 1, []), (95, .getfield 38, 3, []), (98, .iload_n 1, 1, []), (99, .iload_n 2, 1, []), (100, .iastore, 1, []), (101, .aload_n 0, 1, []), (102, .getfield 41, 3, []), (105, .iload_n 1, 1, []), (106, .iload_n 3, 1, []), (107, .iastore, 1, []), (108, .return_, 1, [])]
set_option maxRecDepth 65536 in
theorem m_refreshView_cOk : codeOk prog_1_method_16_code m_refreshView_c = true := by decide +kernel
set_option maxRecDepth 65536 in
set_option maxHeartbeats 4000000 in
theorem m_refreshView_94_ok (l : Launch) {Z : State} {a0 : Array Value} (hw : ∀ d ∈ tables_1, d.before a0 Z = true) (N : Nat) : Blk l Z "DeltaCausalMap" prog_1_method_16_code 9 none false ({ frames := 2, cells := 0, slots := 0, locals := 36 } : Room) AC nC zC (cC false) (sC asT false) (HC Z "DeltaCausalMap" fsT asT 23 false) [0, 0, 0, 0, 0, 1, 2, 1, 2] 0 46 (94, 46, m_refreshView_94_P (m_refreshView_94 N)) :=
  blk_of_den (jl := []) (lst := m_refreshView_c) (m_refreshView_hop l hw N) (Or.inl ⟨rfl, rfl⟩) rfl (by decide) (by decide) m_refreshView_cOk fn (fun L st S r ok h => by unfold m_refreshView_94_P at h; split at h; exact h; cases h)
set_option maxRecDepth 65536 in
set_option maxHeartbeats 4000000 in
theorem m_refreshView_79_ok (l : Launch) {Z : State} {a0 : Array Value} (hw : ∀ d ∈ tables_1, d.before a0 Z = true) (N : Nat) {k7 : Int → Int → Int → Int → St → RS St} (h7 : Blk l Z "DeltaCausalMap" prog_1_method_16_code 9 none false ({ frames := 2, cells := 0, slots := 0, locals := 36 } : Room) AC nC zC (cC false) (sC asT false) (HC Z "DeltaCausalMap" fsT asT 23 false) [0, 0, 0, 0, 0, 1, 2, 1, 2] 0 46 (7, 46, m_refreshView_7_P (k7))) : Blk l Z "DeltaCausalMap" prog_1_method_16_code 9 none false ({ frames := 2, cells := 0, slots := 0, locals := 36 } : Room) AC nC zC (cC false) (sC asT false) (HC Z "DeltaCausalMap" fsT asT 23 false) [0, 0, 0, 0, 0, 1, 2, 1, 2] 0 46 (79, 46, m_refreshView_79_P (m_refreshView_79 N k7)) :=
  blk_of_den (jl := [(7, 46, m_refreshView_7_P (k7))]) (lst := m_refreshView_c) (m_refreshView_hop l hw N) (Or.inl ⟨rfl, rfl⟩) rfl (by decide) (by decide) m_refreshView_cOk (fc h7 fn) (fun L st S r ok h => by unfold m_refreshView_79_P at h; split at h; exact h; cases h)
set_option maxRecDepth 65536 in
set_option maxHeartbeats 4000000 in
theorem m_refreshView_72_ok (l : Launch) {Z : State} {a0 : Array Value} (hw : ∀ d ∈ tables_1, d.before a0 Z = true) (N : Nat) {k7 : Int → Int → Int → Int → St → RS St} (h7 : Blk l Z "DeltaCausalMap" prog_1_method_16_code 9 none false ({ frames := 2, cells := 0, slots := 0, locals := 36 } : Room) AC nC zC (cC false) (sC asT false) (HC Z "DeltaCausalMap" fsT asT 23 false) [0, 0, 0, 0, 0, 1, 2, 1, 2] 0 46 (7, 46, m_refreshView_7_P (k7))) : Blk l Z "DeltaCausalMap" prog_1_method_16_code 9 none false ({ frames := 2, cells := 0, slots := 0, locals := 36 } : Room) AC nC zC (cC false) (sC asT false) (HC Z "DeltaCausalMap" fsT asT 23 false) [0, 0, 0, 0, 0, 1, 2, 1, 2] 0 46 (72, 46, m_refreshView_72_P (m_refreshView_72 N k7)) :=
  blk_of_den (jl := [(79, 46, m_refreshView_79_P (m_refreshView_79 N k7))]) (lst := m_refreshView_c) (m_refreshView_hop l hw N) (Or.inl ⟨rfl, rfl⟩) rfl (by decide) (by decide) m_refreshView_cOk (fc (m_refreshView_79_ok l hw N h7) fn) (fun L st S r ok h => by unfold m_refreshView_72_P at h; split at h; exact h; cases h)
set_option maxRecDepth 65536 in
set_option maxHeartbeats 4000000 in
theorem m_refreshView_58_ok (l : Launch) {Z : State} {a0 : Array Value} (hw : ∀ d ∈ tables_1, d.before a0 Z = true) (N : Nat) {k7 : Int → Int → Int → Int → St → RS St} (h7 : Blk l Z "DeltaCausalMap" prog_1_method_16_code 9 none false ({ frames := 2, cells := 0, slots := 0, locals := 36 } : Room) AC nC zC (cC false) (sC asT false) (HC Z "DeltaCausalMap" fsT asT 23 false) [0, 0, 0, 0, 0, 1, 2, 1, 2] 0 46 (7, 46, m_refreshView_7_P (k7))) : Blk l Z "DeltaCausalMap" prog_1_method_16_code 9 none false ({ frames := 2, cells := 0, slots := 0, locals := 36 } : Room) AC nC zC (cC false) (sC asT false) (HC Z "DeltaCausalMap" fsT asT 23 false) [0, 0, 0, 0, 0, 1, 2, 1, 2] 0 46 (58, 46, m_refreshView_58_P (m_refreshView_58 N k7)) :=
  blk_of_den (jl := [(72, 46, m_refreshView_72_P (m_refreshView_72 N k7)), (79, 46, m_refreshView_79_P (m_refreshView_79 N k7))]) (lst := m_refreshView_c) (m_refreshView_hop l hw N) (Or.inl ⟨rfl, rfl⟩) rfl (by decide) (by decide) m_refreshView_cOk (fc (m_refreshView_72_ok l hw N h7) (fc (m_refreshView_79_ok l hw N h7) fn)) (fun L st S r ok h => by unfold m_refreshView_58_P at h; split at h; exact h; cases h)
set_option maxRecDepth 65536 in
set_option maxHeartbeats 4000000 in
theorem m_refreshView_7_ok (l : Launch) {Z : State} {a0 : Array Value} (hw : ∀ d ∈ tables_1, d.before a0 Z = true) (N : Nat) : ∀ n, Blk l Z "DeltaCausalMap" prog_1_method_16_code 9 none false ({ frames := 2, cells := 0, slots := 0, locals := 36 } : Room) AC nC zC (cC false) (sC asT false) (HC Z "DeltaCausalMap" fsT asT 23 false) [0, 0, 0, 0, 0, 1, 2, 1, 2] 0 46 (7, 46, m_refreshView_7_P (m_refreshView_7 N n))
  | 0 => blk_none (fun L st S => by unfold m_refreshView_7_P; split <;> rfl)
  | n + 1 => have ih := m_refreshView_7_ok l hw N n
    blk_of_den (jl := [(94, 46, m_refreshView_94_P (m_refreshView_94 N)), (58, 46, m_refreshView_58_P (m_refreshView_58 N (m_refreshView_7 N n)))]) (lst := m_refreshView_c) (m_refreshView_hop l hw N) (Or.inl ⟨rfl, rfl⟩) rfl (by decide) (by decide) m_refreshView_cOk (fc (m_refreshView_94_ok l hw N) (fc (m_refreshView_58_ok l hw N ih) fn)) (fun L st S r ok h => by unfold m_refreshView_7_P at h; split at h; exact h; cases h)
set_option maxRecDepth 65536 in
set_option maxHeartbeats 4000000 in
theorem m_refreshView_0_ok (l : Launch) {Z : State} {a0 : Array Value} (hw : ∀ d ∈ tables_1, d.before a0 Z = true) (N : Nat) : Blk l Z "DeltaCausalMap" prog_1_method_16_code 9 none false ({ frames := 2, cells := 0, slots := 0, locals := 36 } : Room) AC nC zC (cC false) (sC asT false) (HC Z "DeltaCausalMap" fsT asT 23 false) [0, 0, 0, 0, 0, 1, 2, 1, 2] 0 46 (0, 46, m_refreshView_0_P (m_refreshView N)) :=
  blk_of_den (jl := [(7, 46, m_refreshView_7_P (m_refreshView_7 N N))]) (lst := m_refreshView_c) (m_refreshView_hop l hw N) (Or.inl ⟨rfl, rfl⟩) rfl (by decide) (by decide) m_refreshView_cOk (fc (m_refreshView_7_ok l hw N N) fn) (fun L st S r ok h => by unfold m_refreshView_0_P at h; split at h; exact h; cases h)
def m_refreshView_F (N : Nat) : List AV → St → RS St := fun av S => match av with
  | [.inr (.inr (some 0)), .inl x1] => m_refreshView N x1 S
  | _ => none
theorem m_refreshView_P0 (f : Int → St → RS St) (x1 : Int) (S : St) : m_refreshView_0_P f (entryL [.inr (.inr (some 0)), .inl x1] 9) [] S = f x1 S := rfl
set_option maxRecDepth 65536 in
set_option maxHeartbeats 4000000 in
theorem m_refreshView_con (l : Launch) {Z : State} {a0 : Array Value} (hw : ∀ d ∈ tables_1, d.before a0 Z = true) (N : Nat) : Con l Z "DeltaCausalMap" fsT asT 23 (⟨"DeltaCausalMap", "refreshView", "(I)V"⟩ : MethodName) prog_1_method_16_code 9 none ({ frames := 2, cells := 0, slots := 0, locals := 36 } : Room) 0 (m_refreshView_F N) :=
  con_of (m_refreshView_0_ok l hw N) pnC rfl (fun av S r h oks => by unfold m_refreshView_F at h; split at h; exact ⟨(m_refreshView_P0 _ _ _).trans h, okL_entry rfl oks rfl⟩; cases h)
set_option maxRecDepth 65536 in
theorem m_refreshView_vir (l : Launch) {Z : State} {a0 : Array Value} (hw : ∀ d ∈ tables_1, d.before a0 Z = true) (N : Nat) (W : Nat) (R : Room) (h1 : 3 ≤ R.frames) (h2 : W + 56 ≤ R.locals) : VirOk l Z a0 "DeltaCausalMap" fsT asT 23 W R (140, 1, 0, m_refreshView_F N) :=
  ⟨(⟨"DeltaCausalMap", "refreshView", "(I)V"⟩ : MethodName), prog_1_method_16_code, 9, none, ({ frames := 2, cells := 0, slots := 0, locals := 36 } : Room), [.int], rfl, (hw _ (List.mem_of_getElem? (i := 135) rfl)), (hw _ (List.mem_of_getElem? (i := 136) rfl)), Or.inl (hw _ (List.mem_of_getElem? (i := 137) rfl)), (hw _ (List.mem_of_getElem? (i := 138) rfl)), by decide +kernel, rfl, rfl, rfl, h1, by dsimp only; omega, m_refreshView_con l hw N⟩
/-! ## DeltaCausalMap.join:(IJ)V -/
set_option maxRecDepth 65536 in
set_option maxHeartbeats 4000000 in
theorem m_join_hop (l : Launch) {Z : State} {a0 : Array Value} (hw : ∀ d ∈ tables_1, d.before a0 Z = true) (N : Nat) : HopAll l Z "DeltaCausalMap" prog_1_method_11_code 7 none false ({ frames := 3, cells := 0, slots := 0, locals := 56 } : Room) AC nC zC (cC false) (sC asT false) (HC Z "DeltaCausalMap" fsT asT 23 false) (hopC fsT asT 23 0 false 1 cIT cJT [(130, 2, 0, m_addDot_F N), (134, 2, 0, m_pruneStores_F N), (137, 2, 0, m_recordChange_F N), (140, 1, 0, m_refreshView_F N)] []) :=
  hopC_all (clsT hw) mhC (hw _ (List.mem_of_getElem? (i := 2) rfl)) (fun h => nomatch h) (cIT_ok hw) (cJT_ok hw) (fc (m_addDot_vir l hw N _ _ (by decide) (by decide)) (fc (m_pruneStores_vir l hw N _ _ (by decide) (by decide)) (fc (m_recordChange_vir l hw N _ _ (by decide) (by decide)) (fc (m_refreshView_vir l hw N _ _ (by decide) (by decide)) fn)))) fn (by decide) (by decide)
def m_join_49 (N : Nat) (x1 : Int) (x2 : Int) (x4 : Int) (S : St) : RS St :=
  ((m_pruneStores N x1 x4 S).bind fun r1 =>
  (if 0 ≤ x1 ∧ x1 < 4 then
  (if 0 ≤ x1 ∧ x1 < 4 then
  ((m_recordChange N x1 x2 (stw r1.2 5 x1 (lor (r1.2 5 x1) x2))).bind fun r2 =>
  ((m_refreshView N x1 r2.2).bind fun r3 =>
  some (0, r3.2)))
  else none)
  else none))
def m_join_49_P (f : Int → Int → Int → St → RS St) : Jn St := fun L st S => match L, st with
  | [some (some (.inr (.inr (some 0)))), some (some (.inl x1)), some (some (.inr (.inl x2))), _, some (some (.inr (.inl x4))), _, _], [] => f x1 x2 x4 S
  | _, _ => none
def m_join_43 (N : Nat) (k6 : Int → Int → Int → Int → St → RS St) (x1 : Int) (x2 : Int) (x4 : Int) (x6 : Int) (S : St) : RS St :=
  k6 x1 x2 x4 (w32 (x6 + 1)) S
def m_join_43_P (f : Int → Int → Int → Int → St → RS St) : Jn St := fun L st S => match L, st with
  | [some (some (.inr (.inr (some 0)))), some (some (.inl x1)), some (some (.inr (.inl x2))), _, some (some (.inr (.inl x4))), _, some (some (.inl x6))], [] => f x1 x2 x4 x6 S
  | _, _ => none
def m_join_6 (N : Nat) : Nat → Int → Int → Int → Int → St → RS St
  | 0, _, _, _, _, _ => none
  | n + 1, x1, x2, x4, x6, S =>
    (if x6 < 64 then
      (if lcmp (land (lushr x2 x6) 1) 0 = 0 then
        m_join_43 N (m_join_6 N n) x1 x2 x4 x6 S
      else
        (if 0 ≤ x6 ∧ x6 < 64 then
        ((m_addDot N x1 x6 S).bind fun r1 =>
        m_join_43 N (m_join_6 N n) x1 x2 (lor x4 (S 4 x6)) x6 r1.2)
        else none))
    else
      m_join_49 N x1 x2 x4 S)
def m_join_6_P (f : Int → Int → Int → Int → St → RS St) : Jn St := fun L st S => match L, st with
  | [some (some (.inr (.inr (some 0)))), some (some (.inl x1)), some (some (.inr (.inl x2))), _, some (some (.inr (.inl x4))), _, some (some (.inl x6))], [] => f x1 x2 x4 x6 S
  | _, _ => none
def m_join (N : Nat) (x1 : Int) (x2 : Int) (S : St) : RS St :=
  m_join_6 N N x1 x2 0 0 S
def m_join_0_P (f : Int → Int → St → RS St) : Jn St := fun L st S => match L, st with
  | [some (some (.inr (.inr (some 0)))), some (some (.inl x1)), some (some (.inr (.inl x2))), _, _, _, _], [] => f x1 x2 S
  | _, _ => none
def m_join_c : List Ent := [(0, .lconst 0, 1, []), (1, .lstore 4, 2, []), (3, .iconst 0, 1, []), (4, .istore 6, 2, []), (6, .iload 6, 2, []), (8, .bipush 64, 2, []), (10, .if_icmp .ge 39, 3, [49]), (13, .lload_n 2, 1, []), (14, .iload 6, 2, []), (16, .lushr, 1, []), (17, .lconst 1, 1, []), (18, .land, 1, []), (19, .lconst 0, 1, []), (20, .lcmp, 1, []), (21, .ifCond .eq 22, 3, [43]), (24, .lload 4, 2, []), (26, .aload_n 0, 1, []), (27, .getfield 19, 3, []), (30, .iload 6, 2, []), (32, .laload, 1, []), (33, .lor, 1, []), (34, .lstore 4, 2, []), (36, .aload_n 0, 1, []), (37, .iload_n 1, 1, []), (38, .iload 6, 2, []), (40, .invokevirtual 130, 3, []), (43, .iinc 6 1, 3, []), (46, .goto (-40), 3, [6]), (49, .aload_n 0, 1, []), (50, .iload_n 1, 1, []), (51, .lload 4, 2, []), (53, .invokevirtual 134, 3, []), (56, .aload_n 0, 1, []), (57, .getfield 23, 3, []), (60, .iload_n 1, 1, []), (61, .dup2, 1, []), (62, .laload, 1, []), (63, .lload_n 2, 1, []), (64, .lor, 1, []), (65, .lastore, 1, []), (66, .aload_n 0, 1, []), (67, .iload_n 1, 1, []), (68, .lload_n 2, 1, []), (69, .invokevirtual 137, 3, []), (72, .aload_n 0, 1, []), (73, .iload_n 1, 1, []), (74, .invokevirtual 140, 3, []), (77, .return_, 1, [])]
set_option maxRecDepth 65536 in
theorem m_join_cOk : codeOk prog_1_method_11_code m_join_c = true := by decide +kernel
set_option maxRecDepth 65536 in
set_option maxHeartbeats 4000000 in
theorem m_join_49_ok (l : Launch) {Z : State} {a0 : Array Value} (hw : ∀ d ∈ tables_1, d.before a0 Z = true) (N : Nat) : Blk l Z "DeltaCausalMap" prog_1_method_11_code 7 none false ({ frames := 3, cells := 0, slots := 0, locals := 56 } : Room) AC nC zC (cC false) (sC asT false) (HC Z "DeltaCausalMap" fsT asT 23 false) [0, 0, 1, 2, 1, 2, 0] 0 46 (49, 46, m_join_49_P (m_join_49 N)) :=
  blk_of_den (jl := []) (lst := m_join_c) (m_join_hop l hw N) (Or.inl ⟨rfl, rfl⟩) rfl (by decide) (by decide) m_join_cOk fn (fun L st S r ok h => by unfold m_join_49_P at h; split at h; exact h; cases h)
set_option maxRecDepth 65536 in
set_option maxHeartbeats 4000000 in
theorem m_join_43_ok (l : Launch) {Z : State} {a0 : Array Value} (hw : ∀ d ∈ tables_1, d.before a0 Z = true) (N : Nat) {k6 : Int → Int → Int → Int → St → RS St} (h6 : Blk l Z "DeltaCausalMap" prog_1_method_11_code 7 none false ({ frames := 3, cells := 0, slots := 0, locals := 56 } : Room) AC nC zC (cC false) (sC asT false) (HC Z "DeltaCausalMap" fsT asT 23 false) [0, 0, 1, 2, 1, 2, 0] 0 46 (6, 46, m_join_6_P (k6))) : Blk l Z "DeltaCausalMap" prog_1_method_11_code 7 none false ({ frames := 3, cells := 0, slots := 0, locals := 56 } : Room) AC nC zC (cC false) (sC asT false) (HC Z "DeltaCausalMap" fsT asT 23 false) [0, 0, 1, 2, 1, 2, 0] 0 46 (43, 46, m_join_43_P (m_join_43 N k6)) :=
  blk_of_den (jl := [(6, 46, m_join_6_P (k6))]) (lst := m_join_c) (m_join_hop l hw N) (Or.inl ⟨rfl, rfl⟩) rfl (by decide) (by decide) m_join_cOk (fc h6 fn) (fun L st S r ok h => by unfold m_join_43_P at h; split at h; exact h; cases h)
set_option maxRecDepth 65536 in
set_option maxHeartbeats 4000000 in
theorem m_join_6_ok (l : Launch) {Z : State} {a0 : Array Value} (hw : ∀ d ∈ tables_1, d.before a0 Z = true) (N : Nat) : ∀ n, Blk l Z "DeltaCausalMap" prog_1_method_11_code 7 none false ({ frames := 3, cells := 0, slots := 0, locals := 56 } : Room) AC nC zC (cC false) (sC asT false) (HC Z "DeltaCausalMap" fsT asT 23 false) [0, 0, 1, 2, 1, 2, 0] 0 46 (6, 46, m_join_6_P (m_join_6 N n))
  | 0 => blk_none (fun L st S => by unfold m_join_6_P; split <;> rfl)
  | n + 1 => have ih := m_join_6_ok l hw N n
    blk_of_den (jl := [(49, 46, m_join_49_P (m_join_49 N)), (43, 46, m_join_43_P (m_join_43 N (m_join_6 N n)))]) (lst := m_join_c) (m_join_hop l hw N) (Or.inl ⟨rfl, rfl⟩) rfl (by decide) (by decide) m_join_cOk (fc (m_join_49_ok l hw N) (fc (m_join_43_ok l hw N ih) fn)) (fun L st S r ok h => by unfold m_join_6_P at h; split at h; exact h; cases h)
set_option maxRecDepth 65536 in
set_option maxHeartbeats 4000000 in
theorem m_join_0_ok (l : Launch) {Z : State} {a0 : Array Value} (hw : ∀ d ∈ tables_1, d.before a0 Z = true) (N : Nat) : Blk l Z "DeltaCausalMap" prog_1_method_11_code 7 none false ({ frames := 3, cells := 0, slots := 0, locals := 56 } : Room) AC nC zC (cC false) (sC asT false) (HC Z "DeltaCausalMap" fsT asT 23 false) [0, 0, 1, 2, 1, 2, 0] 0 46 (0, 46, m_join_0_P (m_join N)) :=
  blk_of_den (jl := [(6, 46, m_join_6_P (m_join_6 N N))]) (lst := m_join_c) (m_join_hop l hw N) (Or.inl ⟨rfl, rfl⟩) rfl (by decide) (by decide) m_join_cOk (fc (m_join_6_ok l hw N N) fn) (fun L st S r ok h => by unfold m_join_0_P at h; split at h; exact h; cases h)
def m_join_F (N : Nat) : List AV → St → RS St := fun av S => match av with
  | [.inr (.inr (some 0)), .inl x1, .inr (.inl x2)] => m_join N x1 x2 S
  | _ => none
theorem m_join_P0 (f : Int → Int → St → RS St) (x1 : Int) (x2 : Int) (S : St) : m_join_0_P f (entryL [.inr (.inr (some 0)), .inl x1, .inr (.inl x2)] 7) [] S = f x1 x2 S := rfl
set_option maxRecDepth 65536 in
set_option maxHeartbeats 4000000 in
theorem m_join_con (l : Launch) {Z : State} {a0 : Array Value} (hw : ∀ d ∈ tables_1, d.before a0 Z = true) (N : Nat) : Con l Z "DeltaCausalMap" fsT asT 23 (⟨"DeltaCausalMap", "join", "(IJ)V"⟩ : MethodName) prog_1_method_11_code 7 none ({ frames := 3, cells := 0, slots := 0, locals := 56 } : Room) 0 (m_join_F N) :=
  con_of (m_join_0_ok l hw N) pnC rfl (fun av S r h oks => by unfold m_join_F at h; split at h; exact ⟨(m_join_P0 _ _ _ _).trans h, okL_entry rfl oks rfl⟩; cases h)
set_option maxRecDepth 65536 in
theorem m_join_vir (l : Launch) {Z : State} {a0 : Array Value} (hw : ∀ d ∈ tables_1, d.before a0 Z = true) (N : Nat) (W : Nat) (R : Room) (h1 : 4 ≤ R.frames) (h2 : W + 74 ≤ R.locals) : VirOk l Z a0 "DeltaCausalMap" fsT asT 23 W R (119, 2, 0, m_join_F N) :=
  ⟨(⟨"DeltaCausalMap", "join", "(IJ)V"⟩ : MethodName), prog_1_method_11_code, 7, none, ({ frames := 3, cells := 0, slots := 0, locals := 56 } : Room), [.int, .long], rfl, (hw _ (List.mem_of_getElem? (i := 119) rfl)), (hw _ (List.mem_of_getElem? (i := 120) rfl)), Or.inl (hw _ (List.mem_of_getElem? (i := 121) rfl)), (hw _ (List.mem_of_getElem? (i := 122) rfl)), by decide +kernel, rfl, rfl, rfl, h1, by dsimp only; omega, m_join_con l hw N⟩
/-! ## DeltaCausalMap.leastAck:(I)I -/
set_option maxRecDepth 65536 in
set_option maxHeartbeats 4000000 in
theorem m_leastAck_hop (l : Launch) {Z : State} {a0 : Array Value} (hw : ∀ d ∈ tables_1, d.before a0 Z = true) (N : Nat) : HopAll l Z "DeltaCausalMap" prog_1_method_20_code 4 (some .int) false ({ frames := 0, cells := 0, slots := 0, locals := 0 } : Room) AC nC zC (cC false) (sC asT false) (HC Z "DeltaCausalMap" fsT asT 23 false) (hopC fsT asT 23 0 false 1 cIT cJT [] []) :=
  hopC_all (clsT hw) mhC (hw _ (List.mem_of_getElem? (i := 2) rfl)) (fun h => nomatch h) (cIT_ok hw) (cJT_ok hw) fn fn (by decide) (by decide)
def m_leastAck_40 (N : Nat) (k5 : Int → Int → Int → St → RS St) (x1 : Int) (x2 : Int) (x3 : Int) (S : St) : RS St :=
  k5 x1 x2 (w32 (x3 + 1)) S
def m_leastAck_40_P (f : Int → Int → Int → St → RS St) : Jn St := fun L st S => match L, st with
  | [some (some (.inr (.inr (some 0)))), some (some (.inl x1)), some (some (.inl x2)), some (some (.inl x3))], [] => f x1 x2 x3 S
  | _, _ => none
def m_leastAck_5 (N : Nat) : Nat → Int → Int → Int → St → RS St
  | 0, _, _, _, _ => none
  | n + 1, x1, x2, x3, S =>
    (if x3 < 4 then
      (if x3 = x1 then
        m_leastAck_40 N (m_leastAck_5 N n) x1 x2 x3 S
      else
        (if 0 ≤ w32 ((w32 (x1 * 4)) + x3) ∧ w32 ((w32 (x1 * 4)) + x3) < 16 then
        (if S 14 (w32 ((w32 (x1 * 4)) + x3)) < x2 then
          (if 0 ≤ w32 ((w32 (x1 * 4)) + x3) ∧ w32 ((w32 (x1 * 4)) + x3) < 16 then
          m_leastAck_40 N (m_leastAck_5 N n) x1 (S 14 (w32 ((w32 (x1 * 4)) + x3))) x3 S
          else none)
        else
          m_leastAck_40 N (m_leastAck_5 N n) x1 x2 x3 S)
        else none))
    else
      some (x2, S))
def m_leastAck_5_P (f : Int → Int → Int → St → RS St) : Jn St := fun L st S => match L, st with
  | [some (some (.inr (.inr (some 0)))), some (some (.inl x1)), some (some (.inl x2)), some (some (.inl x3))], [] => f x1 x2 x3 S
  | _, _ => none
def m_leastAck (N : Nat) (x1 : Int) (S : St) : RS St :=
  m_leastAck_5 N N x1 2147483647 0 S
def m_leastAck_0_P (f : Int → St → RS St) : Jn St := fun L st S => match L, st with
  | [some (some (.inr (.inr (some 0)))), some (some (.inl x1)), _, _], [] => f x1 S
  | _, _ => none
def m_leastAck_c : List Ent := [(0, .ldc 157, 2, []), (2, .istore_n 2, 1, []), (3, .iconst 0, 1, []), (4, .istore_n 3, 1, []), (5, .iload_n 3, 1, []), (6, .iconst 4, 1, []), (7, .if_icmp .ge 39, 3, [46]), (10, .iload_n 3, 1, []), (11, .iload_n 1, 1, []), (12, .if_icmp .eq 28, 3, [40]), (15, .aload_n 0, 1, []), (16, .getfield 50, 3, []), (19, .iload_n 1, 1, []), (20, .iconst 4, 1, []), (21, .imul, 1, []), (22, .iload_n 3, 1, []), (23, .iadd, 1, []), (24, .iaload, 1, []), (25, .iload_n 2, 1, []), (26, .if_icmp .ge 14, 3, [40]), (29, .aload_n 0, 1, []), (30, .getfield 50, 3, []), (33, .iload_n 1, 1, []), (34, .iconst 4, 1, []), (35, .imul, 1, []), (36, .iload_n 3, 1, []), (37, .iadd, 1, []), (38, .iaload, 1, []), (39, .istore_n 2, 1, []), (40, .iinc 3 1, 3, []), (43, .goto (-38), 3, [5]), (46, .iload_n 2, 1, []), (47, .ireturn, 1, [])]
set_option maxRecDepth 65536 in
theorem m_leastAck_cOk : codeOk prog_1_method_20_code m_leastAck_c = true := by decide +kernel
set_option maxRecDepth 65536 in
set_option maxHeartbeats 4000000 in
theorem m_leastAck_40_ok (l : Launch) {Z : State} {a0 : Array Value} (hw : ∀ d ∈ tables_1, d.before a0 Z = true) (N : Nat) {k5 : Int → Int → Int → St → RS St} (h5 : Blk l Z "DeltaCausalMap" prog_1_method_20_code 4 (some .int) false ({ frames := 0, cells := 0, slots := 0, locals := 0 } : Room) AC nC zC (cC false) (sC asT false) (HC Z "DeltaCausalMap" fsT asT 23 false) [0, 0, 0, 0] 1 46 (5, 46, m_leastAck_5_P (k5))) : Blk l Z "DeltaCausalMap" prog_1_method_20_code 4 (some .int) false ({ frames := 0, cells := 0, slots := 0, locals := 0 } : Room) AC nC zC (cC false) (sC asT false) (HC Z "DeltaCausalMap" fsT asT 23 false) [0, 0, 0, 0] 1 46 (40, 46, m_leastAck_40_P (m_leastAck_40 N k5)) :=
  blk_of_den (jl := [(5, 46, m_leastAck_5_P (k5))]) (lst := m_leastAck_c) (m_leastAck_hop l hw N) (Or.inr (Or.inl ⟨rfl, rfl⟩)) rfl (by decide) (by decide) m_leastAck_cOk (fc h5 fn) (fun L st S r ok h => by unfold m_leastAck_40_P at h; split at h; exact h; cases h)
set_option maxRecDepth 65536 in
set_option maxHeartbeats 4000000 in
theorem m_leastAck_5_ok (l : Launch) {Z : State} {a0 : Array Value} (hw : ∀ d ∈ tables_1, d.before a0 Z = true) (N : Nat) : ∀ n, Blk l Z "DeltaCausalMap" prog_1_method_20_code 4 (some .int) false ({ frames := 0, cells := 0, slots := 0, locals := 0 } : Room) AC nC zC (cC false) (sC asT false) (HC Z "DeltaCausalMap" fsT asT 23 false) [0, 0, 0, 0] 1 46 (5, 46, m_leastAck_5_P (m_leastAck_5 N n))
  | 0 => blk_none (fun L st S => by unfold m_leastAck_5_P; split <;> rfl)
  | n + 1 => have ih := m_leastAck_5_ok l hw N n
    blk_of_den (jl := [(40, 46, m_leastAck_40_P (m_leastAck_40 N (m_leastAck_5 N n)))]) (lst := m_leastAck_c) (m_leastAck_hop l hw N) (Or.inr (Or.inl ⟨rfl, rfl⟩)) rfl (by decide) (by decide) m_leastAck_cOk (fc (m_leastAck_40_ok l hw N ih) fn) (fun L st S r ok h => by unfold m_leastAck_5_P at h; split at h; exact h; cases h)
set_option maxRecDepth 65536 in
set_option maxHeartbeats 4000000 in
theorem m_leastAck_0_ok (l : Launch) {Z : State} {a0 : Array Value} (hw : ∀ d ∈ tables_1, d.before a0 Z = true) (N : Nat) : Blk l Z "DeltaCausalMap" prog_1_method_20_code 4 (some .int) false ({ frames := 0, cells := 0, slots := 0, locals := 0 } : Room) AC nC zC (cC false) (sC asT false) (HC Z "DeltaCausalMap" fsT asT 23 false) [0, 0, 0, 0] 1 46 (0, 46, m_leastAck_0_P (m_leastAck N)) :=
  blk_of_den (jl := [(5, 46, m_leastAck_5_P (m_leastAck_5 N N))]) (lst := m_leastAck_c) (m_leastAck_hop l hw N) (Or.inr (Or.inl ⟨rfl, rfl⟩)) rfl (by decide) (by decide) m_leastAck_cOk (fc (m_leastAck_5_ok l hw N N) fn) (fun L st S r ok h => by unfold m_leastAck_0_P at h; split at h; exact h; cases h)
def m_leastAck_F (N : Nat) : List AV → St → RS St := fun av S => match av with
  | [.inr (.inr (some 0)), .inl x1] => m_leastAck N x1 S
  | _ => none
theorem m_leastAck_P0 (f : Int → St → RS St) (x1 : Int) (S : St) : m_leastAck_0_P f (entryL [.inr (.inr (some 0)), .inl x1] 4) [] S = f x1 S := rfl
set_option maxRecDepth 65536 in
set_option maxHeartbeats 4000000 in
theorem m_leastAck_con (l : Launch) {Z : State} {a0 : Array Value} (hw : ∀ d ∈ tables_1, d.before a0 Z = true) (N : Nat) : Con l Z "DeltaCausalMap" fsT asT 23 (⟨"DeltaCausalMap", "leastAck", "(I)I"⟩ : MethodName) prog_1_method_20_code 4 (some .int) ({ frames := 0, cells := 0, slots := 0, locals := 0 } : Room) 1 (m_leastAck_F N) :=
  con_of (m_leastAck_0_ok l hw N) pnC rfl (fun av S r h oks => by unfold m_leastAck_F at h; split at h; exact ⟨(m_leastAck_P0 _ _ _).trans h, okL_entry rfl oks rfl⟩; cases h)
set_option maxRecDepth 65536 in
theorem m_leastAck_vir (l : Launch) {Z : State} {a0 : Array Value} (hw : ∀ d ∈ tables_1, d.before a0 Z = true) (N : Nat) (W : Nat) (R : Room) (h1 : 1 ≤ R.frames) (h2 : W + 15 ≤ R.locals) : VirOk l Z a0 "DeltaCausalMap" fsT asT 23 W R (153, 1, 1, m_leastAck_F N) :=
  ⟨(⟨"DeltaCausalMap", "leastAck", "(I)I"⟩ : MethodName), prog_1_method_20_code, 4, (some .int), ({ frames := 0, cells := 0, slots := 0, locals := 0 } : Room), [.int], rfl, (hw _ (List.mem_of_getElem? (i := 151) rfl)), (hw _ (List.mem_of_getElem? (i := 152) rfl)), Or.inl (hw _ (List.mem_of_getElem? (i := 153) rfl)), (hw _ (List.mem_of_getElem? (i := 154) rfl)), by decide +kernel, rfl, rfl, rfl, h1, by dsimp only; omega, m_leastAck_con l hw N⟩
/-! ## DeltaCausalMap.trim:(I)V -/
set_option maxRecDepth 65536 in
set_option maxHeartbeats 4000000 in
theorem m_trim_hop (l : Launch) {Z : State} {a0 : Array Value} (hw : ∀ d ∈ tables_1, d.before a0 Z = true) (N : Nat) : HopAll l Z "DeltaCausalMap" prog_1_method_19_code 3 none false ({ frames := 1, cells := 0, slots := 0, locals := 15 } : Room) AC nC zC (cC false) (sC asT false) (HC Z "DeltaCausalMap" fsT asT 23 false) (hopC fsT asT 23 0 false 1 cIT cJT [(153, 1, 1, m_leastAck_F N)] []) :=
  hopC_all (clsT hw) mhC (hw _ (List.mem_of_getElem? (i := 2) rfl)) (fun h => nomatch h) (cIT_ok hw) (cJT_ok hw) (fc (m_leastAck_vir l hw N _ _ (by decide) (by decide)) fn) fn (by decide) (by decide)
def m_trim_23 (N : Nat) (x1 : Int) (S : St) : RS St :=
  (if 0 ≤ x1 ∧ x1 < 4 then
  (if 0 ≤ x1 ∧ x1 < 4 then
  (if S 0 25 < w32 ((S 12 x1) - (S 13 x1)) then
    (if 0 ≤ x1 ∧ x1 < 4 then
    (if 0 ≤ x1 ∧ x1 < 4 then
    some (0, stw S 13 x1 (w32 ((S 12 x1) - (S 0 25))))
    else none)
    else none)
  else
    some (0, S))
  else none)
  else none)
def m_trim_23_P (f : Int → St → RS St) : Jn St := fun L st S => match L, st with
  | [some (some (.inr (.inr (some 0)))), some (some (.inl x1)), _], [] => f x1 S
  | _, _ => none
def m_trim (N : Nat) (x1 : Int) (S : St) : RS St :=
  ((m_leastAck N x1 S).bind fun r1 =>
  (if 0 ≤ x1 ∧ x1 < 4 then
  (if r1.2 13 x1 < r1.1 then
    (if 0 ≤ x1 ∧ x1 < 4 then
    m_trim_23 N x1 (stw r1.2 13 x1 r1.1)
    else none)
  else
    m_trim_23 N x1 r1.2)
  else none))
def m_trim_0_P (f : Int → St → RS St) : Jn St := fun L st S => match L, st with
  | [some (some (.inr (.inr (some 0)))), some (some (.inl x1)), _], [] => f x1 S
  | _, _ => none
def m_trim_c : List Ent := [(0, .aload_n 0, 1, []), (1, .iload_n 1, 1, []), (2, .invokevirtual 153, 3, []), (5, .istore_n 2, 1, []), (6, .iload_n 2, 1, []), (7, .aload_n 0, 1, []), (8, .getfield 47, 3, []), (11, .iload_n 1, 1, []), (12, .iaload, 1, []), (13, .if_icmp .le 10, 3, [23]), (16, .aload_n 0, 1, []), (17, .getfield 47, 3, []), (20, .iload_n 1, 1, []), (21, .iload_n 2, 1, []), (22, .iastore, 1, []), (23, .aload_n 0, 1, []), (24, .getfield 44, 3, []), (27, .iload_n 1, 1, []), (28, .iaload, 1, []), (29, .aload_n 0, 1, []), (30, .getfield 47, 3, []), (33, .iload_n 1, 1, []), (34, .iaload, 1, []), (35, .isub, 1, []), (36, .aload_n 0, 1, []), (37, .getfield 91, 3, []), (40, .if_icmp .le 20, 3, [60]), (43, .aload_n 0, 1, []), (44, .getfield 47, 3, []), (47, .iload_n 1, 1, []), (48, .aload_n 0, 1, []), (49, .getfield 44, 3, []), (52, .iload_n 1, 1, []), (53, .iaload, 1, []), (54, .aload_n 0, 1, []), (55, .getfield 91, 3, []), (58, .isub, 1, []), (59, .iastore, 1, []), (60, .return_, 1, [])]
set_option maxRecDepth 65536 in
theorem m_trim_cOk : codeOk prog_1_method_19_code m_trim_c = true := by decide +kernel
set_option maxRecDepth 65536 in
set_option maxHeartbeats 4000000 in
theorem m_trim_23_ok (l : Launch) {Z : State} {a0 : Array Value} (hw : ∀ d ∈ tables_1, d.before a0 Z = true) (N : Nat) : Blk l Z "DeltaCausalMap" prog_1_method_19_code 3 none false ({ frames := 1, cells := 0, slots := 0, locals := 15 } : Room) AC nC zC (cC false) (sC asT false) (HC Z "DeltaCausalMap" fsT asT 23 false) [0, 0, 0] 0 46 (23, 46, m_trim_23_P (m_trim_23 N)) :=
  blk_of_den (jl := []) (lst := m_trim_c) (m_trim_hop l hw N) (Or.inl ⟨rfl, rfl⟩) rfl (by decide) (by decide) m_trim_cOk fn (fun L st S r ok h => by unfold m_trim_23_P at h; split at h; exact h; cases h)
set_option maxRecDepth 65536 in
set_option maxHeartbeats 4000000 in
theorem m_trim_0_ok (l : Launch) {Z : State} {a0 : Array Value} (hw : ∀ d ∈ tables_1, d.before a0 Z = true) (N : Nat) : Blk l Z "DeltaCausalMap" prog_1_method_19_code 3 none false ({ frames := 1, cells := 0, slots := 0, locals := 15 } : Room) AC nC zC (cC false) (sC asT false) (HC Z "DeltaCausalMap" fsT asT 23 false) [0, 0, 0] 0 46 (0, 46, m_trim_0_P (m_trim N)) :=
  blk_of_den (jl := [(23, 46, m_trim_23_P (m_trim_23 N))]) (lst := m_trim_c) (m_trim_hop l hw N) (Or.inl ⟨rfl, rfl⟩) rfl (by decide) (by decide) m_trim_cOk (fc (m_trim_23_ok l hw N) fn) (fun L st S r ok h => by unfold m_trim_0_P at h; split at h; exact h; cases h)
def m_trim_F (N : Nat) : List AV → St → RS St := fun av S => match av with
  | [.inr (.inr (some 0)), .inl x1] => m_trim N x1 S
  | _ => none
theorem m_trim_P0 (f : Int → St → RS St) (x1 : Int) (S : St) : m_trim_0_P f (entryL [.inr (.inr (some 0)), .inl x1] 3) [] S = f x1 S := rfl
set_option maxRecDepth 65536 in
set_option maxHeartbeats 4000000 in
theorem m_trim_con (l : Launch) {Z : State} {a0 : Array Value} (hw : ∀ d ∈ tables_1, d.before a0 Z = true) (N : Nat) : Con l Z "DeltaCausalMap" fsT asT 23 (⟨"DeltaCausalMap", "trim", "(I)V"⟩ : MethodName) prog_1_method_19_code 3 none ({ frames := 1, cells := 0, slots := 0, locals := 15 } : Room) 0 (m_trim_F N) :=
  con_of (m_trim_0_ok l hw N) pnC rfl (fun av S r h oks => by unfold m_trim_F at h; split at h; exact ⟨(m_trim_P0 _ _ _).trans h, okL_entry rfl oks rfl⟩; cases h)
set_option maxRecDepth 65536 in
theorem m_trim_vir (l : Launch) {Z : State} {a0 : Array Value} (hw : ∀ d ∈ tables_1, d.before a0 Z = true) (N : Nat) (W : Nat) (R : Room) (h1 : 2 ≤ R.frames) (h2 : W + 29 ≤ R.locals) : VirOk l Z a0 "DeltaCausalMap" fsT asT 23 W R (123, 1, 0, m_trim_F N) :=
  ⟨(⟨"DeltaCausalMap", "trim", "(I)V"⟩ : MethodName), prog_1_method_19_code, 3, none, ({ frames := 1, cells := 0, slots := 0, locals := 15 } : Room), [.int], rfl, (hw _ (List.mem_of_getElem? (i := 147) rfl)), (hw _ (List.mem_of_getElem? (i := 148) rfl)), Or.inl (hw _ (List.mem_of_getElem? (i := 149) rfl)), (hw _ (List.mem_of_getElem? (i := 150) rfl)), by decide +kernel, rfl, rfl, rfl, h1, by dsimp only; omega, m_trim_con l hw N⟩
/-! ## DeltaCausalMap.makeOperation:(IIII)I -/
set_option maxRecDepth 65536 in
set_option maxHeartbeats 4000000 in
theorem m_makeOperation_hop (l : Launch) {Z : State} {a0 : Array Value} (hw : ∀ d ∈ tables_1, d.before a0 Z = true) (N : Nat) : HopAll l Z "DeltaCausalMap" prog_1_method_9_code 11 (some .int) false ({ frames := 4, cells := 0, slots := 0, locals := 74 } : Room) AC nC zC (cC false) (sC asT false) (HC Z "DeltaCausalMap" fsT asT 23 false) (hopC fsT asT 23 0 false 1 cIT cJT [(115, 3, 2, m_coverFor_F N), (119, 2, 0, m_join_F N), (123, 1, 0, m_trim_F N)] []) :=
  hopC_all (clsT hw) mhC (hw _ (List.mem_of_getElem? (i := 2) rfl)) (fun h => nomatch h) (cIT_ok hw) (cJT_ok hw) (fc (m_coverFor_vir l hw N _ _ (by decide) (by decide)) (fc (m_join_vir l hw N _ _ (by decide) (by decide)) (fc (m_trim_vir l hw N _ _ (by decide) (by decide)) fn))) fn (by decide) (by decide)
set_option maxHeartbeats 8000000 in
set_option maxRecDepth 65536 in
def m_makeOperation (N : Nat) (x1 : Int) (x2 : Int) (x3 : Int) (x4 : Int) (S : St) : RS St :=
  ((m_coverFor N x1 x2 x3 S).bind fun r1 =>
  (if 0 ≤ w32 ((w32 (x1 * 4)) + x1) ∧ w32 ((w32 (x1 * 4)) + x1) < 16 then
  (if 0 ≤ w32 ((w32 ((ishl x1 4) + (w32 ((r1.2 6 (w32 ((w32 (x1 * 4)) + x1))) + 1)))) - 1) ∧ w32 ((w32 ((ishl x1 4) + (w32 ((r1.2 6 (w32 ((w32 (x1 * 4)) + x1))) + 1)))) - 1) < 64 then
  (if 0 ≤ w32 ((w32 ((ishl x1 4) + (w32 ((r1.2 6 (w32 ((w32 (x1 * 4)) + x1))) + 1)))) - 1) ∧ w32 ((w32 ((ishl x1 4) + (w32 ((r1.2 6 (w32 ((w32 (x1 * 4)) + x1))) + 1)))) - 1) < 64 then
  (if 0 ≤ w32 ((w32 ((ishl x1 4) + (w32 ((r1.2 6 (w32 ((w32 (x1 * 4)) + x1))) + 1)))) - 1) ∧ w32 ((w32 ((ishl x1 4) + (w32 ((r1.2 6 (w32 ((w32 (x1 * 4)) + x1))) + 1)))) - 1) < 64 then
  (if 0 ≤ w32 ((w32 ((ishl x1 4) + (w32 ((r1.2 6 (w32 ((w32 (x1 * 4)) + x1))) + 1)))) - 1) ∧ w32 ((w32 ((ishl x1 4) + (w32 ((r1.2 6 (w32 ((w32 (x1 * 4)) + x1))) + 1)))) - 1) < 64 then
  ((m_join N x1 (lshl 1 (w32 ((w32 ((ishl x1 4) + (w32 ((r1.2 6 (w32 ((w32 (x1 * 4)) + x1))) + 1)))) - 1))) (stw (stw (stw (stw r1.2 1 (w32 ((w32 ((ishl x1 4) + (w32 ((r1.2 6 (w32 ((w32 (x1 * 4)) + x1))) + 1)))) - 1)) x3) 2 (w32 ((w32 ((ishl x1 4) + (w32 ((r1.2 6 (w32 ((w32 (x1 * 4)) + x1))) + 1)))) - 1)) x2) 3 (w32 ((w32 ((ishl x1 4) + (w32 ((r1.2 6 (w32 ((w32 (x1 * 4)) + x1))) + 1)))) - 1)) x4) 4 (w32 ((w32 ((ishl x1 4) + (w32 ((r1.2 6 (w32 ((w32 (x1 * 4)) + x1))) + 1)))) - 1)) r1.1)).bind fun r2 =>
  ((m_trim N x1 r2.2).bind fun r3 =>
  some (w32 ((r1.2 6 (w32 ((w32 (x1 * 4)) + x1))) + 1), r3.2)))
  else none)
  else none)
  else none)
  else none)
  else none))
def m_makeOperation_0_P (f : Int → Int → Int → Int → St → RS St) : Jn St := fun L st S => match L, st with
  | [some (some (.inr (.inr (some 0)))), some (some (.inl x1)), some (some (.inl x2)), some (some (.inl x3)), some (some (.inl x4)), _, _, _, _, _, _], [] => f x1 x2 x3 x4 S
  | _, _ => none
def m_makeOperation_c : List Ent := [(0, .aload_n 0, 1, []), (1, .iload_n 1, 1, []), (2, .iload_n 2, 1, []), (3, .iload_n 3, 1, []), (4, .invokevirtual 115, 3, []), (7, .lstore 5, 2, []), (9, .aload_n 0, 1, []), (10, .getfield 26, 3, []), (13, .iload_n 1, 1, []), (14, .iconst 4, 1, []), (15, .imul, 1, []), (16, .iload_n 1, 1, []), (17, .iadd, 1, []), (18, .iaload, 1, []), (19, .iconst 1, 1, []), (20, .iadd, 1, []), (21, .istore 7, 2, []), (23, .iload_n 1, 1, []), (24, .iconst 4, 1, []), (25, .ishl, 1, []), (26, .iload 7, 2, []), (28, .iadd, 1, []), (29, .iconst 1, 1, []), (30, .isub, 1, []), (31, .istore 8, 2, []), (33, .aload_n 0, 1, []), (34, .getfield 7, 3, []), (37, .iload 8, 2, []), (39, .iload_n 3, 1, []), (40, .iastore, 1, []), (41, .aload_n 0, 1, []), (42, .getfield 13, 3, []), (45, .iload 8, 2, []), (47, .iload_n 2, 1, []), (48, .iastore, 1, []), (49, .aload_n 0, 1, []), (50, .getfield 16, 3, []), (53, .iload 8, 2, []), (55, .iload 4, 2, []), (57, .iastore, 1, []), (58, .aload_n 0, 1, []), (59, .getfield 19, 3, []), (62, .iload 8, 2, []), (64, .lload 5, 2, []), (66, .lastore, 1, []), (67, .lconst 1, 1, []), (68, .iload 8, 2, []), (70, .lshl, 1, []), (71, .lstore 9, 2, []), (73, .aload_n 0, 1, []), (74, .iload_n 1, 1, []), (75, .lload 9, 2, []), (77, .invokevirtual 119, 3, []), (80, .aload_n 0, 1, []), (81, .iload_n 1, 1, []), (82, .invokevirtual 123, 3, []), (85, .iload 7, 2, []), (87, .ireturn, 1, [])]
set_option maxRecDepth 65536 in
theorem m_makeOperation_cOk : codeOk prog_1_method_9_code m_makeOperation_c = true := by decide +kernel
set_option maxRecDepth 65536 in
set_option maxHeartbeats 4000000 in
theorem m_makeOperation_0_ok (l : Launch) {Z : State} {a0 : Array Value} (hw : ∀ d ∈ tables_1, d.before a0 Z = true) (N : Nat) : Blk l Z "DeltaCausalMap" prog_1_method_9_code 11 (some .int) false ({ frames := 4, cells := 0, slots := 0, locals := 74 } : Room) AC nC zC (cC false) (sC asT false) (HC Z "DeltaCausalMap" fsT asT 23 false) [0, 0, 0, 0, 0, 1, 2, 0, 0, 1, 2] 1 46 (0, 46, m_makeOperation_0_P (m_makeOperation N)) :=
  blk_of_den (jl := []) (lst := m_makeOperation_c) (m_makeOperation_hop l hw N) (Or.inr (Or.inl ⟨rfl, rfl⟩)) rfl (by decide) (by decide) m_makeOperation_cOk fn (fun L st S r ok h => by unfold m_makeOperation_0_P at h; split at h; exact h; cases h)
def m_makeOperation_F (N : Nat) : List AV → St → RS St := fun av S => match av with
  | [.inr (.inr (some 0)), .inl x1, .inl x2, .inl x3, .inl x4] => m_makeOperation N x1 x2 x3 x4 S
  | _ => none
theorem m_makeOperation_P0 (f : Int → Int → Int → Int → St → RS St) (x1 : Int) (x2 : Int) (x3 : Int) (x4 : Int) (S : St) : m_makeOperation_0_P f (entryL [.inr (.inr (some 0)), .inl x1, .inl x2, .inl x3, .inl x4] 11) [] S = f x1 x2 x3 x4 S := rfl
set_option maxRecDepth 65536 in
set_option maxHeartbeats 4000000 in
theorem m_makeOperation_con (l : Launch) {Z : State} {a0 : Array Value} (hw : ∀ d ∈ tables_1, d.before a0 Z = true) (N : Nat) : Con l Z "DeltaCausalMap" fsT asT 23 (⟨"DeltaCausalMap", "makeOperation", "(IIII)I"⟩ : MethodName) prog_1_method_9_code 11 (some .int) ({ frames := 4, cells := 0, slots := 0, locals := 74 } : Room) 1 (m_makeOperation_F N) :=
  con_of (m_makeOperation_0_ok l hw N) pnC rfl (fun av S r h oks => by unfold m_makeOperation_F at h; split at h; exact ⟨(m_makeOperation_P0 _ _ _ _ _ _).trans h, okL_entry rfl oks rfl⟩; cases h)
set_option maxRecDepth 65536 in
theorem m_makeOperation_vir (l : Launch) {Z : State} {a0 : Array Value} (hw : ∀ d ∈ tables_1, d.before a0 Z = true) (N : Nat) (W : Nat) (R : Room) (h1 : 5 ≤ R.frames) (h2 : W + 96 ≤ R.locals) : VirOk l Z a0 "DeltaCausalMap" fsT asT 23 W R (102, 4, 1, m_makeOperation_F N) :=
  ⟨(⟨"DeltaCausalMap", "makeOperation", "(IIII)I"⟩ : MethodName), prog_1_method_9_code, 11, (some .int), ({ frames := 4, cells := 0, slots := 0, locals := 74 } : Room), [.int, .int, .int, .int], rfl, (hw _ (List.mem_of_getElem? (i := 107) rfl)), (hw _ (List.mem_of_getElem? (i := 108) rfl)), Or.inl (hw _ (List.mem_of_getElem? (i := 109) rfl)), (hw _ (List.mem_of_getElem? (i := 110) rfl)), by decide +kernel, rfl, rfl, rfl, h1, by dsimp only; omega, m_makeOperation_con l hw N⟩
/-! ## DeltaCausalMap.write:(III)I -/
set_option maxRecDepth 65536 in
set_option maxHeartbeats 4000000 in
theorem m_write_hop (l : Launch) {Z : State} {a0 : Array Value} (hw : ∀ d ∈ tables_1, d.before a0 Z = true) (N : Nat) : HopAll l Z "DeltaCausalMap" prog_1_method_2_code 5 (some .int) false ({ frames := 5, cells := 0, slots := 0, locals := 96 } : Room) AC nC zC (cC false) (sC asT false) (HC Z "DeltaCausalMap" fsT asT 23 false) (hopC fsT asT 23 0 false 1 cIT cJT [(94, 2, 1, m_refuseTarget_F N), (98, 1, 3, m_exhausted_F N), (102, 4, 1, m_makeOperation_F N)] []) :=
  hopC_all (clsT hw) mhC (hw _ (List.mem_of_getElem? (i := 2) rfl)) (fun h => nomatch h) (cIT_ok hw) (cJT_ok hw) (fc (m_refuseTarget_vir l hw N _ _ (by decide) (by decide)) (fc (m_exhausted_vir l hw N _ _ (by decide) (by decide)) (fc (m_makeOperation_vir l hw N _ _ (by decide) (by decide)) fn))) fn (by decide) (by decide)
def m_write (N : Nat) (x1 : Int) (x2 : Int) (x3 : Int) (S : St) : RS St :=
  ((m_refuseTarget N x1 x2 S).bind fun r1 =>
  (if r1.1 = 0 then
    (if x3 < 1 then
      some ((-3), r1.2)
    else
      (if 255 < x3 then
        some ((-3), r1.2)
      else
        ((m_exhausted N x1 r1.2).bind fun r2 =>
        (if r2.1 = 0 then
          ((m_makeOperation N x1 x2 1 x3 r2.2).bind fun r3 =>
          some (r3.1, r3.2))
        else
          some ((-4), r2.2)))))
  else
    some (r1.1, r1.2)))
def m_write_0_P (f : Int → Int → Int → St → RS St) : Jn St := fun L st S => match L, st with
  | [some (some (.inr (.inr (some 0)))), some (some (.inl x1)), some (some (.inl x2)), some (some (.inl x3)), _], [] => f x1 x2 x3 S
  | _, _ => none
def m_write_c : List Ent := [(0, .aload_n 0, 1, []), (1, .iload_n 1, 1, []), (2, .iload_n 2, 1, []), (3, .invokevirtual 94, 3, []), (6, .istore 4, 2, []), (8, .iload 4, 2, []), (10, .ifCond .eq 6, 3, [16]), (13, .iload 4, 2, []), (15, .ireturn, 1, []), (16, .iload_n 3, 1, []), (17, .iconst 1, 1, []), (18, .if_icmp .lt 10, 3, [28]), (21, .iload_n 3, 1, []), (22, .sipush 255, 3, []), (25, .if_icmp .le 6, 3, [31]), (28, .bipush (-3), 2, []), (30, .ireturn, 1, []), (31, .aload_n 0, 1, []), (32, .iload_n 1, 1, []), (33, .invokevirtual 98, 3, []), (36, .ifCond .eq 6, 3, [42]), (39, .bipush (-4), 2, []), (41, .ireturn, 1, []), (42, .aload_n 0, 1, []), (43, .iload_n 1, 1, []), (44, .iload_n 2, 1, []), (45, .iconst 1, 1, []), (46, .iload_n 3, 1, []), (47, .invokevirtual 102, 3, []), (50, .ireturn, 1, [])]
set_option maxRecDepth 65536 in
theorem m_write_cOk : codeOk prog_1_method_2_code m_write_c = true := by decide +kernel
set_option maxRecDepth 65536 in
set_option maxHeartbeats 4000000 in
theorem m_write_0_ok (l : Launch) {Z : State} {a0 : Array Value} (hw : ∀ d ∈ tables_1, d.before a0 Z = true) (N : Nat) : Blk l Z "DeltaCausalMap" prog_1_method_2_code 5 (some .int) false ({ frames := 5, cells := 0, slots := 0, locals := 96 } : Room) AC nC zC (cC false) (sC asT false) (HC Z "DeltaCausalMap" fsT asT 23 false) [0, 0, 0, 0, 0] 1 46 (0, 46, m_write_0_P (m_write N)) :=
  blk_of_den (jl := []) (lst := m_write_c) (m_write_hop l hw N) (Or.inr (Or.inl ⟨rfl, rfl⟩)) rfl (by decide) (by decide) m_write_cOk fn (fun L st S r ok h => by unfold m_write_0_P at h; split at h; exact h; cases h)
def m_write_F (N : Nat) : List AV → St → RS St := fun av S => match av with
  | [.inr (.inr (some 0)), .inl x1, .inl x2, .inl x3] => m_write N x1 x2 x3 S
  | _ => none
theorem m_write_P0 (f : Int → Int → Int → St → RS St) (x1 : Int) (x2 : Int) (x3 : Int) (S : St) : m_write_0_P f (entryL [.inr (.inr (some 0)), .inl x1, .inl x2, .inl x3] 5) [] S = f x1 x2 x3 S := rfl
set_option maxRecDepth 65536 in
set_option maxHeartbeats 4000000 in
theorem m_write_con (l : Launch) {Z : State} {a0 : Array Value} (hw : ∀ d ∈ tables_1, d.before a0 Z = true) (N : Nat) : Con l Z "DeltaCausalMap" fsT asT 23 (⟨"DeltaCausalMap", "write", "(III)I"⟩ : MethodName) prog_1_method_2_code 5 (some .int) ({ frames := 5, cells := 0, slots := 0, locals := 96 } : Room) 1 (m_write_F N) :=
  con_of (m_write_0_ok l hw N) pnC rfl (fun av S r h oks => by unfold m_write_F at h; split at h; exact ⟨(m_write_P0 _ _ _ _ _).trans h, okL_entry rfl oks rfl⟩; cases h)
set_option maxRecDepth 65536 in
theorem m_write_virL (l : Launch) {Z : State} {a0 : Array Value} (hw : ∀ d ∈ tables_1, d.before a0 Z = true) (N : Nat) (W : Nat) (R : Room) (h1 : 6 ≤ R.frames) (h2 : W + 112 ≤ R.locals) : VirL l Z a0 "DeltaCausalMapL2" "DeltaCausalMap" fsT asT 23 W R (12, 3, 1, m_write_F N) :=
  ⟨(⟨"DeltaCausalMap", "write", "(III)I"⟩ : MethodName), prog_1_method_2_code, 5, (some .int), ({ frames := 5, cells := 0, slots := 0, locals := 96 } : Room), [.int, .int, .int], rfl, (hw _ (List.mem_of_getElem? (i := 67) rfl)), (hw _ (List.mem_of_getElem? (i := 69) rfl)), ⟨(hw _ (List.mem_of_getElem? (i := 68) rfl)), (hw _ (List.mem_of_getElem? (i := 70) rfl))⟩, (hw _ (List.mem_of_getElem? (i := 71) rfl)), by decide +kernel, rfl, rfl, rfl, h1, by dsimp only; omega, m_write_con l hw N⟩
/-! ## DeltaCausalMap.registerValue:(III)I -/
set_option maxRecDepth 65536 in
set_option maxHeartbeats 4000000 in
theorem m_registerValue_hop (l : Launch) {Z : State} {a0 : Array Value} (hw : ∀ d ∈ tables_1, d.before a0 Z = true) (N : Nat) : HopAll l Z "DeltaCausalMap" prog_1_method_34_code 4 (some .int) false ({ frames := 1, cells := 0, slots := 0, locals := 13 } : Room) AC nC zC (cC false) (sC asT false) (HC Z "DeltaCausalMap" fsT asT 23 false) (hopC fsT asT 23 0 false 1 cIT cJT [(109, 1, 3, m_validReplica_F N), (112, 1, 3, m_validKey_F N)] []) :=
  hopC_all (clsT hw) mhC (hw _ (List.mem_of_getElem? (i := 2) rfl)) (fun h => nomatch h) (cIT_ok hw) (cJT_ok hw) (fc (m_validReplica_vir l hw N _ _ (by decide) (by decide)) (fc (m_validKey_vir l hw N _ _ (by decide) (by decide)) fn)) fn (by decide) (by decide)
def m_registerValue (N : Nat) (x1 : Int) (x2 : Int) (x3 : Int) (S : St) : RS St :=
  ((m_validReplica N x1 S).bind fun r1 =>
  (if r1.1 = 0 then
    some ((-7), r1.2)
  else
    ((m_validReplica N x3 r1.2).bind fun r2 =>
    (if r2.1 = 0 then
      some ((-7), r2.2)
    else
      ((m_validKey N x2 r2.2).bind fun r3 =>
      (if r3.1 = 0 then
        some ((-7), r3.2)
      else
        (if 0 ≤ w32 ((w32 ((w32 (x1 * 32)) + (w32 (x2 * 4)))) + x3) ∧ w32 ((w32 ((w32 (x1 * 32)) + (w32 (x2 * 4)))) + x3) < 128 then
        some (r3.2 9 (w32 ((w32 ((w32 (x1 * 32)) + (w32 (x2 * 4)))) + x3)), r3.2)
        else none)))))))
def m_registerValue_0_P (f : Int → Int → Int → St → RS St) : Jn St := fun L st S => match L, st with
  | [some (some (.inr (.inr (some 0)))), some (some (.inl x1)), some (some (.inl x2)), some (some (.inl x3))], [] => f x1 x2 x3 S
  | _, _ => none
def m_registerValue_c : List Ent := [(0, .aload_n 0, 1, []), (1, .iload_n 1, 1, []), (2, .invokevirtual 109, 3, []), (5, .ifCond .eq 19, 3, [24]), (8, .aload_n 0, 1, []), (9, .iload_n 3, 1, []), (10, .invokevirtual 109, 3, []), (13, .ifCond .eq 11, 3, [24]), (16, .aload_n 0, 1, []), (17, .iload_n 2, 1, []), (18, .invokevirtual 112, 3, []), (21, .ifCond .ne 6, 3, [27]), (24, .bipush (-7), 2, []), (26, .ireturn, 1, []), (27, .aload_n 0, 1, []), (28, .getfield 35, 3, []), (31, .iload_n 1, 1, []), (32, .bipush 32, 2, []), (34, .imul, 1, []), (35, .iload_n 2, 1, []), (36, .iconst 4, 1, []), (37, .imul, 1, []), (38, .iadd, 1, []), (39, .iload_n 3, 1, []), (40, .iadd, 1, []), (41, .iaload, 1, []), (42, .ireturn, 1, [])]
set_option maxRecDepth 65536 in
theorem m_registerValue_cOk : codeOk prog_1_method_34_code m_registerValue_c = true := by decide +kernel
set_option maxRecDepth 65536 in
set_option maxHeartbeats 4000000 in
theorem m_registerValue_0_ok (l : Launch) {Z : State} {a0 : Array Value} (hw : ∀ d ∈ tables_1, d.before a0 Z = true) (N : Nat) : Blk l Z "DeltaCausalMap" prog_1_method_34_code 4 (some .int) false ({ frames := 1, cells := 0, slots := 0, locals := 13 } : Room) AC nC zC (cC false) (sC asT false) (HC Z "DeltaCausalMap" fsT asT 23 false) [0, 0, 0, 0] 1 46 (0, 46, m_registerValue_0_P (m_registerValue N)) :=
  blk_of_den (jl := []) (lst := m_registerValue_c) (m_registerValue_hop l hw N) (Or.inr (Or.inl ⟨rfl, rfl⟩)) rfl (by decide) (by decide) m_registerValue_cOk fn (fun L st S r ok h => by unfold m_registerValue_0_P at h; split at h; exact h; cases h)
def m_registerValue_F (N : Nat) : List AV → St → RS St := fun av S => match av with
  | [.inr (.inr (some 0)), .inl x1, .inl x2, .inl x3] => m_registerValue N x1 x2 x3 S
  | _ => none
theorem m_registerValue_P0 (f : Int → Int → Int → St → RS St) (x1 : Int) (x2 : Int) (x3 : Int) (S : St) : m_registerValue_0_P f (entryL [.inr (.inr (some 0)), .inl x1, .inl x2, .inl x3] 4) [] S = f x1 x2 x3 S := rfl
set_option maxRecDepth 65536 in
set_option maxHeartbeats 4000000 in
theorem m_registerValue_con (l : Launch) {Z : State} {a0 : Array Value} (hw : ∀ d ∈ tables_1, d.before a0 Z = true) (N : Nat) : Con l Z "DeltaCausalMap" fsT asT 23 (⟨"DeltaCausalMap", "registerValue", "(III)I"⟩ : MethodName) prog_1_method_34_code 4 (some .int) ({ frames := 1, cells := 0, slots := 0, locals := 13 } : Room) 1 (m_registerValue_F N) :=
  con_of (m_registerValue_0_ok l hw N) pnC rfl (fun av S r h oks => by unfold m_registerValue_F at h; split at h; exact ⟨(m_registerValue_P0 _ _ _ _ _).trans h, okL_entry rfl oks rfl⟩; cases h)
set_option maxRecDepth 65536 in
theorem m_registerValue_virL (l : Launch) {Z : State} {a0 : Array Value} (hw : ∀ d ∈ tables_1, d.before a0 Z = true) (N : Nat) (W : Nat) (R : Room) (h1 : 2 ≤ R.frames) (h2 : W + 28 ≤ R.locals) : VirL l Z a0 "DeltaCausalMapL2" "DeltaCausalMap" fsT asT 23 W R (16, 3, 1, m_registerValue_F N) :=
  ⟨(⟨"DeltaCausalMap", "registerValue", "(III)I"⟩ : MethodName), prog_1_method_34_code, 4, (some .int), ({ frames := 1, cells := 0, slots := 0, locals := 13 } : Room), [.int, .int, .int], rfl, (hw _ (List.mem_of_getElem? (i := 84) rfl)), (hw _ (List.mem_of_getElem? (i := 86) rfl)), ⟨(hw _ (List.mem_of_getElem? (i := 85) rfl)), (hw _ (List.mem_of_getElem? (i := 87) rfl))⟩, (hw _ (List.mem_of_getElem? (i := 88) rfl)), by decide +kernel, rfl, rfl, rfl, h1, by dsimp only; omega, m_registerValue_con l hw N⟩
/-! ## DeltaCausalMap.hasKey:(II)Z -/
set_option maxRecDepth 65536 in
set_option maxHeartbeats 4000000 in
theorem m_hasKey_hop (l : Launch) {Z : State} {a0 : Array Value} (hw : ∀ d ∈ tables_1, d.before a0 Z = true) (N : Nat) : HopAll l Z "DeltaCausalMap" prog_1_method_36_code 3 (some .boolean) false ({ frames := 1, cells := 0, slots := 0, locals := 13 } : Room) AC nC zC (cC false) (sC asT false) (HC Z "DeltaCausalMap" fsT asT 23 false) (hopC fsT asT 23 0 false 1 cIT cJT [(109, 1, 3, m_validReplica_F N), (112, 1, 3, m_validKey_F N)] []) :=
  hopC_all (clsT hw) mhC (hw _ (List.mem_of_getElem? (i := 2) rfl)) (fun h => nomatch h) (cIT_ok hw) (cJT_ok hw) (fc (m_validReplica_vir l hw N _ _ (by decide) (by decide)) (fc (m_validKey_vir l hw N _ _ (by decide) (by decide)) fn)) fn (by decide) (by decide)
def m_hasKey (N : Nat) (x1 : Int) (x2 : Int) (S : St) : RS St :=
  ((m_validReplica N x1 S).bind fun r1 =>
  (if r1.1 = 0 then
    some (0, r1.2)
  else
    ((m_validKey N x2 r1.2).bind fun r2 =>
    (if r2.1 = 0 then
      some (0, r2.2)
    else
      (if 0 ≤ x1 ∧ x1 < 4 then
      (if iand (iushr (r2.2 11 x1) x2) 1 = 0 then
        some (0, r2.2)
      else
        some (1, r2.2))
      else none)))))
def m_hasKey_0_P (f : Int → Int → St → RS St) : Jn St := fun L st S => match L, st with
  | [some (some (.inr (.inr (some 0)))), some (some (.inl x1)), some (some (.inl x2))], [] => f x1 x2 S
  | _, _ => none
def m_hasKey_c : List Ent := [(0, .aload_n 0, 1, []), (1, .iload_n 1, 1, []), (2, .invokevirtual 109, 3, []), (5, .ifCond .eq 11, 3, [16]), (8, .aload_n 0, 1, []), (9, .iload_n 2, 1, []), (10, .invokevirtual 112, 3, []), (13, .ifCond .ne 5, 3, [18]), (16, .iconst 0, 1, []), (17, .ireturn, 1, []), (18, .aload_n 0, 1, []), (19, .getfield 41, 3, []), (22, .iload_n 1, 1, []), (23, .iaload, 1, []), (24, .iload_n 2, 1, []), (25, .iushr, 1, []), (26, .iconst 1, 1, []), (27, .iand, 1, []), (28, .ifCond .eq 7, 3, [35]), (31, .iconst 1, 1, []), (32, .goto 4, 3, [36]), (35, .iconst 0, 1, []), (36, .ireturn, 1, [])]
set_option maxRecDepth 65536 in
theorem m_hasKey_cOk : codeOk prog_1_method_36_code m_hasKey_c = true := by decide +kernel
set_option maxRecDepth 65536 in
set_option maxHeartbeats 4000000 in
theorem m_hasKey_0_ok (l : Launch) {Z : State} {a0 : Array Value} (hw : ∀ d ∈ tables_1, d.before a0 Z = true) (N : Nat) : Blk l Z "DeltaCausalMap" prog_1_method_36_code 3 (some .boolean) false ({ frames := 1, cells := 0, slots := 0, locals := 13 } : Room) AC nC zC (cC false) (sC asT false) (HC Z "DeltaCausalMap" fsT asT 23 false) [0, 0, 0] 3 46 (0, 46, m_hasKey_0_P (m_hasKey N)) :=
  blk_of_den (jl := []) (lst := m_hasKey_c) (m_hasKey_hop l hw N) (Or.inr (Or.inr (Or.inr ⟨rfl, rfl⟩))) rfl (by decide) (by decide) m_hasKey_cOk fn (fun L st S r ok h => by unfold m_hasKey_0_P at h; split at h; exact h; cases h)
def m_hasKey_F (N : Nat) : List AV → St → RS St := fun av S => match av with
  | [.inr (.inr (some 0)), .inl x1, .inl x2] => m_hasKey N x1 x2 S
  | _ => none
theorem m_hasKey_P0 (f : Int → Int → St → RS St) (x1 : Int) (x2 : Int) (S : St) : m_hasKey_0_P f (entryL [.inr (.inr (some 0)), .inl x1, .inl x2] 3) [] S = f x1 x2 S := rfl
set_option maxRecDepth 65536 in
set_option maxHeartbeats 4000000 in
theorem m_hasKey_con (l : Launch) {Z : State} {a0 : Array Value} (hw : ∀ d ∈ tables_1, d.before a0 Z = true) (N : Nat) : Con l Z "DeltaCausalMap" fsT asT 23 (⟨"DeltaCausalMap", "hasKey", "(II)Z"⟩ : MethodName) prog_1_method_36_code 3 (some .boolean) ({ frames := 1, cells := 0, slots := 0, locals := 13 } : Room) 3 (m_hasKey_F N) :=
  con_of (m_hasKey_0_ok l hw N) pnC rfl (fun av S r h oks => by unfold m_hasKey_F at h; split at h; exact ⟨(m_hasKey_P0 _ _ _ _).trans h, okL_entry rfl oks rfl⟩; cases h)
set_option maxRecDepth 65536 in
theorem m_hasKey_virL (l : Launch) {Z : State} {a0 : Array Value} (hw : ∀ d ∈ tables_1, d.before a0 Z = true) (N : Nat) (W : Nat) (R : Room) (h1 : 2 ≤ R.frames) (h2 : W + 27 ≤ R.locals) : VirL l Z a0 "DeltaCausalMapL2" "DeltaCausalMap" fsT asT 23 W R (19, 2, 3, m_hasKey_F N) :=
  ⟨(⟨"DeltaCausalMap", "hasKey", "(II)Z"⟩ : MethodName), prog_1_method_36_code, 3, (some .boolean), ({ frames := 1, cells := 0, slots := 0, locals := 13 } : Room), [.int, .int], rfl, (hw _ (List.mem_of_getElem? (i := 89) rfl)), (hw _ (List.mem_of_getElem? (i := 91) rfl)), ⟨(hw _ (List.mem_of_getElem? (i := 90) rfl)), (hw _ (List.mem_of_getElem? (i := 92) rfl))⟩, (hw _ (List.mem_of_getElem? (i := 93) rfl)), by decide +kernel, rfl, rfl, rfl, h1, by dsimp only; omega, m_hasKey_con l hw N⟩
/-! ## DeltaCausalMap.mutate:(III)I -/
set_option maxRecDepth 65536 in
set_option maxHeartbeats 4000000 in
theorem m_mutate_hop (l : Launch) {Z : State} {a0 : Array Value} (hw : ∀ d ∈ tables_1, d.before a0 Z = true) (N : Nat) : HopAll l Z "DeltaCausalMap" prog_1_method_6_code 5 (some .int) false ({ frames := 5, cells := 0, slots := 0, locals := 96 } : Room) AC nC zC (cC false) (sC asT false) (HC Z "DeltaCausalMap" fsT asT 23 false) (hopC fsT asT 23 0 false 1 cIT cJT [(94, 2, 1, m_refuseTarget_F N), (98, 1, 3, m_exhausted_F N), (102, 4, 1, m_makeOperation_F N)] []) :=
  hopC_all (clsT hw) mhC (hw _ (List.mem_of_getElem? (i := 2) rfl)) (fun h => nomatch h) (cIT_ok hw) (cJT_ok hw) (fc (m_refuseTarget_vir l hw N _ _ (by decide) (by decide)) (fc (m_exhausted_vir l hw N _ _ (by decide) (by decide)) (fc (m_makeOperation_vir l hw N _ _ (by decide) (by decide)) fn))) fn (by decide) (by decide)
def m_mutate (N : Nat) (x1 : Int) (x2 : Int) (x3 : Int) (S : St) : RS St :=
  ((m_refuseTarget N x1 x2 S).bind fun r1 =>
  (if r1.1 = 0 then
    ((m_exhausted N x1 r1.2).bind fun r2 =>
    (if r2.1 = 0 then
      ((m_makeOperation N x1 x2 x3 0 r2.2).bind fun r3 =>
      some (r3.1, r3.2))
    else
      some ((-4), r2.2)))
  else
    some (r1.1, r1.2)))
def m_mutate_0_P (f : Int → Int → Int → St → RS St) : Jn St := fun L st S => match L, st with
  | [some (some (.inr (.inr (some 0)))), some (some (.inl x1)), some (some (.inl x2)), some (some (.inl x3)), _], [] => f x1 x2 x3 S
  | _, _ => none
def m_mutate_c : List Ent := [(0, .aload_n 0, 1, []), (1, .iload_n 1, 1, []), (2, .iload_n 2, 1, []), (3, .invokevirtual 94, 3, []), (6, .istore 4, 2, []), (8, .iload 4, 2, []), (10, .ifCond .eq 6, 3, [16]), (13, .iload 4, 2, []), (15, .ireturn, 1, []), (16, .aload_n 0, 1, []), (17, .iload_n 1, 1, []), (18, .invokevirtual 98, 3, []), (21, .ifCond .eq 6, 3, [27]), (24, .bipush (-4), 2, []), (26, .ireturn, 1, []), (27, .aload_n 0, 1, []), (28, .iload_n 1, 1, []), (29, .iload_n 2, 1, []), (30, .iload_n 3, 1, []), (31, .iconst 0, 1, []), (32, .invokevirtual 102, 3, []), (35, .ireturn, 1, [])]
set_option maxRecDepth 65536 in
theorem m_mutate_cOk : codeOk prog_1_method_6_code m_mutate_c = true := by decide +kernel
set_option maxRecDepth 65536 in
set_option maxHeartbeats 4000000 in
theorem m_mutate_0_ok (l : Launch) {Z : State} {a0 : Array Value} (hw : ∀ d ∈ tables_1, d.before a0 Z = true) (N : Nat) : Blk l Z "DeltaCausalMap" prog_1_method_6_code 5 (some .int) false ({ frames := 5, cells := 0, slots := 0, locals := 96 } : Room) AC nC zC (cC false) (sC asT false) (HC Z "DeltaCausalMap" fsT asT 23 false) [0, 0, 0, 0, 0] 1 46 (0, 46, m_mutate_0_P (m_mutate N)) :=
  blk_of_den (jl := []) (lst := m_mutate_c) (m_mutate_hop l hw N) (Or.inr (Or.inl ⟨rfl, rfl⟩)) rfl (by decide) (by decide) m_mutate_cOk fn (fun L st S r ok h => by unfold m_mutate_0_P at h; split at h; exact h; cases h)
def m_mutate_F (N : Nat) : List AV → St → RS St := fun av S => match av with
  | [.inr (.inr (some 0)), .inl x1, .inl x2, .inl x3] => m_mutate N x1 x2 x3 S
  | _ => none
theorem m_mutate_P0 (f : Int → Int → Int → St → RS St) (x1 : Int) (x2 : Int) (x3 : Int) (S : St) : m_mutate_0_P f (entryL [.inr (.inr (some 0)), .inl x1, .inl x2, .inl x3] 5) [] S = f x1 x2 x3 S := rfl
set_option maxRecDepth 65536 in
set_option maxHeartbeats 4000000 in
theorem m_mutate_con (l : Launch) {Z : State} {a0 : Array Value} (hw : ∀ d ∈ tables_1, d.before a0 Z = true) (N : Nat) : Con l Z "DeltaCausalMap" fsT asT 23 (⟨"DeltaCausalMap", "mutate", "(III)I"⟩ : MethodName) prog_1_method_6_code 5 (some .int) ({ frames := 5, cells := 0, slots := 0, locals := 96 } : Room) 1 (m_mutate_F N) :=
  con_of (m_mutate_0_ok l hw N) pnC rfl (fun av S r h oks => by unfold m_mutate_F at h; split at h; exact ⟨(m_mutate_P0 _ _ _ _ _).trans h, okL_entry rfl oks rfl⟩; cases h)
set_option maxRecDepth 65536 in
theorem m_mutate_vir (l : Launch) {Z : State} {a0 : Array Value} (hw : ∀ d ∈ tables_1, d.before a0 Z = true) (N : Nat) (W : Nat) (R : Room) (h1 : 6 ≤ R.frames) (h2 : W + 112 ≤ R.locals) : VirOk l Z a0 "DeltaCausalMap" fsT asT 23 W R (106, 3, 1, m_mutate_F N) :=
  ⟨(⟨"DeltaCausalMap", "mutate", "(III)I"⟩ : MethodName), prog_1_method_6_code, 5, (some .int), ({ frames := 5, cells := 0, slots := 0, locals := 96 } : Room), [.int, .int, .int], rfl, (hw _ (List.mem_of_getElem? (i := 99) rfl)), (hw _ (List.mem_of_getElem? (i := 100) rfl)), Or.inl (hw _ (List.mem_of_getElem? (i := 101) rfl)), (hw _ (List.mem_of_getElem? (i := 102) rfl)), by decide +kernel, rfl, rfl, rfl, h1, by dsimp only; omega, m_mutate_con l hw N⟩
/-! ## DeltaCausalMap.removeKey:(II)I -/
set_option maxRecDepth 65536 in
set_option maxHeartbeats 4000000 in
theorem m_removeKey_hop (l : Launch) {Z : State} {a0 : Array Value} (hw : ∀ d ∈ tables_1, d.before a0 Z = true) (N : Nat) : HopAll l Z "DeltaCausalMap" prog_1_method_5_code 3 (some .int) false ({ frames := 6, cells := 0, slots := 0, locals := 112 } : Room) AC nC zC (cC false) (sC asT false) (HC Z "DeltaCausalMap" fsT asT 23 false) (hopC fsT asT 23 0 false 1 cIT cJT [(106, 3, 1, m_mutate_F N)] []) :=
  hopC_all (clsT hw) mhC (hw _ (List.mem_of_getElem? (i := 2) rfl)) (fun h => nomatch h) (cIT_ok hw) (cJT_ok hw) (fc (m_mutate_vir l hw N _ _ (by decide) (by decide)) fn) fn (by decide) (by decide)
def m_removeKey (N : Nat) (x1 : Int) (x2 : Int) (S : St) : RS St :=
  ((m_mutate N x1 x2 4 S).bind fun r1 =>
  some (r1.1, r1.2))
def m_removeKey_0_P (f : Int → Int → St → RS St) : Jn St := fun L st S => match L, st with
  | [some (some (.inr (.inr (some 0)))), some (some (.inl x1)), some (some (.inl x2))], [] => f x1 x2 S
  | _, _ => none
def m_removeKey_c : List Ent := [(0, .aload_n 0, 1, []), (1, .iload_n 1, 1, []), (2, .iload_n 2, 1, []), (3, .iconst 4, 1, []), (4, .invokevirtual 106, 3, []), (7, .ireturn, 1, [])]
set_option maxRecDepth 65536 in
theorem m_removeKey_cOk : codeOk prog_1_method_5_code m_removeKey_c = true := by decide +kernel
set_option maxRecDepth 65536 in
set_option maxHeartbeats 4000000 in
theorem m_removeKey_0_ok (l : Launch) {Z : State} {a0 : Array Value} (hw : ∀ d ∈ tables_1, d.before a0 Z = true) (N : Nat) : Blk l Z "DeltaCausalMap" prog_1_method_5_code 3 (some .int) false ({ frames := 6, cells := 0, slots := 0, locals := 112 } : Room) AC nC zC (cC false) (sC asT false) (HC Z "DeltaCausalMap" fsT asT 23 false) [0, 0, 0] 1 46 (0, 46, m_removeKey_0_P (m_removeKey N)) :=
  blk_of_den (jl := []) (lst := m_removeKey_c) (m_removeKey_hop l hw N) (Or.inr (Or.inl ⟨rfl, rfl⟩)) rfl (by decide) (by decide) m_removeKey_cOk fn (fun L st S r ok h => by unfold m_removeKey_0_P at h; split at h; exact h; cases h)
def m_removeKey_F (N : Nat) : List AV → St → RS St := fun av S => match av with
  | [.inr (.inr (some 0)), .inl x1, .inl x2] => m_removeKey N x1 x2 S
  | _ => none
theorem m_removeKey_P0 (f : Int → Int → St → RS St) (x1 : Int) (x2 : Int) (S : St) : m_removeKey_0_P f (entryL [.inr (.inr (some 0)), .inl x1, .inl x2] 3) [] S = f x1 x2 S := rfl
set_option maxRecDepth 65536 in
set_option maxHeartbeats 4000000 in
theorem m_removeKey_con (l : Launch) {Z : State} {a0 : Array Value} (hw : ∀ d ∈ tables_1, d.before a0 Z = true) (N : Nat) : Con l Z "DeltaCausalMap" fsT asT 23 (⟨"DeltaCausalMap", "removeKey", "(II)I"⟩ : MethodName) prog_1_method_5_code 3 (some .int) ({ frames := 6, cells := 0, slots := 0, locals := 112 } : Room) 1 (m_removeKey_F N) :=
  con_of (m_removeKey_0_ok l hw N) pnC rfl (fun av S r h oks => by unfold m_removeKey_F at h; split at h; exact ⟨(m_removeKey_P0 _ _ _ _).trans h, okL_entry rfl oks rfl⟩; cases h)
set_option maxRecDepth 65536 in
theorem m_removeKey_virL (l : Launch) {Z : State} {a0 : Array Value} (hw : ∀ d ∈ tables_1, d.before a0 Z = true) (N : Nat) (W : Nat) (R : Room) (h1 : 7 ≤ R.frames) (h2 : W + 126 ≤ R.locals) : VirL l Z a0 "DeltaCausalMapL2" "DeltaCausalMap" fsT asT 23 W R (23, 2, 1, m_removeKey_F N) :=
  ⟨(⟨"DeltaCausalMap", "removeKey", "(II)I"⟩ : MethodName), prog_1_method_5_code, 3, (some .int), ({ frames := 6, cells := 0, slots := 0, locals := 112 } : Room), [.int, .int], rfl, (hw _ (List.mem_of_getElem? (i := 94) rfl)), (hw _ (List.mem_of_getElem? (i := 96) rfl)), ⟨(hw _ (List.mem_of_getElem? (i := 95) rfl)), (hw _ (List.mem_of_getElem? (i := 97) rfl))⟩, (hw _ (List.mem_of_getElem? (i := 98) rfl)), by decide +kernel, rfl, rfl, rfl, h1, by dsimp only; omega, m_removeKey_con l hw N⟩
/-! ## DeltaCausalMap.known:(II)I -/
set_option maxRecDepth 65536 in
set_option maxHeartbeats 4000000 in
theorem m_known_hop (l : Launch) {Z : State} {a0 : Array Value} (hw : ∀ d ∈ tables_1, d.before a0 Z = true) (N : Nat) : HopAll l Z "DeltaCausalMap" prog_1_method_37_code 3 (some .int) false ({ frames := 1, cells := 0, slots := 0, locals := 13 } : Room) AC nC zC (cC false) (sC asT false) (HC Z "DeltaCausalMap" fsT asT 23 false) (hopC fsT asT 23 0 false 1 cIT cJT [(109, 1, 3, m_validReplica_F N)] []) :=
  hopC_all (clsT hw) mhC (hw _ (List.mem_of_getElem? (i := 2) rfl)) (fun h => nomatch h) (cIT_ok hw) (cJT_ok hw) (fc (m_validReplica_vir l hw N _ _ (by decide) (by decide)) fn) fn (by decide) (by decide)
def m_known (N : Nat) (x1 : Int) (x2 : Int) (S : St) : RS St :=
  ((m_validReplica N x1 S).bind fun r1 =>
  (if r1.1 = 0 then
    some ((-7), r1.2)
  else
    ((m_validReplica N x2 r1.2).bind fun r2 =>
    (if r2.1 = 0 then
      some ((-7), r2.2)
    else
      (if 0 ≤ w32 ((w32 (x1 * 4)) + x2) ∧ w32 ((w32 (x1 * 4)) + x2) < 16 then
      some (r2.2 6 (w32 ((w32 (x1 * 4)) + x2)), r2.2)
      else none)))))
def m_known_0_P (f : Int → Int → St → RS St) : Jn St := fun L st S => match L, st with
  | [some (some (.inr (.inr (some 0)))), some (some (.inl x1)), some (some (.inl x2))], [] => f x1 x2 S
  | _, _ => none
def m_known_c : List Ent := [(0, .aload_n 0, 1, []), (1, .iload_n 1, 1, []), (2, .invokevirtual 109, 3, []), (5, .ifCond .eq 11, 3, [16]), (8, .aload_n 0, 1, []), (9, .iload_n 2, 1, []), (10, .invokevirtual 109, 3, []), (13, .ifCond .ne 6, 3, [19]), (16, .bipush (-7), 2, []), (18, .ireturn, 1, []), (19, .aload_n 0, 1, []), (20, .getfield 26, 3, []), (23, .iload_n 1, 1, []), (24, .iconst 4, 1, []), (25, .imul, 1, []), (26, .iload_n 2, 1, []), (27, .iadd, 1, []), (28, .iaload, 1, []), (29, .ireturn, 1, [])]
set_option maxRecDepth 65536 in
theorem m_known_cOk : codeOk prog_1_method_37_code m_known_c = true := by decide +kernel
set_option maxRecDepth 65536 in
set_option maxHeartbeats 4000000 in
theorem m_known_0_ok (l : Launch) {Z : State} {a0 : Array Value} (hw : ∀ d ∈ tables_1, d.before a0 Z = true) (N : Nat) : Blk l Z "DeltaCausalMap" prog_1_method_37_code 3 (some .int) false ({ frames := 1, cells := 0, slots := 0, locals := 13 } : Room) AC nC zC (cC false) (sC asT false) (HC Z "DeltaCausalMap" fsT asT 23 false) [0, 0, 0] 1 46 (0, 46, m_known_0_P (m_known N)) :=
  blk_of_den (jl := []) (lst := m_known_c) (m_known_hop l hw N) (Or.inr (Or.inl ⟨rfl, rfl⟩)) rfl (by decide) (by decide) m_known_cOk fn (fun L st S r ok h => by unfold m_known_0_P at h; split at h; exact h; cases h)
def m_known_F (N : Nat) : List AV → St → RS St := fun av S => match av with
  | [.inr (.inr (some 0)), .inl x1, .inl x2] => m_known N x1 x2 S
  | _ => none
theorem m_known_P0 (f : Int → Int → St → RS St) (x1 : Int) (x2 : Int) (S : St) : m_known_0_P f (entryL [.inr (.inr (some 0)), .inl x1, .inl x2] 3) [] S = f x1 x2 S := rfl
set_option maxRecDepth 65536 in
set_option maxHeartbeats 4000000 in
theorem m_known_con (l : Launch) {Z : State} {a0 : Array Value} (hw : ∀ d ∈ tables_1, d.before a0 Z = true) (N : Nat) : Con l Z "DeltaCausalMap" fsT asT 23 (⟨"DeltaCausalMap", "known", "(II)I"⟩ : MethodName) prog_1_method_37_code 3 (some .int) ({ frames := 1, cells := 0, slots := 0, locals := 13 } : Room) 1 (m_known_F N) :=
  con_of (m_known_0_ok l hw N) pnC rfl (fun av S r h oks => by unfold m_known_F at h; split at h; exact ⟨(m_known_P0 _ _ _ _).trans h, okL_entry rfl oks rfl⟩; cases h)
set_option maxRecDepth 65536 in
theorem m_known_virL (l : Launch) {Z : State} {a0 : Array Value} (hw : ∀ d ∈ tables_1, d.before a0 Z = true) (N : Nat) (W : Nat) (R : Room) (h1 : 2 ≤ R.frames) (h2 : W + 27 ≤ R.locals) : VirL l Z a0 "DeltaCausalMapL2" "DeltaCausalMap" fsT asT 23 W R (27, 2, 1, m_known_F N) :=
  ⟨(⟨"DeltaCausalMap", "known", "(II)I"⟩ : MethodName), prog_1_method_37_code, 3, (some .int), ({ frames := 1, cells := 0, slots := 0, locals := 13 } : Room), [.int, .int], rfl, (hw _ (List.mem_of_getElem? (i := 156) rfl)), (hw _ (List.mem_of_getElem? (i := 158) rfl)), ⟨(hw _ (List.mem_of_getElem? (i := 157) rfl)), (hw _ (List.mem_of_getElem? (i := 159) rfl))⟩, (hw _ (List.mem_of_getElem? (i := 160) rfl)), by decide +kernel, rfl, rfl, rfl, h1, by dsimp only; omega, m_known_con l hw N⟩
/-! ## DeltaCausalMap.protocol:(III)I -/
set_option maxRecDepth 65536 in
set_option maxHeartbeats 4000000 in
theorem m_protocol_hop (l : Launch) {Z : State} {a0 : Array Value} (hw : ∀ d ∈ tables_1, d.before a0 Z = true) (N : Nat) : HopAll l Z "DeltaCausalMap" prog_1_method_38_code 4 (some .int) false ({ frames := 1, cells := 0, slots := 0, locals := 13 } : Room) AC nC zC (cC false) (sC asT false) (HC Z "DeltaCausalMap" fsT asT 23 false) (hopC fsT asT 23 0 false 1 cIT cJT [(109, 1, 3, m_validReplica_F N)] []) :=
  hopC_all (clsT hw) mhC (hw _ (List.mem_of_getElem? (i := 2) rfl)) (fun h => nomatch h) (cIT_ok hw) (cJT_ok hw) (fc (m_validReplica_vir l hw N _ _ (by decide) (by decide)) fn) fn (by decide) (by decide)
def m_protocol (N : Nat) (x1 : Int) (x2 : Int) (x3 : Int) (S : St) : RS St :=
  ((m_validReplica N x1 S).bind fun r1 =>
  (if r1.1 = 0 then
    some ((-7), r1.2)
  else
    (if x2 < 0 then
      some ((-7), r1.2)
    else
      (if 3 < x2 then
        some ((-7), r1.2)
      else
        (if x2 = 0 then
          (if 0 ≤ x1 ∧ x1 < 4 then
          some (r1.2 12 x1, r1.2)
          else none)
        else
          (if x2 = 1 then
            (if 0 ≤ x1 ∧ x1 < 4 then
            some (r1.2 13 x1, r1.2)
            else none)
          else
            ((m_validReplica N x3 r1.2).bind fun r2 =>
            (if r2.1 = 0 then
              some ((-7), r2.2)
            else
              (if x3 = x1 then
                some ((-7), r2.2)
              else
                (if x2 = 2 then
                  (if 0 ≤ w32 ((w32 (x1 * 4)) + x3) ∧ w32 ((w32 (x1 * 4)) + x3) < 16 then
                  some (r2.2 14 (w32 ((w32 (x1 * 4)) + x3)), r2.2)
                  else none)
                else
                  (if 0 ≤ w32 ((w32 (x1 * 4)) + x3) ∧ w32 ((w32 (x1 * 4)) + x3) < 16 then
                  some (r2.2 15 (w32 ((w32 (x1 * 4)) + x3)), r2.2)
                  else none)))))))))))
def m_protocol_0_P (f : Int → Int → Int → St → RS St) : Jn St := fun L st S => match L, st with
  | [some (some (.inr (.inr (some 0)))), some (some (.inl x1)), some (some (.inl x2)), some (some (.inl x3))], [] => f x1 x2 x3 S
  | _, _ => none
def m_protocol_c : List Ent := [(0, .aload_n 0, 1, []), (1, .iload_n 1, 1, []), (2, .invokevirtual 109, 3, []), (5, .ifCond .eq 12, 3, [17]), (8, .iload_n 2, 1, []), (9, .ifCond .lt 8, 3, [17]), (12, .iload_n 2, 1, []), (13, .iconst 3, 1, []), (14, .if_icmp .le 6, 3, [20]), (17, .bipush (-7), 2, []), (19, .ireturn, 1, []), (20, .iload_n 2, 1, []), (21, .ifCond .ne 10, 3, [31]), (24, .aload_n 0, 1, []), (25, .getfield 44, 3, []), (28, .iload_n 1, 1, []), (29, .iaload, 1, []), (30, .ireturn, 1, []), (31, .iload_n 2, 1, []), (32, .iconst 1, 1, []), (33, .if_icmp .ne 10, 3, [43]), (36, .aload_n 0, 1, []), (37, .getfield 47, 3, []), (40, .iload_n 1, 1, []), (41, .iaload, 1, []), (42, .ireturn, 1, []), (43, .aload_n 0, 1, []), (44, .iload_n 3, 1, []), (45, .invokevirtual 109, 3, []), (48, .ifCond .eq 8, 3, [56]), (51, .iload_n 3, 1, []), (52, .iload_n 1, 1, []), (53, .if_icmp .ne 6, 3, [59]), (56, .bipush (-7), 2, []), (58, .ireturn, 1, []), (59, .iload_n 2, 1, []), (60, .iconst 2, 1, []), (61, .if_icmp .ne 14, 3, [75]), (64, .aload_n 0, 1, []), (65, .getfield 50, 3, []), (68, .iload_n 1, 1, []), (69, .iconst 4, 1, []), (70, .imul, 1, []), (71, .iload_n 3, 1, []), (72, .iadd, 1, []), (73, .iaload, 1, []), (74, .ireturn, 1, []), (75, .aload_n 0, 1, []), (76, .getfield 53, 3, []), (79, .iload_n 1, 1, []), (80, .iconst 4, 1, []), (81, .imul, 1, []), (82, .iload_n 3, 1, []), (83, .iadd, 1, []), (84, .iaload, 1, []), (85, .ireturn, 1, [])]
set_option maxRecDepth 65536 in
theorem m_protocol_cOk : codeOk prog_1_method_38_code m_protocol_c = true := by decide +kernel
set_option maxRecDepth 65536 in
set_option maxHeartbeats 4000000 in
theorem m_protocol_0_ok (l : Launch) {Z : State} {a0 : Array Value} (hw : ∀ d ∈ tables_1, d.before a0 Z = true) (N : Nat) : Blk l Z "DeltaCausalMap" prog_1_method_38_code 4 (some .int) false ({ frames := 1, cells := 0, slots := 0, locals := 13 } : Room) AC nC zC (cC false) (sC asT false) (HC Z "DeltaCausalMap" fsT asT 23 false) [0, 0, 0, 0] 1 46 (0, 46, m_protocol_0_P (m_protocol N)) :=
  blk_of_den (jl := []) (lst := m_protocol_c) (m_protocol_hop l hw N) (Or.inr (Or.inl ⟨rfl, rfl⟩)) rfl (by decide) (by decide) m_protocol_cOk fn (fun L st S r ok h => by unfold m_protocol_0_P at h; split at h; exact h; cases h)
def m_protocol_F (N : Nat) : List AV → St → RS St := fun av S => match av with
  | [.inr (.inr (some 0)), .inl x1, .inl x2, .inl x3] => m_protocol N x1 x2 x3 S
  | _ => none
theorem m_protocol_P0 (f : Int → Int → Int → St → RS St) (x1 : Int) (x2 : Int) (x3 : Int) (S : St) : m_protocol_0_P f (entryL [.inr (.inr (some 0)), .inl x1, .inl x2, .inl x3] 4) [] S = f x1 x2 x3 S := rfl
set_option maxRecDepth 65536 in
set_option maxHeartbeats 4000000 in
theorem m_protocol_con (l : Launch) {Z : State} {a0 : Array Value} (hw : ∀ d ∈ tables_1, d.before a0 Z = true) (N : Nat) : Con l Z "DeltaCausalMap" fsT asT 23 (⟨"DeltaCausalMap", "protocol", "(III)I"⟩ : MethodName) prog_1_method_38_code 4 (some .int) ({ frames := 1, cells := 0, slots := 0, locals := 13 } : Room) 1 (m_protocol_F N) :=
  con_of (m_protocol_0_ok l hw N) pnC rfl (fun av S r h oks => by unfold m_protocol_F at h; split at h; exact ⟨(m_protocol_P0 _ _ _ _ _).trans h, okL_entry rfl oks rfl⟩; cases h)
set_option maxRecDepth 65536 in
theorem m_protocol_virL (l : Launch) {Z : State} {a0 : Array Value} (hw : ∀ d ∈ tables_1, d.before a0 Z = true) (N : Nat) (W : Nat) (R : Room) (h1 : 2 ≤ R.frames) (h2 : W + 28 ≤ R.locals) : VirL l Z a0 "DeltaCausalMapL2" "DeltaCausalMap" fsT asT 23 W R (30, 3, 1, m_protocol_F N) :=
  ⟨(⟨"DeltaCausalMap", "protocol", "(III)I"⟩ : MethodName), prog_1_method_38_code, 4, (some .int), ({ frames := 1, cells := 0, slots := 0, locals := 13 } : Room), [.int, .int, .int], rfl, (hw _ (List.mem_of_getElem? (i := 161) rfl)), (hw _ (List.mem_of_getElem? (i := 163) rfl)), ⟨(hw _ (List.mem_of_getElem? (i := 162) rfl)), (hw _ (List.mem_of_getElem? (i := 164) rfl))⟩, (hw _ (List.mem_of_getElem? (i := 165) rfl)), by decide +kernel, rfl, rfl, rfl, h1, by dsimp only; omega, m_protocol_con l hw N⟩
/-! ## the law's state -/
def gtT : Nat → St → St := fun _ S => S
def ptT : Nat → St → St → St := fun _ _ x => x
theorem gpT : ∀ (j j' : Nat) (S : St) (x : St), j < 1 → j' < 1 → gtT j' (ptT j S x) = if j' = j then x else gtT j' S := by
  intro j j' S x h1 h2; have : j' = j := by omega
  simp [gtT, ptT, this]
def cIL : List (Nat × Int) := []
def cJL : List (Nat × Int) := []
set_option maxRecDepth 65536 in
theorem cIL_ok {Z : State} {a0 : Array Value} (hw : ∀ d ∈ tables_1, d.before a0 Z = true) : ∀ x ∈ cIL, (Jvm.Cond.constant "DeltaCausalMapL2" x.1 (Int32.ofInt x.2)).before a0 Z = true ∧ R32 x.2 := fn
set_option maxRecDepth 65536 in
theorem cJL_ok {Z : State} {a0 : Array Value} (hw : ∀ d ∈ tables_1, d.before a0 Z = true) : ∀ x ∈ cJL, (Jvm.Cond.constantLong "DeltaCausalMapL2" x.1 (Int64.ofInt x.2)).before a0 Z = true ∧ R64 x.2 := fn
/-! ## DeltaCausalMapL2.law:(IIIII)Z, as l_law -/
set_option maxRecDepth 65536 in
set_option maxHeartbeats 4000000 in
theorem l_law_hop (l : Launch) {Z : State} {a0 : Array Value} (hw : ∀ d ∈ tables_1, d.before a0 Z = true) (hi : (Jvm.Cond.initialized "DeltaCausalMapL2").before a0 Z = true) (N : Nat) : HopAll l Z "DeltaCausalMapL2" code maxLocals ret false room_1 (AL 1 23) nL zL (fun q => szL 23 q) (fun q => slL 26 (sumTo (lenAt asT) 23) q) (fun i q S h => HL Z "DeltaCausalMap" fsT asT 23 gtT true false 0 (fun _ => 0) i q S h ∧ q ≤ 2 * 1) (hopL 1 1 7 9 3 true (m_init_F N) [(12, 3, 1, m_write_F N), (16, 3, 1, m_registerValue_F N), (19, 2, 3, m_hasKey_F N), (23, 2, 1, m_removeKey_F N), (27, 2, 1, m_known_F N), (30, 3, 1, m_protocol_F N)] [] cIL cJL gtT ptT false 0 (fun _ => 0)) :=
  hopL_all (kk := 26) (clsT hw) mhC mhL (hw _ (List.mem_of_getElem? (i := 2) rfl)) gpT (fun _ => ⟨(hw _ (List.mem_of_getElem? (i := 0) rfl)), (⟨"DeltaCausalMap", "<init>", "(III)V"⟩ : MethodName), prog_1_method_1_code, 4, ({ frames := 1, cells := 23, slots := 632, locals := 16 } : Room), [.int, .int, .int], rfl, rfl, (hw _ (List.mem_of_getElem? (i := 3) rfl)), (hw _ (List.mem_of_getElem? (i := 4) rfl)), (hw _ (List.mem_of_getElem? (i := 5) rfl)), by decide +kernel, rfl, rfl, by decide, by decide, by decide, m_init_con l hw N⟩) (fun _ => ⟨by decide, by decide⟩) (fun _ => rfl) (cIL_ok hw) (cJL_ok hw) (fc (m_write_virL l hw N _ _ (by decide) (by decide)) (fc (m_registerValue_virL l hw N _ _ (by decide) (by decide)) (fc (m_hasKey_virL l hw N _ _ (by decide) (by decide)) (fc (m_removeKey_virL l hw N _ _ (by decide) (by decide)) (fc (m_known_virL l hw N _ _ (by decide) (by decide)) (fc (m_protocol_virL l hw N _ _ (by decide) (by decide)) fn)))))) fn
def l_law_473 (N : Nat) (t0 : Int) (t1 : Int) (S : St) : RS St :=
  some ((iand t1 t0) % 2, S)
def l_law_473_P (f : Int → Int → St → RS St) : Jn St := fun L st S => match L, st with
  | [_, _, _, _, _, _, _, _, _, _, _, _, _, _, _, _, _, _, _], [.inl t0, .inl t1] => f t0 t1 S
  | _, _ => none
def l_law_465 (N : Nat) (t0 : Int) (t1 : Int) (t2 : Int) (S : St) : RS St :=
  (if t1 = t0 then
    l_law_473 N 1 t2 S
  else
    l_law_473 N 0 t2 S)
def l_law_465_P (f : Int → Int → Int → St → RS St) : Jn St := fun L st S => match L, st with
  | [_, _, _, _, _, _, _, _, _, _, _, _, _, _, _, _, _, _, _], [.inl t0, .inl t1, .inl t2] => f t0 t1 t2 S
  | _, _ => none
def l_law_435 (N : Nat) (x7 : Int) (x12 : Int) (x17 : Int) (t0 : Int) (t1 : Int) (S : St) : RS St :=
  ((m_protocol N x12 1 0 S).bind fun r1 =>
  (if x7 < x17 then
    l_law_465 N (w32 (x17 - x7)) r1.1 (iand t1 t0) r1.2
  else
    l_law_465 N 0 r1.1 (iand t1 t0) r1.2))
def l_law_435_P (f : Int → Int → Int → Int → Int → St → RS St) : Jn St := fun L st S => match L, st with
  | [_, _, _, _, _, some (some (.inr (.inr (some 0)))), _, some (some (.inl x7)), _, _, _, _, some (some (.inl x12)), _, _, _, _, some (some (.inl x17)), _], [.inl t0, .inl t1] => f x7 x12 x17 t0 t1 S
  | _, _ => none
def l_law_407 (N : Nat) (x7 : Int) (x12 : Int) (x17 : Int) (t0 : Int) (t1 : Int) (S : St) : RS St :=
  ((m_protocol N x12 0 0 S).bind fun r1 =>
  (if r1.1 = x17 then
    l_law_435 N x7 x12 x17 1 (iand t1 t0) r1.2
  else
    l_law_435 N x7 x12 x17 0 (iand t1 t0) r1.2))
def l_law_407_P (f : Int → Int → Int → Int → Int → St → RS St) : Jn St := fun L st S => match L, st with
  | [_, _, _, _, _, some (some (.inr (.inr (some 0)))), _, some (some (.inl x7)), _, _, _, _, some (some (.inl x12)), _, _, _, _, some (some (.inl x17)), _], [.inl t0, .inl t1] => f x7 x12 x17 t0 t1 S
  | _, _ => none
def l_law_383 (N : Nat) (x7 : Int) (x12 : Int) (x17 : Int) (t0 : Int) (t1 : Int) (S : St) : RS St :=
  ((m_known N x12 x12 S).bind fun r1 =>
  (if r1.1 = x17 then
    l_law_407 N x7 x12 x17 1 (iand t1 t0) r1.2
  else
    l_law_407 N x7 x12 x17 0 (iand t1 t0) r1.2))
def l_law_383_P (f : Int → Int → Int → Int → Int → St → RS St) : Jn St := fun L st S => match L, st with
  | [_, _, _, _, _, some (some (.inr (.inr (some 0)))), _, some (some (.inl x7)), _, _, _, _, some (some (.inl x12)), _, _, _, _, some (some (.inl x17)), _], [.inl t0, .inl t1] => f x7 x12 x17 t0 t1 S
  | _, _ => none
def l_law_359 (N : Nat) (x7 : Int) (x12 : Int) (x13 : Int) (x17 : Int) (t0 : Int) (t1 : Int) (S : St) : RS St :=
  ((m_registerValue N x12 x13 x12 S).bind fun r1 =>
  (if r1.1 = 0 then
    l_law_383 N x7 x12 x17 1 (iand t1 t0) r1.2
  else
    l_law_383 N x7 x12 x17 0 (iand t1 t0) r1.2))
def l_law_359_P (f : Int → Int → Int → Int → Int → Int → St → RS St) : Jn St := fun L st S => match L, st with
  | [_, _, _, _, _, some (some (.inr (.inr (some 0)))), _, some (some (.inl x7)), _, _, _, _, some (some (.inl x12)), some (some (.inl x13)), _, _, _, some (some (.inl x17)), _], [.inl t0, .inl t1] => f x7 x12 x13 x17 t0 t1 S
  | _, _ => none
def l_law_337 (N : Nat) (x7 : Int) (x12 : Int) (x13 : Int) (x17 : Int) (t0 : Int) (t1 : Int) (S : St) : RS St :=
  ((m_hasKey N x12 x13 S).bind fun r1 =>
  (if r1.1 = 0 then
    l_law_359 N x7 x12 x13 x17 1 (iand t1 t0) r1.2
  else
    l_law_359 N x7 x12 x13 x17 0 (iand t1 t0) r1.2))
def l_law_337_P (f : Int → Int → Int → Int → Int → Int → St → RS St) : Jn St := fun L st S => match L, st with
  | [_, _, _, _, _, some (some (.inr (.inr (some 0)))), _, some (some (.inl x7)), _, _, _, _, some (some (.inl x12)), some (some (.inl x13)), _, _, _, some (some (.inl x17)), _], [.inl t0, .inl t1] => f x7 x12 x13 x17 t0 t1 S
  | _, _ => none
def l_law_329 (N : Nat) (x7 : Int) (x12 : Int) (x13 : Int) (x17 : Int) (t0 : Int) (t1 : Int) (t2 : Int) (S : St) : RS St :=
  (if t1 = t0 then
    l_law_337 N x7 x12 x13 x17 1 t2 S
  else
    l_law_337 N x7 x12 x13 x17 0 t2 S)
def l_law_329_P (f : Int → Int → Int → Int → Int → Int → Int → St → RS St) : Jn St := fun L st S => match L, st with
  | [_, _, _, _, _, some (some (.inr (.inr (some 0)))), _, some (some (.inl x7)), _, _, _, _, some (some (.inl x12)), some (some (.inl x13)), _, _, _, some (some (.inl x17)), _], [.inl t0, .inl t1, .inl t2] => f x7 x12 x13 x17 t0 t1 t2 S
  | _, _ => none
def l_law_302 (N : Nat) (x7 : Int) (x8 : Int) (x9 : Int) (x12 : Int) (x13 : Int) (x14 : Int) (x16 : Int) (t0 : Int) (S : St) : RS St :=
  (if x8 = 0 then
    l_law_329 N x7 x12 x13 t0 (-1) x16 x14 S
  else
    (if x9 = 0 then
      l_law_329 N x7 x12 x13 t0 (-2) x16 x14 S
    else
      l_law_329 N x7 x12 x13 t0 t0 x16 x14 S))
def l_law_302_P (f : Int → Int → Int → Int → Int → Int → Int → Int → St → RS St) : Jn St := fun L st S => match L, st with
  | [_, _, _, _, _, some (some (.inr (.inr (some 0)))), _, some (some (.inl x7)), some (some (.inl x8)), some (some (.inl x9)), _, _, some (some (.inl x12)), some (some (.inl x13)), some (some (.inl x14)), _, some (some (.inl x16)), _, _], [.inl t0] => f x7 x8 x9 x12 x13 x14 x16 t0 S
  | _, _ => none
def l_law_301 (N : Nat) (x7 : Int) (x8 : Int) (x9 : Int) (x12 : Int) (x13 : Int) (x14 : Int) (x16 : Int) (S : St) : RS St :=
  l_law_302 N x7 x8 x9 x12 x13 x14 x16 0 S
def l_law_301_P (f : Int → Int → Int → Int → Int → Int → Int → St → RS St) : Jn St := fun L st S => match L, st with
  | [_, _, _, _, _, some (some (.inr (.inr (some 0)))), _, some (some (.inl x7)), some (some (.inl x8)), some (some (.inl x9)), _, _, some (some (.inl x12)), some (some (.inl x13)), some (some (.inl x14)), _, some (some (.inl x16)), _, _], [] => f x7 x8 x9 x12 x13 x14 x16 S
  | _, _ => none
def l_law_266 (N : Nat) (x2 : Int) (x3 : Int) (x7 : Int) (x8 : Int) (x9 : Int) (x10 : Int) (x12 : Int) (x13 : Int) (t0 : Int) (t1 : Int) (S : St) : RS St :=
  ((m_removeKey N x2 x3 S).bind fun r1 =>
  (if x8 = 0 then
    l_law_301 N x7 x8 x9 x12 x13 (iand t1 t0) r1.1 r1.2
  else
    (if x9 = 0 then
      l_law_301 N x7 x8 x9 x12 x13 (iand t1 t0) r1.1 r1.2
    else
      (if x10 = 0 then
        l_law_302 N x7 x8 x9 x12 x13 (iand t1 t0) r1.1 1 r1.2
      else
        l_law_302 N x7 x8 x9 x12 x13 (iand t1 t0) r1.1 2 r1.2))))
def l_law_266_P (f : Int → Int → Int → Int → Int → Int → Int → Int → Int → Int → St → RS St) : Jn St := fun L st S => match L, st with
  | [_, _, some (some (.inl x2)), some (some (.inl x3)), _, some (some (.inr (.inr (some 0)))), _, some (some (.inl x7)), some (some (.inl x8)), some (some (.inl x9)), some (some (.inl x10)), _, some (some (.inl x12)), some (some (.inl x13)), _, _, _, _, _], [.inl t0, .inl t1] => f x2 x3 x7 x8 x9 x10 x12 x13 t0 t1 S
  | _, _ => none
def l_law_242 (N : Nat) (x2 : Int) (x3 : Int) (x7 : Int) (x8 : Int) (x9 : Int) (x10 : Int) (x11 : Int) (x12 : Int) (x13 : Int) (t0 : Int) (t1 : Int) (S : St) : RS St :=
  ((m_hasKey N x12 x13 S).bind fun r1 =>
  (if r1.1 = x11 then
    l_law_266 N x2 x3 x7 x8 x9 x10 x12 x13 1 (iand t1 t0) r1.2
  else
    l_law_266 N x2 x3 x7 x8 x9 x10 x12 x13 0 (iand t1 t0) r1.2))
def l_law_242_P (f : Int → Int → Int → Int → Int → Int → Int → Int → Int → Int → Int → St → RS St) : Jn St := fun L st S => match L, st with
  | [_, _, some (some (.inl x2)), some (some (.inl x3)), _, some (some (.inr (.inr (some 0)))), _, some (some (.inl x7)), some (some (.inl x8)), some (some (.inl x9)), some (some (.inl x10)), some (some (.inl x11)), some (some (.inl x12)), some (some (.inl x13)), _, _, _, _, _], [.inl t0, .inl t1] => f x2 x3 x7 x8 x9 x10 x11 x12 x13 t0 t1 S
  | _, _ => none
def l_law_234 (N : Nat) (x2 : Int) (x3 : Int) (x7 : Int) (x8 : Int) (x9 : Int) (x10 : Int) (x11 : Int) (x12 : Int) (x13 : Int) (t0 : Int) (t1 : Int) (t2 : Int) (S : St) : RS St :=
  (if t1 = t0 then
    l_law_242 N x2 x3 x7 x8 x9 x10 x11 x12 x13 1 t2 S
  else
    l_law_242 N x2 x3 x7 x8 x9 x10 x11 x12 x13 0 t2 S)
def l_law_234_P (f : Int → Int → Int → Int → Int → Int → Int → Int → Int → Int → Int → Int → St → RS St) : Jn St := fun L st S => match L, st with
  | [_, _, some (some (.inl x2)), some (some (.inl x3)), _, some (some (.inr (.inr (some 0)))), _, some (some (.inl x7)), some (some (.inl x8)), some (some (.inl x9)), some (some (.inl x10)), some (some (.inl x11)), some (some (.inl x12)), some (some (.inl x13)), _, _, _, _, _], [.inl t0, .inl t1, .inl t2] => f x2 x3 x7 x8 x9 x10 x11 x12 x13 t0 t1 t2 S
  | _, _ => none
def l_law_207 (N : Nat) (x2 : Int) (x3 : Int) (x4 : Int) (x7 : Int) (x8 : Int) (x9 : Int) (x10 : Int) (x11 : Int) (x12 : Int) (x13 : Int) (t0 : Int) (t1 : Int) (S : St) : RS St :=
  ((m_registerValue N x12 x13 x12 S).bind fun r1 =>
  (if x11 = 0 then
    l_law_234 N x2 x3 x7 x8 x9 x10 x11 x12 x13 0 r1.1 (iand t1 t0) r1.2
  else
    l_law_234 N x2 x3 x7 x8 x9 x10 x11 x12 x13 x4 r1.1 (iand t1 t0) r1.2))
def l_law_207_P (f : Int → Int → Int → Int → Int → Int → Int → Int → Int → Int → Int → Int → St → RS St) : Jn St := fun L st S => match L, st with
  | [_, _, some (some (.inl x2)), some (some (.inl x3)), some (some (.inl x4)), some (some (.inr (.inr (some 0)))), _, some (some (.inl x7)), some (some (.inl x8)), some (some (.inl x9)), some (some (.inl x10)), some (some (.inl x11)), some (some (.inl x12)), some (some (.inl x13)), _, _, _, _, _], [.inl t0, .inl t1] => f x2 x3 x4 x7 x8 x9 x10 x11 x12 x13 t0 t1 S
  | _, _ => none
def l_law_199 (N : Nat) (x2 : Int) (x3 : Int) (x4 : Int) (x7 : Int) (x8 : Int) (x9 : Int) (x10 : Int) (x11 : Int) (x12 : Int) (x13 : Int) (t0 : Int) (t1 : Int) (t2 : Int) (S : St) : RS St :=
  (if t1 = t0 then
    l_law_207 N x2 x3 x4 x7 x8 x9 x10 x11 x12 x13 1 t2 S
  else
    l_law_207 N x2 x3 x4 x7 x8 x9 x10 x11 x12 x13 0 t2 S)
def l_law_199_P (f : Int → Int → Int → Int → Int → Int → Int → Int → Int → Int → Int → Int → Int → St → RS St) : Jn St := fun L st S => match L, st with
  | [_, _, some (some (.inl x2)), some (some (.inl x3)), some (some (.inl x4)), some (some (.inr (.inr (some 0)))), _, some (some (.inl x7)), some (some (.inl x8)), some (some (.inl x9)), some (some (.inl x10)), some (some (.inl x11)), some (some (.inl x12)), some (some (.inl x13)), _, _, _, _, _], [.inl t0, .inl t1, .inl t2] => f x2 x3 x4 x7 x8 x9 x10 x11 x12 x13 t0 t1 t2 S
  | _, _ => none
def l_law_132 (N : Nat) (x2 : Int) (x3 : Int) (x4 : Int) (x6 : Int) (x7 : Int) (x8 : Int) (x9 : Int) (x10 : Int) (t0 : Int) (S : St) : RS St :=
  (if x6 = 0 then none else
  (if x6 = 0 then none else
  ((m_write N x2 x3 x4 S).bind fun r1 =>
  (if x8 = 0 then
    l_law_199 N x2 x3 x4 x7 x8 x9 x10 t0 (iand x2 3) (Int.tmod (w32 ((Int.tmod x3 x6) + x6)) x6) (-1) r1.1 1 r1.2
  else
    (if x9 = 0 then
      l_law_199 N x2 x3 x4 x7 x8 x9 x10 t0 (iand x2 3) (Int.tmod (w32 ((Int.tmod x3 x6) + x6)) x6) (-2) r1.1 1 r1.2
    else
      (if x10 = 0 then
        l_law_199 N x2 x3 x4 x7 x8 x9 x10 t0 (iand x2 3) (Int.tmod (w32 ((Int.tmod x3 x6) + x6)) x6) (-3) r1.1 1 r1.2
      else
        l_law_199 N x2 x3 x4 x7 x8 x9 x10 t0 (iand x2 3) (Int.tmod (w32 ((Int.tmod x3 x6) + x6)) x6) 1 r1.1 1 r1.2))))))
def l_law_132_P (f : Int → Int → Int → Int → Int → Int → Int → Int → Int → St → RS St) : Jn St := fun L st S => match L, st with
  | [_, _, some (some (.inl x2)), some (some (.inl x3)), some (some (.inl x4)), some (some (.inr (.inr (some 0)))), some (some (.inl x6)), some (some (.inl x7)), some (some (.inl x8)), some (some (.inl x9)), some (some (.inl x10)), _, _, _, _, _, _, _, _], [.inl t0] => f x2 x3 x4 x6 x7 x8 x9 x10 t0 S
  | _, _ => none
def l_law_131 (N : Nat) (x2 : Int) (x3 : Int) (x4 : Int) (x6 : Int) (x7 : Int) (x8 : Int) (x9 : Int) (x10 : Int) (S : St) : RS St :=
  l_law_132 N x2 x3 x4 x6 x7 x8 x9 x10 0 S
def l_law_131_P (f : Int → Int → Int → Int → Int → Int → Int → Int → St → RS St) : Jn St := fun L st S => match L, st with
  | [_, _, some (some (.inl x2)), some (some (.inl x3)), some (some (.inl x4)), some (some (.inr (.inr (some 0)))), some (some (.inl x6)), some (some (.inl x7)), some (some (.inl x8)), some (some (.inl x9)), some (some (.inl x10)), _, _, _, _, _, _, _, _], [] => f x2 x3 x4 x6 x7 x8 x9 x10 S
  | _, _ => none
def l_law_110 (N : Nat) (x2 : Int) (x3 : Int) (x4 : Int) (x6 : Int) (x7 : Int) (x8 : Int) (x9 : Int) (t0 : Int) (S : St) : RS St :=
  (if x8 = 0 then
    l_law_131 N x2 x3 x4 x6 x7 x8 x9 t0 S
  else
    (if x9 = 0 then
      l_law_131 N x2 x3 x4 x6 x7 x8 x9 t0 S
    else
      (if t0 = 0 then
        l_law_131 N x2 x3 x4 x6 x7 x8 x9 t0 S
      else
        l_law_132 N x2 x3 x4 x6 x7 x8 x9 t0 1 S)))
def l_law_110_P (f : Int → Int → Int → Int → Int → Int → Int → Int → St → RS St) : Jn St := fun L st S => match L, st with
  | [_, _, some (some (.inl x2)), some (some (.inl x3)), some (some (.inl x4)), some (some (.inr (.inr (some 0)))), some (some (.inl x6)), some (some (.inl x7)), some (some (.inl x8)), some (some (.inl x9)), _, _, _, _, _, _, _, _, _], [.inl t0] => f x2 x3 x4 x6 x7 x8 x9 t0 S
  | _, _ => none
def l_law_109 (N : Nat) (x2 : Int) (x3 : Int) (x4 : Int) (x6 : Int) (x7 : Int) (x8 : Int) (x9 : Int) (S : St) : RS St :=
  l_law_110 N x2 x3 x4 x6 x7 x8 x9 0 S
def l_law_109_P (f : Int → Int → Int → Int → Int → Int → Int → St → RS St) : Jn St := fun L st S => match L, st with
  | [_, _, some (some (.inl x2)), some (some (.inl x3)), some (some (.inl x4)), some (some (.inr (.inr (some 0)))), some (some (.inl x6)), some (some (.inl x7)), some (some (.inl x8)), some (some (.inl x9)), _, _, _, _, _, _, _, _, _], [] => f x2 x3 x4 x6 x7 x8 x9 S
  | _, _ => none
def l_law_89 (N : Nat) (x2 : Int) (x3 : Int) (x4 : Int) (x6 : Int) (x7 : Int) (x8 : Int) (t0 : Int) (S : St) : RS St :=
  (if x4 < 1 then
    l_law_109 N x2 x3 x4 x6 x7 x8 t0 S
  else
    (if 255 < x4 then
      l_law_109 N x2 x3 x4 x6 x7 x8 t0 S
    else
      l_law_110 N x2 x3 x4 x6 x7 x8 t0 1 S))
def l_law_89_P (f : Int → Int → Int → Int → Int → Int → Int → St → RS St) : Jn St := fun L st S => match L, st with
  | [_, _, some (some (.inl x2)), some (some (.inl x3)), some (some (.inl x4)), some (some (.inr (.inr (some 0)))), some (some (.inl x6)), some (some (.inl x7)), some (some (.inl x8)), _, _, _, _, _, _, _, _, _, _], [.inl t0] => f x2 x3 x4 x6 x7 x8 t0 S
  | _, _ => none
def l_law_88 (N : Nat) (x2 : Int) (x3 : Int) (x4 : Int) (x6 : Int) (x7 : Int) (x8 : Int) (S : St) : RS St :=
  l_law_89 N x2 x3 x4 x6 x7 x8 0 S
def l_law_88_P (f : Int → Int → Int → Int → Int → Int → St → RS St) : Jn St := fun L st S => match L, st with
  | [_, _, some (some (.inl x2)), some (some (.inl x3)), some (some (.inl x4)), some (some (.inr (.inr (some 0)))), some (some (.inl x6)), some (some (.inl x7)), some (some (.inl x8)), _, _, _, _, _, _, _, _, _, _], [] => f x2 x3 x4 x6 x7 x8 S
  | _, _ => none
def l_law_72 (N : Nat) (x2 : Int) (x3 : Int) (x4 : Int) (x6 : Int) (x7 : Int) (t0 : Int) (S : St) : RS St :=
  (if x3 < 0 then
    l_law_88 N x2 x3 x4 x6 x7 t0 S
  else
    (if x3 < x6 then
      l_law_89 N x2 x3 x4 x6 x7 t0 1 S
    else
      l_law_88 N x2 x3 x4 x6 x7 t0 S))
def l_law_72_P (f : Int → Int → Int → Int → Int → Int → St → RS St) : Jn St := fun L st S => match L, st with
  | [_, _, some (some (.inl x2)), some (some (.inl x3)), some (some (.inl x4)), some (some (.inr (.inr (some 0)))), some (some (.inl x6)), some (some (.inl x7)), _, _, _, _, _, _, _, _, _, _, _], [.inl t0] => f x2 x3 x4 x6 x7 t0 S
  | _, _ => none
def l_law_71 (N : Nat) (x2 : Int) (x3 : Int) (x4 : Int) (x6 : Int) (x7 : Int) (S : St) : RS St :=
  l_law_72 N x2 x3 x4 x6 x7 0 S
def l_law_71_P (f : Int → Int → Int → Int → Int → St → RS St) : Jn St := fun L st S => match L, st with
  | [_, _, some (some (.inl x2)), some (some (.inl x3)), some (some (.inl x4)), some (some (.inr (.inr (some 0)))), some (some (.inl x6)), some (some (.inl x7)), _, _, _, _, _, _, _, _, _, _, _], [] => f x2 x3 x4 x6 x7 S
  | _, _ => none
def l_law_56 (N : Nat) (x2 : Int) (x3 : Int) (x4 : Int) (x6 : Int) (t0 : Int) (S : St) : RS St :=
  (if x2 < 0 then
    l_law_71 N x2 x3 x4 x6 t0 S
  else
    (if 3 < x2 then
      l_law_71 N x2 x3 x4 x6 t0 S
    else
      l_law_72 N x2 x3 x4 x6 t0 1 S))
def l_law_56_P (f : Int → Int → Int → Int → Int → St → RS St) : Jn St := fun L st S => match L, st with
  | [_, _, some (some (.inl x2)), some (some (.inl x3)), some (some (.inl x4)), some (some (.inr (.inr (some 0)))), some (some (.inl x6)), _, _, _, _, _, _, _, _, _, _, _, _], [.inl t0] => f x2 x3 x4 x6 t0 S
  | _, _ => none
def l_law_33 (N : Nat) (x1 : Int) (x2 : Int) (x3 : Int) (x4 : Int) (t0 : Int) (S : St) : RS St :=
  (if x1 < 1 then
    l_law_56 N x2 x3 x4 t0 1 S
  else
    (if 8 < x1 then
      l_law_56 N x2 x3 x4 t0 8 S
    else
      l_law_56 N x2 x3 x4 t0 x1 S))
def l_law_33_P (f : Int → Int → Int → Int → Int → St → RS St) : Jn St := fun L st S => match L, st with
  | [_, some (some (.inl x1)), some (some (.inl x2)), some (some (.inl x3)), some (some (.inl x4)), some (some (.inr (.inr (some 0)))), _, _, _, _, _, _, _, _, _, _, _, _, _], [.inl t0] => f x1 x2 x3 x4 t0 S
  | _, _ => none
def l_law (N : Nat) (x0 : Int) (x1 : Int) (x2 : Int) (x3 : Int) (x4 : Int) (S : St) : RS St :=
  ((m_init N x0 2 x1 zS).bind fun r1 =>
  (if x0 < 2 then
    l_law_33 N x1 x2 x3 x4 2 r1.2
  else
    (if 8 < x0 then
      l_law_33 N x1 x2 x3 x4 8 r1.2
    else
      l_law_33 N x1 x2 x3 x4 x0 r1.2)))
def l_law_0_P (f : Int → Int → Int → Int → Int → St → RS St) : Jn St := fun L st S => match L, st with
  | [some (some (.inl x0)), some (some (.inl x1)), some (some (.inl x2)), some (some (.inl x3)), some (some (.inl x4)), _, _, _, _, _, _, _, _, _, _, _, _, _, _], [] => f x0 x1 x2 x3 x4 S
  | _, _ => none
def l_law_c : List Ent := [(0, .new 7, 3, []), (3, .dup, 1, []), (4, .iload_n 0, 1, []), (5, .iconst 2, 1, []), (6, .iload_n 1, 1, []), (7, .invokespecial 9, 3, []), (10, .astore 5, 2, []), (12, .iload_n 0, 1, []), (13, .iconst 2, 1, []), (14, .if_icmp .ge 7, 3, [21]), (17, .iconst 2, 1, []), (18, .goto 15, 3, [33]), (21, .iload_n 0, 1, []), (22, .bipush 8, 2, []), (24, .if_icmp .le 8, 3, [32]), (27, .bipush 8, 2, []), (29, .goto 4, 3, [33]), (32, .iload_n 0, 1, []), (33, .istore 6, 2, []), (35, .iload_n 1, 1, []), (36, .iconst 1, 1, []), (37, .if_icmp .ge 7, 3, [44]), (40, .iconst 1, 1, []), (41, .goto 15, 3, [56]), (44, .iload_n 1, 1, []), (45, .bipush 8, 2, []), (47, .if_icmp .le 8, 3, [55]), (50, .bipush 8, 2, []), (52, .goto 4, 3, [56]), (55, .iload_n 1, 1, []), (56, .istore 7, 2, []), (58, .iload_n 2, 1, []), (59, .ifCond .lt 12, 3, [71]), (62, .iload_n 2, 1, []), (63, .iconst 3, 1, []), (64, .if_icmp .gt 7, 3, [71]), (67, .iconst 1, 1, []), (68, .goto 4, 3, [72]), (71, .iconst 0, 1, []), (72, .istore 8, 2, []), (74, .iload_n 3, 1, []), (75, .ifCond .lt 13, 3, [88]), (78, .iload_n 3, 1, []), (79, .iload 6, 2, []), (81, .if_icmp .ge 7, 3, [88]), (84, .iconst 1, 1, []), (85, .goto 4, 3, [89]), (88, .iconst 0, 1, []), (89, .istore 9, 2, []), (91, .iload 4, 2, []), (93, .iconst 1, 1, []), (94, .if_icmp .lt 15, 3, [109]), (97, .iload 4, 2, []), (99, .sipush 255, 3, []), (102, .if_icmp .gt 7, 3, [109]), (105, .iconst 1, 1, []), (106, .goto 4, 3, [110]), (109, .iconst 0, 1, []), (110, .istore 10, 2, []), (112, .iload 8, 2, []), (114, .ifCond .eq 17, 3, [131]), (117, .iload 9, 2, []), (119, .ifCond .eq 12, 3, [131]), (122, .iload 10, 2, []), (124, .ifCond .eq 7, 3, [131]), (127, .iconst 1, 1, []), (128, .goto 4, 3, [132]), (131, .iconst 0, 1, []), (132, .istore 11, 2, []), (134, .iload_n 2, 1, []), (135, .iconst 3, 1, []), (136, .iand, 1, []), (137, .istore 12, 2, []), (139, .iload_n 3, 1, []), (140, .iload 6, 2, []), (142, .irem, 1, []), (143, .iload 6, 2, []), (145, .iadd, 1, []), (146, .iload 6, 2, []), (148, .irem, 1, []), (149, .istore 13, 2, []), (151, .iconst 1, 1, []), (152, .istore 14, 2, []), (154, .aload 5, 2, []), (156, .iload_n 2, 1, []), (157, .iload_n 3, 1, []), (158, .iload 4, 2, []), (160, .invokevirtual 12, 3, []), (163, .istore 15, 2, []), (165, .iload 14, 2, []), (167, .iload 15, 2, []), (169, .iload 8, 2, []), (171, .ifCond .ne 7, 3, [178]), (174, .iconst (-1), 1, []), (175, .goto 24, 3, [199]), (178, .iload 9, 2, []), (180, .ifCond .ne 8, 3, [188]), (183, .bipush (-2), 2, []), (185, .goto 14, 3, [199]), (188, .iload 10, 2, []), (190, .ifCond .ne 8, 3, [198]), (193, .bipush (-3), 2, []), (195, .goto 4, 3, [199]), (198, .iconst 1, 1, []), (199, .if_icmp .ne 7, 3, [206]), (202, .iconst 1, 1, []), (203, .goto 4, 3, [207]), (206, .iconst 0, 1, []), (207, .iand, 1, []), (208, .istore 14, 2, []), (210, .iload 14, 2, []), (212, .aload 5, 2, []), (214, .iload 12, 2, []), (216, .iload 13, 2, []), (218, .iload 12, 2, []), (220, .invokevirtual 16, 3, []), (223, .iload 11, 2, []), (225, .ifCond .eq 8, 3, [233]), (228, .iload 4, 2, []), (230, .goto 4, 3, [234]), (233, .iconst 0, 1, []), (234, .if_icmp .ne 7, 3, [241]), (237, .iconst 1, 1, []), (238, .goto 4, 3, [242]), (241, .iconst 0, 1, []), (242, .iand, 1, []), (243, .istore 14, 2, []), (245, .iload 14, 2, []), (247, .aload 5, 2, []), (249, .iload 12, 2, []), (251, .iload 13, 2, []), (253, .invokevirtual 19, 3, []), (256, .iload 11, 2, []), (258, .if_icmp .ne 7, 3, [265]), (261, .iconst 1, 1, []), (262, .goto 4, 3, [266]), (265, .iconst 0, 1, []), (266, .iand, 1, []), (267, .istore 14, 2, []), (269, .aload 5, 2, []), (271, .iload_n 2, 1, []), (272, .iload_n 3, 1, []), (273, .invokevirtual 23, 3, []), (276, .istore 16, 2, []), (278, .iload 8, 2, []), (280, .ifCond .eq 21, 3, [301]), (283, .iload 9, 2, []), (285, .ifCond .eq 16, 3, [301]), (288, .iload 10, 2, []), (290, .ifCond .eq 7, 3, [297]), (293, .iconst 2, 1, []), (294, .goto 8, 3, [302]), (297, .iconst 1, 1, []), (298, .goto 4, 3, [302]), (301, .iconst 0, 1, []), (302, .istore 17, 2, []), (304, .iload 14, 2, []), (306, .iload 16, 2, []), (308, .iload 8, 2, []), (310, .ifCond .ne 7, 3, [317]), (313, .iconst (-1), 1, []), (314, .goto 15, 3, [329]), (317, .iload 9, 2, []), (319, .ifCond .ne 8, 3, [327]), (322, .bipush (-2), 2, []), (324, .goto 5, 3, [329]), (327, .iload 17, 2, []), (329, .if_icmp .ne 7, 3, [336]), (332, .iconst 1, 1, []), (333, .goto 4, 3, [337]), (336, .iconst 0, 1, []), (337, .iand, 1, []), (338, .istore 14, 2, []), (340, .iload 14, 2, []), (342, .aload 5, 2, []), (344, .iload 12, 2, []), (346, .iload 13, 2, []), (348, .invokevirtual 19, 3, []), (351, .ifCond .ne 7, 3, [358]), (354, .iconst 1, 1, []), (355, .goto 4, 3, [359]), (358, .iconst 0, 1, []), (359, .iand, 1, []), (360, .istore 14, 2, []), (362, .iload 14, 2, []), (364, .aload 5, 2, []), (366, .iload 12, 2, []), (368, .iload 13, 2, []), (370, .iload 12, 2, []), (372, .invokevirtual 16, 3, []), (375, .ifCond .ne 7, 3, [382]), (378, .iconst 1, 1, []), (379, .goto 4, 3, [383]), (382, .iconst 0, 1, []), (383, .iand, 1, []), (384, .istore 14, 2, []), (386, .iload 14, 2, []), (388, .aload 5, 2, []), (390, .iload 12, 2, []), (392, .iload 12, 2, []), (394, .invokevirtual 27, 3, []), (397, .iload 17, 2, []), (399, .if_icmp .ne 7, 3, [406]), (402, .iconst 1, 1, []), (403, .goto 4, 3, [407]), (406, .iconst 0, 1, []), (407, .iand, 1, []), (408, .istore 14, 2, []), (410, .aload 5, 2, []), (412, .iload 12, 2, []), (414, .iconst 0, 1, []), (415, .iconst 0, 1, []), (416, .invokevirtual 30, 3, []), (419, .istore 18, 2, []), (421, .iload 14, 2, []), (423, .iload 18, 2, []), (425, .iload 17, 2, []), (427, .if_icmp .ne 7, 3, [434]), (430, .iconst 1, 1, []), (431, .goto 4, 3, [435]), (434, .iconst 0, 1, []), (435, .iand, 1, []), (436, .istore 14, 2, []), (438, .iload 14, 2, []), (440, .aload 5, 2, []), (442, .iload 12, 2, []), (444, .iconst 1, 1, []), (445, .iconst 0, 1, []), (446, .invokevirtual 30, 3, []), (449, .iload 17, 2, []), (451, .iload 7, 2, []), (453, .if_icmp .le 11, 3, [464]), (456, .iload 17, 2, []), (458, .iload 7, 2, []), (460, .isub, 1, []), (461, .goto 4, 3, [465]), (464, .iconst 0, 1, []), (465, .if_icmp .ne 7, 3, [472]), (468, .iconst 1, 1, []), (469, .goto 4, 3, [473]), (472, .iconst 0, 1, []), (473, .iand, 1, []), (474, .istore 14, 2, []), (476, .iload 14, 2, []), (478, .ireturn, 1, [])]
set_option maxRecDepth 65536 in
theorem l_law_cOk : codeOk code l_law_c = true := by decide +kernel
set_option maxRecDepth 65536 in
set_option maxHeartbeats 4000000 in
theorem l_law_473_ok (l : Launch) {Z : State} {a0 : Array Value} (hw : ∀ d ∈ tables_1, d.before a0 Z = true) (hi : (Jvm.Cond.initialized "DeltaCausalMapL2").before a0 Z = true) (N : Nat) : Blk l Z "DeltaCausalMapL2" code maxLocals ret false room_1 (AL 1 23) nL zL (fun q => szL 23 q) (fun q => slL 26 (sumTo (lenAt asT) 23) q) (fun i q S h => HL Z "DeltaCausalMap" fsT asT 23 gtT true false 0 (fun _ => 0) i q S h ∧ q ≤ 2 * 1) [0, 0, 0, 0, 0, 0, 0, 0, 0, 0, 0, 0, 0, 0, 0, 0, 0, 0, 0] 3 2 (473, 2, l_law_473_P (l_law_473 N)) :=
  blk_of_den (jl := []) (lst := l_law_c) (l_law_hop l hw hi N) (Or.inr (Or.inr (Or.inr ⟨rfl, rfl⟩))) rfl (by decide) (by decide) l_law_cOk fn (fun L st S r ok h => by unfold l_law_473_P at h; split at h; exact h; cases h)
set_option maxRecDepth 65536 in
set_option maxHeartbeats 4000000 in
theorem l_law_465_ok (l : Launch) {Z : State} {a0 : Array Value} (hw : ∀ d ∈ tables_1, d.before a0 Z = true) (hi : (Jvm.Cond.initialized "DeltaCausalMapL2").before a0 Z = true) (N : Nat) : Blk l Z "DeltaCausalMapL2" code maxLocals ret false room_1 (AL 1 23) nL zL (fun q => szL 23 q) (fun q => slL 26 (sumTo (lenAt asT) 23) q) (fun i q S h => HL Z "DeltaCausalMap" fsT asT 23 gtT true false 0 (fun _ => 0) i q S h ∧ q ≤ 2 * 1) [0, 0, 0, 0, 0, 0, 0, 0, 0, 0, 0, 0, 0, 0, 0, 0, 0, 0, 0] 3 2 (465, 2, l_law_465_P (l_law_465 N)) :=
  blk_of_den (jl := [(473, 2, l_law_473_P (l_law_473 N))]) (lst := l_law_c) (l_law_hop l hw hi N) (Or.inr (Or.inr (Or.inr ⟨rfl, rfl⟩))) rfl (by decide) (by decide) l_law_cOk (fc (l_law_473_ok l hw hi N) fn) (fun L st S r ok h => by unfold l_law_465_P at h; split at h; exact h; cases h)
set_option maxRecDepth 65536 in
set_option maxHeartbeats 4000000 in
theorem l_law_435_ok (l : Launch) {Z : State} {a0 : Array Value} (hw : ∀ d ∈ tables_1, d.before a0 Z = true) (hi : (Jvm.Cond.initialized "DeltaCausalMapL2").before a0 Z = true) (N : Nat) : Blk l Z "DeltaCausalMapL2" code maxLocals ret false room_1 (AL 1 23) nL zL (fun q => szL 23 q) (fun q => slL 26 (sumTo (lenAt asT) 23) q) (fun i q S h => HL Z "DeltaCausalMap" fsT asT 23 gtT true false 0 (fun _ => 0) i q S h ∧ q ≤ 2 * 1) [0, 0, 0, 0, 0, 0, 0, 0, 0, 0, 0, 0, 0, 0, 0, 0, 0, 0, 0] 3 2 (435, 2, l_law_435_P (l_law_435 N)) :=
  blk_of_den (jl := [(465, 2, l_law_465_P (l_law_465 N))]) (lst := l_law_c) (l_law_hop l hw hi N) (Or.inr (Or.inr (Or.inr ⟨rfl, rfl⟩))) rfl (by decide) (by decide) l_law_cOk (fc (l_law_465_ok l hw hi N) fn) (fun L st S r ok h => by unfold l_law_435_P at h; split at h; exact h; cases h)
set_option maxRecDepth 65536 in
set_option maxHeartbeats 4000000 in
theorem l_law_407_ok (l : Launch) {Z : State} {a0 : Array Value} (hw : ∀ d ∈ tables_1, d.before a0 Z = true) (hi : (Jvm.Cond.initialized "DeltaCausalMapL2").before a0 Z = true) (N : Nat) : Blk l Z "DeltaCausalMapL2" code maxLocals ret false room_1 (AL 1 23) nL zL (fun q => szL 23 q) (fun q => slL 26 (sumTo (lenAt asT) 23) q) (fun i q S h => HL Z "DeltaCausalMap" fsT asT 23 gtT true false 0 (fun _ => 0) i q S h ∧ q ≤ 2 * 1) [0, 0, 0, 0, 0, 0, 0, 0, 0, 0, 0, 0, 0, 0, 0, 0, 0, 0, 0] 3 2 (407, 2, l_law_407_P (l_law_407 N)) :=
  blk_of_den (jl := [(435, 2, l_law_435_P (l_law_435 N))]) (lst := l_law_c) (l_law_hop l hw hi N) (Or.inr (Or.inr (Or.inr ⟨rfl, rfl⟩))) rfl (by decide) (by decide) l_law_cOk (fc (l_law_435_ok l hw hi N) fn) (fun L st S r ok h => by unfold l_law_407_P at h; split at h; exact h; cases h)
set_option maxRecDepth 65536 in
set_option maxHeartbeats 4000000 in
theorem l_law_383_ok (l : Launch) {Z : State} {a0 : Array Value} (hw : ∀ d ∈ tables_1, d.before a0 Z = true) (hi : (Jvm.Cond.initialized "DeltaCausalMapL2").before a0 Z = true) (N : Nat) : Blk l Z "DeltaCausalMapL2" code maxLocals ret false room_1 (AL 1 23) nL zL (fun q => szL 23 q) (fun q => slL 26 (sumTo (lenAt asT) 23) q) (fun i q S h => HL Z "DeltaCausalMap" fsT asT 23 gtT true false 0 (fun _ => 0) i q S h ∧ q ≤ 2 * 1) [0, 0, 0, 0, 0, 0, 0, 0, 0, 0, 0, 0, 0, 0, 0, 0, 0, 0, 0] 3 2 (383, 2, l_law_383_P (l_law_383 N)) :=
  blk_of_den (jl := [(407, 2, l_law_407_P (l_law_407 N))]) (lst := l_law_c) (l_law_hop l hw hi N) (Or.inr (Or.inr (Or.inr ⟨rfl, rfl⟩))) rfl (by decide) (by decide) l_law_cOk (fc (l_law_407_ok l hw hi N) fn) (fun L st S r ok h => by unfold l_law_383_P at h; split at h; exact h; cases h)
set_option maxRecDepth 65536 in
set_option maxHeartbeats 4000000 in
theorem l_law_359_ok (l : Launch) {Z : State} {a0 : Array Value} (hw : ∀ d ∈ tables_1, d.before a0 Z = true) (hi : (Jvm.Cond.initialized "DeltaCausalMapL2").before a0 Z = true) (N : Nat) : Blk l Z "DeltaCausalMapL2" code maxLocals ret false room_1 (AL 1 23) nL zL (fun q => szL 23 q) (fun q => slL 26 (sumTo (lenAt asT) 23) q) (fun i q S h => HL Z "DeltaCausalMap" fsT asT 23 gtT true false 0 (fun _ => 0) i q S h ∧ q ≤ 2 * 1) [0, 0, 0, 0, 0, 0, 0, 0, 0, 0, 0, 0, 0, 0, 0, 0, 0, 0, 0] 3 2 (359, 2, l_law_359_P (l_law_359 N)) :=
  blk_of_den (jl := [(383, 2, l_law_383_P (l_law_383 N))]) (lst := l_law_c) (l_law_hop l hw hi N) (Or.inr (Or.inr (Or.inr ⟨rfl, rfl⟩))) rfl (by decide) (by decide) l_law_cOk (fc (l_law_383_ok l hw hi N) fn) (fun L st S r ok h => by unfold l_law_359_P at h; split at h; exact h; cases h)
set_option maxRecDepth 65536 in
set_option maxHeartbeats 4000000 in
theorem l_law_337_ok (l : Launch) {Z : State} {a0 : Array Value} (hw : ∀ d ∈ tables_1, d.before a0 Z = true) (hi : (Jvm.Cond.initialized "DeltaCausalMapL2").before a0 Z = true) (N : Nat) : Blk l Z "DeltaCausalMapL2" code maxLocals ret false room_1 (AL 1 23) nL zL (fun q => szL 23 q) (fun q => slL 26 (sumTo (lenAt asT) 23) q) (fun i q S h => HL Z "DeltaCausalMap" fsT asT 23 gtT true false 0 (fun _ => 0) i q S h ∧ q ≤ 2 * 1) [0, 0, 0, 0, 0, 0, 0, 0, 0, 0, 0, 0, 0, 0, 0, 0, 0, 0, 0] 3 2 (337, 2, l_law_337_P (l_law_337 N)) :=
  blk_of_den (jl := [(359, 2, l_law_359_P (l_law_359 N))]) (lst := l_law_c) (l_law_hop l hw hi N) (Or.inr (Or.inr (Or.inr ⟨rfl, rfl⟩))) rfl (by decide) (by decide) l_law_cOk (fc (l_law_359_ok l hw hi N) fn) (fun L st S r ok h => by unfold l_law_337_P at h; split at h; exact h; cases h)
set_option maxRecDepth 65536 in
set_option maxHeartbeats 4000000 in
theorem l_law_329_ok (l : Launch) {Z : State} {a0 : Array Value} (hw : ∀ d ∈ tables_1, d.before a0 Z = true) (hi : (Jvm.Cond.initialized "DeltaCausalMapL2").before a0 Z = true) (N : Nat) : Blk l Z "DeltaCausalMapL2" code maxLocals ret false room_1 (AL 1 23) nL zL (fun q => szL 23 q) (fun q => slL 26 (sumTo (lenAt asT) 23) q) (fun i q S h => HL Z "DeltaCausalMap" fsT asT 23 gtT true false 0 (fun _ => 0) i q S h ∧ q ≤ 2 * 1) [0, 0, 0, 0, 0, 0, 0, 0, 0, 0, 0, 0, 0, 0, 0, 0, 0, 0, 0] 3 2 (329, 2, l_law_329_P (l_law_329 N)) :=
  blk_of_den (jl := [(337, 2, l_law_337_P (l_law_337 N))]) (lst := l_law_c) (l_law_hop l hw hi N) (Or.inr (Or.inr (Or.inr ⟨rfl, rfl⟩))) rfl (by decide) (by decide) l_law_cOk (fc (l_law_337_ok l hw hi N) fn) (fun L st S r ok h => by unfold l_law_329_P at h; split at h; exact h; cases h)
set_option maxRecDepth 65536 in
set_option maxHeartbeats 4000000 in
theorem l_law_302_ok (l : Launch) {Z : State} {a0 : Array Value} (hw : ∀ d ∈ tables_1, d.before a0 Z = true) (hi : (Jvm.Cond.initialized "DeltaCausalMapL2").before a0 Z = true) (N : Nat) : Blk l Z "DeltaCausalMapL2" code maxLocals ret false room_1 (AL 1 23) nL zL (fun q => szL 23 q) (fun q => slL 26 (sumTo (lenAt asT) 23) q) (fun i q S h => HL Z "DeltaCausalMap" fsT asT 23 gtT true false 0 (fun _ => 0) i q S h ∧ q ≤ 2 * 1) [0, 0, 0, 0, 0, 0, 0, 0, 0, 0, 0, 0, 0, 0, 0, 0, 0, 0, 0] 3 2 (302, 2, l_law_302_P (l_law_302 N)) :=
  blk_of_den (jl := [(329, 2, l_law_329_P (l_law_329 N))]) (lst := l_law_c) (l_law_hop l hw hi N) (Or.inr (Or.inr (Or.inr ⟨rfl, rfl⟩))) rfl (by decide) (by decide) l_law_cOk (fc (l_law_329_ok l hw hi N) fn) (fun L st S r ok h => by unfold l_law_302_P at h; split at h; exact h; cases h)
set_option maxRecDepth 65536 in
set_option maxHeartbeats 4000000 in
theorem l_law_301_ok (l : Launch) {Z : State} {a0 : Array Value} (hw : ∀ d ∈ tables_1, d.before a0 Z = true) (hi : (Jvm.Cond.initialized "DeltaCausalMapL2").before a0 Z = true) (N : Nat) : Blk l Z "DeltaCausalMapL2" code maxLocals ret false room_1 (AL 1 23) nL zL (fun q => szL 23 q) (fun q => slL 26 (sumTo (lenAt asT) 23) q) (fun i q S h => HL Z "DeltaCausalMap" fsT asT 23 gtT true false 0 (fun _ => 0) i q S h ∧ q ≤ 2 * 1) [0, 0, 0, 0, 0, 0, 0, 0, 0, 0, 0, 0, 0, 0, 0, 0, 0, 0, 0] 3 2 (301, 2, l_law_301_P (l_law_301 N)) :=
  blk_of_den (jl := [(302, 2, l_law_302_P (l_law_302 N))]) (lst := l_law_c) (l_law_hop l hw hi N) (Or.inr (Or.inr (Or.inr ⟨rfl, rfl⟩))) rfl (by decide) (by decide) l_law_cOk (fc (l_law_302_ok l hw hi N) fn) (fun L st S r ok h => by unfold l_law_301_P at h; split at h; exact h; cases h)
set_option maxRecDepth 65536 in
set_option maxHeartbeats 4000000 in
theorem l_law_266_ok (l : Launch) {Z : State} {a0 : Array Value} (hw : ∀ d ∈ tables_1, d.before a0 Z = true) (hi : (Jvm.Cond.initialized "DeltaCausalMapL2").before a0 Z = true) (N : Nat) : Blk l Z "DeltaCausalMapL2" code maxLocals ret false room_1 (AL 1 23) nL zL (fun q => szL 23 q) (fun q => slL 26 (sumTo (lenAt asT) 23) q) (fun i q S h => HL Z "DeltaCausalMap" fsT asT 23 gtT true false 0 (fun _ => 0) i q S h ∧ q ≤ 2 * 1) [0, 0, 0, 0, 0, 0, 0, 0, 0, 0, 0, 0, 0, 0, 0, 0, 0, 0, 0] 3 2 (266, 2, l_law_266_P (l_law_266 N)) :=
  blk_of_den (jl := [(301, 2, l_law_301_P (l_law_301 N)), (302, 2, l_law_302_P (l_law_302 N))]) (lst := l_law_c) (l_law_hop l hw hi N) (Or.inr (Or.inr (Or.inr ⟨rfl, rfl⟩))) rfl (by decide) (by decide) l_law_cOk (fc (l_law_301_ok l hw hi N) (fc (l_law_302_ok l hw hi N) fn)) (fun L st S r ok h => by unfold l_law_266_P at h; split at h; exact h; cases h)
set_option maxRecDepth 65536 in
set_option maxHeartbeats 4000000 in
theorem l_law_242_ok (l : Launch) {Z : State} {a0 : Array Value} (hw : ∀ d ∈ tables_1, d.before a0 Z = true) (hi : (Jvm.Cond.initialized "DeltaCausalMapL2").before a0 Z = true) (N : Nat) : Blk l Z "DeltaCausalMapL2" code maxLocals ret false room_1 (AL 1 23) nL zL (fun q => szL 23 q) (fun q => slL 26 (sumTo (lenAt asT) 23) q) (fun i q S h => HL Z "DeltaCausalMap" fsT asT 23 gtT true false 0 (fun _ => 0) i q S h ∧ q ≤ 2 * 1) [0, 0, 0, 0, 0, 0, 0, 0, 0, 0, 0, 0, 0, 0, 0, 0, 0, 0, 0] 3 2 (242, 2, l_law_242_P (l_law_242 N)) :=
  blk_of_den (jl := [(266, 2, l_law_266_P (l_law_266 N))]) (lst := l_law_c) (l_law_hop l hw hi N) (Or.inr (Or.inr (Or.inr ⟨rfl, rfl⟩))) rfl (by decide) (by decide) l_law_cOk (fc (l_law_266_ok l hw hi N) fn) (fun L st S r ok h => by unfold l_law_242_P at h; split at h; exact h; cases h)
set_option maxRecDepth 65536 in
set_option maxHeartbeats 4000000 in
theorem l_law_234_ok (l : Launch) {Z : State} {a0 : Array Value} (hw : ∀ d ∈ tables_1, d.before a0 Z = true) (hi : (Jvm.Cond.initialized "DeltaCausalMapL2").before a0 Z = true) (N : Nat) : Blk l Z "DeltaCausalMapL2" code maxLocals ret false room_1 (AL 1 23) nL zL (fun q => szL 23 q) (fun q => slL 26 (sumTo (lenAt asT) 23) q) (fun i q S h => HL Z "DeltaCausalMap" fsT asT 23 gtT true false 0 (fun _ => 0) i q S h ∧ q ≤ 2 * 1) [0, 0, 0, 0, 0, 0, 0, 0, 0, 0, 0, 0, 0, 0, 0, 0, 0, 0, 0] 3 2 (234, 2, l_law_234_P (l_law_234 N)) :=
  blk_of_den (jl := [(242, 2, l_law_242_P (l_law_242 N))]) (lst := l_law_c) (l_law_hop l hw hi N) (Or.inr (Or.inr (Or.inr ⟨rfl, rfl⟩))) rfl (by decide) (by decide) l_law_cOk (fc (l_law_242_ok l hw hi N) fn) (fun L st S r ok h => by unfold l_law_234_P at h; split at h; exact h; cases h)
set_option maxRecDepth 65536 in
set_option maxHeartbeats 4000000 in
theorem l_law_207_ok (l : Launch) {Z : State} {a0 : Array Value} (hw : ∀ d ∈ tables_1, d.before a0 Z = true) (hi : (Jvm.Cond.initialized "DeltaCausalMapL2").before a0 Z = true) (N : Nat) : Blk l Z "DeltaCausalMapL2" code maxLocals ret false room_1 (AL 1 23) nL zL (fun q => szL 23 q) (fun q => slL 26 (sumTo (lenAt asT) 23) q) (fun i q S h => HL Z "DeltaCausalMap" fsT asT 23 gtT true false 0 (fun _ => 0) i q S h ∧ q ≤ 2 * 1) [0, 0, 0, 0, 0, 0, 0, 0, 0, 0, 0, 0, 0, 0, 0, 0, 0, 0, 0] 3 2 (207, 2, l_law_207_P (l_law_207 N)) :=
  blk_of_den (jl := [(234, 2, l_law_234_P (l_law_234 N))]) (lst := l_law_c) (l_law_hop l hw hi N) (Or.inr (Or.inr (Or.inr ⟨rfl, rfl⟩))) rfl (by decide) (by decide) l_law_cOk (fc (l_law_234_ok l hw hi N) fn) (fun L st S r ok h => by unfold l_law_207_P at h; split at h; exact h; cases h)
set_option maxRecDepth 65536 in
set_option maxHeartbeats 4000000 in
theorem l_law_199_ok (l : Launch) {Z : State} {a0 : Array Value} (hw : ∀ d ∈ tables_1, d.before a0 Z = true) (hi : (Jvm.Cond.initialized "DeltaCausalMapL2").before a0 Z = true) (N : Nat) : Blk l Z "DeltaCausalMapL2" code maxLocals ret false room_1 (AL 1 23) nL zL (fun q => szL 23 q) (fun q => slL 26 (sumTo (lenAt asT) 23) q) (fun i q S h => HL Z "DeltaCausalMap" fsT asT 23 gtT true false 0 (fun _ => 0) i q S h ∧ q ≤ 2 * 1) [0, 0, 0, 0, 0, 0, 0, 0, 0, 0, 0, 0, 0, 0, 0, 0, 0, 0, 0] 3 2 (199, 2, l_law_199_P (l_law_199 N)) :=
  blk_of_den (jl := [(207, 2, l_law_207_P (l_law_207 N))]) (lst := l_law_c) (l_law_hop l hw hi N) (Or.inr (Or.inr (Or.inr ⟨rfl, rfl⟩))) rfl (by decide) (by decide) l_law_cOk (fc (l_law_207_ok l hw hi N) fn) (fun L st S r ok h => by unfold l_law_199_P at h; split at h; exact h; cases h)
set_option maxRecDepth 65536 in
set_option maxHeartbeats 4000000 in
theorem l_law_132_ok (l : Launch) {Z : State} {a0 : Array Value} (hw : ∀ d ∈ tables_1, d.before a0 Z = true) (hi : (Jvm.Cond.initialized "DeltaCausalMapL2").before a0 Z = true) (N : Nat) : Blk l Z "DeltaCausalMapL2" code maxLocals ret false room_1 (AL 1 23) nL zL (fun q => szL 23 q) (fun q => slL 26 (sumTo (lenAt asT) 23) q) (fun i q S h => HL Z "DeltaCausalMap" fsT asT 23 gtT true false 0 (fun _ => 0) i q S h ∧ q ≤ 2 * 1) [0, 0, 0, 0, 0, 0, 0, 0, 0, 0, 0, 0, 0, 0, 0, 0, 0, 0, 0] 3 2 (132, 2, l_law_132_P (l_law_132 N)) :=
  blk_of_den (jl := [(199, 2, l_law_199_P (l_law_199 N))]) (lst := l_law_c) (l_law_hop l hw hi N) (Or.inr (Or.inr (Or.inr ⟨rfl, rfl⟩))) rfl (by decide) (by decide) l_law_cOk (fc (l_law_199_ok l hw hi N) fn) (fun L st S r ok h => by unfold l_law_132_P at h; split at h; exact h; cases h)
set_option maxRecDepth 65536 in
set_option maxHeartbeats 4000000 in
theorem l_law_131_ok (l : Launch) {Z : State} {a0 : Array Value} (hw : ∀ d ∈ tables_1, d.before a0 Z = true) (hi : (Jvm.Cond.initialized "DeltaCausalMapL2").before a0 Z = true) (N : Nat) : Blk l Z "DeltaCausalMapL2" code maxLocals ret false room_1 (AL 1 23) nL zL (fun q => szL 23 q) (fun q => slL 26 (sumTo (lenAt asT) 23) q) (fun i q S h => HL Z "DeltaCausalMap" fsT asT 23 gtT true false 0 (fun _ => 0) i q S h ∧ q ≤ 2 * 1) [0, 0, 0, 0, 0, 0, 0, 0, 0, 0, 0, 0, 0, 0, 0, 0, 0, 0, 0] 3 2 (131, 2, l_law_131_P (l_law_131 N)) :=
  blk_of_den (jl := [(132, 2, l_law_132_P (l_law_132 N))]) (lst := l_law_c) (l_law_hop l hw hi N) (Or.inr (Or.inr (Or.inr ⟨rfl, rfl⟩))) rfl (by decide) (by decide) l_law_cOk (fc (l_law_132_ok l hw hi N) fn) (fun L st S r ok h => by unfold l_law_131_P at h; split at h; exact h; cases h)
set_option maxRecDepth 65536 in
set_option maxHeartbeats 4000000 in
theorem l_law_110_ok (l : Launch) {Z : State} {a0 : Array Value} (hw : ∀ d ∈ tables_1, d.before a0 Z = true) (hi : (Jvm.Cond.initialized "DeltaCausalMapL2").before a0 Z = true) (N : Nat) : Blk l Z "DeltaCausalMapL2" code maxLocals ret false room_1 (AL 1 23) nL zL (fun q => szL 23 q) (fun q => slL 26 (sumTo (lenAt asT) 23) q) (fun i q S h => HL Z "DeltaCausalMap" fsT asT 23 gtT true false 0 (fun _ => 0) i q S h ∧ q ≤ 2 * 1) [0, 0, 0, 0, 0, 0, 0, 0, 0, 0, 0, 0, 0, 0, 0, 0, 0, 0, 0] 3 2 (110, 2, l_law_110_P (l_law_110 N)) :=
  blk_of_den (jl := [(131, 2, l_law_131_P (l_law_131 N)), (132, 2, l_law_132_P (l_law_132 N))]) (lst := l_law_c) (l_law_hop l hw hi N) (Or.inr (Or.inr (Or.inr ⟨rfl, rfl⟩))) rfl (by decide) (by decide) l_law_cOk (fc (l_law_131_ok l hw hi N) (fc (l_law_132_ok l hw hi N) fn)) (fun L st S r ok h => by unfold l_law_110_P at h; split at h; exact h; cases h)
set_option maxRecDepth 65536 in
set_option maxHeartbeats 4000000 in
theorem l_law_109_ok (l : Launch) {Z : State} {a0 : Array Value} (hw : ∀ d ∈ tables_1, d.before a0 Z = true) (hi : (Jvm.Cond.initialized "DeltaCausalMapL2").before a0 Z = true) (N : Nat) : Blk l Z "DeltaCausalMapL2" code maxLocals ret false room_1 (AL 1 23) nL zL (fun q => szL 23 q) (fun q => slL 26 (sumTo (lenAt asT) 23) q) (fun i q S h => HL Z "DeltaCausalMap" fsT asT 23 gtT true false 0 (fun _ => 0) i q S h ∧ q ≤ 2 * 1) [0, 0, 0, 0, 0, 0, 0, 0, 0, 0, 0, 0, 0, 0, 0, 0, 0, 0, 0] 3 2 (109, 2, l_law_109_P (l_law_109 N)) :=
  blk_of_den (jl := [(110, 2, l_law_110_P (l_law_110 N))]) (lst := l_law_c) (l_law_hop l hw hi N) (Or.inr (Or.inr (Or.inr ⟨rfl, rfl⟩))) rfl (by decide) (by decide) l_law_cOk (fc (l_law_110_ok l hw hi N) fn) (fun L st S r ok h => by unfold l_law_109_P at h; split at h; exact h; cases h)
set_option maxRecDepth 65536 in
set_option maxHeartbeats 4000000 in
theorem l_law_89_ok (l : Launch) {Z : State} {a0 : Array Value} (hw : ∀ d ∈ tables_1, d.before a0 Z = true) (hi : (Jvm.Cond.initialized "DeltaCausalMapL2").before a0 Z = true) (N : Nat) : Blk l Z "DeltaCausalMapL2" code maxLocals ret false room_1 (AL 1 23) nL zL (fun q => szL 23 q) (fun q => slL 26 (sumTo (lenAt asT) 23) q) (fun i q S h => HL Z "DeltaCausalMap" fsT asT 23 gtT true false 0 (fun _ => 0) i q S h ∧ q ≤ 2 * 1) [0, 0, 0, 0, 0, 0, 0, 0, 0, 0, 0, 0, 0, 0, 0, 0, 0, 0, 0] 3 2 (89, 2, l_law_89_P (l_law_89 N)) :=
  blk_of_den (jl := [(109, 2, l_law_109_P (l_law_109 N)), (110, 2, l_law_110_P (l_law_110 N))]) (lst := l_law_c) (l_law_hop l hw hi N) (Or.inr (Or.inr (Or.inr ⟨rfl, rfl⟩))) rfl (by decide) (by decide) l_law_cOk (fc (l_law_109_ok l hw hi N) (fc (l_law_110_ok l hw hi N) fn)) (fun L st S r ok h => by unfold l_law_89_P at h; split at h; exact h; cases h)
set_option maxRecDepth 65536 in
set_option maxHeartbeats 4000000 in
theorem l_law_88_ok (l : Launch) {Z : State} {a0 : Array Value} (hw : ∀ d ∈ tables_1, d.before a0 Z = true) (hi : (Jvm.Cond.initialized "DeltaCausalMapL2").before a0 Z = true) (N : Nat) : Blk l Z "DeltaCausalMapL2" code maxLocals ret false room_1 (AL 1 23) nL zL (fun q => szL 23 q) (fun q => slL 26 (sumTo (lenAt asT) 23) q) (fun i q S h => HL Z "DeltaCausalMap" fsT asT 23 gtT true false 0 (fun _ => 0) i q S h ∧ q ≤ 2 * 1) [0, 0, 0, 0, 0, 0, 0, 0, 0, 0, 0, 0, 0, 0, 0, 0, 0, 0, 0] 3 2 (88, 2, l_law_88_P (l_law_88 N)) :=
  blk_of_den (jl := [(89, 2, l_law_89_P (l_law_89 N))]) (lst := l_law_c) (l_law_hop l hw hi N) (Or.inr (Or.inr (Or.inr ⟨rfl, rfl⟩))) rfl (by decide) (by decide) l_law_cOk (fc (l_law_89_ok l hw hi N) fn) (fun L st S r ok h => by unfold l_law_88_P at h; split at h; exact h; cases h)
set_option maxRecDepth 65536 in
set_option maxHeartbeats 4000000 in
theorem l_law_72_ok (l : Launch) {Z : State} {a0 : Array Value} (hw : ∀ d ∈ tables_1, d.before a0 Z = true) (hi : (Jvm.Cond.initialized "DeltaCausalMapL2").before a0 Z = true) (N : Nat) : Blk l Z "DeltaCausalMapL2" code maxLocals ret false room_1 (AL 1 23) nL zL (fun q => szL 23 q) (fun q => slL 26 (sumTo (lenAt asT) 23) q) (fun i q S h => HL Z "DeltaCausalMap" fsT asT 23 gtT true false 0 (fun _ => 0) i q S h ∧ q ≤ 2 * 1) [0, 0, 0, 0, 0, 0, 0, 0, 0, 0, 0, 0, 0, 0, 0, 0, 0, 0, 0] 3 2 (72, 2, l_law_72_P (l_law_72 N)) :=
  blk_of_den (jl := [(88, 2, l_law_88_P (l_law_88 N)), (89, 2, l_law_89_P (l_law_89 N))]) (lst := l_law_c) (l_law_hop l hw hi N) (Or.inr (Or.inr (Or.inr ⟨rfl, rfl⟩))) rfl (by decide) (by decide) l_law_cOk (fc (l_law_88_ok l hw hi N) (fc (l_law_89_ok l hw hi N) fn)) (fun L st S r ok h => by unfold l_law_72_P at h; split at h; exact h; cases h)
set_option maxRecDepth 65536 in
set_option maxHeartbeats 4000000 in
theorem l_law_71_ok (l : Launch) {Z : State} {a0 : Array Value} (hw : ∀ d ∈ tables_1, d.before a0 Z = true) (hi : (Jvm.Cond.initialized "DeltaCausalMapL2").before a0 Z = true) (N : Nat) : Blk l Z "DeltaCausalMapL2" code maxLocals ret false room_1 (AL 1 23) nL zL (fun q => szL 23 q) (fun q => slL 26 (sumTo (lenAt asT) 23) q) (fun i q S h => HL Z "DeltaCausalMap" fsT asT 23 gtT true false 0 (fun _ => 0) i q S h ∧ q ≤ 2 * 1) [0, 0, 0, 0, 0, 0, 0, 0, 0, 0, 0, 0, 0, 0, 0, 0, 0, 0, 0] 3 2 (71, 2, l_law_71_P (l_law_71 N)) :=
  blk_of_den (jl := [(72, 2, l_law_72_P (l_law_72 N))]) (lst := l_law_c) (l_law_hop l hw hi N) (Or.inr (Or.inr (Or.inr ⟨rfl, rfl⟩))) rfl (by decide) (by decide) l_law_cOk (fc (l_law_72_ok l hw hi N) fn) (fun L st S r ok h => by unfold l_law_71_P at h; split at h; exact h; cases h)
set_option maxRecDepth 65536 in
set_option maxHeartbeats 4000000 in
theorem l_law_56_ok (l : Launch) {Z : State} {a0 : Array Value} (hw : ∀ d ∈ tables_1, d.before a0 Z = true) (hi : (Jvm.Cond.initialized "DeltaCausalMapL2").before a0 Z = true) (N : Nat) : Blk l Z "DeltaCausalMapL2" code maxLocals ret false room_1 (AL 1 23) nL zL (fun q => szL 23 q) (fun q => slL 26 (sumTo (lenAt asT) 23) q) (fun i q S h => HL Z "DeltaCausalMap" fsT asT 23 gtT true false 0 (fun _ => 0) i q S h ∧ q ≤ 2 * 1) [0, 0, 0, 0, 0, 0, 0, 0, 0, 0, 0, 0, 0, 0, 0, 0, 0, 0, 0] 3 2 (56, 2, l_law_56_P (l_law_56 N)) :=
  blk_of_den (jl := [(71, 2, l_law_71_P (l_law_71 N)), (72, 2, l_law_72_P (l_law_72 N))]) (lst := l_law_c) (l_law_hop l hw hi N) (Or.inr (Or.inr (Or.inr ⟨rfl, rfl⟩))) rfl (by decide) (by decide) l_law_cOk (fc (l_law_71_ok l hw hi N) (fc (l_law_72_ok l hw hi N) fn)) (fun L st S r ok h => by unfold l_law_56_P at h; split at h; exact h; cases h)
set_option maxRecDepth 65536 in
set_option maxHeartbeats 4000000 in
theorem l_law_33_ok (l : Launch) {Z : State} {a0 : Array Value} (hw : ∀ d ∈ tables_1, d.before a0 Z = true) (hi : (Jvm.Cond.initialized "DeltaCausalMapL2").before a0 Z = true) (N : Nat) : Blk l Z "DeltaCausalMapL2" code maxLocals ret false room_1 (AL 1 23) nL zL (fun q => szL 23 q) (fun q => slL 26 (sumTo (lenAt asT) 23) q) (fun i q S h => HL Z "DeltaCausalMap" fsT asT 23 gtT true false 0 (fun _ => 0) i q S h ∧ q ≤ 2 * 1) [0, 0, 0, 0, 0, 0, 0, 0, 0, 0, 0, 0, 0, 0, 0, 0, 0, 0, 0] 3 2 (33, 2, l_law_33_P (l_law_33 N)) :=
  blk_of_den (jl := [(56, 2, l_law_56_P (l_law_56 N))]) (lst := l_law_c) (l_law_hop l hw hi N) (Or.inr (Or.inr (Or.inr ⟨rfl, rfl⟩))) rfl (by decide) (by decide) l_law_cOk (fc (l_law_56_ok l hw hi N) fn) (fun L st S r ok h => by unfold l_law_33_P at h; split at h; exact h; cases h)
set_option maxRecDepth 65536 in
set_option maxHeartbeats 4000000 in
theorem l_law_0_ok (l : Launch) {Z : State} {a0 : Array Value} (hw : ∀ d ∈ tables_1, d.before a0 Z = true) (hi : (Jvm.Cond.initialized "DeltaCausalMapL2").before a0 Z = true) (N : Nat) : Blk l Z "DeltaCausalMapL2" code maxLocals ret false room_1 (AL 1 23) nL zL (fun q => szL 23 q) (fun q => slL 26 (sumTo (lenAt asT) 23) q) (fun i q S h => HL Z "DeltaCausalMap" fsT asT 23 gtT true false 0 (fun _ => 0) i q S h ∧ q ≤ 2 * 1) [0, 0, 0, 0, 0, 0, 0, 0, 0, 0, 0, 0, 0, 0, 0, 0, 0, 0, 0] 3 2 (0, 0, l_law_0_P (l_law N)) :=
  blk_of_den (jl := [(33, 2, l_law_33_P (l_law_33 N))]) (lst := l_law_c) (l_law_hop l hw hi N) (Or.inr (Or.inr (Or.inr ⟨rfl, rfl⟩))) rfl (by decide) (by decide) l_law_cOk (fc (l_law_33_ok l hw hi N) fn) (fun L st S r ok h => by unfold l_law_0_P at h; split at h; exact h; cases h)
set_option maxRecDepth 65536 in
set_option maxHeartbeats 40000000 in
theorem comes_1 (own : ∀ x0 x1 x2 x3 x4 : Int, R32 x0 → R32 x1 → R32 x2 → R32 x3 → R32 x4 → ∃ N S', l_law N x0 x1 x2 x3 x4 zS = some (1, S')) {Post : Tables → Env → Array Value → State → Outcome → State → Prop} (hpost : ∀ tb e args s v u, (limb_1_1.after args s (.returned v) u = true ∧ limb_1_2.after args s (.returned v) u = true ∧ True) → FrameEnd s (.returned v) u (Jvm.fieldLocs frame_1_writes args s ++ Jvm.arrayLocs frame_1_arrays args s ++ Jvm.staticLocs frame_1_statics s) 56 1408 → Post tb e args s (.returned v) u) :
    ArmFor flags0 classFile x code maxLocals ret World_1 tables_1 room_1 Calls_1 rest_1 Pre_1 Post := by
  intro l hfl _ _ p e ha hc hk s m args below hf hA hF happ hP
  obtain ⟨hcalls, hrest, hpre⟩ := hP
  obtain ⟨-, -, -, hnamed, -, hripe, -, hat⟩ := (Spec.applies_iff hf).mp happ
  have hi : (Jvm.Cond.initialized "DeltaCausalMapL2").before args s = true := init_own hnamed hripe
  obtain ⟨hg, hn⟩ := and_e (Cond.before_iff.mp (show (Jvm.Cond.and given_1 narrow_1).before args s = true from hpre))
  obtain ⟨g0, g1⟩ := and_e hg
  obtain ⟨h0, g2⟩ := and_e g1
  obtain ⟨h1, g3⟩ := and_e g2
  obtain ⟨h2, g4⟩ := and_e g3
  obtain ⟨h3, g5⟩ := and_e g4
  obtain ⟨w0, w1, w2, w3, w4, rfl⟩ : ∃ w0 w1 w2 w3 w4 : Value, args = #[w0, w1, w2, w3, w4] := by
    have hs : args.size = 5 := by simpa [Cond.value, given_1] using g0
    obtain ⟨L⟩ := args
    match L, hs with
    | [w0, w1, w2, w3, w4], _ => exact ⟨w0, w1, w2, w3, w4, rfl⟩
  have hw := fun d (hd : d ∈ tables_1) => atoms_spec (ws := Jvm.Cond.code x code maxLocals ret :: tables_1) hat d (List.mem_cons_of_mem _ hd)
  have hfit : Fit s := fun {y c} hc i hi => by
    obtain ⟨ha, rfl⟩ := Array.getElem?_eq_some_iff.mp hc
    have q := List.all_eq_true.mp ((Array.all_eq_true_iff_forall_mem.mp hF) _ (Array.getElem_mem ha)) i (List.mem_range.mpr hi)
    simpa [Array.getElem?_eq_getElem hi] using q
  obtain ⟨i0, e0⟩ := is_v h0
  obtain rfl : w0 = (.int i0) := Option.some.inj e0
  obtain ⟨i1, e1⟩ := is_v h1
  obtain rfl : w1 = (.int i1) := Option.some.inj e1
  obtain ⟨i2, e2⟩ := is_v h2
  obtain rfl : w2 = (.int i2) := Option.some.inj e2
  obtain ⟨i3, e3⟩ := is_v h3
  obtain rfl : w3 = (.int i3) := Option.some.inj e3
  obtain ⟨i4, e4⟩ := is_v g5
  obtain rfl : w4 = (.int i4) := Option.some.inj e4
  obtain ⟨N, S', hlaw⟩ := own i0.toInt i1.toInt i2.toInt i3.toInt i4.toInt (ri32 i0) (ri32 i1) (ri32 i2) (ri32 i3) (ri32 i4)
  have hM := met_of_blk (ws := tables_1) (y := x) (l_law_0_ok l hw hi N) pnL rfl (fun hh => nomatch hh) rfl rfl (i := (s.heap.size, s.heap.size, s.heap, 0)) (as := [vI i0.toInt, vI i1.toInt, vI i2.toInt, vI i3.toInt, vI i4.toInt]) (S := zS) (r := (1, S')) (h0 := s.heap) hlaw (okL_entry rfl ⟨ri32 i0, ri32 i1, ri32 i2, ri32 i3, ri32 i4, trivial⟩ rfl)
    ⟨⟨fun _ _ => rfl, rfl, by simp [szL], (fun j hj => by omega), (fun j hj => by omega), (fun h => nomatch h), (fun _ => rfl)⟩, by decide⟩ rfl
  obtain ⟨n, o, h1, h2, h3, _, L, rfl, ⟨⟨rfl, -⟩, N', -⟩, hq⟩ := hM p e ha hc hk s m _ below hf ((Spec.applies_iff_loose hf).mp happ).1 ⟨by simp [conc, Int32.ofInt_toInt], State.Warmed39.refl s, rfl⟩ trivial
  refine ⟨n, _, h1, h2, h3, hpost _ _ _ _ _ _ ⟨Cond.after_iff.mpr rfl, Cond.after_iff.mpr (eq_i res_at (Term.int_eval (1)) rfl), trivial⟩ ⟨hq.1, hq.2.1, (hq.2.2.sift fun y hy => Or.inr (N' y hy)).mono (by decide) (by decide)⟩⟩
/-! # numbers -/
theorem own_w {x : Int} (h1 : -2147483648 ≤ x) (h2 : x < 2147483648) : w32 x = x := w32_id ⟨h1, h2⟩
theorem own_toNat (x : Int) : (Int32.ofInt x).toBitVec.toNat = (x % 4294967296).toNat := by
  rw [Int32.toBitVec_ofInt, BitVec.toNat_ofInt]; rfl
theorem own_nn {a : Int32} {n : Nat} (h : a.toBitVec.toNat = n) (h2 : n < 2147483648) : a.toInt = (n : Int) := by
  have e : a.toInt = a.toBitVec.toInt := rfl
  rw [e, BitVec.toInt_eq_toNat_cond, h]
  split <;> omega
theorem own_msk {m : Int} (k : Nat) (hm : (Int32.ofInt m).toBitVec.toNat = 2 ^ k - 1) (hk : 2 ^ k ≤ 2147483648) (x : Int) : iand x m = (((x % 4294967296).toNat % 2 ^ k : Nat) : Int) := by
  refine own_nn ?_ (Nat.lt_of_lt_of_le (Nat.mod_lt _ (Nat.two_pow_pos k)) hk)
  rw [Int32.toBitVec_and, BitVec.toNat_and, own_toNat, hm, Nat.and_two_pow_sub_one_eq_mod]
theorem own_i1 (x : Int) : iand x 1 = x % 2 := by rw [own_msk 1 (by decide) (by decide) x]; omega
theorem own_i3 (x : Int) : iand x 3 = x % 4 := by rw [own_msk 2 (by decide) (by decide) x]; omega
theorem own_i7 (x : Int) : iand x 7 = x % 8 := by rw [own_msk 3 (by decide) (by decide) x]; omega
theorem own_i15 (x : Int) : iand x 15 = x % 16 := by rw [own_msk 4 (by decide) (by decide) x]; omega
theorem own_i31 (x : Int) : iand x 31 = x % 32 := by rw [own_msk 5 (by decide) (by decide) x]; omega
theorem own_i255 (x : Int) : iand x 255 = x % 256 := by rw [own_msk 8 (by decide) (by decide) x]; omega
theorem own_lcmp0 {x y : Int} : lcmp x y = 0 ↔ x = y := by
  unfold lcmp
  constructor
  · intro h
    by_cases h1 : y < x
    · rw [if_pos h1] at h; omega
    · rw [if_neg h1] at h
      by_cases h2 : x = y
      · exact h2
      · rw [if_neg h2] at h; omega
  · intro h
    rw [if_neg (by omega), if_pos h]
theorem stw_s (S : St) (h : Nat) (i v : Int) : stw S h i v h i = v := by unfold stw; rw [if_pos ⟨rfl, rfl⟩]
theorem stw_h (S : St) {h h' : Nat} (i v j : Int) (n : h' ≠ h) : stw S h i v h' j = S h' j := by unfold stw; rw [if_neg (fun q => n q.1)]
theorem stw_H (S : St) {h h' : Nat} (i v : Int) (n : h' ≠ h) : stw S h i v h' = S h' := funext fun j => stw_h S i v j n
theorem stw_i (S : St) (h : Nat) {i j : Int} (v : Int) (n : j ≠ i) : stw S h i v h j = S h j := by unfold stw; rw [if_neg (fun q => n q.2)]
theorem stw_e (S : St) (h : Nat) (i v j : Int) : stw S h i v h j = if j = i then v else S h j := by
  by_cases q : j = i
  · rw [if_pos q, q, stw_s]
  · rw [if_neg q, stw_i S h v q]
/-! # closed facts on longs -/
def xr (r : Nat) : Int := lor 0 (lshl 1 ((16 * r : Nat) : Int))
theorem bb_T : ∀ r : Fin 4, ∀ c : Fin 2, ∀ d : Fin 64, decide (lcmp (land (lushr (lshl 1 ((16 * r.val + c.val : Nat) : Int)) (d.val : Int)) 1) 0 = 0) = decide (d.val ≠ 16 * r.val + c.val) := by decide +kernel
theorem own_hb {r c : Nat} (hr : r < 4) (hc : c < 2) (d : Nat) (hd : d < 64) : (lcmp (land (lushr (lshl 1 ((16 * r + c : Nat) : Int)) (d : Int)) 1) 0 = 0 ↔ d ≠ 16 * r + c) :=
  decide_eq_decide.mp (bb_T ⟨r, hr⟩ ⟨c, hc⟩ ⟨d, hd⟩)
theorem b0_T : ∀ d : Fin 64, lcmp (land (lushr 0 (d.val : Int)) 1) 0 = 0 := by decide +kernel
theorem x_T : ∀ r : Fin 4, xr r.val ≠ 0 ∧ ¬ lcmp (land (lushr (xr r.val) ((16 * r.val : Nat) : Int)) 1) 0 = 0 ∧ land (xr r.val) (lxor (lor 0 (lor (xr r.val) 0)) (-1)) = 0 ∧ land 0 (lxor (lor 0 (lor (xr r.val) 0)) (-1)) = 0 ∧ ¬ lcmp (lor 0 (lor (xr r.val) 0)) 0 = 0 := by decide +kernel
theorem mkr_T : ∀ r : Fin 4, (∀ c : Fin 2, iand (iushr ((16 * r.val + c.val : Nat) : Int) 4) 3 = (r.val : Int)) ∧ ishl (r.val : Int) 4 = ((16 * r.val : Nat) : Int) := by decide +kernel
theorem hk_T : ∀ k : Fin 8, ¬ iand (iushr (ior 0 (ishl 1 (k.val : Int))) (k.val : Int)) 1 = 0 ∧ iand (iushr 0 (k.val : Int)) 1 = 0 := by decide +kernel
theorem lor00 : lor 0 0 = 0 := by decide +kernel
theorem lc0 : lcmp 0 0 = 0 := by decide
/-! # the parts -/
def vsK (g : Int → Int) (reg w : Int) : Nat → Int → Int
  | 0, _ => 0
  | n + 1, c => if lcmp (land (lushr reg (16 * w + c)) 1) 0 = 0 then vsK g reg w n (c + 1) else g (16 * w + c)
theorem own_vs3 (N : Nat) (reg : Int) {w : Nat} (hw : w < 4) (S : St) : ∀ (n f : Nat) (c : Int), n < f → 0 ≤ c → c + n = 16 → m_valueInSegment_3 N f reg (w : Int) c S = some (vsK (S 3) reg (w : Int) n c, S)
  | _, 0, _, h, _, _ => absurd h (Nat.not_lt_zero _)
  | 0, f + 1, c, _, h0, h1 => by rw [m_valueInSegment_3, if_neg (by omega)]; rfl
  | n + 1, f + 1, c, h, h0, h1 => by
    have e := (mkr_T ⟨w, hw⟩).2
    have e : ishl (w : Int) 4 = ((16 * w : Nat) : Int) := e
    rw [m_valueInSegment_3, if_pos (by omega), vsK, e, own_w (x := ((16 * w : Nat) : Int) + c) (by omega) (by omega), show ((16 * w : Nat) : Int) + c = 16 * (w : Int) + c by omega]
    by_cases q : lcmp (land (lushr reg (16 * (w : Int) + c)) 1) 0 = 0
    · rw [if_pos q, if_pos q, own_w (by omega) (by omega)]
      exact own_vs3 N reg hw S n f (c + 1) (by omega) (by omega) (by omega)
    · rw [if_neg q, if_neg q]
      unfold m_valueInSegment_29
      rw [if_pos (by omega)]
def vs (g : Int → Int) (reg w : Int) : Int := vsK g reg w 16 0
theorem own_vs {N : Nat} (hN : 5000 ≤ N) (reg : Int) {w : Nat} (hw : w < 4) (S : St) : m_valueInSegment N reg (w : Int) S = some (vs (S 3) reg (w : Int), S) := own_vs3 N reg hw S 16 N 0 (by omega) (by omega) (by omega)
theorem vsK_0 (g : Int → Int) {w : Nat} (hw : w < 4) : ∀ (n : Nat) (c : Int), 0 ≤ c → c + n ≤ 16 → vsK g 0 (w : Int) n c = 0
  | 0, _, _, _ => rfl
  | n + 1, c, h0, h1 => by
    obtain ⟨d, rfl⟩ := Int.eq_ofNat_of_zero_le h0
    have b := b0_T ⟨16 * w + d, by omega⟩
    have b : lcmp (land (lushr 0 ((16 * w + d : Nat) : Int)) 1) 0 = 0 := b
    rw [vsK, show 16 * (w : Int) + (d : Int) = ((16 * w + d : Nat) : Int) by omega, if_pos b]
    exact vsK_0 g hw n _ (by omega) (by omega)
theorem vs_x (g : Int → Int) {r : Nat} (hr : r < 4) : vs g (xr r) (r : Int) = g (16 * (r : Int)) := by
  have b := (x_T ⟨r, hr⟩).2.1
  have b : ¬ lcmp (land (lushr (xr r) ((16 * r : Nat) : Int)) 1) 0 = 0 := b
  unfold vs
  rw [vsK, Int.add_zero, show 16 * (r : Int) = ((16 * r : Nat) : Int) by omega, if_neg b]
theorem own_rr3 {N : Nat} (hN : 5000 ≤ N) {r : Int} (r0 : 0 ≤ r) (r1 : r < 4) {k : Int} (k0 : 0 ≤ k) (k1 : k < 8) (reg : Int) : ∀ (n f w : Nat) (S : St), n < f → w + n = 4 → ∃ S', m_refreshRegister_3 N f r k reg (w : Int) S = some (0, S') ∧ (∀ h, h ≠ 9 → S' h = S h) ∧ ∀ i, S' 9 i = if 32 * r + 4 * k + w ≤ i ∧ i < 32 * r + 4 * k + 4 then vs (S 3) reg (i - 32 * r - 4 * k) else S 9 i
  | _, 0, _, _, h, _ => absurd h (Nat.not_lt_zero _)
  | 0, f + 1, w, S, _, h1 => by
    rw [m_refreshRegister_3, if_neg (by omega)]
    exact ⟨S, rfl, fun _ _ => rfl, fun i => by rw [if_neg (by omega)]⟩
  | n + 1, f + 1, w, S, h, h1 => by
    rw [m_refreshRegister_3, if_pos (by omega), own_vs hN reg (by omega), Option.bind_some, own_w (x := r * 32) (by omega) (by omega), own_w (x := k * 4) (by omega) (by omega), own_w (x := r * 32 + k * 4) (by omega) (by omega), own_w (x := r * 32 + k * 4 + w) (by omega) (by omega), own_w (x := (w : Int) + 1) (by omega) (by omega), show (w : Int) + 1 = ((w + 1 : Nat) : Int) by omega]
    dsimp only
    rw [if_pos (by omega)]
    obtain ⟨S', e, a, b⟩ := own_rr3 hN r0 r1 k0 k1 reg n f (w + 1) (stw S 9 (r * 32 + k * 4 + w) (vs (S 3) reg (w : Int))) (by omega) (by omega)
    refine ⟨S', e, fun h hh => by rw [a h hh, stw_H _ _ _ hh], fun i => ?_⟩
    rw [b i, stw_e, stw_H _ _ _ (by decide)]
    by_cases c : 32 * r + 4 * k + ((w + 1 : Nat) : Int) ≤ i ∧ i < 32 * r + 4 * k + 4
    · rw [if_pos c, if_pos (by omega)]
    · rw [if_neg c]
      by_cases c2 : i = r * 32 + k * 4 + w
      · rw [if_pos c2, if_pos (by omega), show i - 32 * r - 4 * k = (w : Int) by omega]
      · rw [if_neg c2, if_neg (by omega)]
theorem own_rv7 {N : Nat} (hN : 5000 ≤ N) {r : Nat} (hr : r < 4) {key : Nat} (hk : key < 8) {X : Int} (hX : X = 0 ∨ X = xr r) : ∀ (n f k : Nat) (pr : Int) (S : St), n < f → (k : Int) + n = S 0 23 → S 0 23 ≤ 8 → (key : Int) < S 0 23 →
    (∀ j : Nat, j < 8 → S 8 (8 * (r : Int) + j) = 0 ∧ S 7 (8 * (r : Int) + j) = if j = key then X else 0) → (k ≤ key → pr = 0) →
    ∃ S', m_refreshView_7 N f (r : Int) 0 pr (k : Int) S = some (0, S') ∧ (∀ h, h ≠ 9 → h ≠ 10 → h ≠ 11 → S' h = S h) ∧ S' 11 (r : Int) = (if k ≤ key then (if X = 0 then 0 else ior 0 (ishl 1 (key : Int))) else pr) ∧ S' 9 (32 * (r : Int) + 4 * key + r) = (if k ≤ key then vs (S 3) X (r : Int) else S 9 (32 * (r : Int) + 4 * key + r))
  | _, 0, _, _, _, h, _, _, _, _, _ => absurd h (Nat.not_lt_zero _)
  | 0, f + 1, k, pr, S, _, h1, h8, hkc, reg, hp => by
    rw [m_refreshView_7, if_neg (by omega)]
    unfold m_refreshView_94
    rw [if_pos (by omega), if_pos (by omega)]
    refine ⟨_, rfl, fun h a b c => by rw [stw_H _ _ _ c, stw_H _ _ _ b], ?_, ?_⟩
    · rw [stw_s, if_neg (by omega)]
    · rw [stw_h _ _ _ _ (by decide), stw_h _ _ _ _ (by decide), if_neg (by omega)]
  | n + 1, f + 1, k, pr, S, h, h1, h8, hkc, reg, hp => by
    have rg := reg k (by omega)
    rw [m_refreshView_7, if_pos (by omega), own_w (x := (r : Int) * 8) (by omega) (by omega), own_w (x := (r : Int) * 8 + k) (by omega) (by omega), show (r : Int) * 8 + (k : Int) = 8 * (r : Int) + k by omega, if_pos (by omega), if_pos (by omega), rg.1, rg.2, if_pos lc0]
    have e79 : ∀ Y pr', Y = (if k = key then X else 0) → (k + 1 ≤ key → pr' = 0) → (pr' = if k ≤ key then (if k = key then (if X = 0 then 0 else ior 0 (ishl 1 (key : Int))) else 0) else pr) → ∃ S', m_refreshView_79 N (m_refreshView_7 N f) (r : Int) 0 pr' (k : Int) Y S = some (0, S') ∧ (∀ h, h ≠ 9 → h ≠ 10 → h ≠ 11 → S' h = S h) ∧ S' 11 (r : Int) = (if k ≤ key then (if X = 0 then 0 else ior 0 (ishl 1 (key : Int))) else pr) ∧ S' 9 (32 * (r : Int) + 4 * key + r) = (if k ≤ key then vs (S 3) X (r : Int) else S 9 (32 * (r : Int) + 4 * key + r)) := by
      intro Y pr' hY hp0 hp1
      rw [hY]
      obtain ⟨S1, e1, a1, b1⟩ := own_rr3 hN (r := (r : Int)) (by omega) (by omega) (k := (k : Int)) (by omega) (by omega) (if k = key then X else 0) 4 N 0 S (by omega) (by omega)
      have e1 : m_refreshRegister N (r : Int) (k : Int) (if k = key then X else 0) S = some (0, S1) := e1
      have s0 : S1 0 = S 0 := a1 0 (by decide)
      obtain ⟨S', e2, a2, b2, c2⟩ := own_rv7 hN hr hk hX n f (k + 1) pr' S1 (by omega) (by rw [s0]; omega) (by rw [s0]; exact h8) (by rw [s0]; exact hkc) (fun j hj => by rw [a1 8 (by decide), a1 7 (by decide)]; exact reg j hj) hp0
      unfold m_refreshView_79
      rw [e1, Option.bind_some, own_w (by omega) (by omega), show (k : Int) + 1 = ((k + 1 : Nat) : Int) by omega]
      refine ⟨S', e2, fun h x y z => by rw [a2 h x y z, a1 h x], ?_, ?_⟩
      · rw [b2]
        by_cases c : k + 1 ≤ key
        · rw [if_pos c, if_pos (show k ≤ key by omega)]
        · rw [if_neg c, hp1]
          by_cases c3 : k ≤ key
          · rw [if_pos c3, if_pos c3, if_pos (by omega)]
          · rw [if_neg c3, if_neg c3]
      · rw [c2, a1 3 (by decide), b1]
        by_cases c : k + 1 ≤ key
        · rw [if_pos c, if_pos (show k ≤ key by omega)]
        · rw [if_neg c]
          by_cases c3 : k ≤ key
          · have : k = key := by omega
            rw [if_pos c3, if_pos this, if_pos (by omega), show 32 * (r : Int) + 4 * (key : Int) + (r : Int) - 32 * (r : Int) - 4 * (k : Int) = (r : Int) by omega]
          · rw [if_neg c3, if_neg (by omega)]
    unfold m_refreshView_58 m_refreshView_72
    rw [if_pos lc0]
    by_cases ck : k = key
    · rw [if_pos ck]
      have p0 := hp (by omega)
      rcases hX with x0 | x1
      · rw [if_pos (own_lcmp0.mpr x0)]
        refine e79 X pr (by rw [if_pos ck]) (fun _ => by omega) ?_
        rw [if_pos (show k ≤ key by omega), if_pos ck, if_pos x0, p0]
      · have xn : X ≠ 0 := by rw [x1]; exact (x_T ⟨r, hr⟩).1
        rw [if_neg (fun q => xn (own_lcmp0.mp q))]
        refine e79 X _ (by rw [if_pos ck]) (fun _ => by omega) ?_
        rw [if_pos (show k ≤ key by omega), if_pos ck, if_neg xn, p0, ck]
    · rw [if_neg ck, if_pos lc0]
      refine e79 0 pr (by rw [if_neg ck]) (fun q => hp (by omega)) ?_
      by_cases c : k ≤ key
      · rw [if_pos c, if_neg ck, hp c]
      · rw [if_neg c]
theorem own_join6 (N : Nat) {r fresh : Int} {D : Nat} (hD : D < 64) (hb : ∀ d : Nat, d < 64 → (lcmp (land (lushr fresh (d : Int)) 1) 0 = 0 ↔ d ≠ D)) {S S1 : St} (ha : m_addDot N r (D : Int) S = some (0, S1)) : ∀ (n f d : Nat), n < f → d + n = 64 → (D < d → ∀ c, m_join_6 N f r fresh c (d : Int) S1 = m_join_49 N r fresh c S1) ∧ (d ≤ D → ∀ c, m_join_6 N f r fresh c (d : Int) S = m_join_49 N r fresh (lor c (S 4 (D : Int))) S1)
  | _, 0, _, h, _ => absurd h (Nat.not_lt_zero _)
  | 0, f + 1, d, _, h1 => ⟨fun _ c => by rw [m_join_6, if_neg (by omega)], fun q => by omega⟩
  | n + 1, f + 1, d, h, h1 => by
    have ih := own_join6 N hD hb ha n f (d + 1) (by omega) (by omega)
    have b := hb d (by omega)
    have e1 : w32 ((d : Int) + 1) = ((d + 1 : Nat) : Int) := by rw [own_w (by omega) (by omega)]; omega
    refine ⟨fun q c => ?_, fun q c => ?_⟩
    · rw [m_join_6, if_pos (by omega), if_pos (b.mpr (by omega))]
      unfold m_join_43
      rw [e1]; exact ih.1 (by omega) c
    · rw [m_join_6, if_pos (by omega)]
      unfold m_join_43
      rw [e1]
      by_cases e : d = D
      · rw [if_neg (fun z => b.mp z e), if_pos (by omega), e, ha, Option.bind_some]
        dsimp only
        rw [e] at ih
        exact ih.1 (by omega) _
      · rw [if_pos (b.mpr e)]
        exact ih.2 (by omega) c
theorem own_join {N : Nat} (hN : 5000 ≤ N) {r fresh : Int} {D : Nat} (hD : D < 64) (hb : ∀ d : Nat, d < 64 → (lcmp (land (lushr fresh (d : Int)) 1) 0 = 0 ↔ d ≠ D)) {S S1 : St} (ha : m_addDot N r (D : Int) S = some (0, S1)) : m_join N r fresh S = m_join_49 N r fresh (lor 0 (S 4 (D : Int))) S1 :=
  (own_join6 N hD hb ha 64 N 0 (by omega) (by omega)).2 (by omega) 0
theorem own_la {N : Nat} (hN : 5000 ≤ N) {r : Int} (r0 : 0 ≤ r) (r1 : r < 4) {S : St} (hz : ∀ i, S 14 i = 0) : m_leastAck N r S = some (0, S) := by
  have st : ∀ (n f : Nat) (j : Int), n < f → 0 ≤ j → j + n = 4 → m_leastAck_5 N f r 0 j S = some (0, S) := by
    intro n
    induction n with
    | zero =>
      intro f j h h0 h1
      obtain ⟨f, rfl⟩ : ∃ g, f = g + 1 := ⟨f - 1, by omega⟩
      rw [m_leastAck_5, if_neg (by omega)]
    | succ n ih =>
      intro f j h h0 h1
      obtain ⟨f, rfl⟩ : ∃ g, f = g + 1 := ⟨f - 1, by omega⟩
      rw [m_leastAck_5, if_pos (by omega)]
      unfold m_leastAck_40
      rw [own_w (x := j + 1) (by omega) (by omega)]
      by_cases c : j = r
      · rw [if_pos c]; exact ih f (j + 1) (by omega) (by omega) (by omega)
      · rw [if_neg c, own_w (x := r * 4) (by omega) (by omega), own_w (x := r * 4 + j) (by omega) (by omega), if_pos (by omega), hz, if_neg (by decide)]
        exact ih f (j + 1) (by omega) (by omega) (by omega)
  unfold m_leastAck
  obtain ⟨f, rfl⟩ : ∃ g, N = g + 2 := ⟨N - 2, by omega⟩
  rw [m_leastAck_5, if_pos (by decide)]
  unfold m_leastAck_40
  rw [show w32 (0 + 1) = 1 from rfl, own_w (x := r * 4) (by omega) (by omega), own_w (x := r * 4 + 0) (by omega) (by omega), if_pos (show 0 ≤ r * 4 + 0 ∧ r * 4 + 0 < 16 by omega), hz, if_pos (show (0 : Int) < 2147483647 by decide), if_pos (show 0 ≤ r * 4 + 0 ∧ r * 4 + 0 < 16 by omega)]
  by_cases c : (0 : Int) = r
  · rw [if_pos c, m_leastAck_5, if_pos (by decide), if_neg (by omega), own_w (x := r * 4) (by omega) (by omega), own_w (x := r * 4 + 1) (by omega) (by omega), if_pos (by omega), hz, if_pos (by decide), if_pos (by omega)]
    unfold m_leastAck_40
    rw [show w32 (1 + 1) = 2 from rfl]
    exact st 2 f 2 (by omega) (by omega) (by omega)
  · rw [if_neg c]
    exact st 3 (f + 1) 1 (by omega) (by omega) (by omega)
theorem own_trim {N : Nat} (hN : 5000 ≤ N) {r : Int} (r0 : 0 ≤ r) (r1 : r < 4) {S : St} (hz : ∀ i, S 14 i = 0) (h13 : S 13 r = 0) (s0 : 0 ≤ S 12 r) (s1 : S 12 r ≤ 2) (c0 : 1 ≤ S 0 25) (c1 : S 0 25 ≤ 8) : m_trim N r S = some (0, if S 0 25 < S 12 r then stw S 13 r (S 12 r - S 0 25) else S) := by
  have c : 0 ≤ r ∧ r < 4 := ⟨r0, r1⟩
  unfold m_trim m_trim_23
  rw [own_la hN r0 r1 hz, Option.bind_some]
  dsimp only
  simp only [if_pos c]
  rw [h13, if_neg (show ¬ (0 : Int) < 0 by decide), own_w (x := S 12 r - 0) (by omega) (by omega), own_w (x := S 12 r - S 0 25) (by omega) (by omega), show S 12 r - 0 = S 12 r by omega]
  by_cases q : S 0 25 < S 12 r
  · rw [if_pos q, if_pos q]
  · rw [if_neg q, if_neg q]
section Op
variable {N : Nat} {S : St} {r key : Nat}
theorem own_si (N : Nat) (hr : r < 4) (hk : key < 8) (S : St) : m_storeIndex N (r : Int) (key : Int) S = some (8 * (r : Int) + key, S) := by
  unfold m_storeIndex
  rw [own_i3, own_i7, Int.emod_eq_of_lt (show (0 : Int) ≤ (r : Int) by omega) (by omega), Int.emod_eq_of_lt (show (0 : Int) ≤ (key : Int) by omega) (by omega), own_w (x := (r : Int) * 8) (by omega) (by omega), own_w (by omega) (by omega), Int.mul_comm]
/-- the state that the new operation is entered into -/
def opS (S : St) (D kind key val cover : Int) : St := stw (stw (stw (stw S 1 D kind) 2 D key) 3 D val) 4 D cover
def clS (S : St) (r : Int) (c : Int) : St := stw S 6 (5 * r) (c + 1)
def dotS (S : St) (r key : Int) (D kind c : Int) : St := if kind = 1 then stw (clS S r c) 7 (8 * r + key) (lor (S 7 (8 * r + key)) (lshl 1 D)) else clS S r c
theorem own_dot (N : Nat) (hr : r < 4) (hk : key < 8) {D c : Nat} (hD : D < 64) (hm : iand (iushr (D : Int) 4) 3 = (r : Int)) (hc : c ≤ 1) {kind val cover : Int} (hkd : kind = 1 ∨ kind = 4) (h6 : S 6 (5 * (r : Int)) = (c : Int)) : m_addDot N (r : Int) (D : Int) (opS S D kind key val cover) = some (0, dotS (opS S D kind key val cover) r key D kind c) := by
  have e6 : opS S D kind key val cover 6 (5 * (r : Int)) = (c : Int) := by
    unfold opS; rw [stw_h _ _ _ _ (by decide), stw_h _ _ _ _ (by decide), stw_h _ _ _ _ (by decide), stw_h _ _ _ _ (by decide)]; exact h6
  have e1 : opS S D kind key val cover 1 (D : Int) = kind := by
    unfold opS; rw [stw_h _ _ _ _ (by decide), stw_h _ _ _ _ (by decide), stw_h _ _ _ _ (by decide), stw_s]
  have e2 : opS S D kind key val cover 2 (D : Int) = key := by
    unfold opS; rw [stw_h _ _ _ _ (by decide), stw_h _ _ _ _ (by decide), stw_s]
  generalize opS S D kind key val cover = T at *
  have ix : w32 (w32 ((r : Int) * 4) + (r : Int)) = 5 * (r : Int) := by
    rw [own_w (x := (r : Int) * 4) (by omega) (by omega), own_w (by omega) (by omega)]; omega
  have cD : 0 ≤ (D : Int) ∧ (D : Int) < 64 := by omega
  have c5 : 0 ≤ 5 * (r : Int) ∧ 5 * (r : Int) < 16 := by omega
  have c8 : 0 ≤ 8 * (r : Int) + (key : Int) ∧ 8 * (r : Int) + (key : Int) < 32 := by omega
  unfold m_addDot
  rw [hm, ix, e6, own_w (x := (c : Int) + 1) (by omega) (by omega), stw_h (h' := 2) (h := 6) _ _ _ _ (by decide), e2, own_si N hr hk, Option.bind_some]
  simp only [if_pos cD, if_pos c5, if_pos c8]
  rw [stw_h (h' := 1) (h := 6) _ _ _ _ (by decide), e1]
  unfold dotS clS
  rcases hkd with rfl | rfl
  · rw [if_pos rfl, if_pos rfl, stw_h (h' := 7) (h := 6) _ _ _ _ (by decide)]
  · rw [if_neg (by decide), if_neg (by decide), if_neg (by decide)]
theorem own_mk (hN : 5000 ≤ N) (hr : r < 4) (hk : key < 8) {c : Nat} (hc : c ≤ 1) {kind val cover : Int} (hkd : kind = 1 ∨ kind = 4) (h6 : S 6 (5 * (r : Int)) = (c : Int)) (hcov : m_coverFor N (r : Int) (key : Int) kind S = some (cover, S)) :
    m_makeOperation N (r : Int) (key : Int) kind val S = ((m_join_49 N (r : Int) (lshl 1 ((16 * r + c : Nat) : Int)) (lor 0 cover) (dotS (opS S ((16 * r + c : Nat) : Int) kind key val cover) r key ((16 * r + c : Nat) : Int) kind c)).bind fun r2 => (m_trim N (r : Int) r2.2).bind fun r3 => some ((c : Int) + 1, r3.2)) := by
  have ix : w32 (w32 ((r : Int) * 4) + (r : Int)) = 5 * (r : Int) := by
    rw [own_w (x := (r : Int) * 4) (by omega) (by omega), own_w (by omega) (by omega)]; omega
  have dd : w32 (w32 (((16 * r : Nat) : Int) + ((c : Int) + 1)) - 1) = ((16 * r + c : Nat) : Int) := by
    rw [own_w (x := ((16 * r : Nat) : Int) + ((c : Int) + 1)) (by omega) (by omega), own_w (by omega) (by omega)]; omega
  have cD : 0 ≤ ((16 * r + c : Nat) : Int) ∧ ((16 * r + c : Nat) : Int) < 64 := by omega
  have c5 : 0 ≤ 5 * (r : Int) ∧ 5 * (r : Int) < 16 := by omega
  have wc : w32 ((c : Int) + 1) = (c : Int) + 1 := own_w (by omega) (by omega)
  have c2 : c < 2 := by omega
  have D64 : 16 * r + c < 64 := by omega
  have e4 : ishl (r : Int) 4 = ((16 * r : Nat) : Int) := (mkr_T ⟨r, hr⟩).2
  have em : iand (iushr ((16 * r + c : Nat) : Int) 4) 3 = (r : Int) := (mkr_T ⟨r, hr⟩).1 ⟨c, c2⟩
  have j := own_join hN (r := (r : Int)) (fresh := lshl 1 ((16 * r + c : Nat) : Int)) (D := 16 * r + c) D64 (own_hb (r := r) (c := c) hr c2) (own_dot N hr hk D64 em hc (val := val) (cover := cover) hkd h6)
  have e44 : opS S ((16 * r + c : Nat) : Int) kind key val cover 4 ((16 * r + c : Nat) : Int) = cover := by unfold opS; rw [stw_s]
  rw [e44] at j
  unfold m_makeOperation
  rw [hcov, Option.bind_some]
  simp only [ix, h6, wc, e4, dd, if_pos cD, if_pos c5]
  unfold opS at j ⊢
  rw [j]
/-- join's second part -/
theorem own_j49 (hN : 5000 ≤ N) (hr : r < 4) (hk : key < 8) {X : Int} (hX : X = 0 ∨ X = xr r) {fresh cover : Int} {S S1 : St} (hp : m_pruneStores N (r : Int) cover S = some (0, S1)) (k8 : S1 0 23 ≤ 8) (kc : (key : Int) < S1 0 23) (q0 : 0 ≤ S1 12 (r : Int)) (q1 : S1 12 (r : Int) ≤ 1)
    (reg : ∀ j : Nat, j < 8 → S1 8 (8 * (r : Int) + j) = 0 ∧ S1 7 (8 * (r : Int) + j) = if j = key then X else 0) :
    ∃ S', m_join_49 N (r : Int) fresh cover S = some (0, S') ∧ (∀ h, h ≠ 5 → h ≠ 9 → h ≠ 10 → h ≠ 11 → h ≠ 12 → h ≠ 16 → S' h = S1 h) ∧ S' 12 (r : Int) = S1 12 (r : Int) + 1 ∧ S' 11 (r : Int) = (if X = 0 then 0 else ior 0 (ishl 1 (key : Int))) ∧ S' 9 (32 * (r : Int) + 4 * key + r) = vs (S1 3) X (r : Int) := by
  have c4 : 0 ≤ (r : Int) ∧ (r : Int) < 4 := by omega
  have i7 : iand (S1 12 (r : Int)) 7 = S1 12 (r : Int) := by rw [own_i7]; omega
  unfold m_join_49
  rw [hp, Option.bind_some]
  dsimp only
  unfold m_recordChange
  rw [stw_h (h' := 12) (h := 5) _ _ _ _ (by decide), i7, own_w (x := (r : Int) * 8) (by omega) (by omega), own_w (x := (r : Int) * 8 + S1 12 (r : Int)) (by omega) (by omega), stw_h (h' := 12) (h := 16) _ _ _ _ (by decide), stw_h (h' := 12) (h := 5) _ _ _ _ (by decide), own_w (x := S1 12 (r : Int) + 1) (by omega) (by omega)]
  have c32 : 0 ≤ (r : Int) * 8 + S1 12 (r : Int) ∧ (r : Int) * 8 + S1 12 (r : Int) < 32 := by omega
  simp only [if_pos c4, if_pos c32, Option.bind_some]
  generalize hT : stw (stw (stw S1 5 (r : Int) (lor (S1 5 (r : Int)) fresh)) 16 ((r : Int) * 8 + S1 12 (r : Int)) fresh) 12 (r : Int) (S1 12 (r : Int) + 1) = T
  have th : ∀ h, h ≠ 5 → h ≠ 12 → h ≠ 16 → T h = S1 h := fun h a b c => by rw [← hT, stw_H _ _ _ b, stw_H _ _ _ c, stw_H _ _ _ a]
  have t12 : T 12 (r : Int) = S1 12 (r : Int) + 1 := by rw [← hT, stw_s]
  have t0 : T 0 = S1 0 := th 0 (by decide) (by decide) (by decide)
  obtain ⟨S', e, a, b, c⟩ := own_rv7 hN hr hk hX (T 0 23).toNat N 0 0 T (by rw [t0]; omega) (by rw [t0]; omega) (by rw [t0]; exact k8) (by rw [t0]; exact kc) (fun j hj => by rw [th 8 (by decide) (by decide) (by decide), th 7 (by decide) (by decide) (by decide)]; exact reg j hj) (fun _ => rfl)
  have e : m_refreshView N (r : Int) T = some (0, S') := e
  rw [e, Option.bind_some]
  refine ⟨S', rfl, fun h h5 h9 h10 h11 h12 h16 => by rw [a h h9 h10 h11, th h h5 h12 h16], by rw [a 12 (by decide) (by decide) (by decide), t12], by rw [b, if_pos (by omega)], by rw [c, if_pos (by omega), th 3 (by decide) (by decide) (by decide)]⟩
/-- a store in which nothing has been made -/
def Fresh (S : St) : Prop := (∀ h i, h ≠ 0 → S h i = 0) ∧ 2 ≤ S 0 23 ∧ S 0 23 ≤ 8 ∧ 1 ≤ S 0 25 ∧ S 0 25 ≤ 8
theorem cov_1 (N : Nat) (hr : r < 4) (hk : key < 8) (S : St) : m_coverFor N (r : Int) (key : Int) 1 S = some (S 7 (8 * (r : Int) + key), S) := by
  unfold m_coverFor
  rw [own_si N hr hk, Option.bind_some]
  dsimp only
  rw [if_pos rfl, if_pos (by omega)]
theorem cov_4 (N : Nat) (hr : r < 4) (hk : key < 8) (S : St) : m_coverFor N (r : Int) (key : Int) 4 S = some (lor (S 7 (8 * (r : Int) + key)) (S 8 (8 * (r : Int) + key)), S) := by
  unfold m_coverFor
  rw [own_si N hr hk, Option.bind_some]
  dsimp only
  rw [if_neg (by decide), if_pos rfl, if_pos (by omega), if_pos (by omega)]
theorem prune0 (N : Nat) (S : St) : m_pruneStores N (r : Int) (lor 0 0) S = some (0, S) := by
  unfold m_pruneStores; rw [lor00, if_pos lc0]
/-- what one operation leaves behind -/
def After (S S' : St) (r key : Nat) (c X : Int) (lo val : Int) : Prop := S' 0 = S 0 ∧ S' 6 (5 * (r : Int)) = c ∧ S' 12 (r : Int) = c ∧ S' 13 (r : Int) = lo ∧ S' 11 (r : Int) = (if X = 0 then 0 else ior 0 (ishl 1 (key : Int))) ∧ S' 9 (32 * (r : Int) + 4 * key + r) = val ∧ (∀ i, S' 14 i = 0) ∧ (∀ j : Nat, j < 8 → S' 8 (8 * (r : Int) + j) = 0 ∧ S' 7 (8 * (r : Int) + j) = if j = key then X else 0)
theorem op_A (hN : 5000 ≤ N) (hr : r < 4) (hk : key < 8) (F : Fresh S) (kc : (key : Int) < S 0 23) (v : Int) : ∃ S', m_makeOperation N (r : Int) (key : Int) 1 v S = some (1, S') ∧ After S S' r key 1 (xr r) 0 v := by
  obtain ⟨z, k2, k8, c1, c8⟩ := F
  rw [own_mk hN hr hk (c := 0) (by omega) (Or.inl rfl) (z 6 _ (by decide)) (by rw [cov_1 N hr hk, z 7 _ (by decide)])]
  simp only [Nat.add_zero]
  generalize hT : dotS (opS S ((16 * r : Nat) : Int) 1 key v 0) r key ((16 * r : Nat) : Int) 1 (0 : Nat) = T
  have o : ∀ h, h ≠ 1 → h ≠ 2 → h ≠ 3 → h ≠ 4 → opS S ((16 * r : Nat) : Int) 1 key v 0 h = S h := fun h a b c d => by unfold opS; rw [stw_H _ _ _ d, stw_H _ _ _ c, stw_H _ _ _ b, stw_H _ _ _ a]
  have th : ∀ h, h ≠ 1 → h ≠ 2 → h ≠ 3 → h ≠ 4 → h ≠ 6 → h ≠ 7 → T h = S h := fun h a b c d e f => by
    rw [← hT]; unfold dotS clS; rw [if_pos rfl, stw_H _ _ _ f, stw_H _ _ _ e, o h a b c d]
  have t7 : ∀ i, T 7 i = if i = 8 * (r : Int) + key then xr r else 0 := fun i => by
    rw [← hT]; unfold dotS clS
    rw [if_pos rfl, stw_e, stw_h _ _ _ _ (by decide), o 7 (by decide) (by decide) (by decide) (by decide), z 7 _ (by decide), z 7 _ (by decide)]; rfl
  have t6 : T 6 (5 * (r : Int)) = 1 := by
    rw [← hT]; unfold dotS clS; rw [if_pos rfl, stw_h _ _ _ _ (by decide), stw_s]; rfl
  have t3 : T 3 (16 * (r : Int)) = v := by
    rw [← hT]; unfold dotS clS opS
    rw [if_pos rfl, stw_h _ _ _ _ (by decide), stw_h _ _ _ _ (by decide), stw_h _ _ _ _ (by decide), show 16 * (r : Int) = ((16 * r : Nat) : Int) by omega, stw_s]
  have t0 := th 0 (by decide) (by decide) (by decide) (by decide) (by decide) (by decide)
  have t12 := th 12 (by decide) (by decide) (by decide) (by decide) (by decide) (by decide)
  have t8 := th 8 (by decide) (by decide) (by decide) (by decide) (by decide) (by decide)
  obtain ⟨S', e, a, b, c, d⟩ := own_j49 hN hr hk (X := xr r) (fresh := lshl 1 ((16 * r : Nat) : Int)) (Or.inr rfl) (prune0 (r := r) N T) (by rw [t0]; exact k8) (by rw [t0]; exact kc) (by rw [t12, z 12 _ (by decide)]; decide) (by rw [t12, z 12 _ (by decide)]; decide) (fun j hj => ⟨by rw [t8, z 8 _ (by decide)], by
    rw [t7]
    by_cases q : j = key
    · rw [if_pos q, if_pos (by omega)]
    · rw [if_neg q, if_neg (by omega)]⟩)
  have s0 : S' 0 = S 0 := by rw [a 0 (by decide) (by decide) (by decide) (by decide) (by decide) (by decide), t0]
  have s12 : S' 12 (r : Int) = 1 := by rw [b, t12, z 12 _ (by decide)]; rfl
  have s13 : S' 13 (r : Int) = 0 := by rw [a 13 (by decide) (by decide) (by decide) (by decide) (by decide) (by decide), th 13 (by decide) (by decide) (by decide) (by decide) (by decide) (by decide), z 13 _ (by decide)]
  have s14 : ∀ i, S' 14 i = 0 := fun i => by rw [a 14 (by decide) (by decide) (by decide) (by decide) (by decide) (by decide), th 14 (by decide) (by decide) (by decide) (by decide) (by decide) (by decide), z 14 _ (by decide)]
  rw [e, Option.bind_some]
  dsimp only
  rw [own_trim hN (by omega) (by omega) s14 s13 (by omega) (by omega) (by rw [s0]; exact c1) (by rw [s0]; exact c8), s12, s0, if_neg (by omega), Option.bind_some]
  refine ⟨S', rfl, s0, ?_, s12, s13, c, ?_, s14, fun j hj => ⟨?_, ?_⟩⟩
  · rw [a 6 (by decide) (by decide) (by decide) (by decide) (by decide) (by decide)]; exact t6
  · rw [d, vs_x _ hr, t3]
  · rw [a 8 (by decide) (by decide) (by decide) (by decide) (by decide) (by decide), t8, z 8 _ (by decide)]
  · rw [a 7 (by decide) (by decide) (by decide) (by decide) (by decide) (by decide), t7]
    by_cases q : j = key
    · rw [if_pos q, if_pos (by omega)]
    · rw [if_neg q, if_neg (by omega)]
theorem op_B (hN : 5000 ≤ N) (hr : r < 4) (hk : key < 8) (F : Fresh S) (kc : (key : Int) < S 0 23) : ∃ S', m_makeOperation N (r : Int) (key : Int) 4 0 S = some (1, S') ∧ After S S' r key 1 0 0 0 := by
  obtain ⟨z, k2, k8, c1, c8⟩ := F
  rw [own_mk hN hr hk (c := 0) (cover := 0) (by omega) (Or.inr rfl) (z 6 _ (by decide)) (by rw [cov_4 N hr hk, z 7 _ (by decide), z 8 _ (by decide), lor00])]
  simp only [Nat.add_zero]
  generalize hT : dotS (opS S ((16 * r : Nat) : Int) 4 key 0 0) r key ((16 * r : Nat) : Int) 4 (0 : Nat) = T
  have o : ∀ h, h ≠ 1 → h ≠ 2 → h ≠ 3 → h ≠ 4 → opS S ((16 * r : Nat) : Int) 4 key 0 0 h = S h := fun h a b c d => by unfold opS; rw [stw_H _ _ _ d, stw_H _ _ _ c, stw_H _ _ _ b, stw_H _ _ _ a]
  have th : ∀ h, h ≠ 1 → h ≠ 2 → h ≠ 3 → h ≠ 4 → h ≠ 6 → T h = S h := fun h a b c d e => by
    rw [← hT]; unfold dotS clS; rw [if_neg (by decide), stw_H _ _ _ e, o h a b c d]
  have t6 : T 6 (5 * (r : Int)) = 1 := by
    rw [← hT]; unfold dotS clS; rw [if_neg (by decide), stw_s]; rfl
  have t0 := th 0 (by decide) (by decide) (by decide) (by decide) (by decide)
  have t12 := th 12 (by decide) (by decide) (by decide) (by decide) (by decide)
  have t8 := th 8 (by decide) (by decide) (by decide) (by decide) (by decide)
  have t7 := th 7 (by decide) (by decide) (by decide) (by decide) (by decide)
  obtain ⟨S', e, a, b, c, d⟩ := own_j49 hN hr hk (X := 0) (fresh := lshl 1 ((16 * r : Nat) : Int)) (Or.inl rfl) (prune0 (r := r) N T) (by rw [t0]; exact k8) (by rw [t0]; exact kc) (by rw [t12, z 12 _ (by decide)]; decide) (by rw [t12, z 12 _ (by decide)]; decide) (fun j hj => ⟨by rw [t8, z 8 _ (by decide)], by rw [t7, z 7 _ (by decide)]; split <;> rfl⟩)
  have s0 : S' 0 = S 0 := by rw [a 0 (by decide) (by decide) (by decide) (by decide) (by decide) (by decide), t0]
  have s12 : S' 12 (r : Int) = 1 := by rw [b, t12, z 12 _ (by decide)]; rfl
  have s13 : S' 13 (r : Int) = 0 := by rw [a 13 (by decide) (by decide) (by decide) (by decide) (by decide) (by decide), th 13 (by decide) (by decide) (by decide) (by decide) (by decide), z 13 _ (by decide)]
  have s14 : ∀ i, S' 14 i = 0 := fun i => by rw [a 14 (by decide) (by decide) (by decide) (by decide) (by decide) (by decide), th 14 (by decide) (by decide) (by decide) (by decide) (by decide), z 14 _ (by decide)]
  rw [e, Option.bind_some]
  dsimp only
  rw [own_trim hN (by omega) (by omega) s14 s13 (by omega) (by omega) (by rw [s0]; exact c1) (by rw [s0]; exact c8), s12, s0, if_neg (by omega), Option.bind_some]
  refine ⟨S', rfl, s0, ?_, s12, s13, c, ?_, s14, fun j hj => ⟨?_, ?_⟩⟩
  · rw [a 6 (by decide) (by decide) (by decide) (by decide) (by decide) (by decide)]; exact t6
  · rw [d]; exact vsK_0 _ hr 16 0 (by omega) (by omega)
  · rw [a 8 (by decide) (by decide) (by decide) (by decide) (by decide) (by decide), t8, z 8 _ (by decide)]
  · rw [a 7 (by decide) (by decide) (by decide) (by decide) (by decide) (by decide), t7, z 7 _ (by decide)]; split <;> rfl
theorem own_prune (N : Nat) (hr : r < 4) (keep : Int) : ∀ (n f k : Nat) (S : St), n < f → k + n = 8 → ∃ S', m_pruneStores_17 N f (r : Int) keep (k : Int) S = some (0, S') ∧ (∀ h, h ≠ 7 → h ≠ 8 → S' h = S h) ∧ ∀ j : Nat, j < 8 → S' 7 (8 * (r : Int) + j) = (if k ≤ j then land (S 7 (8 * (r : Int) + j)) keep else S 7 (8 * (r : Int) + j)) ∧ S' 8 (8 * (r : Int) + j) = (if k ≤ j then land (S 8 (8 * (r : Int) + j)) keep else S 8 (8 * (r : Int) + j))
  | _, 0, _, _, h, _ => absurd h (Nat.not_lt_zero _)
  | 0, f + 1, k, S, _, h1 => by
    rw [m_pruneStores_17, if_neg (by omega)]
    exact ⟨S, rfl, fun _ _ _ => rfl, fun j hj => by rw [if_neg (by omega), if_neg (by omega)]; exact ⟨rfl, rfl⟩⟩
  | n + 1, f + 1, k, S, h, h1 => by
    have ix : w32 (w32 ((r : Int) * 8) + (k : Int)) = 8 * (r : Int) + k := by
      rw [own_w (x := (r : Int) * 8) (by omega) (by omega), own_w (by omega) (by omega)]; omega
    have c32 : 0 ≤ 8 * (r : Int) + (k : Int) ∧ 8 * (r : Int) + (k : Int) < 32 := by omega
    rw [m_pruneStores_17, if_pos (by omega), ix, own_w (x := (k : Int) + 1) (by omega) (by omega), show (k : Int) + 1 = ((k + 1 : Nat) : Int) by omega]
    simp only [if_pos c32]
    rw [stw_h (h' := 8) (h := 7) _ _ _ _ (by decide)]
    obtain ⟨S', e, a, b⟩ := own_prune N hr keep n f (k + 1) (stw (stw S 7 (8 * (r : Int) + k) (land (S 7 (8 * (r : Int) + k)) keep)) 8 (8 * (r : Int) + k) (land (S 8 (8 * (r : Int) + k)) keep)) (by omega) (by omega)
    refine ⟨S', e, fun h x y => by rw [a h x y, stw_H _ _ _ y, stw_H _ _ _ x], fun j hj => ?_⟩
    have bj := b j hj
    rw [bj.1, bj.2, stw_h (h' := 7) (h := 8) _ _ _ _ (by decide), stw_e, stw_e, stw_h (h' := 8) (h := 7) _ _ _ _ (by decide)]
    by_cases c : k + 1 ≤ j
    · rw [if_pos c, if_pos c, if_pos (show k ≤ j by omega), if_pos (show k ≤ j by omega), if_neg (show ¬ 8 * (r : Int) + (j : Int) = 8 * (r : Int) + (k : Int) by omega), if_neg (show ¬ 8 * (r : Int) + (j : Int) = 8 * (r : Int) + (k : Int) by omega)]; exact ⟨rfl, rfl⟩
    · rw [if_neg c, if_neg c]
      by_cases c2 : j = k
      · rw [if_pos (show 8 * (r : Int) + (j : Int) = 8 * (r : Int) + (k : Int) by omega), if_pos (show 8 * (r : Int) + (j : Int) = 8 * (r : Int) + (k : Int) by omega), if_pos (show k ≤ j by omega), if_pos (show k ≤ j by omega), c2]; exact ⟨rfl, rfl⟩
      · rw [if_neg (show ¬ 8 * (r : Int) + (j : Int) = 8 * (r : Int) + (k : Int) by omega), if_neg (show ¬ 8 * (r : Int) + (j : Int) = 8 * (r : Int) + (k : Int) by omega), if_neg (show ¬ k ≤ j by omega), if_neg (show ¬ k ≤ j by omega)]; exact ⟨rfl, rfl⟩
theorem op_C (hN : 5000 ≤ N) (hr : r < 4) (hk : key < 8) {S0 : St} {v : Int} (A : After S0 S r key 1 (xr r) 0 v) (k8 : S0 0 23 ≤ 8) (kc : (key : Int) < S0 0 23) (c1 : 1 ≤ S0 0 25) (c8 : S0 0 25 ≤ 8) : ∃ S', m_makeOperation N (r : Int) (key : Int) 4 0 S = some (2, S') ∧ After S0 S' r key 2 0 (if S0 0 25 < 2 then 2 - S0 0 25 else 0) 0 := by
  obtain ⟨a0, a6, a12, a13, a11, a9, a14, areg⟩ := A
  have x := x_T ⟨r, hr⟩
  have x3 : land (xr r) (lxor (lor 0 (lor (xr r) 0)) (-1)) = 0 := x.2.2.1
  have x4 : land 0 (lxor (lor 0 (lor (xr r) 0)) (-1)) = 0 := x.2.2.2.1
  have x5 : ¬ lcmp (lor 0 (lor (xr r) 0)) 0 = 0 := x.2.2.2.2
  have rk := areg key hk
  rw [if_pos rfl] at rk
  rw [own_mk hN hr hk (c := 1) (cover := lor (xr r) 0) (by omega) (Or.inr rfl) a6 (by rw [cov_4 N hr hk, rk.1, rk.2])]
  generalize hT : dotS (opS S ((16 * r + 1 : Nat) : Int) 4 key 0 (lor (xr r) 0)) r key ((16 * r + 1 : Nat) : Int) 4 (1 : Nat) = T
  have o : ∀ h, h ≠ 1 → h ≠ 2 → h ≠ 3 → h ≠ 4 → opS S ((16 * r + 1 : Nat) : Int) 4 key 0 (lor (xr r) 0) h = S h := fun h a b c d => by unfold opS; rw [stw_H _ _ _ d, stw_H _ _ _ c, stw_H _ _ _ b, stw_H _ _ _ a]
  have th : ∀ h, h ≠ 1 → h ≠ 2 → h ≠ 3 → h ≠ 4 → h ≠ 6 → T h = S h := fun h a b c d e => by
    rw [← hT]; unfold dotS clS; rw [if_neg (by decide), stw_H _ _ _ e, o h a b c d]
  have t6 : T 6 (5 * (r : Int)) = 2 := by
    rw [← hT]; unfold dotS clS; rw [if_neg (by decide), stw_s]; rfl
  obtain ⟨S1, pe, pa, pb⟩ := own_prune N hr (lxor (lor 0 (lor (xr r) 0)) (-1)) 8 N 0 T (by omega) (by omega)
  have pr : m_pruneStores N (r : Int) (lor 0 (lor (xr r) 0)) T = some (0, S1) := by
    unfold m_pruneStores; rw [if_neg x5]; exact pe
  have p0 : S1 0 = S0 0 := by rw [pa 0 (by decide) (by decide), th 0 (by decide) (by decide) (by decide) (by decide) (by decide), a0]
  have p12 : S1 12 (r : Int) = 1 := by rw [pa 12 (by decide) (by decide), th 12 (by decide) (by decide) (by decide) (by decide) (by decide), a12]
  have t7 := th 7 (by decide) (by decide) (by decide) (by decide) (by decide)
  have t8 := th 8 (by decide) (by decide) (by decide) (by decide) (by decide)
  have preg : ∀ j : Nat, j < 8 → S1 8 (8 * (r : Int) + j) = 0 ∧ S1 7 (8 * (r : Int) + j) = 0 := fun j hj => by
    have b := pb j hj
    have g := areg j hj
    rw [if_pos (by omega), if_pos (by omega), t7, t8, g.1, g.2] at b
    refine ⟨by rw [b.2, x4], ?_⟩
    rw [b.1]
    by_cases q : j = key
    · rw [if_pos q, x3]
    · rw [if_neg q, x4]
  obtain ⟨S', e, a, b, c, d⟩ := own_j49 hN hr hk (X := 0) (fresh := lshl 1 ((16 * r + 1 : Nat) : Int)) (Or.inl rfl) pr (by rw [p0]; exact k8) (by rw [p0]; exact kc) (by rw [p12]; decide) (by rw [p12]; decide) (fun j hj => ⟨(preg j hj).1, by rw [(preg j hj).2]; split <;> rfl⟩)
  have s0 : S' 0 = S0 0 := by rw [a 0 (by decide) (by decide) (by decide) (by decide) (by decide) (by decide), p0]
  have s12 : S' 12 (r : Int) = 2 := by rw [b, p12]; rfl
  have s13 : S' 13 (r : Int) = 0 := by rw [a 13 (by decide) (by decide) (by decide) (by decide) (by decide) (by decide), pa 13 (by decide) (by decide), th 13 (by decide) (by decide) (by decide) (by decide) (by decide), a13]
  have s14 : ∀ i, S' 14 i = 0 := fun i => by rw [a 14 (by decide) (by decide) (by decide) (by decide) (by decide) (by decide), pa 14 (by decide) (by decide), th 14 (by decide) (by decide) (by decide) (by decide) (by decide), a14]
  have s6 : S' 6 (5 * (r : Int)) = 2 := by rw [a 6 (by decide) (by decide) (by decide) (by decide) (by decide) (by decide), pa 6 (by decide) (by decide)]; exact t6
  have s9 : S' 9 (32 * (r : Int) + 4 * key + r) = 0 := by rw [d]; exact vsK_0 _ hr 16 0 (by omega) (by omega)
  have sr : ∀ j : Nat, j < 8 → S' 8 (8 * (r : Int) + j) = 0 ∧ S' 7 (8 * (r : Int) + j) = if j = key then (0 : Int) else 0 := fun j hj => by
    rw [a 8 (by decide) (by decide) (by decide) (by decide) (by decide) (by decide), a 7 (by decide) (by decide) (by decide) (by decide) (by decide) (by decide), (preg j hj).1, (preg j hj).2]
    exact ⟨rfl, by split <;> rfl⟩
  rw [e, Option.bind_some]
  dsimp only
  rw [own_trim hN (by omega) (by omega) s14 s13 (by omega) (by omega) (by rw [s0]; exact c1) (by rw [s0]; exact c8), s12, s0]
  by_cases q : S0 0 25 < 2
  · rw [if_pos q, if_pos q, Option.bind_some]
    refine ⟨stw S' 13 (r : Int) (2 - S0 0 25), rfl, by rw [stw_H _ _ _ (by decide)]; exact s0, by rw [stw_h _ _ _ _ (by decide)]; exact s6, by rw [stw_h _ _ _ _ (by decide)]; exact s12, stw_s _ _ _ _, by rw [stw_h _ _ _ _ (by decide)]; exact c, by rw [stw_h _ _ _ _ (by decide)]; exact s9, fun i => by rw [stw_h _ _ _ _ (by decide)]; exact s14 i, fun j hj => by rw [stw_h _ _ _ _ (by decide), stw_h _ _ _ _ (by decide)]; exact sr j hj⟩
  · rw [if_neg q, if_neg q, Option.bind_some]
    exact ⟨S', rfl, s0, s6, s12, s13, c, s9, s14, sr⟩
end Op
/-! # the queries -/
section Qs
variable {N : Nat} {S : St} {q kk : Nat}
theorem q_vr (N : Nat) (hq : q < 4) (S : St) : m_validReplica N (q : Int) S = some (1, S) := by
  unfold m_validReplica; rw [if_neg (by omega), if_pos (by omega)]
theorem q_vk (N : Nat) {k : Int} (k0 : 0 ≤ k) (hk : k < S 0 23) : m_validKey N k S = some (1, S) := by
  unfold m_validKey; rw [if_neg (by omega), if_pos hk]
theorem q_rv (N : Nat) (hq : q < 4) (hk : (kk : Int) < S 0 23) (h8 : S 0 23 ≤ 8) : m_registerValue N (q : Int) (kk : Int) (q : Int) S = some (S 9 (32 * (q : Int) + 4 * kk + q), S) := by
  have ix : w32 (w32 (w32 ((q : Int) * 32) + w32 ((kk : Int) * 4)) + (q : Int)) = 32 * (q : Int) + 4 * kk + q := by
    rw [own_w (x := (q : Int) * 32) (by omega) (by omega), own_w (x := (kk : Int) * 4) (by omega) (by omega), own_w (x := (q : Int) * 32 + (kk : Int) * 4) (by omega) (by omega), own_w (by omega) (by omega)]; omega
  have c : 0 ≤ 32 * (q : Int) + 4 * (kk : Int) + (q : Int) ∧ 32 * (q : Int) + 4 * (kk : Int) + (q : Int) < 128 := by omega
  unfold m_registerValue
  rw [q_vr N hq, Option.bind_some, if_neg (show ¬ (1 : Int) = 0 by decide)]
  dsimp only
  rw [q_vr N hq, Option.bind_some, if_neg (show ¬ (1 : Int) = 0 by decide)]
  dsimp only
  rw [q_vk N (by omega) hk, Option.bind_some, if_neg (show ¬ (1 : Int) = 0 by decide)]
  simp only [ix, if_pos c]
theorem q_hk (N : Nat) (hq : q < 4) (hk : (kk : Int) < S 0 23) (h8 : S 0 23 ≤ 8) : m_hasKey N (q : Int) (kk : Int) S = some (if iand (iushr (S 11 (q : Int)) (kk : Int)) 1 = 0 then 0 else 1, S) := by
  have c : 0 ≤ (q : Int) ∧ (q : Int) < 4 := by omega
  unfold m_hasKey
  rw [q_vr N hq, Option.bind_some, if_neg (show ¬ (1 : Int) = 0 by decide)]
  dsimp only
  rw [q_vk N (by omega) hk, Option.bind_some, if_neg (show ¬ (1 : Int) = 0 by decide)]
  simp only [if_pos c]
  by_cases e : iand (iushr (S 11 (q : Int)) (kk : Int)) 1 = 0
  · rw [if_pos e, if_pos e]
  · rw [if_neg e, if_neg e]
theorem q_kn (N : Nat) (hq : q < 4) (S : St) : m_known N (q : Int) (q : Int) S = some (S 6 (5 * (q : Int)), S) := by
  have ix : w32 (w32 ((q : Int) * 4) + (q : Int)) = 5 * (q : Int) := by
    rw [own_w (x := (q : Int) * 4) (by omega) (by omega), own_w (by omega) (by omega)]; omega
  have c : 0 ≤ 5 * (q : Int) ∧ 5 * (q : Int) < 16 := by omega
  unfold m_known
  rw [q_vr N hq, Option.bind_some, if_neg (show ¬ (1 : Int) = 0 by decide)]
  dsimp only
  rw [q_vr N hq, Option.bind_some, if_neg (show ¬ (1 : Int) = 0 by decide)]
  simp only [ix, if_pos c]
theorem q_p0 (N : Nat) (hq : q < 4) (S : St) : m_protocol N (q : Int) 0 0 S = some (S 12 (q : Int), S) := by
  have c : 0 ≤ (q : Int) ∧ (q : Int) < 4 := by omega
  unfold m_protocol
  rw [q_vr N hq, Option.bind_some, if_neg (show ¬ (1 : Int) = 0 by decide)]
  rw [if_neg (show ¬ (0 : Int) < 0 by decide), if_neg (show ¬ (3 : Int) < 0 by decide), if_pos rfl, if_pos c]
theorem q_p1 (N : Nat) (hq : q < 4) (S : St) : m_protocol N (q : Int) 1 0 S = some (S 13 (q : Int), S) := by
  have c : 0 ≤ (q : Int) ∧ (q : Int) < 4 := by omega
  unfold m_protocol
  rw [q_vr N hq, Option.bind_some, if_neg (show ¬ (1 : Int) = 0 by decide)]
  rw [if_neg (show ¬ (1 : Int) < 0 by decide), if_neg (show ¬ (3 : Int) < 1 by decide), if_neg (show ¬ (1 : Int) = 0 by decide), if_pos rfl, if_pos c]
theorem q_ex (N : Nat) (hq : q < 4) (h : S 6 (5 * (q : Int)) < 16) : m_exhausted N (q : Int) S = some (0, S) := by
  have ix : w32 (w32 ((q : Int) * 4) + (q : Int)) = 5 * (q : Int) := by
    rw [own_w (x := (q : Int) * 4) (by omega) (by omega), own_w (by omega) (by omega)]; omega
  have c : 0 ≤ 5 * (q : Int) ∧ 5 * (q : Int) < 16 := by omega
  unfold m_exhausted
  simp only [ix, if_pos c, if_pos h]
theorem q_rt0 (N : Nat) (hq : q < 4) (hk : (kk : Int) < S 0 23) : m_refuseTarget N (q : Int) (kk : Int) S = some (0, S) := by
  unfold m_refuseTarget
  rw [q_vr N hq, Option.bind_some, if_neg (show ¬ (1 : Int) = 0 by decide)]
  dsimp only
  rw [q_vk N (by omega) hk, Option.bind_some, if_neg (show ¬ (1 : Int) = 0 by decide)]
theorem q_rt1 (N : Nat) {r : Int} (hr : ¬ (0 ≤ r ∧ r ≤ 3)) (k : Int) (S : St) : m_refuseTarget N r k S = some (-1, S) := by
  unfold m_refuseTarget m_validReplica
  by_cases a : r < 0
  · rw [if_pos a, Option.bind_some, if_pos rfl]
  · rw [if_neg a, if_neg (by omega), Option.bind_some, if_pos rfl]
theorem q_rt2 (N : Nat) (hq : q < 4) {k : Int} (hk : ¬ (0 ≤ k ∧ k < S 0 23)) : m_refuseTarget N (q : Int) k S = some (-2, S) := by
  unfold m_refuseTarget
  rw [q_vr N hq, Option.bind_some, if_neg (show ¬ (1 : Int) = 0 by decide)]
  unfold m_validKey
  dsimp only
  by_cases a : k < 0
  · rw [if_pos a, Option.bind_some, if_pos rfl]
  · rw [if_neg a, if_neg (by omega), Option.bind_some, if_pos rfl]
theorem w_no (N : Nat) {r k v A : Int} (hA : A ≠ 0) (h : m_refuseTarget N r k S = some (A, S)) : m_write N r k v S = some (A, S) := by
  unfold m_write; rw [h, Option.bind_some, if_neg hA]
theorem r_no (N : Nat) {r k A : Int} (hA : A ≠ 0) (h : m_refuseTarget N r k S = some (A, S)) : m_removeKey N r k S = some (A, S) := by
  unfold m_removeKey m_mutate; rw [h, Option.bind_some, if_neg hA, Option.bind_some]
theorem w_v (N : Nat) {r k v : Int} (hv : ¬ (1 ≤ v ∧ v ≤ 255)) (h : m_refuseTarget N r k S = some (0, S)) : m_write N r k v S = some (-3, S) := by
  unfold m_write; rw [h, Option.bind_some, if_pos rfl]
  by_cases a : v < 1
  · rw [if_pos a]
  · rw [if_neg a, if_pos (by omega)]
theorem w_ok (N : Nat) {v A : Int} {S' : St} (hq : q < 4) (hv : 1 ≤ v ∧ v ≤ 255) (h : m_refuseTarget N (q : Int) (kk : Int) S = some (0, S)) (h6 : S 6 (5 * (q : Int)) < 16) (m : m_makeOperation N (q : Int) (kk : Int) 1 v S = some (A, S')) : m_write N (q : Int) (kk : Int) v S = some (A, S') := by
  unfold m_write; rw [h, Option.bind_some, if_pos rfl, if_neg (by omega), if_neg (by omega)]
  dsimp only
  rw [q_ex N hq h6, Option.bind_some, if_pos rfl]
  dsimp only
  rw [m, Option.bind_some]
theorem r_ok (N : Nat) {A : Int} {S' : St} (hq : q < 4) (h : m_refuseTarget N (q : Int) (kk : Int) S = some (0, S)) (h6 : S 6 (5 * (q : Int)) < 16) (m : m_makeOperation N (q : Int) (kk : Int) 4 0 S = some (A, S')) : m_removeKey N (q : Int) (kk : Int) S = some (A, S') := by
  unfold m_removeKey m_mutate; rw [h, Option.bind_some, if_pos rfl]
  dsimp only
  rw [q_ex N hq h6, Option.bind_some, if_pos rfl]
  dsimp only
  rw [m, Option.bind_some, Option.bind_some]
theorem i11 : iand 1 1 = 1 := by decide +kernel
/-- the law from the write on -/
theorem own_chain {x2 x3 x4 x7 x8 x9 x10 x11 A B M : Int} {S1 S2 : St} (hq : q < 4) (k1 : (kk : Int) < S1 0 23) (h1 : S1 0 23 ≤ 8) (k2 : (kk : Int) < S2 0 23) (h2 : S2 0 23 ≤ 8) (x7p : 1 ≤ x7 ∧ x7 ≤ 8)
    (rv1 : S1 9 (32 * (q : Int) + 4 * kk + q) = if x11 = 0 then 0 else x4)
    (hk1 : (if iand (iushr (S1 11 (q : Int)) (kk : Int)) 1 = 0 then (0 : Int) else 1) = x11)
    (rm : m_removeKey N x2 x3 S1 = some (B, S2))
    (hB : (x8 = 0 ∧ B = -1 ∧ M = 0) ∨ (x8 ≠ 0 ∧ x9 = 0 ∧ B = -2 ∧ M = 0) ∨ (x8 ≠ 0 ∧ x9 ≠ 0 ∧ x10 = 0 ∧ B = 1 ∧ M = 1) ∨ (x8 ≠ 0 ∧ x9 ≠ 0 ∧ x10 ≠ 0 ∧ B = 2 ∧ M = 2))
    (rv2 : S2 9 (32 * (q : Int) + 4 * kk + q) = 0)
    (hk2 : (if iand (iushr (S2 11 (q : Int)) (kk : Int)) 1 = 0 then (0 : Int) else 1) = 0)
    (kn : S2 6 (5 * (q : Int)) = M) (sq : S2 12 (q : Int) = M) (lo : S2 13 (q : Int) = if x7 < M then M - x7 else 0) :
    l_law_199 N x2 x3 x4 x7 x8 x9 x10 x11 (q : Int) (kk : Int) A A 1 S1 = some (1, S2) := by
  have tail : l_law_337 N x7 (q : Int) (kk : Int) M 1 1 S2 = some (1, S2) := by
    have wM : w32 (M - x7) = M - x7 := by
      clear hk1 hk2 rv1 rv2 lo kn sq rm
      exact own_w (by omega) (by omega)
    unfold l_law_337
    rw [q_hk N hq k2 h2, hk2, Option.bind_some, if_pos rfl]
    dsimp only
    unfold l_law_359
    rw [q_rv N hq k2 h2, rv2, Option.bind_some, if_pos rfl, i11]
    dsimp only
    unfold l_law_383
    rw [q_kn N hq, kn, Option.bind_some, if_pos rfl, i11]
    dsimp only
    unfold l_law_407
    rw [q_p0 N hq, sq, Option.bind_some, if_pos rfl, i11]
    dsimp only
    unfold l_law_435
    rw [q_p1 N hq, lo, Option.bind_some, i11]
    dsimp only
    unfold l_law_465
    by_cases c : x7 < M
    · rw [if_pos c, if_pos c, wM, if_pos rfl]; unfold l_law_473; rw [i11]; rfl
    · rw [if_neg c, if_neg c, if_pos rfl]; unfold l_law_473; rw [i11]; rfl
  unfold l_law_199
  rw [if_pos rfl]
  unfold l_law_207
  rw [q_rv N hq k1 h1, rv1, Option.bind_some, i11]
  dsimp only
  have t242 : l_law_242 N x2 x3 x7 x8 x9 x10 x11 (q : Int) (kk : Int) 1 1 S1 = some (1, S2) := by
    unfold l_law_242
    rw [q_hk N hq k1 h1, hk1, Option.bind_some, if_pos rfl, i11]
    dsimp only
    unfold l_law_266
    rw [rm, Option.bind_some, i11]
    dsimp only
    unfold l_law_301 l_law_302 l_law_329
    rcases hB with ⟨a, b, c⟩ | ⟨a, a2, b, c⟩ | ⟨a, a2, a3, b, c⟩ | ⟨a, a2, a3, b, c⟩
    · rw [if_pos a, if_pos a, b, if_pos rfl]; rw [c] at tail; exact tail
    · rw [if_neg a, if_pos a2, if_neg a, if_pos a2, b, if_pos rfl]; rw [c] at tail; exact tail
    · rw [if_neg a, if_neg a2, if_pos a3, if_neg a, if_neg a2, b, if_pos rfl]; rw [c] at tail; exact tail
    · rw [if_neg a, if_neg a2, if_neg a3, if_neg a, if_neg a2, b, if_pos rfl]; rw [c] at tail; exact tail
  unfold l_law_234
  by_cases c : x11 = 0
  · rw [if_pos c, if_pos c, if_pos rfl]; exact t242
  · rw [if_neg c, if_neg c, if_pos rfl]; exact t242
theorem own_kk {k kc : Int} (h2 : 2 ≤ kc) (h8 : kc ≤ 8) (hk : R32 k) : ∃ kk : Nat, Int.tmod (w32 (Int.tmod k kc + kc)) kc = (kk : Int) ∧ (kk : Int) < kc ∧ (0 ≤ k → k < kc → (kk : Int) = k) := by
  have a : -kc < Int.tmod k kc ∧ Int.tmod k kc < kc := by
    rcases Int.le_total 0 k with z | z
    · have := Int.tmod_nonneg kc z
      have := Int.tmod_lt_of_pos k (show 0 < kc by omega)
      omega
    · have e : Int.tmod k kc = - Int.tmod (-k) kc := by rw [Int.neg_tmod, Int.neg_neg]
      have := Int.tmod_nonneg kc (show 0 ≤ -k by omega)
      have := Int.tmod_lt_of_pos (-k) (show 0 < kc by omega)
      omega
  rw [own_w (by omega) (by omega), Int.tmod_eq_emod_of_nonneg (by omega)]
  have m0 := Int.emod_nonneg (Int.tmod k kc + kc) (show kc ≠ 0 by omega)
  have m1 := Int.emod_lt_of_pos (Int.tmod k kc + kc) (show 0 < kc by omega)
  refine ⟨((Int.tmod k kc + kc) % kc).toNat, by omega, by omega, fun p p1 => ?_⟩
  rw [Int.tmod_eq_of_lt p p1, Int.add_emod_right, Int.emod_eq_of_lt p p1]; omega
theorem own_132 (hN : 5000 ≤ N) (F : Fresh S) {x2 x3 x4 x8 x9 x10 x11 : Int} (h3 : R32 x3) (e8 : x8 = if 0 ≤ x2 ∧ x2 ≤ 3 then 1 else 0) (e9 : x9 = if 0 ≤ x3 ∧ x3 < S 0 23 then 1 else 0) (e10 : x10 = if 1 ≤ x4 ∧ x4 ≤ 255 then 1 else 0) (e11 : x11 = if x8 = 0 ∨ x9 = 0 ∨ x10 = 0 then 0 else 1) : ∃ S', l_law_132 N x2 x3 x4 (S 0 23) (S 0 25) x8 x9 x10 x11 S = some (1, S') := by
  have F0 := F
  obtain ⟨z, g2, g8, c1, c8⟩ := F
  obtain ⟨kk, ek, hk, hke⟩ := own_kk g2 g8 h3
  obtain ⟨q, eq, hq⟩ : ∃ q : Nat, x2 % 4 = (q : Int) ∧ q < 4 := ⟨(x2 % 4).toNat, by omega, by omega⟩
  have kk8 : kk < 8 := by omega
  have hkT := hk_T ⟨kk, kk8⟩
  have hk0 : iand (iushr 0 (kk : Int)) 1 = 0 := hkT.2
  have hkn : ¬ iand (iushr (ior 0 (ishl 1 (kk : Int))) (kk : Int)) 1 = 0 := hkT.1
  clear hkT
  have f0 : (if iand (iushr (S 11 (q : Int)) (kk : Int)) 1 = 0 then (0 : Int) else 1) = 0 := by rw [z 11 _ (by decide), if_pos hk0]
  have f9 : S 9 (32 * (q : Int) + 4 * kk + q) = 0 := z 9 _ (by decide)
  have lo0 : S 13 (q : Int) = if S 0 25 < 0 then 0 - S 0 25 else 0 := by rw [z 13 _ (by decide), if_neg (Int.not_lt.mpr (Int.le_trans (by decide) c1))]
  have kn0 : S 6 (5 * (q : Int)) = 0 := z 6 _ (by decide)
  have sq0 : S 12 (q : Int) = 0 := z 12 _ (by decide)
  have n0 : S 0 23 ≠ 0 := fun h => absurd (h ▸ g2) (by decide)
  unfold l_law_132
  rw [if_neg n0, if_neg n0, ek, own_i3, eq]
  by_cases r : 0 ≤ x2 ∧ x2 ≤ 3
  · rw [if_pos r] at e8
    subst e8
    have xq : x2 = (q : Int) := by clear hk0 hkn f0; omega
    subst xq
    by_cases k : 0 ≤ x3 ∧ x3 < S 0 23
    · rw [if_pos k] at e9
      subst e9
      have xk : x3 = (kk : Int) := (hke k.1 k.2).symm
      subst xk
      have rt := q_rt0 (S := S) N hq hk
      by_cases v : 1 ≤ x4 ∧ x4 ≤ 255
      · rw [if_pos v] at e10
        subst e10
        rw [if_neg (by decide)] at e11
        subst e11
        obtain ⟨S1, m1, A1⟩ := op_A hN hq kk8 F0 hk x4
        obtain ⟨S2, m2, A2⟩ := op_C hN hq kk8 A1 g8 hk c1 c8
        obtain ⟨a0, a6, a12, a13, a11, a9, a14, areg⟩ := A1
        obtain ⟨b0, b6, b12, b13, b11, b9, b14, breg⟩ := A2
        have xn : xr q ≠ 0 := (x_T ⟨q, hq⟩).1
        rw [if_neg xn] at a11
        rw [if_pos rfl] at b11
        have rt1 := q_rt0 (S := S1) N hq (kk := kk) (by rw [a0]; exact hk)
        rw [w_ok N hq v rt (by rw [kn0]; decide) m1, Option.bind_some, if_neg (by decide), if_neg (by decide), if_neg (by decide)]
        dsimp only
        exact ⟨S2, own_chain hq (by rw [a0]; exact hk) (by rw [a0]; exact g8) (by rw [b0]; exact hk) (by rw [b0]; exact g8) ⟨c1, c8⟩ (by rw [a9, if_neg (by decide)]) (by rw [a11, if_neg hkn]) (r_ok N hq rt1 (by rw [a6]; decide) m2) (Or.inr (Or.inr (Or.inr ⟨by decide, by decide, by decide, rfl, rfl⟩))) b9 (by rw [b11, if_pos hk0]) b6 b12 b13⟩
      · rw [if_neg v] at e10
        subst e10
        rw [if_pos (by decide)] at e11
        subst e11
        obtain ⟨S2, m2, A2⟩ := op_B hN hq kk8 F0 hk
        obtain ⟨b0, b6, b12, b13, b11, b9, b14, breg⟩ := A2
        rw [if_pos rfl] at b11
        rw [w_v N v rt, Option.bind_some, if_neg (by decide), if_neg (by decide), if_pos rfl]
        dsimp only
        exact ⟨S2, own_chain hq hk g8 (by rw [b0]; exact hk) (by rw [b0]; exact g8) ⟨c1, c8⟩ (by rw [f9, if_pos rfl]) f0 (r_ok N hq rt (by rw [kn0]; decide) m2) (Or.inr (Or.inr (Or.inl ⟨by decide, by decide, rfl, rfl, rfl⟩))) b9 (by rw [b11, if_pos hk0]) b6 b12 (by rw [b13, if_neg (Int.not_lt.mpr c1)])⟩
    · rw [if_neg k] at e9
      subst e9
      rw [if_pos (Or.inr (Or.inl rfl))] at e11
      subst e11
      have rt := q_rt2 (S := S) N hq k
      rw [w_no N (by decide) rt, Option.bind_some, if_neg (by decide), if_pos rfl]
      dsimp only
      exact ⟨S, own_chain hq hk g8 hk g8 ⟨c1, c8⟩ (by rw [f9, if_pos rfl]) f0 (r_no N (by decide) rt) (Or.inr (Or.inl ⟨by decide, rfl, rfl, rfl⟩)) f9 f0 kn0 sq0 lo0⟩
  · rw [if_neg r] at e8
    subst e8
    rw [if_pos (Or.inl rfl)] at e11
    subst e11
    have rt := q_rt1 N r x3 S
    rw [w_no N (by decide) rt, Option.bind_some, if_pos rfl]
    dsimp only
    exact ⟨S, own_chain hq hk g8 hk g8 ⟨c1, c8⟩ (by rw [f9, if_pos rfl]) f0 (r_no N (by decide) rt) (Or.inl ⟨rfl, rfl, rfl⟩) f9 f0 kn0 sq0 lo0⟩
theorem own_56 (hN : 5000 ≤ N) (F : Fresh S) {x2 x3 x4 : Int} (h3 : R32 x3) : ∃ S', l_law_56 N x2 x3 x4 (S 0 23) (S 0 25) S = some (1, S') := by
  have e110 : ∀ x8 x9, x8 = (if 0 ≤ x2 ∧ x2 ≤ 3 then (1 : Int) else 0) → x9 = (if 0 ≤ x3 ∧ x3 < S 0 23 then (1 : Int) else 0) → ∀ x10, x10 = (if 1 ≤ x4 ∧ x4 ≤ 255 then (1 : Int) else 0) → ∃ S', l_law_110 N x2 x3 x4 (S 0 23) (S 0 25) x8 x9 x10 S = some (1, S') := by
    intro x8 x9 e8 e9 x10 e10
    have w := fun x11 e11 => own_132 (x11 := x11) hN F h3 e8 e9 e10 e11
    unfold l_law_110 l_law_131
    by_cases a : x8 = 0
    · rw [if_pos a]; exact w 0 (by rw [if_pos (Or.inl a)])
    · rw [if_neg a]
      by_cases b : x9 = 0
      · rw [if_pos b]; exact w 0 (by rw [if_pos (Or.inr (Or.inl b))])
      · rw [if_neg b]
        by_cases c : x10 = 0
        · rw [if_pos c]; exact w 0 (by rw [if_pos (Or.inr (Or.inr c))])
        · rw [if_neg c]; exact w 1 (by rw [if_neg (by omega)])
  have e89 : ∀ x8 x9, x8 = (if 0 ≤ x2 ∧ x2 ≤ 3 then (1 : Int) else 0) → x9 = (if 0 ≤ x3 ∧ x3 < S 0 23 then (1 : Int) else 0) → ∃ S', l_law_89 N x2 x3 x4 (S 0 23) (S 0 25) x8 x9 S = some (1, S') := by
    intro x8 x9 e8 e9
    have w := e110 x8 x9 e8 e9
    unfold l_law_89 l_law_109
    by_cases a : x4 < 1
    · rw [if_pos a]; exact w 0 (by rw [if_neg (by omega)])
    · rw [if_neg a]
      by_cases b : 255 < x4
      · rw [if_pos b]; exact w 0 (by rw [if_neg (by omega)])
      · rw [if_neg b]; exact w 1 (by rw [if_pos (by omega)])
  have e72 : ∀ x8, x8 = (if 0 ≤ x2 ∧ x2 ≤ 3 then (1 : Int) else 0) → ∃ S', l_law_72 N x2 x3 x4 (S 0 23) (S 0 25) x8 S = some (1, S') := by
    intro x8 e8
    have w := fun x9 e9 => e89 x8 x9 e8 e9
    unfold l_law_72 l_law_88
    by_cases a : x3 < 0
    · rw [if_pos a]; exact w 0 (by rw [if_neg (by omega)])
    · rw [if_neg a]
      by_cases b : x3 < S 0 23
      · rw [if_pos b]; exact w 1 (by rw [if_pos (by omega)])
      · rw [if_neg b]; exact w 0 (by rw [if_neg (by omega)])
  unfold l_law_56 l_law_71
  by_cases a : x2 < 0
  · rw [if_pos a]; exact e72 0 (by rw [if_neg (by omega)])
  · rw [if_neg a]
    by_cases b : 3 < x2
    · rw [if_pos b]; exact e72 0 (by rw [if_neg (by omega)])
    · rw [if_neg b]; exact e72 1 (by rw [if_pos (by omega)])
end Qs
def cl (x a b : Int) : Int := if x < a then a else if b < x then b else x
theorem own_cl (N : Nat) (x a b : Int) (S : St) : m_clamp N x a b S = some (cl x a b, S) := by
  unfold m_clamp cl
  by_cases h : x < a
  · rw [if_pos h, if_pos h]
  · rw [if_neg h, if_neg h]
    by_cases h2 : b < x
    · rw [if_pos h2, if_pos h2]
    · rw [if_neg h2, if_neg h2]
theorem own_plain : ∀ x0 x1 x2 x3 x4 : Int, R32 x0 → R32 x1 → R32 x2 → R32 x3 → R32 x4 → ∃ N S', l_law N x0 x1 x2 x3 x4 zS = some (1, S') := by
  intro x0 x1 x2 x3 x4 _ _ _ h3 _
  refine ⟨4999 + 1, ?_⟩
  unfold l_law m_init
  rw [own_cl, Option.bind_some]
  dsimp only
  rw [own_cl, Option.bind_some]
  dsimp only
  rw [own_cl, Option.bind_some, Option.bind_some]
  dsimp only
  generalize hT : stw (stw (stw zS 0 23 (cl x0 2 8)) 0 24 (cl 2 2 12)) 0 25 (cl x1 1 8) = T
  have t23 : T 0 23 = cl x0 2 8 := by rw [← hT, stw_i _ _ _ (by decide), stw_i _ _ _ (by decide), stw_s]
  have t25 : T 0 25 = cl x1 1 8 := by rw [← hT, stw_s]
  have F : Fresh T := by
    refine ⟨fun h i hh => by rw [← hT, stw_h _ _ _ _ hh, stw_h _ _ _ _ hh, stw_h _ _ _ _ hh]; rfl, ?_, ?_, ?_, ?_⟩
    · rw [t23]; unfold cl; split <;> omega
    · rw [t23]; unfold cl; split <;> omega
    · rw [t25]; unfold cl; split <;> omega
    · rw [t25]; unfold cl; split <;> omega
  have w := own_56 (N := 4999 + 1) (by omega) F (x2 := x2) (x4 := x4) h3
  have w33 : ∀ t0, t0 = T 0 23 → ∃ S', l_law_33 (4999 + 1) x1 x2 x3 x4 t0 T = some (1, S') := by
    intro t0 e
    rw [e]
    unfold l_law_33
    unfold cl at t25
    by_cases a : x1 < 1
    · rw [if_pos a] at t25 ⊢; rw [t25] at w; exact w
    · rw [if_neg a] at t25 ⊢
      by_cases b : 8 < x1
      · rw [if_pos b] at t25 ⊢; rw [t25] at w; exact w
      · rw [if_neg b] at t25 ⊢; rw [t25] at w; exact w
  unfold cl at t23
  by_cases a : x0 < 2
  · rw [if_pos a] at t23 ⊢; exact w33 2 t23.symm
  · rw [if_neg a] at t23 ⊢
    by_cases b : 8 < x0
    · rw [if_pos b] at t23 ⊢; exact w33 8 t23.symm
    · rw [if_neg b] at t23 ⊢; exact w33 x0 t23.symm
theorem main_1_1 : Claimed_1_1 := comes_1 own_plain fun _ _ _ _ _ _ h hF => ⟨h.1, hF⟩
theorem main_1_2 : Claimed_1_2 := comes_1 own_plain fun _ _ _ _ _ _ h hF => ⟨h.2.1, hF⟩
end Jvm.Pilot.@@N@@
namespace Jvm.Pilot.@@N@@
open Jvm Jvm.ClassFile Sem Op Lib Jvm.Free Jvm.Stand Jvm.Pilot.@@N@@.Jvm.D
/-! MADE BY PROGRAM (witnessworld.py) out of the Statement's table words and the real class files: 11 classes; the members and pool entries that the words name. The judged class is class 1, her method 1. -/
namespace start1
open Jvm.ClassFile
def u (s : String) : CpInfo := .utf8 (stringToUtf16 s)
/-- a pool by its gaps: so many unusable entries, then the entry; so many at the end -/
def gap : Nat → List CpInfo → List CpInfo
  | 0, r => r
  | n + 1, r => .unusable :: gap n r
def poolList (es : List (Nat × CpInfo)) (last : Nat) : List CpInfo := es.foldr (fun e r => gap e.1 (e.2 :: r)) (gap last [])
def pool (es : List (Nat × CpInfo)) (last : Nat) : Array CpInfo := ⟨poolList es last⟩
def fileOf (pool : Array CpInfo) (this : Nat) (attrs : Array Attribute := #[]) (ms : Array MethodInfo := #[]) (fl : Nat := 33) (sup : Nat := 0) (ifs : Array Nat := #[]) (fds : Array FieldInfo := #[]) : ClassFile where
  minorVersion := 0
  majorVersion := 65
  constantPool := pool
  accessFlags := fl
  thisClass := this
  superClass := sup
  interfaces := ifs
  fields := fds
  methods := ms
  attributes := attrs
def plain (name : String) (sup : Option ClassId) : Class where
  name := name
  kind := .ordinary
  loader := none
  accessFlags := 33
  super := sup
  interfaces := #[]
  cf := none
  fields := #[]
  methods := #[]
  instanceTypes := #[]
  staticTypes := #[]
  resolved := #[]
  callSites := []
  init := .initialized
  statics := none
  mirror := none

def pool0 : Array CpInfo := pool [(5, u "<init>"), (0, u "()V"), (1, .class_ 10), (1, u "java/lang/Object")] 113

def k0c0 : Code := { maxStack := 0, maxLocals := 1, code := object_method_1_code, exceptionTable := #[], attributes := #[] }
def k0m0 : Method := { name := "<init>", desc := "()V", sig := { parameters := [], returnType := none }, accessFlags := 1, code := some k0c0 }
/-- java/lang/Object -/
def k0 : Class := { plain "java/lang/Object" none with
  accessFlags := 33
  interfaces := #[]
  cf := some (fileOf pool0 8 #[] #[{ accessFlags := 1, nameIndex := 5, descriptorIndex := 6, attributes := #[] }] 33 0 #[] #[])
  fields := #[]
  methods := #[k0m0]
  instanceTypes := #[]
  staticTypes := #[]
  resolved := Array.replicate 124 none
  statics := none }

def pool1 : Array CpInfo := pool [(2, .class_ 4), (1, u "java/lang/Object"), (0, u "<init>"), (0, u "()V"), (0, .class_ 8), (0, u "DeltaCausalMap"), (0, .methodref 7 10), (0, .nameAndType 5 11), (0, u "(III)V"), (0, .methodref 7 13), (0, .nameAndType 14 15), (0, u "write"), (0, u "(III)I"), (0, .methodref 7 17), (0, .nameAndType 18 15), (0, u "registerValue"), (0, .methodref 7 20), (0, .nameAndType 21 22), (0, u "hasKey"), (0, u "(II)Z"), (0, .methodref 7 24), (0, .nameAndType 25 26), (0, u "removeKey"), (0, u "(II)I"), (0, .methodref 7 28), (0, .nameAndType 29 26), (0, u "known"), (0, .methodref 7 31), (0, .nameAndType 32 15), (0, u "protocol"), (0, .class_ 34), (0, u "DeltaCausalMapL2"), (2, u "law"), (0, u "(IIIII)Z")] 3

def k1m0 : Method := { name := "<init>", desc := "()V", sig := { parameters := [], returnType := none }, accessFlags := 1, code := none }
def k1c1 : Code := { maxStack := 5, maxLocals := 19, code := code, exceptionTable := #[], attributes := #[] }
def k1m1 : Method := { name := "law", desc := "(IIIII)Z", sig := { parameters := [.int, .int, .int, .int, .int], returnType := some .boolean }, accessFlags := 9, code := some k1c1 }
/-- DeltaCausalMapL2 -/
def k1 : Class := { plain "DeltaCausalMapL2" (some 0) with
  accessFlags := 49
  interfaces := #[]
  cf := some (fileOf pool1 33 #[] #[{ accessFlags := 1, nameIndex := 5, descriptorIndex := 6, attributes := #[] }, { accessFlags := 9, nameIndex := 37, descriptorIndex := 38, attributes := #[] }] 49 2 #[] #[])
  fields := #[]
  methods := #[k1m0, k1m1]
  instanceTypes := #[]
  staticTypes := #[]
  resolved := Array.replicate 42 none
  statics := none }

def pool2 : Array CpInfo := pool [(1, .methodref 2 3), (0, .class_ 4), (0, .nameAndType 5 6), (0, u "java/lang/Object"), (0, u "<init>"), (0, u "()V"), (0, .fieldref 8 9), (0, .class_ 10), (0, .nameAndType 11 12), (0, u "DeltaCausalMap"), (0, u "opKind"), (0, u "[I"), (0, .fieldref 8 14), (0, .nameAndType 15 12), (0, u "opKey"), (0, .fieldref 8 17), (0, .nameAndType 18 12), (0, u "opValue"), (0, .fieldref 8 20), (0, .nameAndType 21 22), (0, u "opCover"), (0, u "[J"), (0, .fieldref 8 24), (0, .nameAndType 25 22), (0, u "context"), (0, .fieldref 8 27), (0, .nameAndType 28 12), (0, u "clock"), (0, .fieldref 8 30), (0, .nameAndType 31 22), (0, u "regStore"), (0, .fieldref 8 33), (0, .nameAndType 34 22), (0, u "flagStore"), (0, .fieldref 8 36), (0, .nameAndType 37 12), (0, u "viewValue"), (0, .fieldref 8 39), (0, .nameAndType 40 12), (0, u "viewFlags"), (0, .fieldref 8 42), (0, .nameAndType 43 12), (0, u "viewKeys"), (0, .fieldref 8 45), (0, .nameAndType 46 12), (0, u "seq"), (0, .fieldref 8 48), (0, .nameAndType 49 12), (0, u "low"), (0, .fieldref 8 51), (0, .nameAndType 52 12), (0, u "acked"), (0, .fieldref 8 54), (0, .nameAndType 55 12), (0, u "received"), (0, .fieldref 8 57), (0, .nameAndType 58 22), (0, u "ring"), (0, .fieldref 8 60), (0, .nameAndType 61 12), (0, u "msgKind"), (0, .fieldref 8 63), (0, .nameAndType 64 12), (0, u "msgFrom"), (0, .fieldref 8 66), (0, .nameAndType 67 12), (0, u "msgTo"), (0, .fieldref 8 69), (0, .nameAndType 70 12), (0, u "msgStart"), (0, .fieldref 8 72), (0, .nameAndType 73 12), (0, u "msgEnd"), (0, .fieldref 8 75), (0, .nameAndType 76 22), (0, u "msgContext"), (0, .fieldref 8 78), (0, .nameAndType 79 22), (0, u "msgDelta"), (0, .methodref 8 81), (0, .nameAndType 82 83), (0, u "clamp"), (0, u "(III)I"), (0, .fieldref 8 85), (0, .nameAndType 86 87), (0, u "keyCount"), (0, u "I"), (0, .fieldref 8 89), (0, .nameAndType 90 87), (0, u "slotCount"), (0, .fieldref 8 92), (0, .nameAndType 93 87), (0, u "capacity"), (0, .methodref 8 95), (0, .nameAndType 96 97), (0, u "refuseTarget"), (0, u "(II)I"), (0, .methodref 8 99), (0, .nameAndType 100 101), (0, u "exhausted"), (0, u "(I)Z"), (0, .methodref 8 103), (0, .nameAndType 104 105), (0, u "makeOperation"), (0, u "(IIII)I"), (0, .methodref 8 107), (0, .nameAndType 108 83), (0, u "mutate"), (0, .methodref 8 110), (0, .nameAndType 111 101), (0, u "validReplica"), (0, .methodref 8 113), (0, .nameAndType 114 101), (0, u "validKey"), (0, .methodref 8 116), (0, .nameAndType 117 118), (0, u "coverFor"), (0, u "(III)J"), (0, .methodref 8 120), (0, .nameAndType 121 122), (0, u "join"), (0, u "(IJ)V"), (0, .methodref 8 124), (0, .nameAndType 125 126), (0, u "trim"), (0, u "(I)V"), (0, .methodref 8 128), (0, .nameAndType 129 97), (0, u "storeIndex"), (0, .methodref 8 131), (0, .nameAndType 132 133), (0, u "addDot"), (0, u "(II)V"), (0, .methodref 8 135), (0, .nameAndType 136 122), (0, u "pruneStores"), (0, .methodref 8 138), (0, .nameAndType 139 122), (0, u "recordChange"), (0, .methodref 8 141), (0, .nameAndType 142 126), (0, u "refreshView"), (0, .long 18446744073709551615), (1, .methodref 8 146), (0, .nameAndType 147 148), (0, u "refreshRegister"), (0, u "(IIJ)V"), (0, .methodref 8 150), (0, .nameAndType 151 152), (0, u "valueInSegment"), (0, u "(JI)I"), (0, .methodref 8 154), (0, .nameAndType 155 156), (0, u "leastAck"), (0, u "(I)I"), (0, .integer 2147483647), (31, u "(III)V"), (11, u "REPLICAS"), (2, u "MAX_OPS"), (1, u "MIN_VALUE"), (1, u "MAX_VALUE"), (1, u "BAD_REPLICA"), (1, u "BAD_KEY"), (1, u "BAD_VALUE"), (1, u "EXHAUSTED"), (1, u "WIRE_FULL"), (1, u "NO_MESSAGE"), (1, u "BAD_ARGUMENT"), (1, u "NONE"), (1, u "EMPTY"), (0, u "INTERVAL"), (0, u "FULL"), (1, u "ACK"), (1, u "ACCEPTED"), (0, u "STALE"), (0, u "ACK_TAKEN"), (0, u "SEQ"), (0, u "LOW"), (0, u "ACKED"), (0, u "RECEIVED"), (0, u "F_KIND"), (0, u "F_FROM"), (0, u "F_TO"), (0, u "F_START"), (0, u "F_END"), (0, u "F_KNOWN"), (3, u "write"), (3, u "removeKey"), (4, u "registerValue"), (1, u "(II)Z"), (0, u "hasKey"), (0, u "known"), (0, u "protocol")] 3

def k2c0 : Code := { maxStack := 5, maxLocals := 4, code := prog_1_method_1_code, exceptionTable := #[], attributes := #[] }
def k2m0 : Method := { name := "<init>", desc := "(III)V", sig := { parameters := [.int, .int, .int], returnType := none }, accessFlags := 1, code := some k2c0 }
def k2c1 : Code := { maxStack := 5, maxLocals := 5, code := prog_1_method_2_code, exceptionTable := #[], attributes := #[] }
def k2m1 : Method := { name := "write", desc := "(III)I", sig := { parameters := [.int, .int, .int], returnType := some .int }, accessFlags := 1, code := some k2c1 }
def k2c2 : Code := { maxStack := 4, maxLocals := 3, code := prog_1_method_5_code, exceptionTable := #[], attributes := #[] }
def k2m2 : Method := { name := "removeKey", desc := "(II)I", sig := { parameters := [.int, .int], returnType := some .int }, accessFlags := 1, code := some k2c2 }
def k2c3 : Code := { maxStack := 5, maxLocals := 5, code := prog_1_method_6_code, exceptionTable := #[], attributes := #[] }
def k2m3 : Method := { name := "mutate", desc := "(III)I", sig := { parameters := [.int, .int, .int], returnType := some .int }, accessFlags := 2, code := some k2c3 }
def k2c4 : Code := { maxStack := 2, maxLocals := 3, code := prog_1_method_7_code, exceptionTable := #[], attributes := #[] }
def k2m4 : Method := { name := "refuseTarget", desc := "(II)I", sig := { parameters := [.int, .int], returnType := some .int }, accessFlags := 2, code := some k2c4 }
def k2c5 : Code := { maxStack := 3, maxLocals := 2, code := prog_1_method_8_code, exceptionTable := #[], attributes := #[] }
def k2m5 : Method := { name := "exhausted", desc := "(I)Z", sig := { parameters := [.int], returnType := some .boolean }, accessFlags := 2, code := some k2c5 }
def k2c6 : Code := { maxStack := 4, maxLocals := 11, code := prog_1_method_9_code, exceptionTable := #[], attributes := #[] }
def k2m6 : Method := { name := "makeOperation", desc := "(IIII)I", sig := { parameters := [.int, .int, .int, .int], returnType := some .int }, accessFlags := 2, code := some k2c6 }
def k2c7 : Code := { maxStack := 4, maxLocals := 5, code := prog_1_method_10_code, exceptionTable := #[], attributes := #[] }
def k2m7 : Method := { name := "coverFor", desc := "(III)J", sig := { parameters := [.int, .int, .int], returnType := some .long }, accessFlags := 2, code := some k2c7 }
def k2c8 : Code := { maxStack := 6, maxLocals := 7, code := prog_1_method_11_code, exceptionTable := #[], attributes := #[] }
def k2m8 : Method := { name := "join", desc := "(IJ)V", sig := { parameters := [.int, .long], returnType := none }, accessFlags := 2, code := some k2c8 }
def k2c9 : Code := { maxStack := 6, maxLocals := 7, code := prog_1_method_12_code, exceptionTable := #[], attributes := #[] }
def k2m9 : Method := { name := "addDot", desc := "(II)V", sig := { parameters := [.int, .int], returnType := none }, accessFlags := 2, code := some k2c9 }
def k2c10 : Code := { maxStack := 6, maxLocals := 7, code := prog_1_method_13_code, exceptionTable := #[], attributes := #[] }
def k2m10 : Method := { name := "pruneStores", desc := "(IJ)V", sig := { parameters := [.int, .long], returnType := none }, accessFlags := 2, code := some k2c10 }
def k2c11 : Code := { maxStack := 4, maxLocals := 4, code := prog_1_method_14_code, exceptionTable := #[], attributes := #[] }
def k2m11 : Method := { name := "recordChange", desc := "(IJ)V", sig := { parameters := [.int, .long], returnType := none }, accessFlags := 2, code := some k2c11 }
def k2c12 : Code := { maxStack := 3, maxLocals := 3, code := prog_1_method_15_code, exceptionTable := #[], attributes := #[] }
def k2m12 : Method := { name := "storeIndex", desc := "(II)I", sig := { parameters := [.int, .int], returnType := some .int }, accessFlags := 2, code := some k2c12 }
def k2c13 : Code := { maxStack := 5, maxLocals := 9, code := prog_1_method_16_code, exceptionTable := #[], attributes := #[] }
def k2m13 : Method := { name := "refreshView", desc := "(I)V", sig := { parameters := [.int], returnType := none }, accessFlags := 2, code := some k2c13 }
def k2c14 : Code := { maxStack := 6, maxLocals := 6, code := prog_1_method_17_code, exceptionTable := #[], attributes := #[] }
def k2m14 : Method := { name := "refreshRegister", desc := "(IIJ)V", sig := { parameters := [.int, .int, .long], returnType := none }, accessFlags := 2, code := some k2c14 }
def k2c15 : Code := { maxStack := 4, maxLocals := 6, code := prog_1_method_18_code, exceptionTable := #[], attributes := #[] }
def k2m15 : Method := { name := "valueInSegment", desc := "(JI)I", sig := { parameters := [.long, .int], returnType := some .int }, accessFlags := 2, code := some k2c15 }
def k2c16 : Code := { maxStack := 4, maxLocals := 3, code := prog_1_method_19_code, exceptionTable := #[], attributes := #[] }
def k2m16 : Method := { name := "trim", desc := "(I)V", sig := { parameters := [.int], returnType := none }, accessFlags := 2, code := some k2c16 }
def k2c17 : Code := { maxStack := 3, maxLocals := 4, code := prog_1_method_20_code, exceptionTable := #[], attributes := #[] }
def k2m17 : Method := { name := "leastAck", desc := "(I)I", sig := { parameters := [.int], returnType := some .int }, accessFlags := 2, code := some k2c17 }
def k2c18 : Code := { maxStack := 4, maxLocals := 4, code := prog_1_method_34_code, exceptionTable := #[], attributes := #[] }
def k2m18 : Method := { name := "registerValue", desc := "(III)I", sig := { parameters := [.int, .int, .int], returnType := some .int }, accessFlags := 1, code := some k2c18 }
def k2c19 : Code := { maxStack := 2, maxLocals := 3, code := prog_1_method_36_code, exceptionTable := #[], attributes := #[] }
def k2m19 : Method := { name := "hasKey", desc := "(II)Z", sig := { parameters := [.int, .int], returnType := some .boolean }, accessFlags := 1, code := some k2c19 }
def k2c20 : Code := { maxStack := 3, maxLocals := 3, code := prog_1_method_37_code, exceptionTable := #[], attributes := #[] }
def k2m20 : Method := { name := "known", desc := "(II)I", sig := { parameters := [.int, .int], returnType := some .int }, accessFlags := 1, code := some k2c20 }
def k2c21 : Code := { maxStack := 3, maxLocals := 4, code := prog_1_method_38_code, exceptionTable := #[], attributes := #[] }
def k2m21 : Method := { name := "protocol", desc := "(III)I", sig := { parameters := [.int, .int, .int], returnType := some .int }, accessFlags := 1, code := some k2c21 }
def k2c22 : Code := { maxStack := 2, maxLocals := 2, code := prog_1_method_42_code, exceptionTable := #[], attributes := #[] }
def k2m22 : Method := { name := "validReplica", desc := "(I)Z", sig := { parameters := [.int], returnType := some .boolean }, accessFlags := 2, code := some k2c22 }
def k2c23 : Code := { maxStack := 2, maxLocals := 2, code := prog_1_method_43_code, exceptionTable := #[], attributes := #[] }
def k2m23 : Method := { name := "validKey", desc := "(I)Z", sig := { parameters := [.int], returnType := some .boolean }, accessFlags := 2, code := some k2c23 }
def k2c24 : Code := { maxStack := 2, maxLocals := 4, code := prog_1_method_45_code, exceptionTable := #[], attributes := #[] }
def k2m24 : Method := { name := "clamp", desc := "(III)I", sig := { parameters := [.int, .int, .int], returnType := some .int }, accessFlags := 2, code := some k2c24 }
/-- DeltaCausalMap -/
def k2 : Class := { plain "DeltaCausalMap" (some 0) with
  accessFlags := 49
  interfaces := #[]
  cf := some (fileOf pool2 8 #[] #[{ accessFlags := 1, nameIndex := 5, descriptorIndex := 189, attributes := #[] }, { accessFlags := 1, nameIndex := 248, descriptorIndex := 83, attributes := #[] }, { accessFlags := 1, nameIndex := 252, descriptorIndex := 97, attributes := #[] }, { accessFlags := 2, nameIndex := 108, descriptorIndex := 83, attributes := #[] }, { accessFlags := 2, nameIndex := 96, descriptorIndex := 97, attributes := #[] }, { accessFlags := 2, nameIndex := 100, descriptorIndex := 101, attributes := #[] }, { accessFlags := 2, nameIndex := 104, descriptorIndex := 105, attributes := #[] }, { accessFlags := 2, nameIndex := 117, descriptorIndex := 118, attributes := #[] }, { accessFlags := 2, nameIndex := 121, descriptorIndex := 122, attributes := #[] }, { accessFlags := 2, nameIndex := 132, descriptorIndex := 133, attributes := #[] }, { accessFlags := 2, nameIndex := 136, descriptorIndex := 122, attributes := #[] }, { accessFlags := 2, nameIndex := 139, descriptorIndex := 122, attributes := #[] }, { accessFlags := 2, nameIndex := 129, descriptorIndex := 97, attributes := #[] }, { accessFlags := 2, nameIndex := 142, descriptorIndex := 126, attributes := #[] }, { accessFlags := 2, nameIndex := 147, descriptorIndex := 148, attributes := #[] }, { accessFlags := 2, nameIndex := 151, descriptorIndex := 152, attributes := #[] }, { accessFlags := 2, nameIndex := 125, descriptorIndex := 126, attributes := #[] }, { accessFlags := 2, nameIndex := 155, descriptorIndex := 156, attributes := #[] }, { accessFlags := 1, nameIndex := 257, descriptorIndex := 83, attributes := #[] }, { accessFlags := 1, nameIndex := 260, descriptorIndex := 259, attributes := #[] }, { accessFlags := 1, nameIndex := 261, descriptorIndex := 97, attributes := #[] }, { accessFlags := 1, nameIndex := 262, descriptorIndex := 83, attributes := #[] }, { accessFlags := 2, nameIndex := 111, descriptorIndex := 101, attributes := #[] }, { accessFlags := 2, nameIndex := 114, descriptorIndex := 101, attributes := #[] }, { accessFlags := 2, nameIndex := 82, descriptorIndex := 83, attributes := #[] }] 49 2 #[] #[{ accessFlags := 25, nameIndex := 201, descriptorIndex := 87, attributes := #[] }, { accessFlags := 25, nameIndex := 204, descriptorIndex := 87, attributes := #[] }, { accessFlags := 25, nameIndex := 206, descriptorIndex := 87, attributes := #[] }, { accessFlags := 25, nameIndex := 208, descriptorIndex := 87, attributes := #[] }, { accessFlags := 25, nameIndex := 210, descriptorIndex := 87, attributes := #[] }, { accessFlags := 25, nameIndex := 212, descriptorIndex := 87, attributes := #[] }, { accessFlags := 25, nameIndex := 214, descriptorIndex := 87, attributes := #[] }, { accessFlags := 25, nameIndex := 216, descriptorIndex := 87, attributes := #[] }, { accessFlags := 25, nameIndex := 218, descriptorIndex := 87, attributes := #[] }, { accessFlags := 25, nameIndex := 220, descriptorIndex := 87, attributes := #[] }, { accessFlags := 25, nameIndex := 222, descriptorIndex := 87, attributes := #[] }, { accessFlags := 25, nameIndex := 224, descriptorIndex := 87, attributes := #[] }, { accessFlags := 25, nameIndex := 226, descriptorIndex := 87, attributes := #[] }, { accessFlags := 25, nameIndex := 227, descriptorIndex := 87, attributes := #[] }, { accessFlags := 25, nameIndex := 228, descriptorIndex := 87, attributes := #[] }, { accessFlags := 25, nameIndex := 230, descriptorIndex := 87, attributes := #[] }, { accessFlags := 25, nameIndex := 232, descriptorIndex := 87, attributes := #[] }, { accessFlags := 25, nameIndex := 233, descriptorIndex := 87, attributes := #[] }, { accessFlags := 25, nameIndex := 234, descriptorIndex := 87, attributes := #[] }, { accessFlags := 25, nameIndex := 235, descriptorIndex := 87, attributes := #[] }, { accessFlags := 25, nameIndex := 236, descriptorIndex := 87, attributes := #[] }, { accessFlags := 25, nameIndex := 237, descriptorIndex := 87, attributes := #[] }, { accessFlags := 25, nameIndex := 238, descriptorIndex := 87, attributes := #[] }, { accessFlags := 25, nameIndex := 239, descriptorIndex := 87, attributes := #[] }, { accessFlags := 25, nameIndex := 240, descriptorIndex := 87, attributes := #[] }, { accessFlags := 25, nameIndex := 241, descriptorIndex := 87, attributes := #[] }, { accessFlags := 25, nameIndex := 242, descriptorIndex := 87, attributes := #[] }, { accessFlags := 25, nameIndex := 243, descriptorIndex := 87, attributes := #[] }, { accessFlags := 25, nameIndex := 244, descriptorIndex := 87, attributes := #[] }, { accessFlags := 2, nameIndex := 86, descriptorIndex := 87, attributes := #[] }, { accessFlags := 2, nameIndex := 90, descriptorIndex := 87, attributes := #[] }, { accessFlags := 2, nameIndex := 93, descriptorIndex := 87, attributes := #[] }, { accessFlags := 18, nameIndex := 11, descriptorIndex := 12, attributes := #[] }, { accessFlags := 18, nameIndex := 15, descriptorIndex := 12, attributes := #[] }, { accessFlags := 18, nameIndex := 18, descriptorIndex := 12, attributes := #[] }, { accessFlags := 18, nameIndex := 21, descriptorIndex := 22, attributes := #[] }, { accessFlags := 18, nameIndex := 25, descriptorIndex := 22, attributes := #[] }, { accessFlags := 18, nameIndex := 28, descriptorIndex := 12, attributes := #[] }, { accessFlags := 18, nameIndex := 31, descriptorIndex := 22, attributes := #[] }, { accessFlags := 18, nameIndex := 34, descriptorIndex := 22, attributes := #[] }, { accessFlags := 18, nameIndex := 37, descriptorIndex := 12, attributes := #[] }, { accessFlags := 18, nameIndex := 40, descriptorIndex := 12, attributes := #[] }, { accessFlags := 18, nameIndex := 43, descriptorIndex := 12, attributes := #[] }, { accessFlags := 18, nameIndex := 46, descriptorIndex := 12, attributes := #[] }, { accessFlags := 18, nameIndex := 49, descriptorIndex := 12, attributes := #[] }, { accessFlags := 18, nameIndex := 52, descriptorIndex := 12, attributes := #[] }, { accessFlags := 18, nameIndex := 55, descriptorIndex := 12, attributes := #[] }, { accessFlags := 18, nameIndex := 58, descriptorIndex := 22, attributes := #[] }, { accessFlags := 18, nameIndex := 61, descriptorIndex := 12, attributes := #[] }, { accessFlags := 18, nameIndex := 64, descriptorIndex := 12, attributes := #[] }, { accessFlags := 18, nameIndex := 67, descriptorIndex := 12, attributes := #[] }, { accessFlags := 18, nameIndex := 70, descriptorIndex := 12, attributes := #[] }, { accessFlags := 18, nameIndex := 73, descriptorIndex := 12, attributes := #[] }, { accessFlags := 18, nameIndex := 76, descriptorIndex := 22, attributes := #[] }, { accessFlags := 18, nameIndex := 79, descriptorIndex := 22, attributes := #[] }])
  fields := #[{ name := "REPLICAS", type := .int, accessFlags := 25, slot := 0, constantValue := 0 }, { name := "MAX_OPS", type := .int, accessFlags := 25, slot := 1, constantValue := 0 }, { name := "MIN_VALUE", type := .int, accessFlags := 25, slot := 2, constantValue := 0 }, { name := "MAX_VALUE", type := .int, accessFlags := 25, slot := 3, constantValue := 0 }, { name := "BAD_REPLICA", type := .int, accessFlags := 25, slot := 4, constantValue := 0 }, { name := "BAD_KEY", type := .int, accessFlags := 25, slot := 5, constantValue := 0 }, { name := "BAD_VALUE", type := .int, accessFlags := 25, slot := 6, constantValue := 0 }, { name := "EXHAUSTED", type := .int, accessFlags := 25, slot := 7, constantValue := 0 }, { name := "WIRE_FULL", type := .int, accessFlags := 25, slot := 8, constantValue := 0 }, { name := "NO_MESSAGE", type := .int, accessFlags := 25, slot := 9, constantValue := 0 }, { name := "BAD_ARGUMENT", type := .int, accessFlags := 25, slot := 10, constantValue := 0 }, { name := "NONE", type := .int, accessFlags := 25, slot := 11, constantValue := 0 }, { name := "EMPTY", type := .int, accessFlags := 25, slot := 12, constantValue := 0 }, { name := "INTERVAL", type := .int, accessFlags := 25, slot := 13, constantValue := 0 }, { name := "FULL", type := .int, accessFlags := 25, slot := 14, constantValue := 0 }, { name := "ACK", type := .int, accessFlags := 25, slot := 15, constantValue := 0 }, { name := "ACCEPTED", type := .int, accessFlags := 25, slot := 16, constantValue := 0 }, { name := "STALE", type := .int, accessFlags := 25, slot := 17, constantValue := 0 }, { name := "ACK_TAKEN", type := .int, accessFlags := 25, slot := 18, constantValue := 0 }, { name := "SEQ", type := .int, accessFlags := 25, slot := 19, constantValue := 0 }, { name := "LOW", type := .int, accessFlags := 25, slot := 20, constantValue := 0 }, { name := "ACKED", type := .int, accessFlags := 25, slot := 21, constantValue := 0 }, { name := "RECEIVED", type := .int, accessFlags := 25, slot := 22, constantValue := 0 }, { name := "F_KIND", type := .int, accessFlags := 25, slot := 23, constantValue := 0 }, { name := "F_FROM", type := .int, accessFlags := 25, slot := 24, constantValue := 0 }, { name := "F_TO", type := .int, accessFlags := 25, slot := 25, constantValue := 0 }, { name := "F_START", type := .int, accessFlags := 25, slot := 26, constantValue := 0 }, { name := "F_END", type := .int, accessFlags := 25, slot := 27, constantValue := 0 }, { name := "F_KNOWN", type := .int, accessFlags := 25, slot := 28, constantValue := 0 }, { name := "keyCount", type := .int, accessFlags := 2, slot := 0, constantValue := 0 }, { name := "slotCount", type := .int, accessFlags := 2, slot := 1, constantValue := 0 }, { name := "capacity", type := .int, accessFlags := 2, slot := 2, constantValue := 0 }, { name := "opKind", type := (.array .int), accessFlags := 18, slot := 3, constantValue := 0 }, { name := "opKey", type := (.array .int), accessFlags := 18, slot := 4, constantValue := 0 }, { name := "opValue", type := (.array .int), accessFlags := 18, slot := 5, constantValue := 0 }, { name := "opCover", type := (.array .long), accessFlags := 18, slot := 6, constantValue := 0 }, { name := "context", type := (.array .long), accessFlags := 18, slot := 7, constantValue := 0 }, { name := "clock", type := (.array .int), accessFlags := 18, slot := 8, constantValue := 0 }, { name := "regStore", type := (.array .long), accessFlags := 18, slot := 9, constantValue := 0 }, { name := "flagStore", type := (.array .long), accessFlags := 18, slot := 10, constantValue := 0 }, { name := "viewValue", type := (.array .int), accessFlags := 18, slot := 11, constantValue := 0 }, { name := "viewFlags", type := (.array .int), accessFlags := 18, slot := 12, constantValue := 0 }, { name := "viewKeys", type := (.array .int), accessFlags := 18, slot := 13, constantValue := 0 }, { name := "seq", type := (.array .int), accessFlags := 18, slot := 14, constantValue := 0 }, { name := "low", type := (.array .int), accessFlags := 18, slot := 15, constantValue := 0 }, { name := "acked", type := (.array .int), accessFlags := 18, slot := 16, constantValue := 0 }, { name := "received", type := (.array .int), accessFlags := 18, slot := 17, constantValue := 0 }, { name := "ring", type := (.array .long), accessFlags := 18, slot := 18, constantValue := 0 }, { name := "msgKind", type := (.array .int), accessFlags := 18, slot := 19, constantValue := 0 }, { name := "msgFrom", type := (.array .int), accessFlags := 18, slot := 20, constantValue := 0 }, { name := "msgTo", type := (.array .int), accessFlags := 18, slot := 21, constantValue := 0 }, { name := "msgStart", type := (.array .int), accessFlags := 18, slot := 22, constantValue := 0 }, { name := "msgEnd", type := (.array .int), accessFlags := 18, slot := 23, constantValue := 0 }, { name := "msgContext", type := (.array .long), accessFlags := 18, slot := 24, constantValue := 0 }, { name := "msgDelta", type := (.array .long), accessFlags := 18, slot := 25, constantValue := 0 }]
  methods := #[k2m0, k2m1, k2m2, k2m3, k2m4, k2m5, k2m6, k2m7, k2m8, k2m9, k2m10, k2m11, k2m12, k2m13, k2m14, k2m15, k2m16, k2m17, k2m18, k2m19, k2m20, k2m21, k2m22, k2m23, k2m24]
  instanceTypes := #[.int, .int, .int, (.array .int), (.array .int), (.array .int), (.array .long), (.array .long), (.array .int), (.array .long), (.array .long), (.array .int), (.array .int), (.array .int), (.array .int), (.array .int), (.array .int), (.array .int), (.array .long), (.array .int), (.array .int), (.array .int), (.array .int), (.array .int), (.array .long), (.array .long)]
  staticTypes := #[.int, .int, .int, .int, .int, .int, .int, .int, .int, .int, .int, .int, .int, .int, .int, .int, .int, .int, .int, .int, .int, .int, .int, .int, .int, .int, .int, .int, .int]
  resolved := Array.replicate 266 none
  statics := none }

def pool3 : Array CpInfo := pool [(1, u "java/lang/Cloneable"), (0, .class_ 1), (0, u "java/lang/Object"), (0, .class_ 3)] 3

/-- java/lang/Cloneable -/
def k3 : Class := { plain "java/lang/Cloneable" (some 0) with
  accessFlags := 1537
  interfaces := #[]
  cf := some (fileOf pool3 2 #[] #[] 1537 4 #[] #[])
  fields := #[]
  methods := #[]
  instanceTypes := #[]
  staticTypes := #[]
  resolved := Array.replicate 8 none
  statics := none }

def pool4 : Array CpInfo := pool [(1, u "java/io/Serializable"), (0, .class_ 1), (0, u "java/lang/Object"), (0, .class_ 3)] 3

/-- java/io/Serializable -/
def k4 : Class := { plain "java/io/Serializable" (some 0) with
  accessFlags := 1537
  interfaces := #[]
  cf := some (fileOf pool4 2 #[] #[] 1537 4 #[] #[])
  fields := #[]
  methods := #[]
  instanceTypes := #[]
  staticTypes := #[]
  resolved := Array.replicate 8 none
  statics := none }

/-- the primitive byte -/
def k5 : Class := { plain "byte" none with kind := .primitive 'B', accessFlags := 0x411 }
/-- [B -/
def k6 : Class := { plain "[B" (some 0) with kind := .array 5 .byte, interfaces := #[3, 4], accessFlags := 1041 }

/-- the primitive int -/
def k7 : Class := { plain "int" none with kind := .primitive 'I', accessFlags := 0x411 }
/-- [I -/
def k8 : Class := { plain "[I" (some 0) with kind := .array 7 .int, interfaces := #[3, 4], accessFlags := 1041 }

/-- the primitive long -/
def k9 : Class := { plain "long" none with kind := .primitive 'J', accessFlags := 0x411 }
/-- [J -/
def k10 : Class := { plain "[J" (some 0) with kind := .array 9 .long, interfaces := #[3, 4], accessFlags := 1041 }

def heap : Heap := #[]
def classes : Array Class := #[k0, k1, k2, k3, k4, k5, k6, k7, k8, k9, k10]
def interned : List (Array UInt16 × Addr) := []
def slotsUsed : Nat := 0
def theMethod : MethodId := ⟨1, 1⟩
def args0 : Array Value := #[.int 5, .int 5, .int 5, .int 5, .int 5]
def aboutOver (below : List Frame) : State where
  vm := { classes := classes, interned := interned.toArray }
  heap := heap
  slotsUsed := slotsUsed
  threads := #[{ frames := .invoking theMethod args0 :: below }]
def below0 : List Frame := [.native { method := ⟨0, 0⟩, args := #[] }]
def about1 : State := aboutOver below0
def p0 : Program := .bare "" "" ""
def e0 : Env := launch0.env 0 0 0
theorem w_frames : about1.frames = Frame.invoking theMethod args0 :: below0 := rfl
set_option maxRecDepth 65536 in
theorem w_args : argsFit about1.vm theMethod args0 = true := by decide +kernel
set_option maxRecDepth 65536 in
theorem w_heap : heapFits about1 = true := by decide +kernel
set_option maxRecDepth 65536 in
theorem w_runnable : about1.curStatus? = some .runnable := by decide +kernel
set_option maxRecDepth 65536 in
theorem w_alone : about1.alone = true := by decide +kernel
set_option maxRecDepth 65536 in
theorem w_named : about1.methodNamed? x = some theMethod := by decide +kernel
set_option maxRecDepth 65536 in
theorem w_hears : about1.hears theMethod below0 = true := by decide +kernel
set_option maxRecDepth 65536 in
theorem w_ripe : about1.ripe theMethod args0 below0 = true := by decide +kernel
theorem w_running : about1.status = .running := rfl
set_option maxRecDepth 65536 in
theorem w_room : about1.hasRoom e0.platform room_1 = true :=
  launch0.hasRoom_least _ room_1 (by decide +kernel) (by decide +kernel) (by decide +kernel) (by decide +kernel) (by decide +kernel) (by decide +kernel)
theorem allAtoms_all (ts : List Jvm.Cond) (a : Array Jvm.Value) (st : Jvm.State) : (allAtoms ts).before a st = ts.all (fun c => c.before a st) := by
  induction ts with
  | nil => rfl
  | cons c t ih =>
    show (Jvm.Cond.and c (allAtoms t)).before a st = _
    rw [Jvm.Cond.before_and, ih, List.all_cons]
def words1 : List Jvm.Cond := Jvm.Cond.code x code maxLocals ret :: tables_1
/-- a 'code' word, met by the world's own term for the bytes: nothing is compared byte by byte -/
theorem code_word {y : MethodName} {bytes : ByteArray} {mx : Nat} {rt : Option FieldType} {a : Array Value} {s : State} {m : MethodId} {meth : Method} {c : Code} (h1 : s.methodNamed? y = some m) (h2 : s.vm.method? m = some meth) (h3 : meth.code = some c) (h4 : c.code = bytes)
    (h5 : (c.maxLocals == mx && c.exceptionTable.isEmpty && decide (c.maxStack ≤ mostOperands) && decide (meth.sig.returnType = rt) && !meth.locks && decide (parseMethodDescriptor y.desc = some meth.sig)) = true) : (Jvm.Cond.code y bytes mx rt).before a s = true := by
  simp only [Bool.and_eq_true, beq_iff_eq, Bool.not_eq_true', decide_eq_true_eq] at h5
  obtain ⟨⟨⟨⟨⟨g1, g2⟩, g3⟩, g4⟩, g5⟩, g6⟩ := h5
  simp [Cond.before, Cond.holds, Cond.value, h1, h2, h3, h4, g1, g2, g3, g4, g5, g6]
def isCode : Jvm.Cond → Bool
  | .code _ _ _ _ => true
  | _ => false
theorem all_split {L : List Jvm.Cond} {P : Jvm.Cond → Bool} (h1 : L.all (fun c => isCode c || P c) = true) (h2 : ∀ c ∈ L.filter isCode, P c = true) : L.all P = true := by
  refine List.all_eq_true.mpr fun c hc => ?_
  have h := List.all_eq_true.mp h1 c hc
  rcases Bool.eq_false_or_eq_true (isCode c) with hi | hi
  · exact h2 c (List.mem_filter.mpr ⟨hc, hi⟩)
  · simpa [hi] using h
set_option maxRecDepth 65536 in
theorem w_c0 : (Jvm.Cond.code x code maxLocals ret).before args0 about1 = true := code_word (m := ⟨1, 1⟩) (meth := k1m1) (c := k1c1) (by decide +kernel) rfl rfl rfl (by decide +kernel)
set_option maxRecDepth 65536 in
theorem w_c1 : (Jvm.Cond.code ({ cls := "DeltaCausalMap", name := "<init>", desc := "(III)V" } : Jvm.MethodName) prog_1_method_1_code (4 : Nat) (Option.none : Option Jvm.ClassFile.FieldType)).before args0 about1 = true := code_word (m := ⟨2, 0⟩) (meth := k2m0) (c := k2c0) (by decide +kernel) rfl rfl rfl (by decide +kernel)
set_option maxRecDepth 65536 in
theorem w_c2 : (Jvm.Cond.code ({ cls := "java/lang/Object", name := "<init>", desc := "()V" } : Jvm.MethodName) object_method_1_code (1 : Nat) (Option.none : Option Jvm.ClassFile.FieldType)).before args0 about1 = true := code_word (m := ⟨0, 0⟩) (meth := k0m0) (c := k0c0) (by decide +kernel) rfl rfl rfl (by decide +kernel)
set_option maxRecDepth 65536 in
theorem w_c3 : (Jvm.Cond.code ({ cls := "DeltaCausalMap", name := "clamp", desc := "(III)I" } : Jvm.MethodName) prog_1_method_45_code (4 : Nat) (Option.some Jvm.ClassFile.FieldType.int)).before args0 about1 = true := code_word (m := ⟨2, 24⟩) (meth := k2m24) (c := k2c24) (by decide +kernel) rfl rfl rfl (by decide +kernel)
set_option maxRecDepth 65536 in
theorem w_c4 : (Jvm.Cond.code ({ cls := "DeltaCausalMap", name := "write", desc := "(III)I" } : Jvm.MethodName) prog_1_method_2_code (5 : Nat) (Option.some Jvm.ClassFile.FieldType.int)).before args0 about1 = true := code_word (m := ⟨2, 1⟩) (meth := k2m1) (c := k2c1) (by decide +kernel) rfl rfl rfl (by decide +kernel)
set_option maxRecDepth 65536 in
theorem w_c5 : (Jvm.Cond.code ({ cls := "DeltaCausalMap", name := "refuseTarget", desc := "(II)I" } : Jvm.MethodName) prog_1_method_7_code (3 : Nat) (Option.some Jvm.ClassFile.FieldType.int)).before args0 about1 = true := code_word (m := ⟨2, 4⟩) (meth := k2m4) (c := k2c4) (by decide +kernel) rfl rfl rfl (by decide +kernel)
set_option maxRecDepth 65536 in
theorem w_c6 : (Jvm.Cond.code ({ cls := "DeltaCausalMap", name := "validReplica", desc := "(I)Z" } : Jvm.MethodName) prog_1_method_42_code (2 : Nat) (Option.some Jvm.ClassFile.FieldType.boolean)).before args0 about1 = true := code_word (m := ⟨2, 22⟩) (meth := k2m22) (c := k2c22) (by decide +kernel) rfl rfl rfl (by decide +kernel)
set_option maxRecDepth 65536 in
theorem w_c7 : (Jvm.Cond.code ({ cls := "DeltaCausalMap", name := "validKey", desc := "(I)Z" } : Jvm.MethodName) prog_1_method_43_code (2 : Nat) (Option.some Jvm.ClassFile.FieldType.boolean)).before args0 about1 = true := code_word (m := ⟨2, 23⟩) (meth := k2m23) (c := k2c23) (by decide +kernel) rfl rfl rfl (by decide +kernel)
set_option maxRecDepth 65536 in
theorem w_c8 : (Jvm.Cond.code ({ cls := "DeltaCausalMap", name := "registerValue", desc := "(III)I" } : Jvm.MethodName) prog_1_method_34_code (4 : Nat) (Option.some Jvm.ClassFile.FieldType.int)).before args0 about1 = true := code_word (m := ⟨2, 18⟩) (meth := k2m18) (c := k2c18) (by decide +kernel) rfl rfl rfl (by decide +kernel)
set_option maxRecDepth 65536 in
theorem w_c9 : (Jvm.Cond.code ({ cls := "DeltaCausalMap", name := "hasKey", desc := "(II)Z" } : Jvm.MethodName) prog_1_method_36_code (3 : Nat) (Option.some Jvm.ClassFile.FieldType.boolean)).before args0 about1 = true := code_word (m := ⟨2, 19⟩) (meth := k2m19) (c := k2c19) (by decide +kernel) rfl rfl rfl (by decide +kernel)
set_option maxRecDepth 65536 in
theorem w_c10 : (Jvm.Cond.code ({ cls := "DeltaCausalMap", name := "removeKey", desc := "(II)I" } : Jvm.MethodName) prog_1_method_5_code (3 : Nat) (Option.some Jvm.ClassFile.FieldType.int)).before args0 about1 = true := code_word (m := ⟨2, 2⟩) (meth := k2m2) (c := k2c2) (by decide +kernel) rfl rfl rfl (by decide +kernel)
set_option maxRecDepth 65536 in
theorem w_c11 : (Jvm.Cond.code ({ cls := "DeltaCausalMap", name := "mutate", desc := "(III)I" } : Jvm.MethodName) prog_1_method_6_code (5 : Nat) (Option.some Jvm.ClassFile.FieldType.int)).before args0 about1 = true := code_word (m := ⟨2, 3⟩) (meth := k2m3) (c := k2c3) (by decide +kernel) rfl rfl rfl (by decide +kernel)
set_option maxRecDepth 65536 in
theorem w_c12 : (Jvm.Cond.code ({ cls := "DeltaCausalMap", name := "exhausted", desc := "(I)Z" } : Jvm.MethodName) prog_1_method_8_code (2 : Nat) (Option.some Jvm.ClassFile.FieldType.boolean)).before args0 about1 = true := code_word (m := ⟨2, 5⟩) (meth := k2m5) (c := k2c5) (by decide +kernel) rfl rfl rfl (by decide +kernel)
set_option maxRecDepth 65536 in
theorem w_c13 : (Jvm.Cond.code ({ cls := "DeltaCausalMap", name := "makeOperation", desc := "(IIII)I" } : Jvm.MethodName) prog_1_method_9_code (11 : Nat) (Option.some Jvm.ClassFile.FieldType.int)).before args0 about1 = true := code_word (m := ⟨2, 6⟩) (meth := k2m6) (c := k2c6) (by decide +kernel) rfl rfl rfl (by decide +kernel)
set_option maxRecDepth 65536 in
theorem w_c14 : (Jvm.Cond.code ({ cls := "DeltaCausalMap", name := "coverFor", desc := "(III)J" } : Jvm.MethodName) prog_1_method_10_code (5 : Nat) (Option.some Jvm.ClassFile.FieldType.long)).before args0 about1 = true := code_word (m := ⟨2, 7⟩) (meth := k2m7) (c := k2c7) (by decide +kernel) rfl rfl rfl (by decide +kernel)
set_option maxRecDepth 65536 in
theorem w_c15 : (Jvm.Cond.code ({ cls := "DeltaCausalMap", name := "storeIndex", desc := "(II)I" } : Jvm.MethodName) prog_1_method_15_code (3 : Nat) (Option.some Jvm.ClassFile.FieldType.int)).before args0 about1 = true := code_word (m := ⟨2, 12⟩) (meth := k2m12) (c := k2c12) (by decide +kernel) rfl rfl rfl (by decide +kernel)
set_option maxRecDepth 65536 in
theorem w_c16 : (Jvm.Cond.code ({ cls := "DeltaCausalMap", name := "join", desc := "(IJ)V" } : Jvm.MethodName) prog_1_method_11_code (7 : Nat) (Option.none : Option Jvm.ClassFile.FieldType)).before args0 about1 = true := code_word (m := ⟨2, 8⟩) (meth := k2m8) (c := k2c8) (by decide +kernel) rfl rfl rfl (by decide +kernel)
set_option maxRecDepth 65536 in
theorem w_c17 : (Jvm.Cond.code ({ cls := "DeltaCausalMap", name := "addDot", desc := "(II)V" } : Jvm.MethodName) prog_1_method_12_code (7 : Nat) (Option.none : Option Jvm.ClassFile.FieldType)).before args0 about1 = true := code_word (m := ⟨2, 9⟩) (meth := k2m9) (c := k2c9) (by decide +kernel) rfl rfl rfl (by decide +kernel)
set_option maxRecDepth 65536 in
theorem w_c18 : (Jvm.Cond.code ({ cls := "DeltaCausalMap", name := "pruneStores", desc := "(IJ)V" } : Jvm.MethodName) prog_1_method_13_code (7 : Nat) (Option.none : Option Jvm.ClassFile.FieldType)).before args0 about1 = true := code_word (m := ⟨2, 10⟩) (meth := k2m10) (c := k2c10) (by decide +kernel) rfl rfl rfl (by decide +kernel)
set_option maxRecDepth 65536 in
theorem w_c19 : (Jvm.Cond.code ({ cls := "DeltaCausalMap", name := "recordChange", desc := "(IJ)V" } : Jvm.MethodName) prog_1_method_14_code (4 : Nat) (Option.none : Option Jvm.ClassFile.FieldType)).before args0 about1 = true := code_word (m := ⟨2, 11⟩) (meth := k2m11) (c := k2c11) (by decide +kernel) rfl rfl rfl (by decide +kernel)
set_option maxRecDepth 65536 in
theorem w_c20 : (Jvm.Cond.code ({ cls := "DeltaCausalMap", name := "refreshView", desc := "(I)V" } : Jvm.MethodName) prog_1_method_16_code (9 : Nat) (Option.none : Option Jvm.ClassFile.FieldType)).before args0 about1 = true := code_word (m := ⟨2, 13⟩) (meth := k2m13) (c := k2c13) (by decide +kernel) rfl rfl rfl (by decide +kernel)
set_option maxRecDepth 65536 in
theorem w_c21 : (Jvm.Cond.code ({ cls := "DeltaCausalMap", name := "refreshRegister", desc := "(IIJ)V" } : Jvm.MethodName) prog_1_method_17_code (6 : Nat) (Option.none : Option Jvm.ClassFile.FieldType)).before args0 about1 = true := code_word (m := ⟨2, 14⟩) (meth := k2m14) (c := k2c14) (by decide +kernel) rfl rfl rfl (by decide +kernel)
set_option maxRecDepth 65536 in
theorem w_c22 : (Jvm.Cond.code ({ cls := "DeltaCausalMap", name := "valueInSegment", desc := "(JI)I" } : Jvm.MethodName) prog_1_method_18_code (6 : Nat) (Option.some Jvm.ClassFile.FieldType.int)).before args0 about1 = true := code_word (m := ⟨2, 15⟩) (meth := k2m15) (c := k2c15) (by decide +kernel) rfl rfl rfl (by decide +kernel)
set_option maxRecDepth 65536 in
theorem w_c23 : (Jvm.Cond.code ({ cls := "DeltaCausalMap", name := "trim", desc := "(I)V" } : Jvm.MethodName) prog_1_method_19_code (3 : Nat) (Option.none : Option Jvm.ClassFile.FieldType)).before args0 about1 = true := code_word (m := ⟨2, 16⟩) (meth := k2m16) (c := k2c16) (by decide +kernel) rfl rfl rfl (by decide +kernel)
set_option maxRecDepth 65536 in
theorem w_c24 : (Jvm.Cond.code ({ cls := "DeltaCausalMap", name := "leastAck", desc := "(I)I" } : Jvm.MethodName) prog_1_method_20_code (4 : Nat) (Option.some Jvm.ClassFile.FieldType.int)).before args0 about1 = true := code_word (m := ⟨2, 17⟩) (meth := k2m17) (c := k2c17) (by decide +kernel) rfl rfl rfl (by decide +kernel)
set_option maxRecDepth 65536 in
theorem w_c25 : (Jvm.Cond.code ({ cls := "DeltaCausalMap", name := "known", desc := "(II)I" } : Jvm.MethodName) prog_1_method_37_code (3 : Nat) (Option.some Jvm.ClassFile.FieldType.int)).before args0 about1 = true := code_word (m := ⟨2, 20⟩) (meth := k2m20) (c := k2c20) (by decide +kernel) rfl rfl rfl (by decide +kernel)
set_option maxRecDepth 65536 in
theorem w_c26 : (Jvm.Cond.code ({ cls := "DeltaCausalMap", name := "protocol", desc := "(III)I" } : Jvm.MethodName) prog_1_method_38_code (4 : Nat) (Option.some Jvm.ClassFile.FieldType.int)).before args0 about1 = true := code_word (m := ⟨2, 21⟩) (meth := k2m21) (c := k2c21) (by decide +kernel) rfl rfl rfl (by decide +kernel)
def codes1 : List Jvm.Cond := [Jvm.Cond.code x code maxLocals ret, Jvm.Cond.code ({ cls := "DeltaCausalMap", name := "<init>", desc := "(III)V" } : Jvm.MethodName) prog_1_method_1_code (4 : Nat) (Option.none : Option Jvm.ClassFile.FieldType), Jvm.Cond.code ({ cls := "java/lang/Object", name := "<init>", desc := "()V" } : Jvm.MethodName) object_method_1_code (1 : Nat) (Option.none : Option Jvm.ClassFile.FieldType), Jvm.Cond.code ({ cls := "DeltaCausalMap", name := "clamp", desc := "(III)I" } : Jvm.MethodName) prog_1_method_45_code (4 : Nat) (Option.some Jvm.ClassFile.FieldType.int), Jvm.Cond.code ({ cls := "DeltaCausalMap", name := "write", desc := "(III)I" } : Jvm.MethodName) prog_1_method_2_code (5 : Nat) (Option.some Jvm.ClassFile.FieldType.int), Jvm.Cond.code ({ cls := "DeltaCausalMap", name := "refuseTarget", desc := "(II)I" } : Jvm.MethodName) prog_1_method_7_code (3 : Nat) (Option.some Jvm.ClassFile.FieldType.int), Jvm.Cond.code ({ cls := "DeltaCausalMap", name := "validReplica", desc := "(I)Z" } : Jvm.MethodName) prog_1_method_42_code (2 : Nat) (Option.some Jvm.ClassFile.FieldType.boolean), Jvm.Cond.code ({ cls := "DeltaCausalMap", name := "validKey", desc := "(I)Z" } : Jvm.MethodName) prog_1_method_43_code (2 : Nat) (Option.some Jvm.ClassFile.FieldType.boolean), Jvm.Cond.code ({ cls := "DeltaCausalMap", name := "registerValue", desc := "(III)I" } : Jvm.MethodName) prog_1_method_34_code (4 : Nat) (Option.some Jvm.ClassFile.FieldType.int), Jvm.Cond.code ({ cls := "DeltaCausalMap", name := "hasKey", desc := "(II)Z" } : Jvm.MethodName) prog_1_method_36_code (3 : Nat) (Option.some Jvm.ClassFile.FieldType.boolean), Jvm.Cond.code ({ cls := "DeltaCausalMap", name := "removeKey", desc := "(II)I" } : Jvm.MethodName) prog_1_method_5_code (3 : Nat) (Option.some Jvm.ClassFile.FieldType.int), Jvm.Cond.code ({ cls := "DeltaCausalMap", name := "mutate", desc := "(III)I" } : Jvm.MethodName) prog_1_method_6_code (5 : Nat) (Option.some Jvm.ClassFile.FieldType.int), Jvm.Cond.code ({ cls := "DeltaCausalMap", name := "exhausted", desc := "(I)Z" } : Jvm.MethodName) prog_1_method_8_code (2 : Nat) (Option.some Jvm.ClassFile.FieldType.boolean), Jvm.Cond.code ({ cls := "DeltaCausalMap", name := "makeOperation", desc := "(IIII)I" } : Jvm.MethodName) prog_1_method_9_code (11 : Nat) (Option.some Jvm.ClassFile.FieldType.int), Jvm.Cond.code ({ cls := "DeltaCausalMap", name := "coverFor", desc := "(III)J" } : Jvm.MethodName) prog_1_method_10_code (5 : Nat) (Option.some Jvm.ClassFile.FieldType.long), Jvm.Cond.code ({ cls := "DeltaCausalMap", name := "storeIndex", desc := "(II)I" } : Jvm.MethodName) prog_1_method_15_code (3 : Nat) (Option.some Jvm.ClassFile.FieldType.int), Jvm.Cond.code ({ cls := "DeltaCausalMap", name := "join", desc := "(IJ)V" } : Jvm.MethodName) prog_1_method_11_code (7 : Nat) (Option.none : Option Jvm.ClassFile.FieldType), Jvm.Cond.code ({ cls := "DeltaCausalMap", name := "addDot", desc := "(II)V" } : Jvm.MethodName) prog_1_method_12_code (7 : Nat) (Option.none : Option Jvm.ClassFile.FieldType), Jvm.Cond.code ({ cls := "DeltaCausalMap", name := "pruneStores", desc := "(IJ)V" } : Jvm.MethodName) prog_1_method_13_code (7 : Nat) (Option.none : Option Jvm.ClassFile.FieldType), Jvm.Cond.code ({ cls := "DeltaCausalMap", name := "recordChange", desc := "(IJ)V" } : Jvm.MethodName) prog_1_method_14_code (4 : Nat) (Option.none : Option Jvm.ClassFile.FieldType), Jvm.Cond.code ({ cls := "DeltaCausalMap", name := "refreshView", desc := "(I)V" } : Jvm.MethodName) prog_1_method_16_code (9 : Nat) (Option.none : Option Jvm.ClassFile.FieldType), Jvm.Cond.code ({ cls := "DeltaCausalMap", name := "refreshRegister", desc := "(IIJ)V" } : Jvm.MethodName) prog_1_method_17_code (6 : Nat) (Option.none : Option Jvm.ClassFile.FieldType), Jvm.Cond.code ({ cls := "DeltaCausalMap", name := "valueInSegment", desc := "(JI)I" } : Jvm.MethodName) prog_1_method_18_code (6 : Nat) (Option.some Jvm.ClassFile.FieldType.int), Jvm.Cond.code ({ cls := "DeltaCausalMap", name := "trim", desc := "(I)V" } : Jvm.MethodName) prog_1_method_19_code (3 : Nat) (Option.none : Option Jvm.ClassFile.FieldType), Jvm.Cond.code ({ cls := "DeltaCausalMap", name := "leastAck", desc := "(I)I" } : Jvm.MethodName) prog_1_method_20_code (4 : Nat) (Option.some Jvm.ClassFile.FieldType.int), Jvm.Cond.code ({ cls := "DeltaCausalMap", name := "known", desc := "(II)I" } : Jvm.MethodName) prog_1_method_37_code (3 : Nat) (Option.some Jvm.ClassFile.FieldType.int), Jvm.Cond.code ({ cls := "DeltaCausalMap", name := "protocol", desc := "(III)I" } : Jvm.MethodName) prog_1_method_38_code (4 : Nat) (Option.some Jvm.ClassFile.FieldType.int)]
set_option maxRecDepth 65536 in
theorem codes_eq : words1.filter isCode = codes1 := rfl
theorem w_codes : ∀ c ∈ words1.filter isCode, c.before args0 about1 = true := by
  rw [codes_eq]
  intro c hc
  simp only [codes1, List.mem_cons, List.not_mem_nil, or_false] at hc
  rcases hc with rfl | rfl | rfl | rfl | rfl | rfl | rfl | rfl | rfl | rfl | rfl | rfl | rfl | rfl | rfl | rfl | rfl | rfl | rfl | rfl | rfl | rfl | rfl | rfl | rfl | rfl | rfl
  · exact w_c0
  · exact w_c1
  · exact w_c2
  · exact w_c3
  · exact w_c4
  · exact w_c5
  · exact w_c6
  · exact w_c7
  · exact w_c8
  · exact w_c9
  · exact w_c10
  · exact w_c11
  · exact w_c12
  · exact w_c13
  · exact w_c14
  · exact w_c15
  · exact w_c16
  · exact w_c17
  · exact w_c18
  · exact w_c19
  · exact w_c20
  · exact w_c21
  · exact w_c22
  · exact w_c23
  · exact w_c24
  · exact w_c25
  · exact w_c26
set_option maxRecDepth 65536 in
theorem w_t1 : (words1.take 24).all (fun c => isCode c || c.before args0 about1) = true := by decide +kernel
set_option maxRecDepth 65536 in
theorem w_t2 : ((words1.drop 24).take 24).all (fun c => isCode c || c.before args0 about1) = true := by decide +kernel
set_option maxRecDepth 65536 in
theorem w_t3 : (((words1.drop 24).drop 24).take 24).all (fun c => isCode c || c.before args0 about1) = true := by decide +kernel
set_option maxRecDepth 65536 in
theorem w_t4 : ((((words1.drop 24).drop 24).drop 24).take 24).all (fun c => isCode c || c.before args0 about1) = true := by decide +kernel
set_option maxRecDepth 65536 in
theorem w_t5 : (((((words1.drop 24).drop 24).drop 24).drop 24).take 24).all (fun c => isCode c || c.before args0 about1) = true := by decide +kernel
set_option maxRecDepth 65536 in
theorem w_t6 : ((((((words1.drop 24).drop 24).drop 24).drop 24).drop 24).take 24).all (fun c => isCode c || c.before args0 about1) = true := by decide +kernel
set_option maxRecDepth 65536 in
theorem w_t7 : ((((((words1.drop 24).drop 24).drop 24).drop 24).drop 24).drop 24).all (fun c => isCode c || c.before args0 about1) = true := by decide +kernel
theorem w_tables : (allAtoms (Jvm.Cond.code x code maxLocals ret :: tables_1)).before args0 about1 = true := by
  rw [allAtoms_all]
  show words1.all (fun c => c.before args0 about1) = true
  refine all_split ?_ w_codes
  rw [← List.take_append_drop 24 words1, List.all_append, w_t1, ← List.take_append_drop 24 (words1.drop 24), List.all_append, w_t2, ← List.take_append_drop 24 ((words1.drop 24).drop 24), List.all_append, w_t3, ← List.take_append_drop 24 (((words1.drop 24).drop 24).drop 24), List.all_append, w_t4, ← List.take_append_drop 24 ((((words1.drop 24).drop 24).drop 24).drop 24), List.all_append, w_t5, ← List.take_append_drop 24 (((((words1.drop 24).drop 24).drop 24).drop 24).drop 24), List.all_append, w_t6, w_t7]
  rfl
set_option maxRecDepth 65536 in
theorem w_case : (Jvm.Cond.and given_1 narrow_1).before args0 about1 = true := by decide +kernel
theorem w_applies : (headSpec (Jvm.Cond.code x code maxLocals ret :: tables_1) room_1).applies x e0.platform about1 = true :=
  (Spec.applies_iff w_frames).mpr ⟨w_running, w_runnable, w_alone, w_named, w_hears, w_ripe, w_room, w_tables⟩
theorem atStart : AtStart classFile x code maxLocals ret World_1 tables_1 room_1 Calls_1 rest_1 Pre_1 launch0 p0 e0 about1 theMethod args0 below0 :=
  ⟨lists_1, trivial, launch0.admits_env _ _ _, launch0.least_env, fairChoices_fair.cas, fairChoices_fair.clock, w_frames, w_args, w_heap, w_applies, trivial, trivial, w_case⟩
end start1
theorem witness_1 : WitnessClaimed_1 := ⟨start1.p0, start1.e0, start1.about1, start1.theMethod, start1.args0, start1.below0, start1.atStart⟩
end Jvm.Pilot.@@N@@
