import JvmDerived
import JvmDerived.Pilot.@@N@@Statement
import JvmDerived.Pilot.@@N@@Code
set_option linter.unusedVariables false
set_option linter.unusedSimpArgs false
namespace Jvm.OwnKit
open Sem ClassFile Op Lib Jvm.Stand Jvm.Free Jvm.LawKit Jvm.RoadKit
/-! # 1. whole numbers for Java's ints and longs -/
def w32 (x : Int) : Int := (x + 2147483648) % 4294967296 - 2147483648
def w64 (x : Int) : Int := (x + 9223372036854775808) % 18446744073709551616 - 9223372036854775808
def R32 (x : Int) : Prop := -2147483648 ≤ x ∧ x < 2147483648
def R64 (x : Int) : Prop := -9223372036854775808 ≤ x ∧ x < 9223372036854775808
theorem r_w32 (x : Int) : R32 (w32 x) := by unfold R32 w32; omega
theorem r_w64 (x : Int) : R64 (w64 x) := by unfold R64 w64; omega
theorem w32_id {x : Int} (h : R32 x) : w32 x = x := by unfold R32 at h; unfold w32; omega
theorem w64_id {x : Int} (h : R64 x) : w64 x = x := by unfold R64 at h; unfold w64; omega
theorem bm32 (x : Int) : x.bmod 4294967296 = w32 x := by unfold w32; rw [Int.bmod_def]; split <;> omega
theorem bm64 (x : Int) : x.bmod 18446744073709551616 = w64 x := by unfold w64; rw [Int.bmod_def]; split <;> omega
theorem t32 {x : Int} (h : R32 x) : (Int32.ofInt x).toInt = x := Int32.toInt_ofInt_of_le (by unfold R32 at h; omega) (by unfold R32 at h; omega)
theorem t64 {x : Int} (h : R64 x) : (Int64.ofInt x).toInt = x := Int64.toInt_ofInt_of_le (by unfold R64 at h; omega) (by unfold R64 at h; omega)
theorem ri32 (x : Int32) : R32 x.toInt := ⟨by have := x.le_toInt; omega, by have := x.toInt_lt; omega⟩
theorem ri64 (x : Int64) : R64 x.toInt := ⟨by have := x.le_toInt; omega, by have := x.toInt_lt; omega⟩
theorem e32 {a : Int32} {x : Int} (h : R32 x) (e : a.toInt = x) : Int32.ofInt x = a := Int32.toInt_inj.mp (by rw [t32 h, e])
theorem e64 {a : Int64} {x : Int} (h : R64 x) (e : a.toInt = x) : Int64.ofInt x = a := Int64.toInt_inj.mp (by rw [t64 h, e])
theorem q_add {x y : Int} (hx : R32 x) (hy : R32 y) : Int32.ofInt (w32 (x + y)) = Int32.ofInt x + Int32.ofInt y := e32 (r_w32 _) (by rw [Int32.toInt_add, t32 hx, t32 hy]; exact bm32 _)
theorem q_sub {x y : Int} (hx : R32 x) (hy : R32 y) : Int32.ofInt (w32 (x - y)) = Int32.ofInt x - Int32.ofInt y := e32 (r_w32 _) (by rw [Int32.toInt_sub, t32 hx, t32 hy]; exact bm32 _)
theorem q_mul {x y : Int} (hx : R32 x) (hy : R32 y) : Int32.ofInt (w32 (x * y)) = Int32.ofInt x * Int32.ofInt y := e32 (r_w32 _) (by rw [Int32.toInt_mul, t32 hx, t32 hy]; exact bm32 _)
theorem q_neg {x : Int} (hx : R32 x) : Int32.ofInt (w32 (-x)) = -Int32.ofInt x := e32 (r_w32 _) (by rw [Int32.toInt_neg, t32 hx]; exact bm32 _)
theorem q_div {x y : Int} (hx : R32 x) (hy : R32 y) : Int32.ofInt (w32 (x.tdiv y)) = Int32.ofInt x / Int32.ofInt y := e32 (r_w32 _) (by rw [Int32.toInt_div, t32 hx, t32 hy]; exact bm32 _)
theorem r_tmod {x y : Int} (hx : R32 x) : R32 (x.tmod y) := by
  unfold R32 at hx ⊢
  have h1 : (x.tmod y).natAbs = x.natAbs % y.natAbs := Int.natAbs_tmod ..
  have h2 := Nat.mod_le x.natAbs y.natAbs
  rcases Int.le_total 0 x with h | h
  · have := Int.tmod_nonneg y h
    omega
  · have h3 := Int.tmod_nonneg y (show 0 ≤ -x by omega)
    rw [Int.neg_tmod] at h3
    omega
theorem q_rem {x y : Int} (hx : R32 x) (hy : R32 y) : Int32.ofInt (x.tmod y) = Int32.ofInt x - Int32.ofInt x / Int32.ofInt y * Int32.ofInt y :=
  e32 (r_tmod hx) (by rw [irem_eq_mod, Int32.toInt_mod, t32 hx, t32 hy])
theorem q_ladd {x y : Int} (hx : R64 x) (hy : R64 y) : Int64.ofInt (w64 (x + y)) = Int64.ofInt x + Int64.ofInt y := e64 (r_w64 _) (by rw [Int64.toInt_add, t64 hx, t64 hy]; exact bm64 _)
theorem q_lsub {x y : Int} (hx : R64 x) (hy : R64 y) : Int64.ofInt (w64 (x - y)) = Int64.ofInt x - Int64.ofInt y := e64 (r_w64 _) (by rw [Int64.toInt_sub, t64 hx, t64 hy]; exact bm64 _)
theorem q_lmul {x y : Int} (hx : R64 x) (hy : R64 y) : Int64.ofInt (w64 (x * y)) = Int64.ofInt x * Int64.ofInt y := e64 (r_w64 _) (by rw [Int64.toInt_mul, t64 hx, t64 hy]; exact bm64 _)
def iand (x y : Int) : Int := (Int32.ofInt x &&& Int32.ofInt y).toInt
def ior (x y : Int) : Int := (Int32.ofInt x ||| Int32.ofInt y).toInt
def ixor (x y : Int) : Int := (Int32.ofInt x ^^^ Int32.ofInt y).toInt
def ishl (x y : Int) : Int := (Int32.ofInt x <<< (Int32.ofInt y &&& 31)).toInt
def ishr (x y : Int) : Int := (Int32.ofInt x >>> (Int32.ofInt y &&& 31)).toInt
def iushr (x y : Int) : Int := (XT.ushr (Int32.ofInt x) (Int32.ofInt y)).toInt
def land (x y : Int) : Int := (Int64.ofInt x &&& Int64.ofInt y).toInt
def lor (x y : Int) : Int := (Int64.ofInt x ||| Int64.ofInt y).toInt
def lxor (x y : Int) : Int := (Int64.ofInt x ^^^ Int64.ofInt y).toInt
def lshl (x y : Int) : Int := (Int64.ofInt x <<< ((Int32.ofInt y).toInt64 &&& 63)).toInt
def lshr (x y : Int) : Int := (Int64.ofInt x >>> ((Int32.ofInt y).toInt64 &&& 63)).toInt
def lushr (x y : Int) : Int := (XT.ushrL (Int64.ofInt x) (Int32.ofInt y)).toInt
def i2b (x : Int) : Int := (x + 128) % 256 - 128
def i2s (x : Int) : Int := (x + 32768) % 65536 - 32768
def lcmp (x y : Int) : Int := if y < x then 1 else if x = y then 0 else -1
theorem q_i2b {x : Int} (hx : R32 x) : Int32.ofInt (i2b x) = (Int32.ofInt x).toInt8.toInt32 :=
  e32 (by unfold R32 i2b; omega) (by rw [Int8.toInt_toInt32, Int32.toInt_toInt8, t32 hx]; unfold i2b; rw [Int.bmod_def]; split <;> omega)
theorem q_i2s {x : Int} (hx : R32 x) : Int32.ofInt (i2s x) = (Int32.ofInt x).toInt16.toInt32 :=
  e32 (by unfold R32 i2s; omega) (by rw [Int16.toInt_toInt32, Int32.toInt_toInt16, t32 hx]; unfold i2s; rw [Int.bmod_def]; split <;> omega)
theorem q_i2l {x : Int} (hx : R32 x) : Int64.ofInt x = (Int32.ofInt x).toInt64 := e64 (by unfold R32 at hx; unfold R64; omega) (by rw [Int32.toInt_toInt64, t32 hx])
theorem q_l2i {x : Int} (hx : R64 x) : Int32.ofInt (w32 x) = (Int64.ofInt x).toInt32 := e32 (r_w32 _) (by rw [Int64.toInt_toInt32, t64 hx]; exact bm32 _)
theorem q_lcmp {x y : Int} (hx : R64 x) (hy : R64 y) : Int32.ofInt (lcmp x y) = XT.cmpL (Int64.ofInt x) (Int64.ofInt y) := by
  unfold lcmp XT.cmpL
  simp only [Int64.lt_iff_toInt_lt, ← Int64.toInt_inj, t64 hx, t64 hy]
  split
  · rfl
  · split <;> rfl
theorem r_lcmp (x y : Int) : R32 (lcmp x y) := by unfold R32 lcmp; split <;> (try split) <;> omega
theorem r_i2b (x : Int) : R32 (i2b x) := by unfold R32 i2b; omega
theorem r_i2s (x : Int) : R32 (i2s x) := by unfold R32 i2s; omega
theorem q_mod2 {x : Int} (hx : R32 x) : Int32.ofInt (x % 2) = Int32.ofInt x &&& 1 := by
  apply Int32.toInt_inj.mp
  rw [t32 (by unfold R32; omega)]
  rcases and_one (Int32.ofInt x) with h | h
  all_goals
    have h1 := congrArg (fun z : Int32 => z.toBitVec.toNat) h
    simp only [Int32.toBitVec_and] at h1
    have h2 : (Int32.ofInt x).toBitVec.toInt = x := t32 hx
    rw [BitVec.toInt_eq_toNat_cond] at h2
    have h3 : ((Int32.ofInt x).toBitVec &&& (1 : Int32).toBitVec).toNat = (Int32.ofInt x).toBitVec.toNat % 2 := by
      rw [BitVec.toNat_and]; exact Nat.and_one_is_mod _
    rw [h3] at h1
    rw [h]
    have h4 : (0 : Int32).toBitVec.toNat = 0 := rfl
    have h5 : (1 : Int32).toBitVec.toNat = 1 := rfl
    have h6 : (0 : Int32).toInt = 0 := rfl
    have h7 : (1 : Int32).toInt = 1 := rfl
    split at h2 <;> omega
/-! # 2. values, variables, the operand stack -/
abbrev AV : Type := Sum Int (Sum Int (Option Nat))
abbrev vI (x : Int) : AV := .inl x
abbrev vL (x : Int) : AV := .inr (.inl x)
abbrev vR (h : Nat) : AV := .inr (.inr (some h))
abbrev vN : AV := .inr (.inr none)
def conc (A : Nat → Addr) : AV → Value
  | .inl x => .int (Int32.ofInt x)
  | .inr (.inl x) => .long (Int64.ofInt x)
  | .inr (.inr (some h)) => .ref (A h)
  | .inr (.inr none) => .null
def okV : AV → Prop
  | .inl x => R32 x
  | .inr (.inl x) => R64 x
  | .inr (.inr _) => True
def okSt : List AV → Prop
  | [] => True
  | v :: st => okV v ∧ okSt st
/-- none: the second half of a long; some none: unset -/
abbrev Sl : Type := Option (Option AV)
abbrev sv (v : AV) : Sl := some (some v)
abbrev sU : Sl := some none
abbrev s2 : Sl := none
def concS (A : Nat → Addr) : Sl → Slot
  | none => .second
  | some none => .unset
  | some (some v) => .val (conc A v)
/-- a variable's slot by its kind: 0 one slot, 1 a long's first, 2 its second -/
def okS : Nat → Sl → Prop
  | k, none => k = 2
  | _, some none => True
  | k, some (some (.inl x)) => k = 0 ∧ R32 x
  | k, some (some (.inr (.inl x))) => k = 1 ∧ R64 x
  | k, some (some (.inr (.inr _))) => k = 0
def okL : List Nat → List Sl → Prop
  | [], [] => True
  | k :: ks, s :: ss => okS k s ∧ okL ks ss
  | _, _ => False
def nth {α : Type} : List α → Nat → Option α
  | [], _ => none
  | a :: _, 0 => some a
  | _ :: l, n + 1 => nth l n
def setN {α : Type} : List α → Nat → α → List α
  | [], _, _ => []
  | _ :: l, 0, b => b :: l
  | a :: l, n + 1, b => a :: setN l n b
theorem nth_eq {α : Type} : ∀ (l : List α) (k : Nat), nth l k = l[k]?
  | [], _ => by simp [nth]
  | a :: l, 0 => by simp [nth]
  | a :: l, n + 1 => by simp [nth, nth_eq l n]
theorem setN_eq {α : Type} : ∀ (l : List α) (k : Nat) (b : α), setN l k b = l.set k b
  | [], _, _ => by simp [setN]
  | a :: l, 0, b => by simp [setN]
  | a :: l, n + 1, b => by simp [setN, setN_eq l n]
def cL (A : Nat → Addr) (L : List Sl) : Array Slot := (L.map (concS A)).toArray
def cSt (A : Nat → Addr) (st : List AV) : List Value := st.map (conc A)
theorem cL_get {A : Nat → Addr} {L : List Sl} {k : Nat} {s : Sl} (h : nth L k = some s) : (cL A L)[k]? = some (concS A s) := by
  rw [nth_eq] at h; simp [cL, h]
theorem cL_set (A : Nat → Addr) (L : List Sl) (k : Nat) (s : Sl) : cL A (setN L k s) = (cL A L).setIfInBounds k (concS A s) := by
  rw [setN_eq]; simp [cL, List.map_set]
theorem okL_get : ∀ {ks : List Nat} {L : List Sl} {k : Nat} {s : Sl}, okL ks L → nth L k = some s → ∃ j, nth ks k = some j ∧ okS j s
  | [], [], _, _, _, h => by simp [nth] at h
  | [], _ :: _, _, _, ok, _ => ok.elim
  | _ :: _, [], _, _, ok, _ => ok.elim
  | j :: ks, s :: L, 0, s', ok, h => by simp only [nth, Option.some.injEq] at h; subst h; exact ⟨j, rfl, ok.1⟩
  | j :: ks, s :: L, n + 1, s', ok, h => okL_get (ks := ks) (L := L) (k := n) ok.2 h
theorem okL_at : ∀ {ks : List Nat} {L : List Sl} {k j : Nat}, okL ks L → nth ks k = some j → ∃ s, nth L k = some s ∧ okS j s
  | [], _, _, _, _, h => by simp [nth] at h
  | _ :: _, [], _, _, ok, _ => ok.elim
  | j :: ks, s :: L, 0, j', ok, h => by simp only [nth, Option.some.injEq] at h; subst h; exact ⟨s, rfl, ok.1⟩
  | j :: ks, s :: L, n + 1, j', ok, h => okL_at (ks := ks) (L := L) (k := n) ok.2 h
theorem okL_set : ∀ {ks : List Nat} {L : List Sl} {k j : Nat} {s : Sl}, okL ks L → nth ks k = some j → okS j s → okL ks (setN L k s)
  | [], _, _, _, _, _, h, _ => by simp [nth] at h
  | _ :: _, [], _, _, _, ok, _, _ => ok.elim
  | j :: ks, s0 :: L, 0, j', s, ok, h, hs => by simp only [nth, Option.some.injEq] at h; subst h; exact ⟨hs, ok.2⟩
  | j :: ks, s0 :: L, n + 1, j', s, ok, h, hs => ⟨ok.1, okL_set (ks := ks) (L := L) (k := n) ok.2 h hs⟩
theorem okL_len : ∀ {ks : List Nat} {L : List Sl}, okL ks L → L.length = ks.length
  | [], [], _ => rfl
  | [], _ :: _, ok => ok.elim
  | _ :: _, [], ok => ok.elim
  | _ :: ks, _ :: L, ok => by simp [okL_len (ks := ks) (L := L) ok.2]
theorem st1 {A : Nat → Addr} {km : List Nat} {L : List Sl} {k : Nat} (ok : okL km L) (hk : nth km k = some 0) {v : Value} (hv : v.category = 1) :
    storeLocals (cL A L) k v = some ((cL A L).setIfInBounds k (.val v)) := by
  obtain ⟨s, hs, hok⟩ := okL_at ok hk
  refine XS.store1 (cL_get hs) ?_ hv
  match s, hok with
  | some none, _ => exact Or.inl rfl
  | some (some (.inl x)), _ => exact Or.inr ⟨_, rfl, rfl⟩
  | some (some (.inr (.inr none))), _ => exact Or.inr ⟨_, rfl, rfl⟩
  | some (some (.inr (.inr (some h)))), _ => exact Or.inr ⟨_, rfl, rfl⟩
theorem store2 {l : Array Slot} {k : Nat} {x : Int64} {o o' : Slot} (h1 : l[k]? = some o) (h2 : l[k + 1]? = some o') (ho : o = .unset ∨ ∃ z, o = .val (.long z)) (ho' : o' = .unset ∨ o' = .second) :
    storeLocals l k (.long x) = some ((l.setIfInBounds k (.val (.long x))).setIfInBounds (k + 1) .second) := by
  obtain ⟨i1, g1⟩ := Array.getElem?_eq_some_iff.mp h1
  obtain ⟨i2, g2⟩ := Array.getElem?_eq_some_iff.mp h2
  have ne : k + 1 ≠ k := by omega
  have e : ((l.setIfInBounds (k + 1) .unset).setIfInBounds k (.val (.long x))).setIfInBounds (k + 1) .second = (l.setIfInBounds k (.val (.long x))).setIfInBounds (k + 1) .second := by
    apply Array.ext_getElem?
    intro i
    simp only [Array.getElem?_setIfInBounds, Array.size_setIfInBounds]
    by_cases q : k + 1 = i <;> by_cases q' : k = i <;> simp [q, q']
  rcases ho with rfl | ⟨z, rfl⟩ <;> rcases ho' with rfl | rfl <;> simp [storeLocals, storeSelf, setAt, Value.category, i1, i2, g1, g2, ne, e]
theorem st2 {A : Nat → Addr} {km : List Nat} {L : List Sl} {k : Nat} (ok : okL km L) (hk : nth km k = some 1) (hk' : nth km (k + 1) = some 2) {x : Int64} :
    storeLocals (cL A L) k (.long x) = some (((cL A L).setIfInBounds k (.val (.long x))).setIfInBounds (k + 1) .second) := by
  obtain ⟨s, hs, hok⟩ := okL_at ok hk
  obtain ⟨s', hs', hok'⟩ := okL_at ok hk'
  refine store2 (cL_get hs) (cL_get hs') ?_ ?_
  · match s, hok with
    | some none, _ => exact Or.inl rfl
    | some (some (.inr (.inl z))), _ => exact Or.inr ⟨_, rfl⟩
  · match s', hok' with
    | none, _ => exact Or.inr rfl
    | some none, _ => exact Or.inl rfl
end Jvm.OwnKit
namespace Jvm.OwnKit
open Sem ClassFile Op Lib Jvm.Stand Jvm.Free Jvm.LawKit Jvm.RoadKit
/-! # 3. plain instructions -/
def ldI (L : List Sl) (k : Nat) (st : List AV) : Option (List Sl × List AV) := match nth L k with
  | some (some (some (.inl x))) => some (L, .inl x :: st)
  | _ => none
def ldJ (L : List Sl) (k : Nat) (st : List AV) : Option (List Sl × List AV) := match nth L k with
  | some (some (some (.inr (.inl x)))) => some (L, .inr (.inl x) :: st)
  | _ => none
def ldA (L : List Sl) (k : Nat) (st : List AV) : Option (List Sl × List AV) := match nth L k with
  | some (some (some (.inr (.inr r)))) => some (L, .inr (.inr r) :: st)
  | _ => none
def stoI (km : List Nat) (L : List Sl) (k : Nat) (st : List AV) : Option (List Sl × List AV) := match nth km k, st with
  | some 0, .inl x :: st => some (setN L k (some (some (.inl x))), st)
  | _, _ => none
def stoA (km : List Nat) (L : List Sl) (k : Nat) (st : List AV) : Option (List Sl × List AV) := match nth km k, st with
  | some 0, .inr (.inr r) :: st => some (setN L k (some (some (.inr (.inr r)))), st)
  | _, _ => none
def stoJ (km : List Nat) (L : List Sl) (k : Nat) (st : List AV) : Option (List Sl × List AV) := match nth km k, nth km (k + 1), st with
  | some 1, some 2, .inr (.inl x) :: st => some (setN (setN L k (some (some (.inr (.inl x))))) (k + 1) none, st)
  | _, _, _ => none
def incI (km : List Nat) (L : List Sl) (k : Nat) (c : Int) (st : List AV) : Option (List Sl × List AV) := match nth km k, nth L k with
  | some 0, some (some (some (.inl x))) => some (setN L k (some (some (.inl (w32 (x + c))))), st)
  | _, _ => none
def bI (f : Int → Int → Int) (L : List Sl) (st : List AV) : Option (List Sl × List AV) := match st with
  | .inl y :: .inl x :: st => some (L, .inl (f x y) :: st)
  | _ => none
def bJ (f : Int → Int → Int) (L : List Sl) (st : List AV) : Option (List Sl × List AV) := match st with
  | .inr (.inl y) :: .inr (.inl x) :: st => some (L, .inr (.inl (f x y)) :: st)
  | _ => none
def sJ (f : Int → Int → Int) (L : List Sl) (st : List AV) : Option (List Sl × List AV) := match st with
  | .inl y :: .inr (.inl x) :: st => some (L, .inr (.inl (f x y)) :: st)
  | _ => none
def uI (f : Int → Int) (L : List Sl) (st : List AV) : Option (List Sl × List AV) := match st with
  | .inl x :: st => some (L, .inl (f x) :: st)
  | _ => none
def cat1 : AV → Bool
  | .inr (.inl _) => false
  | _ => true

def pst (km : List Nat) (i : Instr) (L : List Sl) (st : List AV) : Option (List Sl × List AV) := match i with
  | .iload k => ldI L k st
  | .iload_n k => ldI L k.val st
  | .lload k => ldJ L k st
  | .lload_n k => ldJ L k.val st
  | .aload k => ldA L k st
  | .aload_n k => ldA L k.val st
  | .istore k => stoI km L k st
  | .istore_n k => stoI km L k.val st
  | .lstore k => stoJ km L k st
  | .lstore_n k => stoJ km L k.val st
  | .astore k => stoA km L k st
  | .astore_n k => stoA km L k.val st
  | .iinc k c => incI km L k c st
  | .iconst c => some (L, .inl c :: st)
  | .bipush c => some (L, .inl c :: st)
  | .sipush c => some (L, .inl c :: st)
  | .lconst c => some (L, .inr (.inl (c.val : Int)) :: st)
  | .aconst_null => some (L, .inr (.inr none) :: st)
  | .iadd => bI (fun x y => w32 (x + y)) L st
  | .isub => bI (fun x y => w32 (x - y)) L st
  | .imul => bI (fun x y => w32 (x * y)) L st
  | .iand => bI iand L st
  | .ior => bI ior L st
  | .ixor => bI ixor L st
  | .ishl => bI ishl L st
  | .ishr => bI ishr L st
  | .iushr => bI iushr L st
  | .ladd => bJ (fun x y => w64 (x + y)) L st
  | .lsub => bJ (fun x y => w64 (x - y)) L st
  | .lmul => bJ (fun x y => w64 (x * y)) L st
  | .land => bJ land L st
  | .lor => bJ lor L st
  | .lxor => bJ lxor L st
  | .lshl => sJ lshl L st
  | .lshr => sJ lshr L st
  | .lushr => sJ lushr L st
  | .ineg => uI (fun x => w32 (-x)) L st
  | .i2b => uI i2b L st
  | .i2s => uI i2s L st
  | .i2l => match st with
    | .inl x :: st => some (L, .inr (.inl x) :: st)
    | _ => none
  | .l2i => match st with
    | .inr (.inl x) :: st => some (L, .inl (w32 x) :: st)
    | _ => none
  | .lcmp => match st with
    | .inr (.inl y) :: .inr (.inl x) :: st => some (L, .inl (lcmp x y) :: st)
    | _ => none
  | .pop => match st with
    | v :: st => bif cat1 v then some (L, st) else none
    | _ => none
  | .dup => match st with
    | v :: st => bif cat1 v then some (L, v :: v :: st) else none
    | _ => none
  | .dup2 => match st with
    | .inr (.inl x) :: st => some (L, .inr (.inl x) :: .inr (.inl x) :: st)
    | v :: w :: st => bif cat1 v && cat1 w then some (L, v :: w :: v :: w :: st) else none
    | _ => none
  | _ => none
/-- how long an instruction is (a tableswitch apart), and whether its constant is a small one -/
def ilen : Instr → Nat
  | .iload _ | .lload _ | .aload _ | .istore _ | .lstore _ | .astore _ => 2
  | .bipush _ | .ldc _ | .newarray _ => 2
  | .sipush _ | .iinc _ _ | .ldc_w _ | .ldc2_w _ | .goto _ | .ifCond _ _ | .if_icmp _ _ | .getfield _ | .putfield _ | .invokevirtual _ | .invokespecial _ | .invokestatic _ | .new _ => 3
  | _ => 1
def small : Instr → Bool
  | .iconst c => decide (-2147483648 ≤ c ∧ c < 2147483648)
  | .bipush c => decide (-128 ≤ c ∧ c < 128)
  | .sipush c => decide (-32768 ≤ c ∧ c < 32768)
  | .iinc _ c => decide (-2147483648 ≤ c ∧ c < 2147483648)
  | _ => true
theorem ldI_ok {L L' : List Sl} {k : Nat} {st st' : List AV} (h : ldI L k st = some (L', st')) : ∃ x, nth L k = some (sv (vI x)) ∧ L' = L ∧ st' = vI x :: st := by
  unfold ldI at h; split at h
  · rename_i x e; cases h; exact ⟨x, e, rfl, rfl⟩
  · cases h
theorem ldJ_ok {L L' : List Sl} {k : Nat} {st st' : List AV} (h : ldJ L k st = some (L', st')) : ∃ x, nth L k = some (sv (vL x)) ∧ L' = L ∧ st' = vL x :: st := by
  unfold ldJ at h; split at h
  · rename_i x e; cases h; exact ⟨x, e, rfl, rfl⟩
  · cases h
theorem ldA_ok {L L' : List Sl} {k : Nat} {st st' : List AV} (h : ldA L k st = some (L', st')) : ∃ r, nth L k = some (sv (.inr (.inr r))) ∧ L' = L ∧ st' = .inr (.inr r) :: st := by
  unfold ldA at h; split at h
  · rename_i x e; cases h; exact ⟨x, e, rfl, rfl⟩
  · cases h
theorem stoI_ok {km : List Nat} {L L' : List Sl} {k : Nat} {st st' : List AV} (h : stoI km L k st = some (L', st')) : ∃ x, nth km k = some 0 ∧ st = vI x :: st' ∧ L' = setN L k (sv (vI x)) := by
  unfold stoI at h; split at h
  · rename_i x st0 e; cases h; exact ⟨x, e, rfl, rfl⟩
  · cases h
theorem stoA_ok {km : List Nat} {L L' : List Sl} {k : Nat} {st st' : List AV} (h : stoA km L k st = some (L', st')) : ∃ r, nth km k = some 0 ∧ st = .inr (.inr r) :: st' ∧ L' = setN L k (sv (.inr (.inr r))) := by
  unfold stoA at h; split at h
  · rename_i x st0 e; cases h; exact ⟨x, e, rfl, rfl⟩
  · cases h
theorem stoJ_ok {km : List Nat} {L L' : List Sl} {k : Nat} {st st' : List AV} (h : stoJ km L k st = some (L', st')) : ∃ x, nth km k = some 1 ∧ nth km (k + 1) = some 2 ∧ st = vL x :: st' ∧ L' = setN (setN L k (sv (vL x))) (k + 1) none := by
  unfold stoJ at h; split at h
  · rename_i x st0 e e'; cases h; exact ⟨x, e, e', rfl, rfl⟩
  · cases h
theorem incI_ok {km : List Nat} {L L' : List Sl} {k : Nat} {c : Int} {st st' : List AV} (h : incI km L k c st = some (L', st')) : ∃ x, nth km k = some 0 ∧ nth L k = some (sv (vI x)) ∧ st' = st ∧ L' = setN L k (sv (vI (w32 (x + c)))) := by
  unfold incI at h; split at h
  · rename_i x e e'; cases h; exact ⟨x, e, e', rfl, rfl⟩
  · cases h
theorem bI_ok {f : Int → Int → Int} {L L' : List Sl} {st st' : List AV} (h : bI f L st = some (L', st')) : ∃ x y r, st = vI y :: vI x :: r ∧ L' = L ∧ st' = vI (f x y) :: r := by
  unfold bI at h; split at h
  · rename_i y x r; cases h; exact ⟨x, y, r, rfl, rfl, rfl⟩
  · cases h
theorem bJ_ok {f : Int → Int → Int} {L L' : List Sl} {st st' : List AV} (h : bJ f L st = some (L', st')) : ∃ x y r, st = vL y :: vL x :: r ∧ L' = L ∧ st' = vL (f x y) :: r := by
  unfold bJ at h; split at h
  · rename_i y x r; cases h; exact ⟨x, y, r, rfl, rfl, rfl⟩
  · cases h
theorem sJ_ok {f : Int → Int → Int} {L L' : List Sl} {st st' : List AV} (h : sJ f L st = some (L', st')) : ∃ x y r, st = vI y :: vL x :: r ∧ L' = L ∧ st' = vL (f x y) :: r := by
  unfold sJ at h; split at h
  · rename_i y x r; cases h; exact ⟨x, y, r, rfl, rfl, rfl⟩
  · cases h
theorem uI_ok {f : Int → Int} {L L' : List Sl} {st st' : List AV} (h : uI f L st = some (L', st')) : ∃ x r, st = vI x :: r ∧ L' = L ∧ st' = vI (f x) :: r := by
  unfold uI at h; split at h
  · rename_i x r; cases h; exact ⟨x, r, rfl, rfl, rfl⟩
  · cases h
theorem cat1_ok {A : Nat → Addr} {v : AV} (h : cat1 v = true) : (conc A v).category = 1 := by
  match v, h with
  | .inl x, _ => rfl
  | .inr (.inr none), _ => rfl
  | .inr (.inr (some a)), _ => rfl
theorem isRef_ok {A : Nat → Addr} (r : Option Nat) : (conc A (.inr (.inr r))).isRef = true := by cases r <;> rfl
theorem r_c8 {c : Int} (h : -128 ≤ c ∧ c < 128) : Int32.ofInt c = (Int8.ofInt c).toInt32 := by
  refine e32 (by unfold R32; omega) ?_
  rw [Int8.toInt_toInt32, Int8.toInt_ofInt_of_le (by omega) (by omega)]
theorem r_c16 {c : Int} (h : -32768 ≤ c ∧ c < 32768) : Int32.ofInt c = (Int16.ofInt c).toInt32 := by
  refine e32 (by unfold R32; omega) ?_
  rw [Int16.toInt_toInt32, Int16.toInt_ofInt_of_le (by omega) (by omega)]
theorem q_inc {x c : Int} (hx : R32 x) (hc : R32 c) : Int32.ofInt (w32 (x + c)) = Int32.ofInt x + Int32.ofInt c := q_add hx hc
section Pst
variable {tb : Tables} [Ours tb] {e : Env} {below : List Frame} {m : MethodId} {c : Code} {A : Nat → Addr}
/-- what a plain step's law says -/
def Goo (tb : Tables) [Ours tb] (e : Env) (below : List Frame) (m : MethodId) (c : Code) (A : Nat → Addr) (km : List Nat) (pc pc' : Nat) (L L' : List Sl) (st st' : List AV) : Prop :=
  (okL km L' ∧ okSt st') ∧ ∀ T, At T m c below → ∀ target, Steps tb e below (T.setTop (mkF m pc' (cL A L') (cSt A st'))) target → Steps tb e below (T.setTop (mkF m pc (cL A L) (cSt A st))) target
theorem cs_val {A : Nat → Addr} {v : AV} {w : Value} (h : conc A v = w) : concS A (sv v) = .val w := by rw [← h]; rfl

theorem pst_ok (hx : tb.exec = Jvm.exec) {pc : Nat} {i : Instr} {km : List Nat} {L L' : List Sl} {st st' : List AV} (hd : decode c.code pc = .ok (i, ilen i)) (hsm : small i = true)
    (hp : pst km i L st = some (L', st')) (ok : okL km L) (oks : okSt st) : Goo tb e below m c A km pc (pc + ilen i) L L' st st' := by
  cases i with
  | iload k =>
    obtain ⟨x, hl, rfl, rfl⟩ := ldI_ok hp
    obtain ⟨j, hj, hok⟩ := okL_get ok hl
    exact ⟨⟨ok, hok.2, oks⟩, fun T h target k => XS.iload h hx rfl hd (cL_get hl) k⟩
  | iload_n k =>
    obtain ⟨x, hl, rfl, rfl⟩ := ldI_ok hp
    obtain ⟨j, hj, hok⟩ := okL_get ok hl
    exact ⟨⟨ok, hok.2, oks⟩, fun T h target k => XS.iloadN h hx rfl hd (cL_get hl) k⟩
  | lload k =>
    obtain ⟨x, hl, rfl, rfl⟩ := ldJ_ok hp
    obtain ⟨j, hj, hok⟩ := okL_get ok hl
    exact ⟨⟨ok, hok.2, oks⟩, fun T h target k => XT.lload h hx rfl hd (cL_get hl) k⟩
  | lload_n k =>
    obtain ⟨x, hl, rfl, rfl⟩ := ldJ_ok hp
    obtain ⟨j, hj, hok⟩ := okL_get ok hl
    exact ⟨⟨ok, hok.2, oks⟩, fun T h target k => XT.lloadN h hx rfl hd (cL_get hl) k⟩
  | aload k =>
    obtain ⟨r, hl, rfl, rfl⟩ := ldA_ok hp
    exact ⟨⟨ok, trivial, oks⟩, fun T h target k => XS.aload h hx rfl hd (cL_get hl) (isRef_ok r) k⟩
  | aload_n k =>
    obtain ⟨r, hl, rfl, rfl⟩ := ldA_ok hp
    exact ⟨⟨ok, trivial, oks⟩, fun T h target k => XS.aloadN h hx rfl hd (cL_get hl) (isRef_ok r) k⟩
  | istore k =>
    obtain ⟨x, hk, rfl, rfl⟩ := stoI_ok hp
    exact ⟨⟨okL_set ok hk ⟨rfl, oks.1⟩, oks.2⟩, fun T h target k => XS.istore h hx rfl hd rfl (st1 ok hk rfl) (by rw [cL_set] at k; exact k)⟩
  | istore_n k =>
    obtain ⟨x, hk, rfl, rfl⟩ := stoI_ok hp
    exact ⟨⟨okL_set ok hk ⟨rfl, oks.1⟩, oks.2⟩, fun T h target k => XS.istoreN h hx rfl hd rfl (st1 ok hk rfl) (by rw [cL_set] at k; exact k)⟩
  | lstore k =>
    obtain ⟨x, hk, hk', rfl, rfl⟩ := stoJ_ok hp
    exact ⟨⟨okL_set (okL_set ok hk ⟨rfl, oks.1⟩) hk' rfl, oks.2⟩, fun T h target k => XT.lstore h hx rfl hd rfl (st2 ok hk hk') (by rw [cL_set, cL_set] at k; exact k)⟩
  | lstore_n k =>
    obtain ⟨x, hk, hk', rfl, rfl⟩ := stoJ_ok hp
    exact ⟨⟨okL_set (okL_set ok hk ⟨rfl, oks.1⟩) hk' rfl, oks.2⟩, fun T h target k => XT.lstoreN h hx rfl hd rfl (st2 ok hk hk') (by rw [cL_set, cL_set] at k; exact k)⟩
  | astore k =>
    obtain ⟨r, hk, rfl, rfl⟩ := stoA_ok hp
    exact ⟨⟨okL_set ok hk rfl, oks.2⟩, fun T h target k => XS.astore h hx rfl hd rfl (isRef_ok r) (st1 ok hk (cat1_ok (v := .inr (.inr r)) rfl)) (by rw [cL_set] at k; exact k)⟩
  | astore_n k =>
    obtain ⟨r, hk, rfl, rfl⟩ := stoA_ok hp
    exact ⟨⟨okL_set ok hk rfl, oks.2⟩, fun T h target k => XS.astoreN h hx rfl hd rfl (isRef_ok r) (st1 ok hk (cat1_ok (v := .inr (.inr r)) rfl)) (by rw [cL_set] at k; exact k)⟩
  | iinc k cc =>
    obtain ⟨x, hk, hl, rfl, rfl⟩ := incI_ok hp
    obtain ⟨j, hj, hok⟩ := okL_get ok hl
    have hc : R32 cc := (of_decide_eq_true hsm : -2147483648 ≤ cc ∧ cc < 2147483648)
    refine ⟨⟨okL_set ok hk ⟨rfl, r_w32 _⟩, oks⟩, fun T h target k => XS.iinc h hx rfl hd (cL_get hl) (st1 ok hk rfl) ?_⟩
    rw [cL_set, cs_val (w := .int (Int32.ofInt x + Int32.ofInt cc)) (by show Value.int _ = _; rw [q_inc hok.2 hc])] at k
    exact k
  | iconst cc =>
    cases hp
    have hc : R32 cc := (of_decide_eq_true hsm : -2147483648 ≤ cc ∧ cc < 2147483648)
    exact ⟨⟨ok, hc, oks⟩, fun T h target k => XS.iconst h hx rfl hd k⟩
  | bipush cc =>
    cases hp
    have hc := of_decide_eq_true hsm
    refine ⟨⟨ok, (by show R32 cc; unfold R32; omega), oks⟩, fun T h target k => XS.bipush h hx rfl hd ?_⟩
    rw [← r_c8 hc]
    exact k
  | sipush cc =>
    cases hp
    have hc := of_decide_eq_true hsm
    refine ⟨⟨ok, (by show R32 cc; unfold R32; omega), oks⟩, fun T h target k => XS.sipush h hx rfl hd ?_⟩
    rw [← r_c16 hc]
    exact k
  | lconst cc =>
    cases hp
    refine ⟨⟨ok, (by show R64 _; unfold R64; have := cc.isLt; omega), oks⟩, fun T h target k => XT.lconst h hx rfl hd ?_⟩
    rw [← Int64.ofInt_eq_ofNat]
    exact k
  | aconst_null =>
    cases hp
    exact ⟨⟨ok, trivial, oks⟩, fun T h target k => XS.aconstNull h hx rfl hd k⟩
  | iadd =>
    obtain ⟨x, y, r, rfl, rfl, rfl⟩ := bI_ok hp
    refine ⟨⟨ok, r_w32 _, oks.2.2⟩, fun T h target k => XS.iadd h hx rfl hd rfl ?_⟩
    rw [← q_add oks.2.1 oks.1]
    exact k
  | isub =>
    obtain ⟨x, y, r, rfl, rfl, rfl⟩ := bI_ok hp
    refine ⟨⟨ok, r_w32 _, oks.2.2⟩, fun T h target k => XS.isub h hx rfl hd rfl ?_⟩
    rw [← q_sub oks.2.1 oks.1]
    exact k
  | imul =>
    obtain ⟨x, y, r, rfl, rfl, rfl⟩ := bI_ok hp
    refine ⟨⟨ok, r_w32 _, oks.2.2⟩, fun T h target k => XS.imul h hx rfl hd rfl ?_⟩
    rw [← q_mul oks.2.1 oks.1]
    exact k
  | iand =>
    obtain ⟨x, y, r, rfl, rfl, rfl⟩ := bI_ok hp
    refine ⟨⟨ok, ri32 _, oks.2.2⟩, fun T h target k => XS.iand h hx rfl hd rfl ?_⟩
    have k' : Steps tb e below (T.setTop (mkF m (pc + 1) (cL A _) (.int (Int32.ofInt (iand x y)) :: cSt A r))) target := k
    rw [iand, Int32.ofInt_toInt] at k'
    exact k'
  | ior =>
    obtain ⟨x, y, r, rfl, rfl, rfl⟩ := bI_ok hp
    refine ⟨⟨ok, ri32 _, oks.2.2⟩, fun T h target k => XT.ior h hx rfl hd rfl ?_⟩
    have k' : Steps tb e below (T.setTop (mkF m (pc + 1) (cL A _) (.int (Int32.ofInt (ior x y)) :: cSt A r))) target := k
    rw [ior, Int32.ofInt_toInt] at k'
    exact k'
  | ixor =>
    obtain ⟨x, y, r, rfl, rfl, rfl⟩ := bI_ok hp
    refine ⟨⟨ok, ri32 _, oks.2.2⟩, fun T h target k => XT.ixor h hx rfl hd rfl ?_⟩
    have k' : Steps tb e below (T.setTop (mkF m (pc + 1) (cL A _) (.int (Int32.ofInt (ixor x y)) :: cSt A r))) target := k
    rw [ixor, Int32.ofInt_toInt] at k'
    exact k'
  | ishl =>
    obtain ⟨x, y, r, rfl, rfl, rfl⟩ := bI_ok hp
    refine ⟨⟨ok, ri32 _, oks.2.2⟩, fun T h target k => XT.ishl h hx rfl hd rfl ?_⟩
    have k' : Steps tb e below (T.setTop (mkF m (pc + 1) (cL A _) (.int (Int32.ofInt (ishl x y)) :: cSt A r))) target := k
    rw [ishl, Int32.ofInt_toInt] at k'
    exact k'
  | ishr =>
    obtain ⟨x, y, r, rfl, rfl, rfl⟩ := bI_ok hp
    refine ⟨⟨ok, ri32 _, oks.2.2⟩, fun T h target k => XT.ishr h hx rfl hd rfl ?_⟩
    have k' : Steps tb e below (T.setTop (mkF m (pc + 1) (cL A _) (.int (Int32.ofInt (ishr x y)) :: cSt A r))) target := k
    rw [ishr, Int32.ofInt_toInt] at k'
    exact k'
  | iushr =>
    obtain ⟨x, y, r, rfl, rfl, rfl⟩ := bI_ok hp
    refine ⟨⟨ok, ri32 _, oks.2.2⟩, fun T h target k => XT.iushr h hx rfl hd rfl ?_⟩
    have k' : Steps tb e below (T.setTop (mkF m (pc + 1) (cL A _) (.int (Int32.ofInt (iushr x y)) :: cSt A r))) target := k
    rw [iushr, Int32.ofInt_toInt] at k'
    exact k'
  | ladd =>
    obtain ⟨x, y, r, rfl, rfl, rfl⟩ := bJ_ok hp
    refine ⟨⟨ok, r_w64 _, oks.2.2⟩, fun T h target k => XT.ladd h hx rfl hd rfl ?_⟩
    rw [← q_ladd oks.2.1 oks.1]
    exact k
  | lsub =>
    obtain ⟨x, y, r, rfl, rfl, rfl⟩ := bJ_ok hp
    refine ⟨⟨ok, r_w64 _, oks.2.2⟩, fun T h target k => XT.lsub h hx rfl hd rfl ?_⟩
    rw [← q_lsub oks.2.1 oks.1]
    exact k
  | lmul =>
    obtain ⟨x, y, r, rfl, rfl, rfl⟩ := bJ_ok hp
    refine ⟨⟨ok, r_w64 _, oks.2.2⟩, fun T h target k => XT.lmul h hx rfl hd rfl ?_⟩
    rw [← q_lmul oks.2.1 oks.1]
    exact k
  | land =>
    obtain ⟨x, y, r, rfl, rfl, rfl⟩ := bJ_ok hp
    refine ⟨⟨ok, ri64 _, oks.2.2⟩, fun T h target k => XT.land h hx rfl hd rfl ?_⟩
    have k' : Steps tb e below (T.setTop (mkF m (pc + 1) (cL A _) (.long (Int64.ofInt (land x y)) :: cSt A r))) target := k
    rw [land, Int64.ofInt_toInt] at k'
    exact k'
  | lor =>
    obtain ⟨x, y, r, rfl, rfl, rfl⟩ := bJ_ok hp
    refine ⟨⟨ok, ri64 _, oks.2.2⟩, fun T h target k => XT.lor h hx rfl hd rfl ?_⟩
    have k' : Steps tb e below (T.setTop (mkF m (pc + 1) (cL A _) (.long (Int64.ofInt (lor x y)) :: cSt A r))) target := k
    rw [lor, Int64.ofInt_toInt] at k'
    exact k'
  | lxor =>
    obtain ⟨x, y, r, rfl, rfl, rfl⟩ := bJ_ok hp
    refine ⟨⟨ok, ri64 _, oks.2.2⟩, fun T h target k => XT.lxor h hx rfl hd rfl ?_⟩
    have k' : Steps tb e below (T.setTop (mkF m (pc + 1) (cL A _) (.long (Int64.ofInt (lxor x y)) :: cSt A r))) target := k
    rw [lxor, Int64.ofInt_toInt] at k'
    exact k'
  | lshl =>
    obtain ⟨x, y, r, rfl, rfl, rfl⟩ := sJ_ok hp
    refine ⟨⟨ok, ri64 _, oks.2.2⟩, fun T h target k => XT.lshl h hx rfl hd rfl ?_⟩
    have k' : Steps tb e below (T.setTop (mkF m (pc + 1) (cL A _) (.long (Int64.ofInt (lshl x y)) :: cSt A r))) target := k
    rw [lshl, Int64.ofInt_toInt] at k'
    exact k'
  | lshr =>
    obtain ⟨x, y, r, rfl, rfl, rfl⟩ := sJ_ok hp
    refine ⟨⟨ok, ri64 _, oks.2.2⟩, fun T h target k => XT.lshr h hx rfl hd rfl ?_⟩
    have k' : Steps tb e below (T.setTop (mkF m (pc + 1) (cL A _) (.long (Int64.ofInt (lshr x y)) :: cSt A r))) target := k
    rw [lshr, Int64.ofInt_toInt] at k'
    exact k'
  | lushr =>
    obtain ⟨x, y, r, rfl, rfl, rfl⟩ := sJ_ok hp
    refine ⟨⟨ok, ri64 _, oks.2.2⟩, fun T h target k => XT.lushr h hx rfl hd rfl ?_⟩
    have k' : Steps tb e below (T.setTop (mkF m (pc + 1) (cL A _) (.long (Int64.ofInt (lushr x y)) :: cSt A r))) target := k
    rw [lushr, Int64.ofInt_toInt] at k'
    exact k'
  | ineg =>
    obtain ⟨x, r, rfl, rfl, rfl⟩ := uI_ok hp
    refine ⟨⟨ok, r_w32 _, oks.2⟩, fun T h target k => XS.ineg h hx rfl hd rfl ?_⟩
    rw [← q_neg oks.1]
    exact k
  | i2b =>
    obtain ⟨x, r, rfl, rfl, rfl⟩ := uI_ok hp
    refine ⟨⟨ok, r_i2b _, oks.2⟩, fun T h target k => XT.i2b h hx rfl hd rfl ?_⟩
    rw [← q_i2b oks.1]
    exact k
  | i2s =>
    obtain ⟨x, r, rfl, rfl, rfl⟩ := uI_ok hp
    refine ⟨⟨ok, r_i2s _, oks.2⟩, fun T h target k => XT.i2s h hx rfl hd rfl ?_⟩
    rw [← q_i2s oks.1]
    exact k
  | i2l =>
    unfold pst at hp; simp only at hp; split at hp
    · rename_i x r
      cases hp
      refine ⟨⟨ok, (by have := oks.1; unfold okV R32 at this; show R64 x; unfold R64; omega), oks.2⟩, fun T h target k => XT.i2l h hx rfl hd rfl ?_⟩
      rw [← q_i2l oks.1]
      exact k
    · cases hp
  | l2i =>
    unfold pst at hp; simp only at hp; split at hp
    · rename_i x r
      cases hp
      refine ⟨⟨ok, r_w32 _, oks.2⟩, fun T h target k => XT.l2i h hx rfl hd rfl ?_⟩
      rw [← q_l2i oks.1]
      exact k
    · cases hp
  | lcmp =>
    unfold pst at hp; simp only at hp; split at hp
    · rename_i y x r
      cases hp
      refine ⟨⟨ok, r_lcmp _ _, oks.2.2⟩, fun T h target k => XT.lcmp h hx rfl hd rfl ?_⟩
      rw [← q_lcmp oks.2.1 oks.1]
      exact k
    · cases hp
  | pop =>
    unfold pst at hp; simp only at hp; split at hp
    · rename_i v r
      cases hc : cat1 v
      · rw [hc] at hp; cases hp
      · rw [hc] at hp; cases hp
        exact ⟨⟨ok, oks.2⟩, fun T h target k => XT.pop h hx rfl hd rfl (cat1_ok hc) k⟩
    · cases hp
  | dup =>
    unfold pst at hp; simp only at hp; split at hp
    · rename_i v r
      cases hc : cat1 v
      · rw [hc] at hp; cases hp
      · rw [hc] at hp; cases hp
        exact ⟨⟨ok, oks.1, oks.1, oks.2⟩, fun T h target k => XS.dup h hx rfl hd rfl (cat1_ok hc) k⟩
    · cases hp
  | dup2 =>
    unfold pst at hp; simp only at hp; split at hp
    · rename_i x r
      cases hp
      exact ⟨⟨ok, oks.1, oks.1, oks.2⟩, fun T h target k => XT.dup2L h hx rfl hd rfl k⟩
    · rename_i v w r hne
      cases hc : (cat1 v && cat1 w)
      · rw [hc] at hp; cases hp
      · rw [hc] at hp; cases hp
        rw [Bool.and_eq_true] at hc
        exact ⟨⟨ok, oks.1, oks.2.1, oks.1, oks.2.1, oks.2.2⟩, fun T h target k => XT.dup2 h hx rfl hd rfl (cat1_ok hc.1) (cat1_ok hc.2) k⟩
    · cases hp
  | _ => cases hp
end Pst
end Jvm.OwnKit
namespace Jvm.OwnKit
open Sem ClassFile Op Lib Jvm.Stand Jvm.Free Jvm.LawKit Jvm.RoadKit
/-! # 4. the machine: what a stretch of bytecode computes -/
abbrev Ent : Type := Nat × Instr × Nat × List Nat
def br {α : Type} (cd : ClassFile.Cond) (x y : Int) (a b : α) : α := match cd with
  | .eq => if x = y then a else b
  | .ne => if x = y then b else a
  | .lt => if x < y then a else b
  | .ge => if x < y then b else a
  | .gt => if y < x then a else b
  | .le => if y < x then b else a
def sw {α : Type} (x : Int) (d : α) (k : Nat → α) : Int → List Nat → α
  | _, [] => d
  | v, t :: ts => if x = v then k t else sw x d k (v + 1) ts
def look {α : Type} : List (Nat × α) → Nat → Option α
  | [], _ => none
  | e :: l, n => bif Nat.beq e.1 n then some e.2 else look l n
theorem look_mem {α : Type} : ∀ {l : List (Nat × α)} {n : Nat} {a : α}, look l n = some a → (n, a) ∈ l
  | [], _, _, h => by simp [look] at h
  | e :: l, n, a, h => by
    unfold look at h
    cases hb : Nat.beq e.1 n
    · rw [hb] at h; exact List.mem_cons_of_mem _ (look_mem (l := l) h)
    · rw [hb] at h
      have h1 := Nat.eq_of_beq_eq_true hb
      simp only [cond_true, Option.some.injEq] at h
      subst h1; subst h; exact List.mem_cons_self ..
abbrev RS (σ : Type) : Type := Option (Int × σ)
abbrev Fn (σ : Type) : Type := List Sl → List AV → Nat → σ → RS σ
abbrev Jn (σ : Type) : Type := List Sl → List AV → σ → RS σ
abbrev Hop (σ : Type) : Type := Instr → List AV → Nat → σ → (List AV → Nat → σ → RS σ) → RS σ
def act {σ : Type} (km : List Nat) (rk qF : Nat) (hop : Hop σ) (en : Ent) (L : List Sl) (st : List AV) (q : Nat) (S : σ) (go : Nat → Fn σ) : RS σ :=
  match en.2.1 with
  | .goto _ => go (en.2.2.2.headD 0) L st q S
  | .if_icmp cd _ => match st with
    | .inl y :: .inl x :: st => br cd x y (go (en.2.2.2.headD 0) L st q S) (go (en.1 + en.2.2.1) L st q S)
    | _ => none
  | .ifCond cd _ => match st with
    | .inl x :: st => br cd x 0 (go (en.2.2.2.headD 0) L st q S) (go (en.1 + en.2.2.1) L st q S)
    | _ => none
  | .tableswitch _ lo _ _ => match st with
    | .inl x :: st => sw x (go (en.2.2.2.headD 0) L st q S) (fun t => go t L st q S) lo en.2.2.2.tail
    | _ => none
  | .idiv => match st with
    | .inl y :: .inl x :: st => if y = 0 then none else go (en.1 + en.2.2.1) L (.inl (w32 (x.tdiv y)) :: st) q S
    | _ => none
  | .irem => match st with
    | .inl y :: .inl x :: st => if y = 0 then none else go (en.1 + en.2.2.1) L (.inl (x.tmod y) :: st) q S
    | _ => none
  | .ireturn => match st with
    | .inl x :: _ => bif Nat.beq q qF then (match rk with
      | 1 => some (x, S)
      | 3 => some (x % 2, S)
      | _ => none) else none
    | _ => none
  | .lreturn => match st with
    | .inr (.inl x) :: _ => bif Nat.beq q qF then (match rk with
      | 2 => some (x, S)
      | _ => none) else none
    | _ => none
  | .return_ => match st with
    | [] => bif Nat.beq q qF then (match rk with
      | 0 => some (0, S)
      | _ => none) else none
    | _ => none
  | i => match pst km i L st with
    | some r => go (en.1 + en.2.2.1) r.1 r.2 q S
    | none => hop i st q S (fun st' q' S' => go (en.1 + en.2.2.1) L st' q' S')
def den {σ : Type} (km : List Nat) (rk qF : Nat) (hop : Hop σ) (jl : List (Nat × Nat × Jn σ)) : List Ent → Nat → Fn σ
  | [], _, _, _, _, _ => none
  | en :: rest, pc, L, st, q, S =>
    bif Nat.beq en.1 pc then
      act km rk qF hop en L st q S (fun pc' L' st' q' S' => match look jl pc' with
        | some f => bif Nat.beq f.1 q' then f.2 L' st' S' else none
        | none => den km rk qF hop jl rest pc' L' st' q' S')
    else den km rk qF hop jl rest pc L st q S
def tgOk (en : Ent) : Bool := match en.2.1 with
  | .goto o => (match en.2.2.2 with | [t] => decide ((en.1 : Int) + o = t) | _ => false) && decide (en.2.2.1 = 3)
  | .ifCond _ o => (match en.2.2.2 with | [t] => decide ((en.1 : Int) + o = t) | _ => false) && decide (en.2.2.1 = 3)
  | .if_icmp _ o => (match en.2.2.2 with | [t] => decide ((en.1 : Int) + o = t) | _ => false) && decide (en.2.2.1 = 3)
  | .tableswitch d lo hi offs => match en.2.2.2 with
    | t :: ts => decide ((en.1 : Int) + d = t) && decide (offs.toList.map (fun o => (en.1 : Int) + o) = ts.map (fun (t : Nat) => (t : Int))) && decide (hi = lo + (ts.length : Int) - 1)
    | _ => false
  | i => decide (en.2.2.1 = ilen i)
def entOk (code : ByteArray) (en : Ent) : Bool := decide (decode code en.1 = .ok (en.2.1, en.2.2.1)) && small en.2.1 && tgOk en
def codeOk (code : ByteArray) (l : List Ent) : Bool := l.all (entOk code)
def Val (rk : Nat) (x : Int) : Option Value := match rk with
  | 0 => none
  | 2 => some (.long (Int64.ofInt x))
  | _ => some (.int (Int32.ofInt x))
def okR (rk : Nat) (x : Int) : Prop := match rk with
  | 0 => True
  | 2 => R64 x
  | _ => R32 x
def Qr {σ : Type} (rk qF : Nat) (Hp : Nat → σ → Heap → Prop) (r : Int × σ) (v : Option Value) (h : Heap) : Prop := v = Val rk r.1 ∧ okR rk r.1 ∧ Hp qF r.2 h
def RK (rk : Nat) (rt : Option FieldType) : Prop := (rk = 0 ∧ rt = none) ∨ (rk = 1 ∧ rt = some .int) ∨ (rk = 2 ∧ rt = some .long) ∨ (rk = 3 ∧ rt = some .boolean)
section Goes
variable (p : Program) (l : Launch) (e : Env) (R : Room) (s : State) (m : MethodId) (args : Array Value) (below : List Frame) (meth : Method) (c : Code)
/-- from pc, with these variables and this stack, over a heap that meets P, the run returns, and Q says what and over which heap -/
def Goes (n0 kc kn : Nat) (pc : Nat) (Ls : Array Slot) (st : List Value) (cells slots : Nat) (P : Heap → Prop) (Q : Option Value → Heap → Prop) : Prop :=
  ∀ (T : State) (L : List Jvm.Loc), Stand p l e R s m args below meth c T L cells slots → Fr n0 L → P T.heap →
    ∃ (t : State) (v : Option Value) (L' : List Jvm.Loc), Steps p.tables e below (T.setTop (mkF m pc Ls st)) t ∧ t.status = .running ∧ Ended t below (.returned v) ∧ Q v t.heap ∧ Fr n0 L' ∧ s.WarmedH t.vm ∧ s.sameButNew ({ t with vm := s.vm } : State) L' kc kn
def HopOk {σ : Type} (A : Nat → Addr) (n0 kc kn : Nat) (cA sA : Nat → Nat) (Hp : Nat → σ → Heap → Prop) (hop : Hop σ) : Prop :=
  ∀ (pc : Nat) (i : Instr) (L : List Sl) (st : List AV) (q : Nat) (S : σ) (k : List AV → Nat → σ → RS σ) (r : Int × σ), decode c.code pc = .ok (i, ilen i) → L.length = c.maxLocals → okSt st → hop i st q S k = some r →
    ∃ st' q' S', k st' q' S' = some r ∧ ∀ Q, (okSt st' → Goes p l e R s m args below meth c n0 kc kn (pc + ilen i) (cL A L) (cSt A st') (cA q') (sA q') (Hp q' S') Q) → Goes p l e R s m args below meth c n0 kc kn pc (cL A L) (cSt A st) (cA q) (sA q) (Hp q S) Q
def JOk {σ : Type} (A : Nat → Addr) (n0 kc kn : Nat) (cA sA : Nat → Nat) (Hp : Nat → σ → Heap → Prop) (km : List Nat) (rk qF : Nat) (x : Nat × Nat × Jn σ) : Prop :=
  ∀ (L : List Sl) (st : List AV) (S : σ) (r : Int × σ), x.2.2 L st S = some r → okL km L → okSt st →
    Goes p l e R s m args below meth c n0 kc kn x.1 (cL A L) (cSt A st) (cA x.2.1) (sA x.2.1) (Hp x.2.1 S) (Qr rk qF Hp r)
end Goes
section Den
variable {p : Program} {l : Launch} {e : Env} {R : Room} {s : State} {m : MethodId} {args : Array Value} {below : List Frame} {meth : Method} {c : Code}
theorem Goes.pre {n0 kc kn pc pc' cells slots : Nat} {Ls Ls' : Array Slot} {st st' : List Value} {P : Heap → Prop} {Q : Option Value → Heap → Prop}
    (h : Goes p l e R s m args below meth c n0 kc kn pc' Ls' st' cells slots P Q)
    (f : ∀ T, At T m c below → ∀ target, Steps p.tables e below (T.setTop (mkF m pc' Ls' st')) target → Steps p.tables e below (T.setTop (mkF m pc Ls st)) target) :
    Goes p l e R s m args below meth c n0 kc kn pc Ls st cells slots P Q := fun T L X N hP => by
  obtain ⟨t, v, L', h1, h2⟩ := h T L X N hP
  exact ⟨t, v, L', f T X.here t h1, h2⟩
theorem br_ok {α : Type} (cd : ClassFile.Cond) {x y : Int} (hx : R32 x) (hy : R32 y) (a b : α) : br cd x y a b = if if_icmp.holds cd (Int32.ofInt x) (Int32.ofInt y) = true then a else b := by
  have e1 : (Int32.ofInt x = Int32.ofInt y) ↔ x = y := by rw [← Int32.toInt_inj, t32 hx, t32 hy]
  have e2 : (Int32.ofInt x < Int32.ofInt y) ↔ x < y := by rw [Int32.lt_iff_toInt_lt, t32 hx, t32 hy]
  have e3 : (Int32.ofInt y < Int32.ofInt x) ↔ y < x := by rw [Int32.lt_iff_toInt_lt, t32 hx, t32 hy]
  have e4 : (Int32.ofInt x ≤ Int32.ofInt y) ↔ x ≤ y := by rw [Int32.le_iff_toInt_le, t32 hx, t32 hy]
  have e5 : (Int32.ofInt y ≤ Int32.ofInt x) ↔ y ≤ x := by rw [Int32.le_iff_toInt_le, t32 hx, t32 hy]
  cases cd
  · simp [br, if_icmp.holds, e1]
  · simp only [br, if_icmp.holds, bne_iff_ne, ne_eq, e1]; by_cases q : x = y <;> simp [q]
  · simp [br, if_icmp.holds, e2]
  · simp only [br, if_icmp.holds, ge_iff_le, decide_eq_true_eq, e5]; by_cases q : x < y
    · rw [if_pos q, if_neg (by omega)]
    · rw [if_neg q, if_pos (by omega)]
  · simp [br, if_icmp.holds, e3]
  · simp only [br, if_icmp.holds, decide_eq_true_eq, e4]; by_cases q : y < x
    · rw [if_pos q, if_neg (by omega)]
    · rw [if_neg q, if_pos (by omega)]
theorem br0_ok {α : Type} (cd : ClassFile.Cond) {x : Int} (hx : R32 x) (a b : α) : br cd x 0 a b = if ifCond.holds cd (Int32.ofInt x) = true then a else b := by
  rw [br_ok cd hx (show R32 0 by unfold R32; omega)]
  cases cd <;> rfl
theorem sw_cases {α : Type} (x : Int) (d : α) (k : Nat → α) : ∀ (ts : List Nat) (v : Int), (∃ j t, ts[j]? = some t ∧ x = v + (j : Nat) ∧ sw x d k v ts = k t) ∨ ((x < v ∨ v + (ts.length : Int) - 1 < x) ∧ sw x d k v ts = d)
  | [], v => Or.inr ⟨by simp; omega, rfl⟩
  | t :: ts, v => by
    unfold sw
    by_cases h : x = v
    · left; exact ⟨0, t, rfl, by simp [h], by rw [if_pos h]⟩
    · rw [if_neg h]
      rcases sw_cases x d k ts (v + 1) with ⟨j, t', h1, h2, h3⟩ | ⟨h1, h2⟩
      · left; exact ⟨j + 1, t', by simpa using h1, by push_cast; omega, h3⟩
      · right; exact ⟨by simp only [List.length_cons]; push_cast; omega, h2⟩
theorem Goes.ret {n0 kc kn pc cells slots : Nat} {Ls : Array Slot} {st : List Value} {P : Heap → Prop} {Q : Option Value → Heap → Prop} {v : Option Value} (hlk : meth.locks = false) (hv : meth.sig.returnType = none → v = none)
    (hc : cells ≤ kc) (hn : slots ≤ kn) (hQ : ∀ h, P h → Q v h)
    (hs : ∀ (T : State) (L : List Jvm.Loc), Stand p l e R s m args below meth c T L cells slots → ∀ fs, (∀ (f : JFrame) (acts : List Action), f.method = m → f.locked = none → f.entered = [] → (doReturn e (T.setTop f) acts v).1 = T.setFrames fs) → Steps p.tables e below (T.setTop (mkF m pc Ls st)) (T.setFrames fs)) :
    Goes p l e R s m args below meth c n0 kc kn pc Ls st cells slots P Q := fun T L X N hP => by
  obtain ⟨fs, hr, hrun, hended, hW, hsame⟩ := X.leave (v := v) hv hlk
  exact ⟨T.setFrames fs, v, L, hs T L X fs hr, hrun, hended, hQ _ hP, N, hW, hsame.mono hc hn⟩
theorem tg1 {tg : List Nat} {pc0 len : Nat} {o : Int} (h : ((match tg with | [t] => decide ((pc0 : Int) + o = t) | _ => false) && decide (len = 3)) = true) : ∃ t, tg = [t] ∧ (pc0 : Int) + o = (t : Nat) ∧ len = 3 := by
  rw [Bool.and_eq_true] at h
  obtain ⟨h1, h2⟩ := h
  split at h1
  · rename_i t; exact ⟨t, rfl, of_decide_eq_true h1, of_decide_eq_true h2⟩
  · cases h1
theorem tgs {tg : List Nat} {pc0 len : Nat} {d lo hi : Int} {offs : Array Int} (h : tgOk (pc0, .tableswitch d lo hi offs, len, tg) = true) : ∃ t ts, tg = t :: ts ∧ (pc0 : Int) + d = (t : Nat) ∧ offs.toList.map (fun o => (pc0 : Int) + o) = ts.map (fun (t : Nat) => (t : Int)) ∧ hi = lo + (ts.length : Int) - 1 := by
  simp only [tgOk] at h
  split at h
  · rename_i t ts
    simp only [Bool.and_eq_true, decide_eq_true_eq] at h
    exact ⟨t, ts, rfl, h.1.1, h.1.2, h.2⟩
  · cases h
theorem offs_at {pc0 : Nat} {offs : Array Int} {ts : List Nat} (h : offs.toList.map (fun o => (pc0 : Int) + o) = ts.map (fun (t : Nat) => (t : Int))) {j t : Nat} (hj : ts[j]? = some t) : ∃ o, offs[j]? = some o ∧ (pc0 : Int) + o = (t : Nat) := by
  have h1 : (ts.map (fun (t : Nat) => (t : Int)))[j]? = some (t : Int) := by simp [hj]
  rw [← h, List.getElem?_map] at h1
  cases ho : offs.toList[j]? with
  | none => rw [ho] at h1; cases h1
  | some o => rw [ho] at h1; exact ⟨o, by simpa using ho, by simpa using h1⟩
theorem ne0 {y : Int} (hy : R32 y) (h : ¬ y = 0) : Int32.ofInt y ≠ 0 := fun q => h (by
  have := congrArg Int32.toInt q
  rw [t32 hy] at this
  exact this)
theorem act_ok {σ : Type} {A : Nat → Addr} {n0 kc kn rk qF : Nat} {cA sA : Nat → Nat} {Hp : Nat → σ → Heap → Prop} {hop : Hop σ} {km : List Nat}
    (hx : p.tables.exec = Jvm.exec) (hlk : meth.locks = false) (hrk : RK rk meth.sig.returnType) (hkm : km.length = c.maxLocals) (hkc : cA qF ≤ kc) (hkn : sA qF ≤ kn)
    (hhop : HopOk p l e R s m args below meth c A n0 kc kn cA sA Hp hop) {pc0 : Nat} {i : Instr} {len : Nat} {tg : List Nat} (hent : entOk c.code (pc0, i, len, tg) = true) {L : List Sl} {st : List AV} {q : Nat} {S : σ} {r : Int × σ} {go : Nat → Fn σ}
    (hgo' : ∀ pc' L' st' q' S', go pc' L' st' q' S' = some r → okL km L' → okSt st' → Goes p l e R s m args below meth c n0 kc kn pc' (cL A L') (cSt A st') (cA q') (sA q') (Hp q' S') (Qr rk qF Hp r))
    (h : act km rk qF hop (pc0, i, len, tg) L st q S go = some r) (ok : okL km L) (oks : okSt st) : Goes p l e R s m args below meth c n0 kc kn pc0 (cL A L) (cSt A st) (cA q) (sA q) (Hp q S) (Qr rk qF Hp r) := by
  simp only [entOk, Bool.and_eq_true, decide_eq_true_eq] at hent
  obtain ⟨⟨hd, hsm⟩, htg⟩ := hent
  have plain : act km rk qF hop (pc0, i, len, tg) L st q S go = (match pst km i L st with | some r => go (pc0 + len) r.1 r.2 q S | none => hop i st q S (fun st' q' S' => go (pc0 + len) L st' q' S')) → len = ilen i → Goes p l e R s m args below meth c n0 kc kn pc0 (cL A L) (cSt A st) (cA q) (sA q) (Hp q S) (Qr rk qF Hp r) := by
    intro ha hlen
    subst hlen
    rw [ha] at h
    cases hp : pst km i L st with
    | some r' =>
      rw [hp] at h
      obtain ⟨L', st'⟩ := r'
      have w := pst_ok (A := A) (e := e) (below := below) (m := m) (tb := p.tables) hx hd hsm hp ok oks
      exact (hgo' _ _ _ _ _ h w.1.1 w.1.2).pre w.2
    | none =>
      rw [hp] at h
      obtain ⟨st', q', S', h1, h3⟩ := hhop pc0 i L st q S _ r hd (by rw [okL_len ok, hkm]) oks h
      exact h3 _ fun h2 => hgo' _ _ _ _ _ h1 ok h2
  cases i with
  | goto o =>
    obtain ⟨t, rfl, ht, rfl⟩ := tg1 htg
    exact (hgo' _ _ _ _ _ h ok oks).pre fun T hT target k => XS.goto (pc0 := pc0) hT hx rfl rfl hd (by omega) (by show ((pc0 : Int) + o).toNat = t; omega) k
  | if_icmp cd o =>
    obtain ⟨t, rfl, ht, rfl⟩ := tg1 htg
    simp only [act] at h
    split at h
    · rename_i y x st'
      rw [br_ok cd oks.2.1 oks.1] at h
      split at h
      · rename_i hh
        exact (hgo' _ _ _ _ _ h ok oks.2.2).pre fun T hT target k => XS.icmpYes (pc0 := pc0) hT hx rfl rfl hd rfl hh (by omega) (by show ((pc0 : Int) + o).toNat = t; omega) k
      · rename_i hh
        exact (hgo' _ _ _ _ _ h ok oks.2.2).pre fun T hT target k => XS.icmpNo hT hx rfl hd rfl (by simpa using hh) k
    · cases h
  | ifCond cd o =>
    obtain ⟨t, rfl, ht, rfl⟩ := tg1 htg
    simp only [act] at h
    split at h
    · rename_i x st'
      rw [br0_ok cd oks.1] at h
      split at h
      · rename_i hh
        exact (hgo' _ _ _ _ _ h ok oks.2).pre fun T hT target k => XS.ifYes (pc0 := pc0) hT hx rfl rfl hd rfl hh (by omega) (by show ((pc0 : Int) + o).toNat = t; omega) k
      · rename_i hh
        exact (hgo' _ _ _ _ _ h ok oks.2).pre fun T hT target k => XS.ifNo hT hx rfl hd rfl (by simpa using hh) k
    · cases h
  | tableswitch d lo hi offs =>
    obtain ⟨t, ts, rfl, ht, hts, hhi⟩ := tgs htg
    simp only [act] at h
    split at h
    · rename_i x st'
      rcases sw_cases x (go t L st' q S) (fun t => go t L st' q S) ts lo with ⟨j, tj, h1, h2, h3⟩ | ⟨h1, h3⟩
      · change sw x (go t L st' q S) (fun t => go t L st' q S) lo ts = some r at h
        rw [h3] at h
        have hj := (List.getElem?_eq_some_iff.mp h1).1
        obtain ⟨o, ho, hoo⟩ := offs_at hts h1
        refine (hgo' _ _ _ _ _ h ok oks.2).pre fun T hT target k => XS.tswIn (pc0 := pc0) hT hx rfl rfl hd rfl ?_ (o := o) ?_ (by omega) (by omega) k
        · rw [t32 oks.1]; omega
        · rw [t32 oks.1, show (x - lo).toNat = j by omega]; exact ho
      · change sw x (go t L st' q S) (fun t => go t L st' q S) lo ts = some r at h
        rw [h3] at h
        refine (hgo' _ _ _ _ _ h ok oks.2).pre fun T hT target k => XS.tswOut (pc0 := pc0) hT hx rfl rfl hd rfl ?_ (by omega) (by omega) k
        rw [t32 oks.1]; omega
    · cases h
  | idiv =>
    have hlen : len = 1 := of_decide_eq_true htg
    subst hlen
    simp only [act] at h
    split at h
    · rename_i y x st'
      split at h
      · cases h
      · rename_i hy
        refine (hgo' _ _ _ _ _ h ok ⟨r_w32 _, oks.2.2⟩).pre fun T hT target k => XS.idiv hT hx rfl hd rfl (ne0 oks.1 hy) ?_
        rw [← q_div oks.2.1 oks.1]
        exact k
    · cases h
  | irem =>
    have hlen : len = 1 := of_decide_eq_true htg
    subst hlen
    simp only [act] at h
    split at h
    · rename_i y x st'
      split at h
      · cases h
      · rename_i hy
        refine (hgo' _ _ _ _ _ h ok ⟨r_tmod oks.2.1, oks.2.2⟩).pre fun T hT target k => XS.irem hT hx rfl hd rfl (ne0 oks.1 hy) ?_
        rw [← q_rem oks.2.1 oks.1]
        exact k
    · cases h
  | ireturn =>
    have hlen : len = 1 := of_decide_eq_true htg
    subst hlen
    simp only [act] at h
    split at h
    · rename_i x st'
      cases hq : Nat.beq q qF
      · rw [hq] at h; cases h
      · rw [hq] at h
        have hqq := Nat.eq_of_beq_eq_true hq
        subst hqq
        simp only [cond_true] at h
        rcases hrk with ⟨rfl, hrt⟩ | ⟨rfl, hrt⟩ | ⟨rfl, hrt⟩ | ⟨rfl, hrt⟩
        · cases h
        · cases h
          exact Goes.ret hlk (fun h => by rw [hrt] at h; cases h) hkc hkn (fun h hP => ⟨rfl, oks.1, hP⟩) fun T L' X fs hr => retOut X hx hrt rfl (Or.inl ⟨rfl, Or.inl rfl, _, rfl⟩) hd hr
        · cases h
        · cases h
          refine Goes.ret (v := some (.int (nar .boolean (Int32.ofInt x)))) hlk (fun h => by rw [hrt] at h; cases h) hkc hkn (fun h hP => ⟨?_, (by show R32 (x % 2); unfold R32; omega), hP⟩) fun T L' X fs hr => retN X hx hrt (Or.inl rfl) hd hr
          show some (Value.int (Int32.ofInt x &&& 1)) = some (Value.int (Int32.ofInt (x % 2)))
          rw [q_mod2 oks.1]
    · cases h
  | lreturn =>
    have hlen : len = 1 := of_decide_eq_true htg
    subst hlen
    simp only [act] at h
    split at h
    · rename_i x st'
      cases hq : Nat.beq q qF
      · rw [hq] at h; cases h
      · rw [hq] at h
        have hqq := Nat.eq_of_beq_eq_true hq
        subst hqq
        simp only [cond_true] at h
        rcases hrk with ⟨rfl, hrt⟩ | ⟨rfl, hrt⟩ | ⟨rfl, hrt⟩ | ⟨rfl, hrt⟩
        · cases h
        · cases h
        · cases h
          exact Goes.ret hlk (fun h => by rw [hrt] at h; cases h) hkc hkn (fun h hP => ⟨rfl, oks.1, hP⟩) fun T L' X fs hr => retOut X hx hrt rfl (Or.inr (Or.inl ⟨rfl, rfl, _, rfl⟩)) hd hr
        · cases h
    · cases h
  | return_ =>
    have hlen : len = 1 := of_decide_eq_true htg
    subst hlen
    simp only [act] at h
    split at h
    · cases hq : Nat.beq q qF
      · rw [hq] at h; cases h
      · rw [hq] at h
        have hqq := Nat.eq_of_beq_eq_true hq
        subst hqq
        simp only [cond_true] at h
        rcases hrk with ⟨rfl, hrt⟩ | ⟨rfl, hrt⟩ | ⟨rfl, hrt⟩ | ⟨rfl, hrt⟩
        · cases h
          exact Goes.ret hlk (fun _ => rfl) hkc hkn (fun h hP => ⟨rfl, trivial, hP⟩) fun T L' X fs hr => X.returnOut hx hrt hd hr
        · cases h
        · cases h
        · cases h
    · cases h
  | _ => exact plain rfl (of_decide_eq_true htg)
theorem den_ok {σ : Type} {A : Nat → Addr} {n0 kc kn rk qF : Nat} {cA sA : Nat → Nat} {Hp : Nat → σ → Heap → Prop} {hop : Hop σ} {km : List Nat} {jl : List (Nat × Nat × Jn σ)}
    (hx : p.tables.exec = Jvm.exec) (hlk : meth.locks = false) (hrk : RK rk meth.sig.returnType) (hkm : km.length = c.maxLocals) (hkc : cA qF ≤ kc) (hkn : sA qF ≤ kn)
    (hhop : HopOk p l e R s m args below meth c A n0 kc kn cA sA Hp hop) (hJ : ∀ x ∈ jl, JOk p l e R s m args below meth c A n0 kc kn cA sA Hp km rk qF x) :
    ∀ (lst : List Ent), codeOk c.code lst = true → ∀ (pc : Nat) (L : List Sl) (st : List AV) (q : Nat) (S : σ) (r : Int × σ), den km rk qF hop jl lst pc L st q S = some r → okL km L → okSt st →
      Goes p l e R s m args below meth c n0 kc kn pc (cL A L) (cSt A st) (cA q) (sA q) (Hp q S) (Qr rk qF Hp r) := by
  intro lst
  induction lst with
  | nil => intro _ pc L st q S r h; simp [den] at h
  | cons en rest ih =>
    intro hcode pc L st q S r h ok oks
    simp only [codeOk, List.all_cons, Bool.and_eq_true] at hcode
    have ih' := ih hcode.2
    unfold den at h
    cases hb : Nat.beq en.1 pc
    · rw [hb] at h; exact ih' pc L st q S r h ok oks
    · rw [hb] at h
      have hpc := Nat.eq_of_beq_eq_true hb
      simp only [cond_true] at h
      obtain ⟨pc0, i, len, tg⟩ := en
      dsimp only at hpc
      subst hpc
      have hgo : ∀ pc' L' st' q' S', (match look jl pc' with | some f => bif Nat.beq f.1 q' then f.2 L' st' S' else none | none => den km rk qF hop jl rest pc' L' st' q' S') = some r → okL km L' → okSt st' → Goes p l e R s m args below meth c n0 kc kn pc' (cL A L') (cSt A st') (cA q') (sA q') (Hp q' S') (Qr rk qF Hp r) := by
        intro pc' L' st' q' S' h' ok' oks'
        cases hl : look jl pc' with
        | none => rw [hl] at h'; exact ih' pc' L' st' q' S' r h' ok' oks'
        | some f =>
          rw [hl] at h'
          cases hq : Nat.beq f.1 q'
          · simp only [hq, cond_false] at h'; cases h'
          · simp only [hq, cond_true] at h'
            have hqq := Nat.eq_of_beq_eq_true hq
            subst hqq
            exact hJ _ (look_mem hl) L' st' S' r h' ok' oks'
      generalize hgd : (fun (pc' : Nat) (L' : List Sl) (st' : List AV) (q' : Nat) (S' : σ) => match look jl pc' with | some f => bif Nat.beq f.1 q' then f.2 L' st' S' else none | none => den km rk qF hop jl rest pc' L' st' q' S') = go at h
      have hgo' : ∀ pc' L' st' q' S', go pc' L' st' q' S' = some r → okL km L' → okSt st' → Goes p l e R s m args below meth c n0 kc kn pc' (cL A L') (cSt A st') (cA q') (sA q') (Hp q' S') (Qr rk qF Hp r) := by
        intro pc' L' st' q' S' h' ok' oks'
        subst hgd
        exact hgo pc' L' st' q' S' h' ok' oks'
      exact act_ok hx hlk hrk hkm hkc hkn hhop hcode.1 hgo' h ok oks
/-! ## the machine that goes by its text: one instruction a turn -/
def seek : List Ent → Nat → List Ent
  | [], _ => []
  | e :: l, n => bif Nat.beq e.1 n then e :: l else seek l n
def seek2 (full rest : List Ent) (pc pc' : Nat) : List Ent := bif Nat.blt pc pc' then seek rest pc' else seek full pc'
def run {σ : Type} (km : List Nat) (rk qF : Nat) (hop : Hop σ) (full : List Ent) : Nat → List Ent → List Sl → List AV → Nat → σ → RS σ
  | 0, _, _, _, _, _ => none
  | _ + 1, [], _, _, _, _ => none
  | n + 1, en :: rest, L, st, q, S => act km rk qF hop en L st q S (fun pc' L' st' q' S' => run km rk qF hop full n (seek2 full rest en.1 pc') L' st' q' S')
theorem seek_ok (code : ByteArray) : ∀ (l : List Ent) (n : Nat), codeOk code l = true → codeOk code (seek l n) = true ∧ (seek l n = [] ∨ ∃ en rest, seek l n = en :: rest ∧ en.1 = n)
  | [], _, h => ⟨h, Or.inl rfl⟩
  | e :: l, n, h => by
    unfold seek
    cases hb : Nat.beq e.1 n
    · simp only [cond_false]
      have h' := h
      simp only [codeOk, List.all_cons, Bool.and_eq_true] at h'
      exact seek_ok code l n h'.2
    · simp only [cond_true]
      exact ⟨h, Or.inr ⟨e, l, rfl, Nat.eq_of_beq_eq_true hb⟩⟩
theorem seek2_ok (code : ByteArray) {full rest : List Ent} (hf : codeOk code full = true) (hr : codeOk code rest = true) (pc n : Nat) : codeOk code (seek2 full rest pc n) = true ∧ (seek2 full rest pc n = [] ∨ ∃ en rest', seek2 full rest pc n = en :: rest' ∧ en.1 = n) := by
  unfold seek2
  cases Nat.blt pc n
  · exact seek_ok code full n hf
  · exact seek_ok code rest n hr
theorem run_nil {σ : Type} {km : List Nat} {rk qF : Nat} {hop : Hop σ} {full : List Ent} {L : List Sl} {st : List AV} {q : Nat} {S : σ} : ∀ n, run km rk qF hop full n [] L st q S = none
  | 0 => rfl
  | _ + 1 => rfl
theorem run_ok {σ : Type} {A : Nat → Addr} {n0 kc kn rk qF : Nat} {cA sA : Nat → Nat} {Hp : Nat → σ → Heap → Prop} {hop : Hop σ} {km : List Nat}
    (hx : p.tables.exec = Jvm.exec) (hlk : meth.locks = false) (hrk : RK rk meth.sig.returnType) (hkm : km.length = c.maxLocals) (hkc : cA qF ≤ kc) (hkn : sA qF ≤ kn)
    (hhop : HopOk p l e R s m args below meth c A n0 kc kn cA sA Hp hop) {full : List Ent} (hfull : codeOk c.code full = true) :
    ∀ (n : Nat) (en : Ent) (rest : List Ent) (L : List Sl) (st : List AV) (q : Nat) (S : σ) (r : Int × σ), codeOk c.code (en :: rest) = true → run km rk qF hop full n (en :: rest) L st q S = some r → okL km L → okSt st →
      Goes p l e R s m args below meth c n0 kc kn en.1 (cL A L) (cSt A st) (cA q) (sA q) (Hp q S) (Qr rk qF Hp r) := by
  intro n
  induction n with
  | zero => intro en rest L st q S r _ h; cases h
  | succ n ih =>
    intro en rest L st q S r hc h ok oks
    have hc' := hc
    simp only [codeOk, List.all_cons, Bool.and_eq_true] at hc'
    obtain ⟨pc0, i, len, tg⟩ := en
    unfold run at h
    refine act_ok hx hlk hrk hkm hkc hkn hhop hc'.1 (fun pc' L' st' q' S' h' ok' oks' => ?_) h ok oks
    obtain ⟨k1, k2⟩ := seek2_ok c.code hfull hc'.2 pc0 pc'
    rcases k2 with e | ⟨en', rest', e, e'⟩
    · dsimp only at h'
      rw [e, run_nil] at h'; cases h'
    · dsimp only at h'
      rw [e] at h' k1
      have := ih en' rest' L' st' q' S' r k1 h' ok' oks'
      rw [e'] at this
      exact this
end Den
/-! ## the same, said of every run -/
def Ctx (l : Launch) (Z : State) (own : String) (bytes : ByteArray) (maxL : Nat) (ret : Option FieldType) (ct : Bool) (R : Room) (p : Program) (e : Env) (s : State) (m : MethodId) (args : Array Value) (below : List Frame) (meth : Method) (c : Code) : Prop :=
  p.tables.exec = Jvm.exec ∧ c.code = bytes ∧ c.maxLocals = maxL ∧ meth.sig.returnType = ret ∧ meth.locks = false ∧ Z.Warmed39 s.vm ∧ s.vm.findClass own = some m.cls ∧ (ct = true → meth.name = "<init>")
section All
variable {σ ι : Type}
def HopAll (l : Launch) (Z : State) (own : String) (bytes : ByteArray) (maxL : Nat) (ret : Option FieldType) (ct : Bool) (R : Room) (A : ι → Nat → Addr) (n0 hz : ι → Nat) (cA sA : Nat → Nat) (Hp : ι → Nat → σ → Heap → Prop) (hop : Hop σ) : Prop :=
  ∀ p e s m args below meth c, Ctx l Z own bytes maxL ret ct R p e s m args below meth c → ∀ i : ι, s.heap.size = hz i → HopOk p l e R s m args below meth c (A i) (n0 i) R.cells R.slots cA sA (Hp i) hop
def Blk (l : Launch) (Z : State) (own : String) (bytes : ByteArray) (maxL : Nat) (ret : Option FieldType) (ct : Bool) (R : Room) (A : ι → Nat → Addr) (n0 hz : ι → Nat) (cA sA : Nat → Nat) (Hp : ι → Nat → σ → Heap → Prop) (km : List Nat) (rk qF : Nat) (x : Nat × Nat × Jn σ) : Prop :=
  ∀ p e s m args below meth c, Ctx l Z own bytes maxL ret ct R p e s m args below meth c → ∀ i : ι, s.heap.size = hz i → JOk p l e R s m args below meth c (A i) (n0 i) R.cells R.slots cA sA (Hp i) km rk qF x
variable {l : Launch} {Z : State} {own : String} {bytes : ByteArray} {maxL : Nat} {ret : Option FieldType} {ct : Bool} {R : Room} {A : ι → Nat → Addr} {n0 hz : ι → Nat} {cA sA : Nat → Nat} {Hp : ι → Nat → σ → Heap → Prop} {km : List Nat} {rk qF : Nat} {hop : Hop σ}
theorem blk_of_den {jl : List (Nat × Nat × Jn σ)} {lst : List Ent} {pc q : Nat} {fn : Jn σ} (hhop : HopAll l Z own bytes maxL ret ct R A n0 hz cA sA Hp hop) (hrk : RK rk ret) (hkm : km.length = maxL) (hkc : cA qF ≤ R.cells) (hkn : sA qF ≤ R.slots) (hcode : codeOk bytes lst = true)
    (hJ : ∀ x ∈ jl, Blk l Z own bytes maxL ret ct R A n0 hz cA sA Hp km rk qF x) (hfn : ∀ L st S r, okL km L → fn L st S = some r → den km rk qF hop jl lst pc L st q S = some r) : Blk l Z own bytes maxL ret ct R A n0 hz cA sA Hp km rk qF (pc, q, fn) := by
  intro p e s m args below meth c hc i hsz L st S r h ok oks
  obtain ⟨h1, h2, h3, h4, h5, h6, h7, h8⟩ := hc
  exact den_ok h1 h5 (by rw [h4]; exact hrk) (by rw [h3]; exact hkm) hkc hkn (hhop p e s m args below meth c ⟨h1, h2, h3, h4, h5, h6, h7, h8⟩ i hsz) (fun x hx => hJ x hx p e s m args below meth c ⟨h1, h2, h3, h4, h5, h6, h7, h8⟩ i hsz) lst (by rw [h2]; exact hcode) pc L st q S r (hfn L st S r ok h) ok oks
theorem blk_none {pc q : Nat} {fn : Jn σ} (h : ∀ L st S, fn L st S = none) : Blk l Z own bytes maxL ret ct R A n0 hz cA sA Hp km rk qF (pc, q, fn) := by
  intro p e s m args below meth c hc i hsz L st S r hh
  rw [show (pc, q, fn).2.2 L st S = none from h L st S] at hh; cases hh
theorem blk_of_run {full : List Ent} {n q : Nat} (hhop : HopAll l Z own bytes maxL ret ct R A n0 hz cA sA Hp hop) (hrk : RK rk ret) (hkm : km.length = maxL) (hkc : cA qF ≤ R.cells) (hkn : sA qF ≤ R.slots) (hcode : codeOk bytes full = true) :
    Blk l Z own bytes maxL ret ct R A n0 hz cA sA Hp km rk qF (0, q, fun L st S => run km rk qF hop full n (seek full 0) L st q S) := by
  intro p e s m args below meth c hc i hsz L st S r h ok oks
  obtain ⟨h1, h2, h3, h4, h5, h6, h7, h8⟩ := hc
  have hcode' : codeOk c.code full = true := by rw [h2]; exact hcode
  obtain ⟨k1, k2⟩ := seek_ok c.code full 0 hcode'
  dsimp only at h ⊢
  rcases k2 with e' | ⟨en', rest', e', e''⟩
  · rw [e', run_nil] at h; cases h
  · rw [e'] at h k1
    have := run_ok h1 h5 (by rw [h4]; exact hrk) (by rw [h3]; exact hkm) hkc hkn (hhop p e s m args below meth c ⟨h1, h2, h3, h4, h5, h6, h7, h8⟩ i hsz) hcode' n en' rest' L st q S r k1 h ok oks
    rw [e''] at this
    exact this
def flat : List AV → List Sl
  | [] => []
  | .inr (.inl x) :: as => sv (vL x) :: s2 :: flat as
  | v :: as => sv v :: flat as
def entryL (as : List AV) (maxL : Nat) : List Sl := flat as ++ List.replicate (maxL - (flat as).length) sU
theorem flat_fold (A : Nat → Addr) : ∀ (as : List AV) (acc : Array Slot), (as.map (conc A)).foldl (init := acc) (fun acc v => if v.category = 2 then (acc.push (.val v)).push .second else acc.push (.val v)) = acc ++ ((flat as).map (concS A)).toArray
  | [], acc => by simp [flat]
  | .inl x :: as, acc => by
    have h : (conc A (.inl x)).category = 1 := rfl
    simp only [List.map_cons, List.foldl_cons, flat]
    rw [flat_fold A as]; simp [h, concS, ← Array.append_singleton_assoc]
  | .inr (.inl x) :: as, acc => by
    have h : (conc A (.inr (.inl x))).category = 2 := rfl
    simp only [List.map_cons, List.foldl_cons, flat]
    rw [flat_fold A as]; simp [h, concS, ← Array.append_singleton_assoc]
  | .inr (.inr r) :: as, acc => by
    have h : (conc A (.inr (.inr r))).category = 1 := by cases r <;> rfl
    simp only [List.map_cons, List.foldl_cons, flat]
    rw [flat_fold A as]; simp [h, concS, ← Array.append_singleton_assoc]
theorem entry_eq (A : Nat → Addr) (m : MethodId) (as : List AV) (maxL : Nat) : entryFrame m (as.map (conc A)).toArray maxL = mkF m 0 (cL A (entryL as maxL)) [] := by
  have h : argsToLocals (as.map (conc A)).toArray maxL = cL A (entryL as maxL) := by
    unfold argsToLocals
    simp only [List.foldl_toArray]
    rw [flat_fold A as #[]]
    simp [cL, entryL, concS]
  simp [entryFrame, h]
theorem met_of_blk {y : MethodName} {ws : List Jvm.Cond} {q0 : Nat} {fn : Jn σ} (hB : Blk l Z own bytes maxL ret ct R A n0 hz cA sA Hp km rk qF (0, q0, fn)) (hpl : plainName y.cls = true) (hy : y.cls = own) (hct : ct = true → y.name = "<init>") (h0c : cA q0 = 0) (h0s : sA q0 = 0)
    {i : ι} {as : List AV} {S : σ} {r : Int × σ} {h0 : Heap} (hf : fn (entryL as maxL) [] S = some r) (hok : okL km (entryL as maxL)) (hH : Hp i q0 S h0) (hz0 : h0.size = hz i) :
    MetFree l y (head1 (Jvm.Cond.code y bytes maxL ret :: ws) R) (fun a U => a = (as.map (conc (A i))).toArray ∧ Z.Warmed39 U.vm ∧ U.heap = h0) (fun _ _ _ _ _ => True)
      (fun _ U o U' => ∃ v L, o = .returned v ∧ ((v = Val rk r.1 ∧ okR rk r.1) ∧ Fr (n0 i) L ∧ Hp i qF r.2 U'.heap) ∧ FrameEnd U o U' L R.cells R.slots) := by
  refine MetFree.of_bodySF (plainFor_of_name hpl) hisR ?_
  intro p e s m args below meth c s₁ Bd hml0 hP hK
  obtain ⟨rfl, hZ, hh⟩ := hP
  have hown : s.vm.findClass own = some m.cls := by rw [← hy]; exact findClass_of_methodNamed Bd.named
  have hnm := (name_of_methodNamed Bd.named Bd.method).1
  have X0 : Stand p l e R s m (as.map (conc (A i))).toArray below meth c s₁ [] 0 0 := Stand.of_body Bd
  have e0 : s₁.heap = h0 := by rw [← hh, Bd.state]; rfl
  have G := hB p e s m (as.map (conc (A i))).toArray below meth c ⟨Bd.exec, Bd.bytes, hml0, Bd.returns, Bd.notSynchronized, hZ, hown, fun h => by rw [hnm]; exact hct h⟩ i (by rw [hh]; exact hz0) (entryL as maxL) [] S r hf hok trivial
  obtain ⟨t, v, L, h1, h2, h3, h4, h5, h6, h7⟩ := G s₁ [] (by dsimp only; rw [h0c, h0s]; exact X0) (Fr.nil _) (by rw [e0]; exact hH)
  exact ⟨t, .returned v, castTop (entry_eq (A i) m as maxL) h1, h2, h3, v, L, rfl, ⟨⟨h4.1, h4.2.1⟩, h5, h4.2.2⟩, ⟨v, rfl⟩, h6, h7⟩
end All
end Jvm.OwnKit
namespace Jvm.OwnKit
open Sem ClassFile Op Lib Jvm.Stand Jvm.Free Jvm.LawKit Jvm.RoadKit
/-! # 5. an object and its arrays -/
abbrev St : Type := Nat → Int → Int
def stw (S : St) (h : Nat) (i v : Int) : St := fun h' i' => if h' = h ∧ i' = i then v else S h' i'
/-- a field: its pool number; its place in S 0, its kind (0 int, 1 boolean, h + 2 a reference to the array h), 1 if final, name, descriptor -/
abbrev FE : Type := Nat × Int × Nat × Nat × String × String
/-- an array: its number; its kind (0 int, 1 boolean, 2 byte, 3 short, 4 long), its length -/
abbrev AE : Type := Nat × Nat × Int
def tyOf : Nat → FieldType
  | 0 => .int
  | 1 => .boolean
  | 2 => .byte
  | 3 => .short
  | _ => .long
def isJ (k : Nat) : Bool := Nat.beq k 4
def ev (k : Nat) (x : Int) : Value := bif isJ k then .long (Int64.ofInt x) else .int (Int32.ofInt x)
def el (k : Nat) (x : Int) : AV := bif isJ k then vL x else vI x
def okE (k : Nat) (x : Int) : Prop := bif isJ k then R64 x else R32 x
theorem conc_el (A : Nat → Addr) (k : Nat) (x : Int) : conc A (el k x) = ev k x := by unfold el ev; cases isJ k <;> rfl
theorem okV_el {k : Nat} {x : Int} (h : okE k x) : okV (el k x) := by unfold okE at h; unfold el; cases hj : isJ k <;> rw [hj] at h <;> exact h
theorem ok0 (k : Nat) : okE k 0 := by unfold okE; cases isJ k <;> (simp only [cond_true, cond_false]; first | (unfold R32; omega) | (unfold R64; omega))
def fval (a q : Nat) (S : St) (f : FE) : Value := match f.2.2.1 with
  | 0 => .int (Int32.ofInt (S 0 f.2.1))
  | 1 => .int (Int32.ofInt (S 0 f.2.1))
  | h + 2 => if 2 * h ≤ q then .ref (a + h) else .null
def ArrIs (Z : State) (h : Heap) (b k : Nat) (len : Int) (g : Int → Int) : Prop := ∃ cell : Cell, Arr Z h b cell (tyOf k) ∧ (cell.slots.size : Int) = len ∧ ∀ i : Nat, i < cell.slots.size → cell.slots[i]? = some (ev k (g i)) ∧ okE k (g i)
def Clu (Z : State) (a : Nat) (C : String) (fs : List FE) (as : List AE) (q : Nat) (S : St) (h : Heap) : Prop :=
  Exa Z h a C ∧ (∀ f ∈ fs, Fld Z h a C f.2.2.2.2.1 f.2.2.2.2.2 (fval a q S f) ∧ (f.2.2.1 < 2 → R32 (S 0 f.2.1))) ∧
  (∀ t ∈ as, 2 * t.1 ≤ q + 1 → ArrIs Z h (a + t.1) t.2.1 t.2.2 (S t.1)) ∧ (∀ t ∈ as, q + 1 < 2 * t.1 → ∀ i, S t.1 i = 0)
def Off (h0 h : Heap) (a K : Nat) (ct : Bool) (q : Nat) : Prop := (∀ b, b < a → h[b]? = h0[b]?) ∧ (∀ b, a + K < b → h[b]? = h0[b]?) ∧ h.size = (bif ct then a + 1 + (q + 1) / 2 else h0.size)
def fsOk (fs : List FE) (as : List AE) (K : Nat) : Bool :=
  fs.all (fun x => fs.all (fun y => decide (x.1 = y.1) || (decide (x.2.1 ≠ y.2.1) && decide (x.2.2.2.2.1 ≠ y.2.2.2.2.1) && (decide (x.2.2.1 < 2) || decide (x.2.2.1 ≠ y.2.2.1))))) &&
  fs.all (fun x => match x.2.2.1 with
    | 0 => decide (parseFieldDescriptor x.2.2.2.2.2 = some .int)
    | 1 => decide (parseFieldDescriptor x.2.2.2.2.2 = some .boolean)
    | h + 2 => as.any (fun t => decide (t.1 = h) && decide (parseFieldDescriptor x.2.2.2.2.2 = some (.array (tyOf t.2.1))))) &&
  as.all (fun x => as.all (fun y => decide (x = y) || decide (x.1 ≠ y.1))) && as.all (fun x => decide (1 ≤ x.1) && decide (x.1 ≤ K) && decide (x.2.1 ≤ 4) && decide (0 ≤ x.2.2) && decide (x.2.2 ≤ 1000000))
def keysOk : List FE → Bool
  | [] => true
  | x :: fs => fs.all (fun y => decide (x.1 ≠ y.1)) && keysOk fs
theorem keys_inj : ∀ {fs : List FE}, keysOk fs = true → ∀ {x y : FE}, x ∈ fs → y ∈ fs → x.1 = y.1 → x = y
  | [], _, _, _, hx, _, _ => (nomatch hx)
  | z :: fs, hk, x, y, hx, hy, he => by
    simp only [keysOk, Bool.and_eq_true, List.all_eq_true, decide_eq_true_eq] at hk
    rcases List.mem_cons.mp hx with e1 | h1 <;> rcases List.mem_cons.mp hy with e2 | h2
    · rw [e1, e2]
    · subst e1; exact absurd he (hk.1 _ h2)
    · subst e2; exact absurd he.symm (hk.1 _ h1)
    · exact keys_inj hk.2 h1 h2 he
def FOk (Z : State) (a0 : Array Value) (C : String) (x : FE) : Prop := (Jvm.Cond.fieldLink C x.1 C x.2.2.2.2.1 x.2.2.2.2.2).before a0 Z = true ∧ ((x.2.2.2.1 = 0 ∧ (Jvm.Cond.lays C C x.2.2.2.2.1 x.2.2.2.2.2).before a0 Z = true) ∨ (x.2.2.2.1 ≠ 0 ∧ (Jvm.Cond.laysFinal C C x.2.2.2.2.1 x.2.2.2.2.2).before a0 Z = true))
theorem fc {α : Type} {P : α → Prop} {a : α} {l : List α} (h : P a) (t : ∀ x ∈ l, P x) : ∀ x ∈ a :: l, P x := fun x hx => (List.mem_cons.mp hx).elim (fun e => e ▸ h) (t x)
theorem fn {α : Type} {P : α → Prop} : ∀ x ∈ ([] : List α), P x := fun _ h => nomatch h
def ClsOk (Z : State) (a0 : Array Value) (C : String) (kk : Nat) (fs : List FE) (as : List AE) (K : Nat) : Prop :=
  (Jvm.Cond.instantiable C kk).before a0 Z = true ∧ (∀ x ∈ fs, FOk Z a0 C x) ∧
  (∀ t ∈ as, (Jvm.Cond.arrayClass (tyOf t.2.1)).before a0 Z = true) ∧ fsOk fs as K = true ∧ keysOk fs = true
section Clu
variable {Z : State} {a0 : Array Value} {C : String} {kk : Nat} {fs : List FE} {as : List AE} {K a q : Nat} {S : St} {h h' h0 : Heap} {ct : Bool}
theorem ClsOk.field (H : ClsOk Z a0 C kk fs as K) {x y : FE} (hx : x ∈ fs) (hy : y ∈ fs) : x = y ∨ (x.2.1 ≠ y.2.1 ∧ x.2.2.2.2.1 ≠ y.2.2.2.2.1 ∧ (x.2.2.1 < 2 ∨ x.2.2.1 ≠ y.2.2.1)) := by
  obtain ⟨-, -, -, h4, h5⟩ := H
  simp only [fsOk, Bool.and_eq_true, List.all_eq_true, Bool.or_eq_true, decide_eq_true_eq] at h4
  rcases h4.1.1.1 x hx y hy with h | ⟨⟨h1, h2⟩, h3⟩
  · exact Or.inl (keys_inj h5 hx hy h)
  · exact Or.inr ⟨h1, h2, h3⟩
theorem ClsOk.desc (H : ClsOk Z a0 C kk fs as K) {x : FE} (hx : x ∈ fs) : (x.2.2.1 = 0 ∧ parseFieldDescriptor x.2.2.2.2.2 = some .int) ∨ (x.2.2.1 = 1 ∧ parseFieldDescriptor x.2.2.2.2.2 = some .boolean) ∨ ∃ t ∈ as, x.2.2.1 = t.1 + 2 ∧ parseFieldDescriptor x.2.2.2.2.2 = some (.array (tyOf t.2.1)) := by
  obtain ⟨-, -, -, h4, -⟩ := H
  simp only [fsOk, Bool.and_eq_true, List.all_eq_true] at h4
  have h := h4.1.1.2 x hx
  split at h
  · rename_i e; exact Or.inl ⟨e, of_decide_eq_true h⟩
  · rename_i e; exact Or.inr (Or.inl ⟨e, of_decide_eq_true h⟩)
  · rename_i n e
    obtain ⟨t, ht, h⟩ := List.any_eq_true.mp h
    rw [Bool.and_eq_true, decide_eq_true_eq, decide_eq_true_eq] at h
    exact Or.inr (Or.inr ⟨t, ht, by rw [e, h.1], h.2⟩)
theorem ClsOk.laid (H : ClsOk Z a0 C kk fs as K) {x : FE} (hx : x ∈ fs) : Laid Z a0 C C x.2.2.2.2.1 x.2.2.2.2.2 := (H.2.1 x hx).2.imp (·.2) (·.2)
theorem ClsOk.parse (H : ClsOk Z a0 C kk fs as K) {x : FE} (hx : x ∈ fs) : ∃ t, parseFieldDescriptor x.2.2.2.2.2 = some t := by
  rcases H.desc hx with ⟨-, e⟩ | ⟨-, e⟩ | ⟨t, -, -, e⟩ <;> exact ⟨_, e⟩
theorem ClsOk.slots (H : ClsOk Z a0 C kk fs as K) {x y : FE} (hx : x ∈ fs) (hy : y ∈ fs) (hn : x.2.2.2.2.1 ≠ y.2.2.2.2.1) : Jvm.RoadKit.slotOf Z C x.2.2.2.2.1 x.2.2.2.2.2 ≠ Jvm.RoadKit.slotOf Z C y.2.2.2.2.1 y.2.2.2.2.2 := by
  obtain ⟨t, ht⟩ := H.parse hx
  obtain ⟨t', ht'⟩ := H.parse hy
  exact slot_ne (H.laid hx) (H.laid hy) hn ht ht'
theorem ClsOk.arr (H : ClsOk Z a0 C kk fs as K) {x y : AE} (hx : x ∈ as) (hy : y ∈ as) (h : x.1 = y.1) : x = y := by
  obtain ⟨-, -, -, h4, -⟩ := H
  simp only [fsOk, Bool.and_eq_true, List.all_eq_true, Bool.or_eq_true, decide_eq_true_eq] at h4
  rcases h4.1.2 x hx y hy with e | e
  · exact e
  · exact absurd h e
theorem ClsOk.arrK (H : ClsOk Z a0 C kk fs as K) {x : AE} (hx : x ∈ as) : 1 ≤ x.1 ∧ x.1 ≤ K ∧ x.2.1 ≤ 4 ∧ 0 ≤ x.2.2 ∧ x.2.2 ≤ 1000000 := by
  obtain ⟨-, -, -, h4, -⟩ := H
  simp only [fsOk, Bool.and_eq_true, List.all_eq_true, decide_eq_true_eq] at h4
  have h := h4.2 x hx
  exact ⟨h.1.1.1.1, h.1.1.1.2, h.1.1.2, h.1.2, h.2⟩
theorem clu_int (H : ClsOk Z a0 C kk fs as K) (c : Clu Z a C fs as q S h) {x : FE} (hx : x ∈ fs) (hk : x.2.2.1 < 2) {v : Int} (hv : R32 v) (W : Wr h h' a (Jvm.RoadKit.slotOf Z C x.2.2.2.2.1 x.2.2.2.2.2) (.int (Int32.ofInt v))) : Clu Z a C fs as q (stw S 0 x.2.1 v) h' := by
  obtain ⟨c1, c2, c3, c4⟩ := c
  refine ⟨c1.wr W, fun y hy => ?_, fun t ht hq => ?_, fun t ht hq i => ?_⟩
  · rcases H.field hx hy with rfl | ⟨n1, n2, -⟩
    · have e : fval a q (stw S 0 x.2.1 v) x = .int (Int32.ofInt v) := by
        unfold fval
        have : x.2.2.1 = 0 ∨ x.2.2.1 = 1 := by omega
        rcases this with e | e <;> rw [e] <;> simp [stw]
      exact ⟨by rw [e]; exact (c2 x hy).1.same W, fun _ => by simpa [stw] using hv⟩
    · have e : stw S 0 x.2.1 v 0 y.2.1 = S 0 y.2.1 := by simp [stw, Ne.symm n1]
      have e' : fval a q (stw S 0 x.2.1 v) y = fval a q S y := by unfold fval; split <;> simp [e]
      exact ⟨by rw [e']; exact (c2 y hy).1.other W (Or.inr (H.slots hy hx (Ne.symm n2))), fun hk' => by rw [e]; exact (c2 y hy).2 hk'⟩
  · have hK := H.arrK ht
    obtain ⟨cell, g1, g2, g3⟩ := c3 t ht hq
    have e : stw S 0 x.2.1 v t.1 = S t.1 := by funext i; have : t.1 ≠ 0 := by omega
                                               simp [stw, this]
    exact ⟨cell, g1.other W (show (a + t.1 : Nat) ≠ a by omega), g2, by rw [e]; exact g3⟩
  · have hK := H.arrK ht
    have : t.1 ≠ 0 := by omega
    have := c4 t ht hq i
    simp [stw, *]
theorem clu_arr (H : ClsOk Z a0 C kk fs as K) (c : Clu Z a C fs as q S h) {t : AE} (ht : t ∈ as) (hq : 2 * t.1 ≤ q + 1) {i v : Int} (hi : 0 ≤ i) (hi' : i < t.2.2) (hv : okE t.2.1 v) (W : Wr h h' (a + t.1) i.toNat (ev t.2.1 v)) : Clu Z a C fs as q (stw S t.1 i v) h' := by
  obtain ⟨c1, c2, c3, c4⟩ := c
  have hK := H.arrK ht
  refine ⟨c1.wr W, fun y hy => ?_, fun u hu hq' => ?_, fun u hu hq' j => ?_⟩
  · have e : stw S t.1 i v 0 y.2.1 = S 0 y.2.1 := by have : ¬ (0 = t.1) := by omega
                                                     simp [stw, this]
    have e' : fval a q (stw S t.1 i v) y = fval a q S y := by unfold fval; split <;> simp [e]
    exact ⟨by rw [e']; exact (c2 y hy).1.other W (Or.inl (show (a : Nat) ≠ a + t.1 by omega)), fun hk' => by rw [e]; exact (c2 y hy).2 hk'⟩
  · by_cases hut : u.1 = t.1
    · have := H.arr hu ht hut
      subst this
      obtain ⟨cell, g1, g2, g3⟩ := c3 u hu hq'
      refine ⟨_, g1.same W, by rw [sz_set]; exact g2, fun j hj => ?_⟩
      rw [sz_set] at hj
      by_cases hji : (j : Int) = i
      · have : j = i.toNat := by omega
        subst this
        have e : stw S u.1 i v u.1 ((i.toNat : Nat) : Int) = v := by simp [stw, hji]
        rw [e]
        exact ⟨by simp [Cell.setSlot, hj], hv⟩
      · have e : stw S u.1 i v u.1 (j : Int) = S u.1 j := by simp [stw, hji]
        rw [e]
        refine ⟨?_, (g3 j hj).2⟩
        rw [← (g3 j hj).1]
        exact Array.getElem?_setIfInBounds_ne (by omega)
    · obtain ⟨cell, g1, g2, g3⟩ := c3 u hu hq'
      have e : stw S t.1 i v u.1 = S u.1 := by funext j; simp [stw, hut]
      exact ⟨cell, g1.other W (show (a + u.1 : Nat) ≠ a + t.1 by omega), g2, by rw [e]; exact g3⟩
  · have : u.1 ≠ t.1 := by omega
    have := c4 u hu hq' j
    simp [stw, *]
theorem clu_ref (H : ClsOk Z a0 C kk fs as K) (c : Clu Z a C fs as q S h) {x : FE} (hx : x ∈ fs) {n : Nat} (hk : x.2.2.1 = n + 2) (hq : q + 1 = 2 * n) (W : Wr h h' a (Jvm.RoadKit.slotOf Z C x.2.2.2.2.1 x.2.2.2.2.2) (.ref (a + n))) : Clu Z a C fs as (q + 1) S h' := by
  obtain ⟨c1, c2, c3, c4⟩ := c
  refine ⟨c1.wr W, fun y hy => ⟨?_, (c2 y hy).2⟩, fun t ht hq' => ?_, fun t ht hq' => c4 t ht (by omega)⟩
  · rcases H.field hx hy with rfl | ⟨n1, n2, n3⟩
    · have e : fval a (q + 1) S x = .ref (a + n) := by unfold fval; rw [hk]; simp; omega
      rw [e]; exact (c2 x hy).1.same W
    · have e : fval a (q + 1) S y = fval a q S y := by
        unfold fval
        split
        · rfl
        · rfl
        · rename_i h2 e2
          have : h2 ≠ n := fun z => by subst z; rcases n3 with n3 | n3 <;> omega
          by_cases z : 2 * h2 ≤ q
          · rw [if_pos z, if_pos (by omega)]
          · rw [if_neg z, if_neg (by omega)]
      rw [e]; exact (c2 y hy).1.other W (Or.inr (H.slots hy hx (Ne.symm n2)))
  · have hK := H.arrK ht
    obtain ⟨cell, g1, g2, g3⟩ := c3 t ht (by omega)
    exact ⟨cell, g1.other W (show (a + t.1 : Nat) ≠ a by omega), g2, g3⟩
theorem clu_new (H : ClsOk Z a0 C kk fs as K) (c : Clu Z a C fs as q S h) {t : AE} (ht : t ∈ as) (hq : q + 2 = 2 * t.1) {cA : ClassId} {n : Int32} (hn : n.toInt = t.2.2) (E : Ext h h') (Ar : Arr Z h' (a + t.1) (newA cA (tyOf t.2.1) n) (tyOf t.2.1)) : Clu Z a C fs as (q + 1) S h' := by
  obtain ⟨c1, c2, c3, c4⟩ := c
  have hKt := H.arrK ht
  refine ⟨c1.ext E, fun y hy => ⟨?_, (c2 y hy).2⟩, fun u hu hq' => ?_, fun u hu hq' => c4 u hu (by omega)⟩
  · have e : fval a (q + 1) S y = fval a q S y := by
      unfold fval
      split
      · rfl
      · rfl
      · rename_i h2 e2
        by_cases z : 2 * h2 ≤ q
        · rw [if_pos z, if_pos (by omega)]
        · rw [if_neg z, if_neg (by omega)]
    rw [e]; exact (c2 y hy).1.ext E
  · by_cases hut : u.1 = t.1
    · have := H.arr hu ht hut
      subst this
      have hz := c4 u hu (by omega)
      refine ⟨_, Ar, by rw [sz_new, ← hn]; have := hKt.2.2.2.1; simp only [Int32.toNatClampNeg]; omega, fun j hj => ?_⟩
      rw [sz_new] at hj
      rw [hz]
      refine ⟨?_, ok0 _⟩
      have hd : defaultValue (tyOf u.2.1) = ev u.2.1 0 := by
        have h4 := hKt.2.2.1
        generalize u.2.1 = k at h4 ⊢
        match k, h4 with
        | 0, _ => rfl
        | 1, _ => rfl
        | 2, _ => rfl
        | 3, _ => rfl
        | 4, _ => rfl
      rw [← hd]
      simp [newA, hj]
    · obtain ⟨cell, g1, g2, g3⟩ := c3 u hu (by omega)
      exact ⟨cell, g1.ext E, g2, g3⟩
theorem off_wr {j sl : Nat} {v : Value} (O : Off h0 h a K ct q) (W : Wr h h' (a + j) sl v) (hj : j ≤ K) : Off h0 h' a K ct q := by
  obtain ⟨o1, o2, o3⟩ := O
  have hsz := W.size
  obtain ⟨cell, -, -, -, rfl⟩ := W
  refine ⟨fun b hb => ?_, fun b hb => ?_, by rw [hsz]; exact o3⟩
  · rw [← o1 b hb]; exact Array.getElem?_setIfInBounds_ne (by omega)
  · rw [← o2 b hb]; exact Array.getElem?_setIfInBounds_ne (by omega)
end Clu
/-! ## its methods' own steps -/
def pushR (rk : Nat) (x : Int) (st : List AV) : List AV := match rk with
  | 0 => st
  | 2 => vL x :: st
  | _ => vI x :: st
def argsOf : Nat → List AV → List AV → Option (List AV × List AV)
  | 0, acc, st => some (acc, st)
  | n + 1, acc, v :: st => argsOf n (v :: acc) st
  | _ + 1, _, [] => none
def wt : List AV → Nat
  | [] => 0
  | .inr (.inl _) :: st => wt st + 2
  | _ :: st => wt st + 1
/-- a callee: number of its plain arguments, what it returns, what it computes -/
abbrev ME (σ : Type) : Type := Nat × Nat × (List AV → σ → RS σ)
def getC (fs : List FE) (idx : Nat) (st : List AV) (q : Nat) (S : St) (k : List AV → Nat → St → RS St) : RS St := match st with
  | .inr (.inr (some 0)) :: st => (match look fs idx with
    | some f => (match f.2.1 with
      | 0 => k (.inl (S 0 f.1) :: st) q S
      | 1 => k (.inl (S 0 f.1) :: st) q S
      | h + 2 => bif Nat.ble (2 * h) q then k (.inr (.inr (some h)) :: st) q S else none)
    | none => none)
  | _ => none
def putC (fs : List FE) (ct : Bool) (idx : Nat) (st : List AV) (q : Nat) (S : St) (k : List AV → Nat → St → RS St) : RS St := match st with
  | .inl x :: .inr (.inr (some 0)) :: st => (match look fs idx with
    | some f => bif ct || Nat.beq f.2.2.1 0 then (match f.2.1 with
      | 0 => k st q (stw S 0 f.1 x)
      | 1 => k st q (stw S 0 f.1 (x % 2))
      | _ => none) else none
    | none => none)
  | .inr (.inr (some n)) :: .inr (.inr (some 0)) :: st => (match look fs idx with
    | some f => bif ct && Nat.beq f.2.1 (n + 2) && Nat.beq (q + 1) (2 * n) then k st (q + 1) S else none
    | none => none)
  | _ => none
def aldC (as : List AE) (ok : Nat → Bool) (st : List AV) (q : Nat) (S : St) (k : List AV → Nat → St → RS St) : RS St := match st with
  | .inl i :: .inr (.inr (some h)) :: st => (match look as h with
    | some t => bif ok t.1 && Nat.ble (2 * h) (q + 1) then (if 0 ≤ i ∧ i < t.2 then k (el t.1 (S h i) :: st) q S else none) else none
    | none => none)
  | _ => none
/-- what a store keeps of a value -/
def nr (k : Nat) (x : Int) : Int := match k with
  | 1 => x % 2
  | 2 => i2b x
  | 3 => i2s x
  | _ => x
def astC (as : List AE) (ok : Nat → Bool) (st : List AV) (q : Nat) (S : St) (k : List AV → Nat → St → RS St) : RS St := match st with
  | .inl x :: .inl i :: .inr (.inr (some h)) :: st => (match look as h with
    | some t => bif ok t.1 && Nat.ble (2 * h) (q + 1) && !isJ t.1 then (if 0 ≤ i ∧ i < t.2 then k st q (stw S h i (nr t.1 x)) else none) else none
    | none => none)
  | .inr (.inl x) :: .inl i :: .inr (.inr (some h)) :: st => (match look as h with
    | some t => bif ok t.1 && Nat.ble (2 * h) (q + 1) && isJ t.1 then (if 0 ≤ i ∧ i < t.2 then k st q (stw S h i x) else none) else none
    | none => none)
  | _ => none
def lenC (as : List AE) (st : List AV) (q : Nat) (S : St) (k : List AV → Nat → St → RS St) : RS St := match st with
  | .inr (.inr (some h)) :: st => (match look as h with
    | some t => bif Nat.ble (2 * h) (q + 1) then k (.inl t.2 :: st) q S else none
    | none => none)
  | _ => none
def atyOk (aty : ArrayType) (k : Nat) : Bool := decide (newarray.typeOf aty = tyOf k)
def newC (as : List AE) (ct : Bool) (aty : ArrayType) (st : List AV) (q : Nat) (S : St) (k : List AV → Nat → St → RS St) : RS St := match st with
  | .inl n :: st => (match look as (q / 2 + 1) with
    | some t => bif ct && atyOk aty t.1 && Nat.beq (q + 2) (2 * (q / 2 + 1)) then (if n = t.2 then k (.inr (.inr (some (q / 2 + 1))) :: st) (q + 1) S else none) else none
    | none => none)
  | _ => none
def virC (K W : Nat) (ml : List (Nat × ME St)) (idx : Nat) (st : List AV) (q : Nat) (S : St) (k : List AV → Nat → St → RS St) : RS St := match look ml idx with
  | some t => (match argsOf t.1 [] st with
    | some (as, .inr (.inr (some 0)) :: st') => bif Nat.beq q (2 * K) && Nat.ble (wt st') W then (t.2.2 (.inr (.inr (some 0)) :: as) S).bind (fun r => k (pushR t.2.1 r.1 st') q r.2) else none
    | _ => none)
  | none => none
def staC (K W : Nat) (sl : List (Nat × ME St)) (idx : Nat) (st : List AV) (q : Nat) (S : St) (k : List AV → Nat → St → RS St) : RS St := match look sl idx with
  | some t => (match argsOf t.1 [] st with
    | some (as, st') => bif Nat.beq q (2 * K) && Nat.ble (wt st') W then (t.2.2 as S).bind (fun r => k (pushR t.2.1 r.1 st') q r.2) else none
    | _ => none)
  | none => none
def hopC (fs : List FE) (as : List AE) (K W : Nat) (ct : Bool) (oi : Nat) (cI cJ : List (Nat × Int)) (ml sl : List (Nat × ME St)) : Hop St := fun i st q S k => match i with
  | .getfield idx => getC fs idx st q S k
  | .putfield idx => putC fs ct idx st q S k
  | .iaload => aldC as (fun n => Nat.beq n 0) st q S k
  | .baload => aldC as (fun n => Nat.beq n 1 || Nat.beq n 2) st q S k
  | .saload => aldC as (fun n => Nat.beq n 3) st q S k
  | .laload => aldC as (fun n => Nat.beq n 4) st q S k
  | .iastore => astC as (fun n => Nat.beq n 0) st q S k
  | .bastore => astC as (fun n => Nat.beq n 1 || Nat.beq n 2) st q S k
  | .sastore => astC as (fun n => Nat.beq n 3) st q S k
  | .lastore => astC as (fun n => Nat.beq n 4) st q S k
  | .arraylength => lenC as st q S k
  | .newarray aty => newC as ct aty st q S k
  | .ldc idx => (match look cI idx with
    | some x => k (.inl x :: st) q S
    | none => none)
  | .ldc_w idx => (match look cI idx with
    | some x => k (.inl x :: st) q S
    | none => none)
  | .ldc2_w idx => (match look cJ idx with
    | some x => k (.inr (.inl x) :: st) q S
    | none => none)
  | .invokespecial idx => (match st with
    | .inr (.inr (some 0)) :: st => bif ct && Nat.beq idx oi && Nat.ble (wt st) W then k st q S else none
    | _ => none)
  | .invokevirtual idx => virC K W ml idx st q S k
  | .invokestatic idx => staC K W sl idx st q S k
  | _ => none
end Jvm.OwnKit
namespace Jvm.OwnKit
open Sem ClassFile Op Lib Jvm.Stand Jvm.Free Jvm.LawKit Jvm.RoadKit
/-! # 6. a class's methods -/
/-- where the object lies, where the new cells begin, the heap at the call -/
abbrev IC : Type := Nat × Nat × Heap
def AC (i : IC) : Nat → Addr := fun j => i.1 + j
def nC (i : IC) : Nat := i.2.1
def zC (i : IC) : Nat := i.2.2.size
def HC (Z : State) (C : String) (fs : List FE) (as : List AE) (K : Nat) (ct : Bool) (i : IC) (q : Nat) (S : St) (h : Heap) : Prop := i.2.1 ≤ i.1 ∧ Clu Z i.1 C fs as q S h ∧ Off i.2.2 h i.1 K ct q ∧ (ct = true → i.2.2.size = i.1 + 1)
def lenAt (as : List AE) (n : Nat) : Nat := match look as n with
  | some t => t.2.toNat
  | none => 0
def sumTo (f : Nat → Nat) : Nat → Nat
  | 0 => 0
  | n + 1 => sumTo f n + f (n + 1)
theorem sumTo_mono (f : Nat → Nat) {m n : Nat} (h : m ≤ n) : sumTo f m ≤ sumTo f n := by
  induction h with
  | refl => exact Nat.le_refl _
  | step _ ih => exact Nat.le_trans ih (Nat.le_add_right _ _)
def cC (ct : Bool) (q : Nat) : Nat := bif ct then (q + 1) / 2 else 0
def sC (as : List AE) (ct : Bool) (q : Nat) : Nat := bif ct then sumTo (lenAt as) ((q + 1) / 2) else 0
def Con (l : Launch) (Z : State) (C : String) (fs : List FE) (as : List AE) (K : Nat) (y : MethodName) (bytes : ByteArray) (maxL : Nat) (ret : Option FieldType) (rm : Room) (rk : Nat) (f : List AV → St → RS St) : Prop :=
  ∀ (i : IC) (av : List AV) (S : St) (r : Int × St), f av S = some r → okSt av → HC Z C fs as K false i (2 * K) S i.2.2 →
    MetFree l y (head1 [Jvm.Cond.code y bytes maxL ret] rm) (fun x U => x = (av.map (conc (AC i))).toArray ∧ Z.Warmed39 U.vm ∧ U.heap = i.2.2) (fun _ _ _ _ _ => True)
      (fun _ U o U' => ∃ v L, o = .returned v ∧ ((v = Val rk r.1 ∧ okR rk r.1) ∧ Fr (nC i) L ∧ HC Z C fs as K false i (2 * K) r.2 U'.heap) ∧ FrameEnd U o U' L rm.cells rm.slots)
def notMH (C : String) : Prop := C ≠ "java/lang/invoke/MethodHandle" ∧ C ≠ "java/lang/invoke/VarHandle"
def VirOk (l : Launch) (Z : State) (a0 : Array Value) (C : String) (fs : List FE) (as : List AE) (K W : Nat) (R : Room) (x : Nat × ME St) : Prop :=
  ∃ (y : MethodName) (bytes : ByteArray) (maxL : Nat) (ret : Option FieldType) (rm : Room) (ps : List FieldType), y.cls = C ∧ (Jvm.Cond.methodLink C x.1 y).before a0 Z = true ∧ (Jvm.Cond.instanceMethod y).before a0 Z = true ∧
    ((Jvm.Cond.privateMethod y).before a0 Z = true ∨ ((Jvm.Cond.declares y).before a0 Z = true ∧ (Jvm.Cond.selects C y y).before a0 Z = true)) ∧ (Jvm.Cond.code y bytes maxL ret).before a0 Z = true ∧
    parseMethodDescriptor y.desc = some ⟨ps, ret⟩ ∧ ps.length = x.2.1 ∧ rm.cells = 0 ∧ rm.slots = 0 ∧ rm.frames + 1 ≤ R.frames ∧ W + (maxL + 11) + rm.locals ≤ R.locals ∧ Con l Z C fs as K y bytes maxL ret rm x.2.2.1 x.2.2.2
def StatOk (l : Launch) (Z : State) (a0 : Array Value) (C : String) (fs : List FE) (as : List AE) (K W : Nat) (R : Room) (x : Nat × ME St) : Prop :=
  ∃ (y : MethodName) (bytes : ByteArray) (maxL : Nat) (ret : Option FieldType) (rm : Room) (ps : List FieldType), y.cls = C ∧ (Jvm.Cond.methodLink C x.1 y).before a0 Z = true ∧ (Jvm.Cond.static y).before a0 Z = true ∧
    (Jvm.Cond.code y bytes maxL ret).before a0 Z = true ∧
    parseMethodDescriptor y.desc = some ⟨ps, ret⟩ ∧ ps.length = x.2.1 ∧ rm.cells = 0 ∧ rm.slots = 0 ∧ rm.frames + 1 ≤ R.frames ∧ W + (maxL + 11) + rm.locals ≤ R.locals ∧ Con l Z C fs as K y bytes maxL ret rm x.2.2.1 x.2.2.2
theorem okSt_app : ∀ {as bs : List AV}, okSt (as ++ bs) ↔ okSt as ∧ okSt bs
  | [], bs => by simp [okSt]
  | a :: as, bs => by simp [okSt, okSt_app (as := as), and_assoc]
theorem okSt_rev {as : List AV} : okSt as.reverse ↔ okSt as := by
  induction as with
  | nil => simp
  | cons a as ih => simp [okSt_app, ih, okSt, and_comm]
theorem argsOf_ok : ∀ {n : Nat} {acc st as rest : List AV}, argsOf n acc st = some (as, rest) → ∃ zs, zs.length = n ∧ as = zs ++ acc ∧ st = zs.reverse ++ rest
  | 0, acc, st, as, rest, h => by simp only [argsOf, Option.some.injEq, Prod.mk.injEq] at h; exact ⟨[], rfl, h.1.symm, h.2⟩
  | n + 1, acc, [], as, rest, h => by simp [argsOf] at h
  | n + 1, acc, v :: st, as, rest, h => by
    obtain ⟨zs, h1, h2, h3⟩ := argsOf_ok (n := n) (acc := v :: acc) (st := st) h
    exact ⟨zs ++ [v], by simp [h1], by simp [h2], by simp [h3]⟩
theorem wt_eq (A : Nat → Addr) : ∀ st : List AV, ((cSt A st).map fun v => v.category).sum = wt st
  | [] => rfl
  | .inl x :: st => by have := wt_eq A st; simp only [cSt, List.map_cons, List.sum_cons, wt] at this ⊢; rw [this]; show 1 + _ = _; omega
  | .inr (.inl x) :: st => by have := wt_eq A st; simp only [cSt, List.map_cons, List.sum_cons, wt] at this ⊢; rw [this]; show 2 + _ = _; omega
  | .inr (.inr none) :: st => by have := wt_eq A st; simp only [cSt, List.map_cons, List.sum_cons, wt] at this ⊢; rw [this]; show 1 + _ = _; omega
  | .inr (.inr (some h)) :: st => by have := wt_eq A st; simp only [cSt, List.map_cons, List.sum_cons, wt] at this ⊢; rw [this]; show 1 + _ = _; omega
theorem push_val (A : Nat → Addr) (rk : Nat) (x : Int) (st : List AV) : (Val rk x).toList ++ cSt A st = cSt A (pushR rk x st) := by
  unfold Val pushR
  split <;> rfl
theorem push_ok {rk : Nat} {x : Int} {st : List AV} (h : okR rk x) (oks : okSt st) : okSt (pushR rk x st) := by
  unfold pushR
  unfold okR at h
  split at h
  · exact oks
  · exact ⟨h, oks⟩
  · exact ⟨h, oks⟩
section Steps
variable {p : Program} {l : Launch} {e : Env} {R : Room} {s : State} {m : MethodId} {args : Array Value} {below : List Frame} {meth : Method} {c : Code} {Z : State} {a0 : Array Value}
theorem Goes.step {n0 kc kn pc pc' cells slots cells' slots' : Nat} {Ls Ls' : Array Slot} {st st' : List Value} {P P' : Heap → Prop} {Q : Option Value → Heap → Prop} {φ : Prop}
    (f : ∀ (T : State) (L : List Jvm.Loc), Stand p l e R s m args below meth c T L cells slots → P T.heap → ∃ (T' : State) (Lx : List Jvm.Loc), Stand p l e R s m args below meth c T' (L ++ Lx) cells' slots' ∧ Fr n0 Lx ∧ P' T'.heap ∧ φ ∧ ∀ target, Steps p.tables e below (T'.setTop (mkF m pc' Ls' st')) target → Steps p.tables e below (T.setTop (mkF m pc Ls st)) target)
    (G : φ → Goes p l e R s m args below meth c n0 kc kn pc' Ls' st' cells' slots' P' Q) : Goes p l e R s m args below meth c n0 kc kn pc Ls st cells slots P Q := fun T L X N hP => by
  obtain ⟨T', Lx, X', N', hP', hφ, st⟩ := f T L X hP
  obtain ⟨t, v, L', h1, h2⟩ := G hφ T' (L ++ Lx) X' (N.app N') hP'
  exact ⟨t, v, L', st t h1, h2⟩
theorem Fr.one {n0 a sl : Nat} (h : n0 ≤ a) : Fr n0 [(⟨a, sl⟩ : Jvm.Loc)] := fun y hy => by cases List.mem_singleton.mp hy; exact h
theorem Off.trans {h0 h1 h2 : Heap} {a K q : Nat} {ct : Bool} (O : Off h0 h1 a K ct q) (O' : Off h1 h2 a K false q) : Off h0 h2 a K ct q :=
  ⟨fun b hb => (O'.1 b hb).trans (O.1 b hb), fun b hb => (O'.2.1 b hb).trans (O.2.1 b hb), O'.2.2.trans O.2.2⟩
end Steps
end Jvm.OwnKit
namespace Jvm.OwnKit
open Sem ClassFile Op Lib Jvm.Stand Jvm.Free Jvm.LawKit Jvm.RoadKit
theorem getC_ok {fs : List FE} {idx : Nat} {st : List AV} {q : Nat} {S : St} {k : List AV → Nat → St → RS St} {r : Int × St} (h : getC fs idx st q S k = some r) :
    ∃ st1 f v, st = vR 0 :: st1 ∧ look fs idx = some f ∧ k (v :: st1) q S = some r ∧ ((f.2.1 < 2 ∧ v = vI (S 0 f.1)) ∨ ∃ n, f.2.1 = n + 2 ∧ 2 * n ≤ q ∧ v = vR n) := by
  unfold getC at h
  split at h
  · rename_i st1
    split at h
    · rename_i f hf
      split at h
      · rename_i e; exact ⟨st1, f, _, rfl, hf, h, Or.inl ⟨by omega, rfl⟩⟩
      · rename_i e; exact ⟨st1, f, _, rfl, hf, h, Or.inl ⟨by omega, rfl⟩⟩
      · rename_i n e
        cases hb : Nat.ble (2 * n) q
        · rw [hb] at h; cases h
        · rw [hb] at h; exact ⟨st1, f, _, rfl, hf, h, Or.inr ⟨n, e, Nat.le_of_ble_eq_true hb, rfl⟩⟩
    · cases h
  · cases h
theorem putC_ok {fs : List FE} {ct : Bool} {idx : Nat} {st : List AV} {q : Nat} {S : St} {k : List AV → Nat → St → RS St} {r : Int × St} (h : putC fs ct idx st q S k = some r) :
    (∃ st1 f x y, st = vI x :: vR 0 :: st1 ∧ look fs idx = some f ∧ (ct = true ∨ f.2.2.1 = 0) ∧ k st1 q (stw S 0 f.1 y) = some r ∧ ((f.2.1 = 0 ∧ y = x) ∨ (f.2.1 = 1 ∧ y = x % 2))) ∨
    (∃ st1 f n, st = vR n :: vR 0 :: st1 ∧ look fs idx = some f ∧ ct = true ∧ f.2.1 = n + 2 ∧ q + 1 = 2 * n ∧ k st1 (q + 1) S = some r) := by
  unfold putC at h
  split at h
  · rename_i x st1
    left
    split at h
    · rename_i f hf
      cases hb : (ct || Nat.beq f.2.2.1 0)
      · rw [hb] at h; cases h
      · rw [hb] at h
        have hb' : ct = true ∨ f.2.2.1 = 0 := by
          rcases Bool.or_eq_true_iff.mp hb with g | g
          · exact Or.inl g
          · exact Or.inr (Nat.eq_of_beq_eq_true g)
        simp only [cond_true] at h
        split at h
        · rename_i e; exact ⟨st1, f, x, _, rfl, hf, hb', h, Or.inl ⟨e, rfl⟩⟩
        · rename_i e; exact ⟨st1, f, x, _, rfl, hf, hb', h, Or.inr ⟨e, rfl⟩⟩
        · cases h
    · cases h
  · rename_i n st1
    right
    split at h
    · rename_i f hf
      cases hb : (ct && Nat.beq f.2.1 (n + 2) && Nat.beq (q + 1) (2 * n))
      · rw [hb] at h; cases h
      · rw [hb] at h
        rw [Bool.and_eq_true, Bool.and_eq_true] at hb
        exact ⟨st1, f, n, rfl, hf, hb.1.1, Nat.eq_of_beq_eq_true hb.1.2, Nat.eq_of_beq_eq_true hb.2, h⟩
    · cases h
  · cases h
theorem aldC_ok {as : List AE} {ok : Nat → Bool} {st : List AV} {q : Nat} {S : St} {k : List AV → Nat → St → RS St} {r : Int × St} (h : aldC as ok st q S k = some r) :
    ∃ j n st1 t, st = vI j :: vR n :: st1 ∧ look as n = some t ∧ ok t.1 = true ∧ 2 * n ≤ q + 1 ∧ 0 ≤ j ∧ j < t.2 ∧ k (el t.1 (S n j) :: st1) q S = some r := by
  unfold aldC at h
  split at h
  · rename_i j n st1
    split at h
    · rename_i t ht
      cases hb : (ok t.1 && Nat.ble (2 * n) (q + 1))
      · rw [hb] at h; cases h
      · rw [hb] at h
        rw [Bool.and_eq_true] at hb
        simp only [cond_true] at h
        split at h
        · rename_i hj; exact ⟨j, n, st1, t, rfl, ht, hb.1, Nat.le_of_ble_eq_true hb.2, hj.1, hj.2, h⟩
        · cases h
    · cases h
  · cases h
theorem astC_ok {as : List AE} {ok : Nat → Bool} {st : List AV} {q : Nat} {S : St} {k : List AV → Nat → St → RS St} {r : Int × St} (h : astC as ok st q S k = some r) :
    (∃ x j n st1 t, st = vI x :: vI j :: vR n :: st1 ∧ look as n = some t ∧ ok t.1 = true ∧ isJ t.1 = false ∧ 2 * n ≤ q + 1 ∧ 0 ≤ j ∧ j < t.2 ∧ k st1 q (stw S n j (nr t.1 x)) = some r) ∨
    (∃ x j n st1 t, st = vL x :: vI j :: vR n :: st1 ∧ look as n = some t ∧ ok t.1 = true ∧ isJ t.1 = true ∧ 2 * n ≤ q + 1 ∧ 0 ≤ j ∧ j < t.2 ∧ k st1 q (stw S n j x) = some r) := by
  unfold astC at h
  split at h
  · rename_i x j n st1
    left
    split at h
    · rename_i t ht
      cases hb : (ok t.1 && Nat.ble (2 * n) (q + 1) && !isJ t.1)
      · rw [hb] at h; cases h
      · rw [hb] at h
        rw [Bool.and_eq_true, Bool.and_eq_true, Bool.not_eq_true'] at hb
        simp only [cond_true] at h
        split at h
        · rename_i hj; exact ⟨x, j, n, st1, t, rfl, ht, hb.1.1, hb.2, Nat.le_of_ble_eq_true hb.1.2, hj.1, hj.2, h⟩
        · cases h
    · cases h
  · rename_i x j n st1
    right
    split at h
    · rename_i t ht
      cases hb : (ok t.1 && Nat.ble (2 * n) (q + 1) && isJ t.1)
      · rw [hb] at h; cases h
      · rw [hb] at h
        rw [Bool.and_eq_true, Bool.and_eq_true] at hb
        simp only [cond_true] at h
        split at h
        · rename_i hj; exact ⟨x, j, n, st1, t, rfl, ht, hb.1.1, hb.2, Nat.le_of_ble_eq_true hb.1.2, hj.1, hj.2, h⟩
        · cases h
    · cases h
  · cases h
theorem lenC_ok {as : List AE} {st : List AV} {q : Nat} {S : St} {k : List AV → Nat → St → RS St} {r : Int × St} (h : lenC as st q S k = some r) :
    ∃ n st1 t, st = vR n :: st1 ∧ look as n = some t ∧ 2 * n ≤ q + 1 ∧ k (vI t.2 :: st1) q S = some r := by
  unfold lenC at h
  split at h
  · rename_i n st1
    split at h
    · rename_i t ht
      cases hb : Nat.ble (2 * n) (q + 1)
      · rw [hb] at h; cases h
      · rw [hb] at h; exact ⟨n, st1, t, rfl, ht, Nat.le_of_ble_eq_true hb, h⟩
    · cases h
  · cases h
theorem newC_ok {as : List AE} {ct : Bool} {aty : ArrayType} {st : List AV} {q : Nat} {S : St} {k : List AV → Nat → St → RS St} {r : Int × St} (h : newC as ct aty st q S k = some r) :
    ∃ st1 t, st = vI t.2 :: st1 ∧ look as (q / 2 + 1) = some t ∧ ct = true ∧ newarray.typeOf aty = tyOf t.1 ∧ q + 2 = 2 * (q / 2 + 1) ∧ k (vR (q / 2 + 1) :: st1) (q + 1) S = some r := by
  unfold newC at h
  split at h
  · rename_i n st1
    split at h
    · rename_i t ht
      cases hb : (ct && atyOk aty t.1 && Nat.beq (q + 2) (2 * (q / 2 + 1)))
      · rw [hb] at h; cases h
      · rw [hb] at h
        rw [Bool.and_eq_true, Bool.and_eq_true] at hb
        simp only [cond_true] at h
        split at h
        · rename_i hn; subst hn; exact ⟨st1, t, rfl, ht, hb.1.1, of_decide_eq_true hb.1.2, Nat.eq_of_beq_eq_true hb.2, h⟩
        · cases h
    · cases h
  · cases h
theorem virC_ok {K W : Nat} {ml : List (Nat × ME St)} {idx : Nat} {st : List AV} {q : Nat} {S : St} {k : List AV → Nat → St → RS St} {r : Int × St} (h : virC K W ml idx st q S k = some r) :
    ∃ t as st1 r1, look ml idx = some t ∧ as.length = t.1 ∧ st = as.reverse ++ vR 0 :: st1 ∧ q = 2 * K ∧ wt st1 ≤ W ∧ t.2.2 (vR 0 :: as) S = some r1 ∧ k (pushR t.2.1 r1.1 st1) q r1.2 = some r := by
  unfold virC at h
  split at h
  · rename_i t ht
    split at h
    · rename_i as st1 ha
      obtain ⟨zs, h1, h2, h3⟩ := argsOf_ok ha
      rw [List.append_nil] at h2
      subst h2
      cases hb : (Nat.beq q (2 * K) && Nat.ble (wt st1) W)
      · rw [hb] at h; cases h
      · rw [hb] at h
        rw [Bool.and_eq_true] at hb
        simp only [cond_true] at h
        obtain ⟨r1, hr1, hr2⟩ := Option.bind_eq_some_iff.mp h
        exact ⟨t, _, st1, r1, ht, h1, h3, Nat.eq_of_beq_eq_true hb.1, Nat.le_of_ble_eq_true hb.2, hr1, hr2⟩
    · cases h
  · cases h
theorem staC_ok {K W : Nat} {sl : List (Nat × ME St)} {idx : Nat} {st : List AV} {q : Nat} {S : St} {k : List AV → Nat → St → RS St} {r : Int × St} (h : staC K W sl idx st q S k = some r) :
    ∃ t as st1 r1, look sl idx = some t ∧ as.length = t.1 ∧ st = as.reverse ++ st1 ∧ q = 2 * K ∧ wt st1 ≤ W ∧ t.2.2 as S = some r1 ∧ k (pushR t.2.1 r1.1 st1) q r1.2 = some r := by
  unfold staC at h
  split at h
  · rename_i t ht
    split at h
    · rename_i as st1 ha
      obtain ⟨zs, h1, h2, h3⟩ := argsOf_ok ha
      rw [List.append_nil] at h2
      subst h2
      cases hb : (Nat.beq q (2 * K) && Nat.ble (wt st1) W)
      · rw [hb] at h; cases h
      · rw [hb] at h
        rw [Bool.and_eq_true] at hb
        simp only [cond_true] at h
        obtain ⟨r1, hr1, hr2⟩ := Option.bind_eq_some_iff.mp h
        exact ⟨t, _, st1, r1, ht, h1, h3, Nat.eq_of_beq_eq_true hb.1, Nat.le_of_ble_eq_true hb.2, hr1, hr2⟩
    · cases h
  · cases h
theorem idx_ok {j : Int} (hj : R32 j) (h0 : 0 ≤ j) : ¬ (Int32.ofInt j < 0) ∧ (Int32.ofInt j).toNatClampNeg = j.toNat := by
  have h1 := t32 hj
  refine ⟨fun q => ?_, by simp only [Int32.toNatClampNeg, h1]⟩
  rw [Int32.lt_iff_toInt_lt, h1] at q
  have h2 : (0 : Int32).toInt = 0 := rfl
  omega
theorem in_ok {j : Int} {n : Nat} (hj : R32 j) (h0 : 0 ≤ j) (h1 : j < (n : Int)) : ¬ (Int32.ofInt j < 0 ∨ n ≤ (Int32.ofInt j).toNatClampNeg) := by
  obtain ⟨g1, g2⟩ := idx_ok hj h0
  rw [g2]; rintro (g | g)
  · exact g1 g
  · omega
theorem nr_ok {k : Nat} {x : Int} (hx : R32 x) : R32 (nr k x) := by
  unfold nr; split
  · unfold R32; omega
  · exact r_i2b x
  · exact r_i2s x
  · exact hx
theorem nar_nr {k : Nat} {x : Int} (hk : k ≤ 3) (hx : R32 x) : nar (tyOf k) (Int32.ofInt x) = Int32.ofInt (nr k x) := by
  match k, hk with
  | 0, _ => rfl
  | 1, _ => exact (q_mod2 hx).symm
  | 2, _ => exact (q_i2b hx).symm
  | 3, _ => exact (q_i2s hx).symm
section Hop
variable {l : Launch} {Z : State} {a0 : Array Value} {C : String} {kk : Nat} {fs : List FE} {as : List AE} {K W : Nat} {ct : Bool} {oi : Nat} {cI cJ : List (Nat × Int)} {ml sl : List (Nat × ME St)} {bytes : ByteArray} {maxL : Nat} {ret : Option FieldType} {R : Room}
set_option maxHeartbeats 8000000 in
theorem hopC_all (H : ClsOk Z a0 C kk fs as K) (hC : notMH C) (wz : (Jvm.Cond.initialized C).before a0 Z = true)
    (hoi : ct = true → (Jvm.Cond.methodLink C oi Lib.objectInit).before a0 Z = true ∧ (Jvm.Cond.instanceMethod Lib.objectInit).before a0 Z = true ∧ (Jvm.Cond.code Lib.objectInit ⟨#[0xb1]⟩ 1 none).before a0 Z = true ∧ 1 ≤ R.frames ∧ W + 12 ≤ R.locals)
    (hcI : ∀ x ∈ cI, (Jvm.Cond.constant C x.1 (Int32.ofInt x.2)).before a0 Z = true ∧ R32 x.2) (hcJ : ∀ x ∈ cJ, (Jvm.Cond.constantLong C x.1 (Int64.ofInt x.2)).before a0 Z = true ∧ R64 x.2)
    (hml : ∀ x ∈ ml, VirOk l Z a0 C fs as K W R x) (hsl : ∀ x ∈ sl, StatOk l Z a0 C fs as K W R x) (hrc : cC ct (2 * K) ≤ R.cells) (hrs : sC as ct (2 * K) ≤ R.slots) :
    HopAll l Z C bytes maxL ret ct R AC nC zC (cC ct) (sC as ct) (HC Z C fs as K ct) (hopC fs as K W ct oi cI cJ ml sl) := by
  intro p e s m args below meth c hctx i hsz pc ins L st q S k r hd hL oks h
  obtain ⟨hx, hby, hml0, hret, hlk, hZ, hown, hnm⟩ := hctx
  have hsize : (cL (AC i) L).size = c.maxLocals := by simp [cL, hL]
  have ald : ∀ (ok : Nat → Bool) (hdd : ∃ z : Unit, True), aldC as ok st q S k = some r → (∀ (T : State) (Lo : List Jvm.Loc) (X : Stand p l e R s m args below meth c T Lo (cC ct q) (sC as ct q)) (cell : Cell) (t : Nat) (j : Int) (b : Nat) (v : Value) (rest : List Value), ok t = true → t ≤ 4 → Arr Z T.heap b cell (tyOf t) → ¬ (Int32.ofInt j < 0 ∨ cell.slots.size ≤ (Int32.ofInt j).toNatClampNeg) → cell.slots[(Int32.ofInt j).toNatClampNeg]? = some v → ∀ target, Steps p.tables e below (T.setTop (mkF m (pc + ilen ins) (cL (AC i) L) (v :: rest))) target → Steps p.tables e below (T.setTop (mkF m pc (cL (AC i) L) (.int (Int32.ofInt j) :: .ref b :: rest))) target) →
      ∃ st' q' S', k st' q' S' = some r ∧ ∀ Q, (okSt st' → Goes p l e R s m args below meth c (nC i) R.cells R.slots (pc + ilen ins) (cL (AC i) L) (cSt (AC i) st') (cC ct q') (sC as ct q') (HC Z C fs as K ct i q' S') Q) → Goes p l e R s m args below meth c (nC i) R.cells R.slots pc (cL (AC i) L) (cSt (AC i) st) (cC ct q) (sC as ct q) (HC Z C fs as K ct i q S) Q := by
    intro ok _ h law
    obtain ⟨j, n, st1, t, rfl, ht, hok, hn, hj0, hj1, hk⟩ := aldC_ok h
    refine ⟨_, _, _, hk, fun Q G => Goes.step (φ := okSt (el t.1 (S n j) :: st1)) (fun T Lo X hP => ?_) G⟩
    obtain ⟨hna, hclu, hoff, hz⟩ := hP
    have hm := look_mem ht
    have hK := H.arrK hm
    obtain ⟨cell, g1, g2, g3⟩ := hclu.2.2.1 _ hm hn
    have hidx := idx_ok oks.1 hj0
    have hjn : j.toNat < cell.slots.size := by have : (cell.slots.size : Int) = t.2 := g2; omega
    have hcast : ((j.toNat : Nat) : Int) = j := by omega
    obtain ⟨g4, g5⟩ := g3 j.toNat hjn
    rw [hcast] at g4 g5
    refine ⟨T, [], by rw [List.append_nil]; exact X, Fr.nil _, ⟨hna, hclu, hoff, hz⟩, ⟨okV_el g5, oks.2.2⟩, fun target kk => ?_⟩
    refine law T Lo X cell t.1 j (i.1 + n) (ev t.1 (S n j)) (cSt (AC i) st1) hok hK.2.2.1 g1 (in_ok oks.1 hj0 (by have : (cell.slots.size : Int) = t.2 := g2; omega)) (by rw [hidx.2]; exact g4) target ?_
    have e1 : cSt (AC i) (el t.1 (S n j) :: st1) = ev t.1 (S n j) :: cSt (AC i) st1 := by simp only [cSt, List.map_cons, conc_el]
    rw [e1] at kk; exact kk
  have ast : ∀ (ok : Nat → Bool), (∀ t, ok t = true → t ≤ 3) → astC as ok st q S k = some r → (∀ (T : State) (Lo : List Jvm.Loc) (X : Stand p l e R s m args below meth c T Lo (cC ct q) (sC as ct q)) (cell : Cell) (t : Nat) (x j : Int) (b : Nat) (rest : List Value), ok t = true → Arr Z T.heap b cell (tyOf t) → ¬ (Int32.ofInt j < 0 ∨ cell.slots.size ≤ (Int32.ofInt j).toNatClampNeg) → ∃ T' h', Stand p l e R s m args below meth c T' (Lo ++ [⟨b, (Int32.ofInt j).toNatClampNeg⟩]) (cC ct q) (sC as ct q) ∧ T'.heap = h' ∧ Wr T.heap h' b (Int32.ofInt j).toNatClampNeg (.int (nar (tyOf t) (Int32.ofInt x))) ∧ ∀ target, Steps p.tables e below (T'.setTop (mkF m (pc + ilen ins) (cL (AC i) L) rest)) target → Steps p.tables e below (T.setTop (mkF m pc (cL (AC i) L) (.int (Int32.ofInt x) :: .int (Int32.ofInt j) :: .ref b :: rest))) target) →
      ∃ st' q' S', k st' q' S' = some r ∧ ∀ Q, (okSt st' → Goes p l e R s m args below meth c (nC i) R.cells R.slots (pc + ilen ins) (cL (AC i) L) (cSt (AC i) st') (cC ct q') (sC as ct q') (HC Z C fs as K ct i q' S') Q) → Goes p l e R s m args below meth c (nC i) R.cells R.slots pc (cL (AC i) L) (cSt (AC i) st) (cC ct q) (sC as ct q) (HC Z C fs as K ct i q S) Q := by
    intro ok hok3 h law
    rcases astC_ok h with ⟨x, j, n, st1, t, rfl, ht, hok, hJ, hn, hj0, hj1, hk⟩ | ⟨x, j, n, st1, t, rfl, ht, hok, hJ, hn, hj0, hj1, hk⟩
    · refine ⟨_, _, _, hk, fun Q G => Goes.step (φ := okSt st1) (fun T Lo X hP => ?_) G⟩
      obtain ⟨hna, hclu, hoff, hz⟩ := hP
      have hm := look_mem ht
      have hK := H.arrK hm
      obtain ⟨cell, g1, g2, g3⟩ := hclu.2.2.1 _ hm hn
      have hidx := idx_ok oks.2.1 hj0
      obtain ⟨T', h', X', e', Wx, stp⟩ := law T Lo X cell t.1 x j (i.1 + n) (cSt (AC i) st1) hok g1 (in_ok oks.2.1 hj0 (by have : (cell.slots.size : Int) = t.2 := g2; omega))
      subst e'
      have hnr : Value.int (nar (tyOf t.1) (Int32.ofInt x)) = ev t.1 (nr t.1 x) := by
        unfold ev; rw [hJ]; simp only [cond_false]; congr 1; exact nar_nr (hok3 _ hok) oks.1
      rw [hidx.2, hnr] at Wx
      have hokE : okE t.1 (nr t.1 x) := by unfold okE; rw [hJ]; exact nr_ok oks.1
      exact ⟨T', _, X', Fr.one (by unfold nC; have := hK.1; omega), ⟨hna, clu_arr H hclu hm hn hj0 hj1 hokE Wx, off_wr hoff Wx hK.2.1, hz⟩, oks.2.2.2, stp⟩
    · have := hok3 _ hok
      have := Nat.eq_of_beq_eq_true hJ
      omega
  cases ins with
  | getfield idx =>
    obtain ⟨st1, f, v, rfl, hf, hk, hv⟩ := getC_ok h
    refine ⟨_, _, _, hk, fun Q G => Goes.step (φ := okSt (v :: st1)) (fun T Lo X hP => ?_) G⟩
    obtain ⟨hna, hclu, hoff, hz⟩ := hP
    have hm := look_mem hf
    have F := (hclu.2.1 _ hm).1
    have hval : fval i.1 q S (idx, f) = conc (AC i) v := by
      unfold fval
      rcases hv with ⟨h2, rfl⟩ | ⟨n, hn, hq, rfl⟩
      · have : f.2.1 = 0 ∨ f.2.1 = 1 := by omega
        rcases this with e1 | e1 <;> simp only [e1] <;> rfl
      · simp only [hn, hq, if_true]; rfl
    have hokv : okV v := by
      rcases hv with ⟨h2, rfl⟩ | ⟨n, hn, hq, rfl⟩
      · exact (hclu.2.1 _ hm).2 h2
      · trivial
    rw [hval] at F
    obtain ⟨T', X', e', stp⟩ := getF X hx hZ hown (host := "") (Or.inl (H.2.1 _ hm).1) Via.refl rfl F (g := mkF m pc (cL (AC i) L) (cSt (AC i) (vR 0 :: st1))) rfl rfl hd
    exact ⟨T', [], by rw [List.append_nil]; exact X', Fr.nil _, by rw [e']; exact ⟨hna, hclu, hoff, hz⟩, ⟨hokv, oks.2⟩, stp⟩
  | putfield idx =>
    rcases putC_ok h with ⟨st1, f, x, y, rfl, hf, hfin, hk, hv⟩ | ⟨st1, f, n, rfl, hf, hct, hn, hq, hk⟩
    · refine ⟨_, _, _, hk, fun Q G => Goes.step (φ := okSt st1) (fun T Lo X hP => ?_) G⟩
      obtain ⟨hna, hclu, hoff, hz⟩ := hP
      have hm := look_mem hf
      have F := (hclu.2.1 _ hm).1
      have hlay : (Jvm.Cond.lays C C f.2.2.2.1 f.2.2.2.2).before a0 Z = true ∨ ((Jvm.Cond.laysFinal C C f.2.2.2.1 f.2.2.2.2).before a0 Z = true ∧ C = C ∧ meth.name = "<init>") := by
        rcases (H.2.1 _ hm).2 with ⟨-, w⟩ | ⟨w0, w⟩
        · exact Or.inl w
        · rcases hfin with hfin | hfin
          · exact Or.inr ⟨w, rfl, hnm hfin⟩
          · exact absurd hfin w0
      have hy : R32 y := by
        rcases hv with ⟨-, rfl⟩ | ⟨-, rfl⟩
        · exact oks.1
        · unfold R32; omega
      have hk2 : f.2.1 < 2 := by rcases hv with ⟨e1, -⟩ | ⟨e1, -⟩ <;> omega
      have hput : ∃ ty, parseFieldDescriptor f.2.2.2.2 = some ty ∧ narrow ty (.int (Int32.ofInt x)) = .int (Int32.ofInt y) ∧ fits ty (.int (Int32.ofInt y)) = true := by
        rcases H.desc hm with ⟨e1, e2⟩ | ⟨e1, e2⟩ | ⟨t, -, e1, -⟩
        · rcases hv with ⟨-, rfl⟩ | ⟨e3, -⟩
          · exact ⟨_, e2, rfl, rfl⟩
          · dsimp only at e1; omega
        · rcases hv with ⟨e3, -⟩ | ⟨-, rfl⟩
          · dsimp only at e1; omega
          · have e4 : Int32.ofInt (x % 2) = nar .boolean (Int32.ofInt x) := q_mod2 oks.1
            exact ⟨_, e2, by rw [e4]; rfl, by rw [e4]; exact fits_nar_bool _⟩
        · dsimp only at e1; omega
      obtain ⟨ty, ht1, ht2, ht3⟩ := hput
      obtain ⟨T', h', X', e', Wx, stp⟩ := putFN X hx hZ hown (H.2.1 _ hm).1 Via.refl rfl F hclu.1 hlay H.1 ht1 ht2 ht3 (g := mkF m pc (cL (AC i) L) (cSt (AC i) (vI x :: vR 0 :: st1))) rfl rfl hd
      subst e'
      exact ⟨T', _, X', Fr.one hna, ⟨hna, clu_int H hclu hm hk2 hy Wx, off_wr (j := 0) hoff Wx (Nat.zero_le _), hz⟩, oks.2.2, stp⟩
    · refine ⟨_, _, _, hk, fun Q G => Goes.step (φ := okSt st1) (fun T Lo X hP => ?_) G⟩
      obtain ⟨hna, hclu, hoff, hz⟩ := hP
      have hm := look_mem hf
      have F := (hclu.2.1 _ hm).1
      have hlay : (Jvm.Cond.lays C C f.2.2.2.1 f.2.2.2.2).before a0 Z = true ∨ ((Jvm.Cond.laysFinal C C f.2.2.2.1 f.2.2.2.2).before a0 Z = true ∧ C = C ∧ meth.name = "<init>") := by
        rcases (H.2.1 _ hm).2 with ⟨-, w⟩ | ⟨w0, w⟩
        · exact Or.inl w
        · exact Or.inr ⟨w, rfl, hnm hct⟩
      have hty : ∃ t, parseFieldDescriptor f.2.2.2.2 = some (.array t) := by
        rcases H.desc hm with ⟨e1, e2⟩ | ⟨e1, e2⟩ | ⟨t, -, -, e1⟩
        · dsimp only at e1; omega
        · dsimp only at e1; omega
        · exact ⟨_, e1⟩
      obtain ⟨t, hty⟩ := hty
      obtain ⟨T', h', X', e', Wx, stp⟩ := putFN X hx hZ hown (H.2.1 _ hm).1 Via.refl rfl F hclu.1 hlay H.1 hty (v := .ref (i.1 + n)) (v' := .ref (i.1 + n)) rfl rfl (g := mkF m pc (cL (AC i) L) (cSt (AC i) (vR n :: vR 0 :: st1))) rfl rfl hd
      subst e'
      have hc' : cC ct (q + 1) = cC ct q := by subst hct; simp only [cC, cond_true]; omega
      have hs' : sC as ct (q + 1) = sC as ct q := by subst hct; simp only [sC, cond_true]; rw [show (q + 1 + 1) / 2 = (q + 1) / 2 by omega]
      have hoff' : Off i.2.2 T'.heap i.1 K ct (q + 1) := by
        have O := off_wr (j := 0) hoff Wx (Nat.zero_le _)
        refine ⟨O.1, O.2.1, O.2.2.trans ?_⟩
        subst hct; simp only [cond_true]; omega
      exact ⟨T', _, by rw [hc', hs']; exact X', Fr.one hna, ⟨hna, clu_ref H hclu hm hn hq Wx, hoff', hz⟩, oks.2.2, stp⟩
  | iaload =>
    refine ald (fun n => Nat.beq n 0) ⟨(), trivial⟩ h fun T Lo X cell t j b v rest ht h4 A1 A2 A3 target kk => ?_
    have := Nat.eq_of_beq_eq_true ht; subst this
    exact X.iaload hx A1.1 (State.isArrayOf_alike hZ.alike A1.2.1) A1.2.2 A2 A3 (g := mkF m pc (cL (AC i) L) (.int (Int32.ofInt j) :: .ref b :: rest)) rfl rfl hd target kk
  | saload =>
    refine ald (fun n => Nat.beq n 3) ⟨(), trivial⟩ h fun T Lo X cell t j b v rest ht h4 A1 A2 A3 target kk => ?_
    have := Nat.eq_of_beq_eq_true ht; subst this
    exact X.saload hx A1.1 (State.isArrayOf_alike hZ.alike A1.2.1) A1.2.2 A2 A3 (g := mkF m pc (cL (AC i) L) (.int (Int32.ofInt j) :: .ref b :: rest)) rfl rfl hd target kk
  | laload =>
    refine ald (fun n => Nat.beq n 4) ⟨(), trivial⟩ h fun T Lo X cell t j b v rest ht h4 A1 A2 A3 target kk => ?_
    have := Nat.eq_of_beq_eq_true ht; subst this
    exact X.laload hx A1.1 (State.isArrayOf_alike hZ.alike A1.2.1) A1.2.2 A2 A3 (g := mkF m pc (cL (AC i) L) (.int (Int32.ofInt j) :: .ref b :: rest)) rfl rfl hd target kk
  | baload =>
    refine ald (fun n => Nat.beq n 1 || Nat.beq n 2) ⟨(), trivial⟩ h fun T Lo X cell t j b v rest ht h4 A1 A2 A3 target kk => ?_
    rcases Bool.or_eq_true_iff.mp ht with ht | ht
    · have := Nat.eq_of_beq_eq_true ht; subst this
      exact X.baloadBooleans hx A1.1 (State.isArrayOf_alike hZ.alike A1.2.1) A1.2.2 A2 A3 (g := mkF m pc (cL (AC i) L) (.int (Int32.ofInt j) :: .ref b :: rest)) rfl rfl hd target kk
    · have := Nat.eq_of_beq_eq_true ht; subst this
      exact X.baloadBytes hx A1.1 (State.isArrayOf_alike hZ.alike A1.2.1) A1.2.2 A2 A3 (g := mkF m pc (cL (AC i) L) (.int (Int32.ofInt j) :: .ref b :: rest)) rfl rfl hd target kk
  | iastore =>
    refine ast (fun n => Nat.beq n 0) (fun t ht => by have := Nat.eq_of_beq_eq_true ht; omega) h fun T Lo X cell t x j b rest ht A1 A2 => ?_
    have := Nat.eq_of_beq_eq_true ht; subst this
    exact stI X hx hZ rfl A1 A2 (g := mkF m pc (cL (AC i) L) (.int (Int32.ofInt x) :: .int (Int32.ofInt j) :: .ref b :: rest)) rfl rfl hd
  | sastore =>
    refine ast (fun n => Nat.beq n 3) (fun t ht => by have := Nat.eq_of_beq_eq_true ht; omega) h fun T Lo X cell t x j b rest ht A1 A2 => ?_
    have := Nat.eq_of_beq_eq_true ht; subst this
    exact stS X hx hZ rfl A1 A2 (g := mkF m pc (cL (AC i) L) (.int (Int32.ofInt x) :: .int (Int32.ofInt j) :: .ref b :: rest)) rfl rfl hd
  | bastore =>
    refine ast (fun n => Nat.beq n 1 || Nat.beq n 2) (fun t ht => by rcases Bool.or_eq_true_iff.mp ht with ht | ht <;> (have := Nat.eq_of_beq_eq_true ht; omega)) h fun T Lo X cell t x j b rest ht A1 A2 => ?_
    rcases Bool.or_eq_true_iff.mp ht with ht | ht
    · have := Nat.eq_of_beq_eq_true ht; subst this
      exact stZ X hx hZ rfl A1 A2 (g := mkF m pc (cL (AC i) L) (.int (Int32.ofInt x) :: .int (Int32.ofInt j) :: .ref b :: rest)) rfl rfl hd
    · have := Nat.eq_of_beq_eq_true ht; subst this
      exact stB X hx hZ rfl A1 A2 (g := mkF m pc (cL (AC i) L) (.int (Int32.ofInt x) :: .int (Int32.ofInt j) :: .ref b :: rest)) rfl rfl hd
  | lastore =>
    change astC as (fun n => Nat.beq n 4) st q S k = some r at h
    rcases astC_ok h with ⟨x, j, n, st1, t, rfl, ht, hok, hJ, hn, hj0, hj1, hk⟩ | ⟨x, j, n, st1, t, rfl, ht, hok, hJ, hn, hj0, hj1, hk⟩
    · have h4 := Nat.eq_of_beq_eq_true hok
      rw [h4] at hJ; cases hJ
    · refine ⟨_, _, _, hk, fun Q G => Goes.step (φ := okSt st1) (fun T Lo X hP => ?_) G⟩
      obtain ⟨hna, hclu, hoff, hz⟩ := hP
      have hm := look_mem ht
      have hK := H.arrK hm
      obtain ⟨cell, g1, g2, g3⟩ := hclu.2.2.1 _ hm hn
      have hidx := idx_ok oks.2.1 hj0
      have h4 := Nat.eq_of_beq_eq_true hok
      have g1' : Arr Z T.heap (i.1 + n) cell .long := by have q := g1; simp only [h4] at q; exact q
      obtain ⟨T', h', X', e', Wx, stp⟩ := stJ X hx hZ rfl g1' (j := Int32.ofInt j) (x := Int64.ofInt x) (in_ok oks.2.1 hj0 (by have : (cell.slots.size : Int) = t.2 := g2; omega)) (g := mkF m pc (cL (AC i) L) (cSt (AC i) (vL x :: vI j :: vR n :: st1))) rfl rfl hd
      subst e'
      have hnr : Value.long (Int64.ofInt x) = ev t.1 x := by unfold ev; rw [hJ]; rfl
      rw [hidx.2, hnr] at Wx
      have hokE : okE t.1 x := by unfold okE; rw [hJ]; exact oks.1
      exact ⟨T', _, X', Fr.one (by unfold nC; have := hK.1; omega), ⟨hna, clu_arr H hclu hm hn hj0 hj1 hokE Wx, off_wr hoff Wx hK.2.1, hz⟩, oks.2.2.2, stp⟩
  | arraylength =>
    obtain ⟨n, st1, t, rfl, ht, hn, hk⟩ := lenC_ok h
    refine ⟨_, _, _, hk, fun Q G => Goes.step (φ := okSt (vI t.2 :: st1)) (fun T Lo X hP => ?_) G⟩
    obtain ⟨hna, hclu, hoff, hz⟩ := hP
    have hm := look_mem ht
    have hK := H.arrK hm
    obtain ⟨cell, g1, g2, g3⟩ := hclu.2.2.1 _ hm hn
    refine ⟨T, [], by rw [List.append_nil]; exact X, Fr.nil _, ⟨hna, hclu, hoff, hz⟩, ⟨(by show R32 t.2; have h1 := hK.2.2.2.1; have h2 := hK.2.2.2.2; dsimp only at h1 h2; unfold R32; omega), oks.2⟩, fun target kk => ?_⟩
    refine X.arraylength hx g1.1 (State.isArrayOf_alike hZ.alike g1.2.1) (g := mkF m pc (cL (AC i) L) (cSt (AC i) (vR n :: st1))) rfl rfl hd target ?_
    have e1 : cell.slots.size.toInt32 = Int32.ofInt t.2 := by
      have : t.2 = ((cell.slots.size : Nat) : Int) := g2.symm
      rw [this, Int32.ofInt_eq_ofNat]
    rw [e1]; exact kk
  | newarray aty =>
    obtain ⟨st1, t, rfl, ht, hct, hty, hq, hk⟩ := newC_ok h
    refine ⟨_, _, _, hk, fun Q G => Goes.step (φ := okSt (vR (q / 2 + 1) :: st1)) (fun T Lo X hP => ?_) G⟩
    obtain ⟨hna, hclu, hoff, hz⟩ := hP
    have hm := look_mem ht
    have hK := H.arrK hm
    have hK0 := hK.2.2.2.1
    dsimp only at hK hK0
    subst hct
    have hw := H.2.2.1 _ hm
    have hw' : (Jvm.Cond.arrayClass (newarray.typeOf aty)).before a0 Z = true := by rw [hty]; exact hw
    have hsT : T.heap.size = i.1 + (q / 2 + 1) := by have := hoff.2.2; simp only [cond_true] at this; omega
    have hcell : cC true q + 1 ≤ R.cells := by have h1 := hrc; simp only [cC, cond_true] at h1 ⊢; omega
    have hsl1 : sC as true (q + 1) = sC as true q + t.2.toNat := by
      have e1 : (q + 1 + 1) / 2 = (q + 1) / 2 + 1 := by omega
      have e2 : (q + 1) / 2 + 1 = q / 2 + 1 := by omega
      simp only [sC, cond_true, e1, sumTo]
      rw [e2, lenAt, ht]
    have hsl2 : sC as true q + t.2.toNat ≤ R.slots := by
      rw [← hsl1]
      refine Nat.le_trans ?_ hrs
      simp only [sC, cond_true]
      exact sumTo_mono _ (by omega)
    have ht0 := idx_ok oks.1 hK0
    obtain ⟨T', h', cA, X', e', E, Ar, stp⟩ := newP X hx hZ hw' rfl (g := mkF m pc (cL (AC i) L) (cSt (AC i) (vI t.2 :: st1))) rfl hd (n := Int32.ofInt t.2) rfl ht0.1 (cap := t.2.toNat) (by rw [ht0.2]; exact Nat.le_refl _) (by omega) hcell hsl2
    subst e'
    rw [hsT, hty] at Ar
    have hs1 : T'.heap.size ≤ s.heap.size + (cC true q + 1) := X'.heapSize
    have hs2 : (i.1 + (q / 2 + 1) : Nat) < T'.heap.size := Ar.lt
    have hs3 : s.heap.size = i.1 + 1 := by rw [hsz]; exact hz rfl
    have hs4 : T'.heap.size = i.1 + 1 + (q + 1 + 1) / 2 := by simp only [cC, cond_true] at hs1; omega
    have hc' : cC true (q + 1) = cC true q + 1 := by simp only [cC, cond_true]; omega
    refine ⟨T', [], by rw [List.append_nil, hc', hsl1]; exact X', Fr.nil _, ⟨hna, clu_new (t := (q / 2 + 1, t)) H hclu hm hq (t32 oks.1) E Ar, ⟨fun b hb => ?_, fun b hb => ?_, by simp only [cond_true]; exact hs4⟩, hz⟩, ⟨trivial, oks.2⟩, fun target kk => stp target ?_⟩
    · rw [← hoff.1 b hb]
      have : b < T.heap.size := by omega
      rw [Array.getElem?_eq_getElem this]
      exact E.2 b _ (Array.getElem?_eq_getElem this)
    · rw [← hoff.2.1 b hb, Array.getElem?_eq_none (by omega), Array.getElem?_eq_none (by omega)]
    · rw [hsT]; exact kk
  | ldc idx =>
    change (match look cI idx with | some x => k (.inl x :: st) q S | none => none) = some r at h
    split at h
    · rename_i x hl
      have hm := hcI _ (look_mem hl)
      refine ⟨_, _, _, h, fun Q G => Goes.step (φ := okSt (vI x :: st)) (fun T Lo X hP => ?_) G⟩
      exact ⟨T, [], by rw [List.append_nil]; exact X, Fr.nil _, hP, ⟨hm.2, oks⟩, fun target kk => X.ldcI hx hown (mvT hZ hm.1) (g := mkF m pc (cL (AC i) L) (cSt (AC i) st)) rfl hd kk⟩
    · cases h
  | ldc_w idx =>
    change (match look cI idx with | some x => k (.inl x :: st) q S | none => none) = some r at h
    split at h
    · rename_i x hl
      have hm := hcI _ (look_mem hl)
      refine ⟨_, _, _, h, fun Q G => Goes.step (φ := okSt (vI x :: st)) (fun T Lo X hP => ?_) G⟩
      exact ⟨T, [], by rw [List.append_nil]; exact X, Fr.nil _, hP, ⟨hm.2, oks⟩, fun target kk => X.ldcWI hx hown (mvT hZ hm.1) (g := mkF m pc (cL (AC i) L) (cSt (AC i) st)) rfl hd kk⟩
    · cases h
  | ldc2_w idx =>
    change (match look cJ idx with | some x => k (.inr (.inl x) :: st) q S | none => none) = some r at h
    split at h
    · rename_i x hl
      have hm := hcJ _ (look_mem hl)
      refine ⟨_, _, _, h, fun Q G => Goes.step (φ := okSt (vL x :: st)) (fun T Lo X hP => ?_) G⟩
      exact ⟨T, [], by rw [List.append_nil]; exact X, Fr.nil _, hP, ⟨hm.2, oks⟩, fun target kk => X.ldc2J hx hown (mvT hZ hm.1) (g := mkF m pc (cL (AC i) L) (cSt (AC i) st)) rfl hd kk⟩
    · cases h
  | invokespecial idx =>
    change (match st with | .inr (.inr (some 0)) :: st => bif ct && Nat.beq idx oi && Nat.ble (wt st) W then k st q S else none | _ => none) = some r at h
    split at h
    · rename_i st1
      cases hb : (ct && Nat.beq idx oi && Nat.ble (wt st1) W)
      · rw [hb] at h; cases h
      · rw [hb] at h
        rw [Bool.and_eq_true, Bool.and_eq_true] at hb
        have hi := Nat.eq_of_beq_eq_true hb.1.2
        subst hi
        obtain ⟨w1, w2, w3, w4, w5⟩ := hoi hb.1.1
        have hwt := Nat.le_of_ble_eq_true hb.2
        have hsum : 2 * 0 + ((cSt (AC i) st1).map fun v => v.category).sum ≤ W := by have := wt_eq (AC i) st1; omega
        refine ⟨_, _, _, h, fun Q G => Goes.step (φ := okSt st1) (fun T Lo X hP => ?_) G⟩
        obtain ⟨T', X', e', stp⟩ := initO X hx hZ hown w1 w2 w3 rfl (g := mkF m pc (cL (AC i) L) (cSt (AC i) (vR 0 :: st1))) rfl hsize rfl hd w4 (W := W) hsum w5
        exact ⟨T', [], by rw [List.append_nil]; exact X', Fr.nil _, by rw [e']; exact hP, oks.2, stp⟩
    · cases h
  | invokevirtual idx =>
    obtain ⟨t, av, st1, r1, ht, hlen, rfl, hq, hwt, hf, hk⟩ := virC_ok h
    subst hq
    obtain ⟨y, bs, mL, rt, rm, ps, y0, y1, y2, y3, y4, y5, y6, y7, y8, y9, y10, con⟩ := hml _ (look_mem ht)
    have oks' := okSt_app.mp oks
    refine ⟨_, _, _, hk, fun Q G => Goes.step (φ := okSt (pushR t.2.1 r1.1 st1)) (fun T Lo X hP => ?_) G⟩
    obtain ⟨hna, hclu, hoff, hz⟩ := hP
    have hM := con (i.1, i.2.1, T.heap) (vR 0 :: av) S r1 hf ⟨trivial, okSt_rev.mp oks'.1⟩ ⟨hna, hclu, ⟨fun _ _ => rfl, fun _ _ => rfl, rfl⟩, fun hh => nomatch hh⟩
    have hB := backOf (Q := fun v hh Lc => (v = Val t.2.1 r1.1 ∧ okR t.2.1 r1.1) ∧ Fr i.2.1 Lc ∧ HC Z C fs as K false (i.1, i.2.1, T.heap) (2 * K) r1.2 hh) (R := R) (p := p) (e := e) (below := below) (s := s) (args := args) (len := 3) (W := W) hM hZ y4 (by rw [y0]; exact wz) y9 y10
    have hst : cSt (AC i) (av.reverse ++ vR 0 :: st1) = (av.map (conc (AC i))).reverse ++ .ref (AC i 0) :: cSt (AC i) st1 := by simp [cSt, conc]
    have hsum : 2 * 0 + ((cSt (AC i) st1).map fun v => v.category).sum ≤ W := by have := wt_eq (AC i) st1; omega
    have hcell : cC ct (2 * K) + rm.cells ≤ R.cells := by rw [y7]; exact hrc
    have hslot : sC as ct (2 * K) + rm.slots ≤ R.slots := by rw [y8]; exact hrs
    have hyC : y.cls ≠ "java/lang/invoke/MethodHandle" ∧ y.cls ≠ "java/lang/invoke/VarHandle" := by rw [y0]; exact hC
    obtain ⟨v, vm₁, ⟨T', L', k', n'⟩, hW₁, X', ⟨Lc, hQ, l1, l2, l3⟩, stp⟩ : ∃ (v : Option Value) (vm₁ : Vm) (B : Pt), s.WarmedH vm₁ ∧ Stand p l e R s m args below meth c B.U B.locs B.cells B.slots ∧ (∃ Lc, (((v = Val t.2.1 r1.1 ∧ okR t.2.1 r1.1) ∧ Fr i.2.1 Lc ∧ HC Z C fs as K false (i.1, i.2.1, T.heap) (2 * K) r1.2 B.U.heap)) ∧ B.locs = Lo ++ Lc ∧ B.cells = cC ct (2 * K) + rm.cells ∧ B.slots = sC as ct (2 * K) + rm.slots) ∧
        Steps p.tables e below (T.setTop (mkF m pc (cL (AC i) L) (cSt (AC i) (av.reverse ++ vR 0 :: st1)))) (B.U.setTop { (mkF m pc (cL (AC i) L) (cSt (AC i) (av.reverse ++ vR 0 :: st1))) with pc := pc + 3, stack := v.toList ++ cSt (AC i) st1 }) := by
      rcases y3 with y3 | ⟨y3, y3'⟩
      · have hpriv := Jvm.Cond.privateMethod_at (mvP hZ y3 (args := #[]))
        obtain ⟨cell, kc, g1, g2, g3, g4, -⟩ := hclu.1
        obtain ⟨cZ, kZ, z1, z2, z3, z4, -⟩ := Jvm.Cond.instantiable_spec (mvT hZ H.1 (args := args))
        have hsel : (Jvm.Cond.selects y.cls y y).before args s = true := by
          refine selects_self_of_private (c := cZ) (k := kZ) (by rw [y0]; exact z1) z2 ?_ hpriv (mvT hZ y2) hyC
          exact (Bool.or_eq_false_iff.mp z4).1
        exact X.privateBack hx (y := y) hown (mvT hZ y1) (mvT hZ y2) hsel hpriv (mvT hZ y4) hyC hB (g := mkF m pc (cL (AC i) L) (cSt (AC i) (av.reverse ++ vR 0 :: st1))) rfl hsize (Steps.refl _) (a := i.1) g1 (fun qq eq => by rw [eq] at g4; cases g4) (argsL := av.map (conc (AC i))) (rest := cSt (AC i) st1) (lenOf y5 (by simp [hlen, y6])) hst hsum hd (fun _ _ => ⟨rfl, rfl, hcell, hslot⟩)
      · obtain ⟨cB, kB, q1, q2, q3⟩ := isOf (s := s) (T := T) hZ rfl hclu.1
        exact X.virtualBack hx (y := y) (z := y) hown (mvT hZ y1) (mvT hZ y3) (notFace_of_selects (args := #[]) (mvT hZ y3')) (mvT hZ y3') (mvT hZ y2) hyC hB q1 q3 (g := mkF m pc (cL (AC i) L) (cSt (AC i) (av.reverse ++ vR 0 :: st1))) rfl hsize (Steps.refl _) (argsL := av.map (conc (AC i))) (rest := cSt (AC i) st1) (lenOf y5 (by simp [hlen, y6])) hst hsum hd (fun _ _ => ⟨rfl, rfl, hcell, hslot⟩)
    dsimp only [Pt.U, Pt.locs, Pt.cells, Pt.slots] at X' hQ l1 l2 l3 stp
    subst l1 l2 l3
    obtain ⟨⟨rfl, hokr⟩, hFr, hna', hclu', hoff', -⟩ := hQ
    rw [y7, y8, Nat.add_zero, Nat.add_zero] at X'
    refine ⟨T', Lc, X', hFr, ⟨hna, hclu', hoff.trans hoff', hz⟩, push_ok hokr oks'.2.2, fun target kk => stp.trans ?_⟩
    rw [push_val]; exact kk
  | invokestatic idx =>
    obtain ⟨t, av, st1, r1, ht, hlen, rfl, hq, hwt, hf, hk⟩ := staC_ok h
    subst hq
    obtain ⟨y, bs, mL, rt, rm, ps, y0, y1, y2, y4, y5, y6, y7, y8, y9, y10, con⟩ := hsl _ (look_mem ht)
    have oks' := okSt_app.mp oks
    refine ⟨_, _, _, hk, fun Q G => Goes.step (φ := okSt (pushR t.2.1 r1.1 st1)) (fun T Lo X hP => ?_) G⟩
    obtain ⟨hna, hclu, hoff, hz⟩ := hP
    have hM := con (i.1, i.2.1, T.heap) av S r1 hf (okSt_rev.mp oks'.1) ⟨hna, hclu, ⟨fun _ _ => rfl, fun _ _ => rfl, rfl⟩, fun hh => nomatch hh⟩
    have wz' : (Jvm.Cond.initialized y.cls).before a0 Z = true := by rw [y0]; exact wz
    have hB := backOf (Q := fun v hh Lc => (v = Val t.2.1 r1.1 ∧ okR t.2.1 r1.1) ∧ Fr i.2.1 Lc ∧ HC Z C fs as K false (i.1, i.2.1, T.heap) (2 * K) r1.2 hh) (R := R) (p := p) (e := e) (below := below) (s := s) (args := args) (len := 3) (W := W) hM hZ y4 wz' y9 y10
    have hst : cSt (AC i) (av.reverse ++ st1) = (av.map (conc (AC i))).reverse ++ cSt (AC i) st1 := by simp [cSt]
    have hsum : 2 * 0 + ((cSt (AC i) st1).map fun v => v.category).sum ≤ W := by have := wt_eq (AC i) st1; omega
    have hcell : cC ct (2 * K) + rm.cells ≤ R.cells := by rw [y7]; exact hrc
    have hslot : sC as ct (2 * K) + rm.slots ≤ R.slots := by rw [y8]; exact hrs
    have hyC : y.cls ≠ "java/lang/invoke/MethodHandle" ∧ y.cls ≠ "java/lang/invoke/VarHandle" := by rw [y0]; exact hC
    obtain ⟨v, vm₁, ⟨T', L', k', n'⟩, hW₁, X', ⟨Lc, hQ, l1, l2, l3⟩, stp⟩ := Jvm.LawKit.callS X hx (y := y) hown (mvT hZ y1) (mvT hZ y2) (mvT hZ wz') (mvT hZ y4) hyC hB (g := mkF m pc (cL (AC i) L) (cSt (AC i) (av.reverse ++ st1))) rfl hsize (argsL := av.map (conc (AC i))) (rest := cSt (AC i) st1) (lenOf y5 (by simp [hlen, y6])) hst hsum hd (fun _ _ => ⟨rfl, rfl, hcell, hslot⟩)
    dsimp only [Pt.U, Pt.locs, Pt.cells, Pt.slots] at X' hQ l1 l2 l3 stp
    subst l1 l2 l3
    obtain ⟨⟨rfl, hokr⟩, hFr, hna', hclu', hoff', -⟩ := hQ
    rw [y7, y8, Nat.add_zero, Nat.add_zero] at X'
    refine ⟨T', Lc, X', hFr, ⟨hna, hclu', hoff.trans hoff', hz⟩, push_ok hokr oks'.2, fun target kk => stp target ?_⟩
    rw [push_val]; exact kk
  | _ => cases h
def kmOk : List Nat → List AV → Bool
  | _, [] => true
  | 0 :: ks, .inl _ :: as => kmOk ks as
  | 0 :: ks, .inr (.inr _) :: as => kmOk ks as
  | 1 :: 2 :: ks, .inr (.inl _) :: as => kmOk ks as
  | _, _ => false
theorem okL_unset : ∀ (km : List Nat), okL km (List.replicate km.length sU)
  | [] => trivial
  | _ :: ks => ⟨trivial, okL_unset ks⟩
theorem okL_flat : ∀ {km : List Nat} {av : List AV}, kmOk km av = true → okSt av → ∀ n, (flat av).length + n = km.length → okL km (flat av ++ List.replicate n sU)
  | km, [], _, _, n, hn => by
    simp only [flat, List.length_nil, Nat.zero_add] at hn
    subst hn; exact okL_unset km
  | 0 :: ks, .inl x :: as, h, oks, n, hn => ⟨⟨rfl, oks.1⟩, okL_flat (km := ks) (av := as) h oks.2 n (by simp only [flat, List.length_cons] at hn; omega)⟩
  | 0 :: ks, .inr (.inr r) :: as, h, oks, n, hn => ⟨rfl, okL_flat (km := ks) (av := as) h oks.2 n (by simp only [flat, List.length_cons] at hn; omega)⟩
  | 1 :: 2 :: ks, .inr (.inl x) :: as, h, oks, n, hn => ⟨⟨rfl, oks.1⟩, rfl, okL_flat (km := ks) (av := as) h oks.2 n (by simp only [flat, List.length_cons] at hn; omega)⟩
theorem flat_le : ∀ {km : List Nat} {av : List AV}, kmOk km av = true → (flat av).length ≤ km.length
  | _, [], _ => Nat.zero_le _
  | 0 :: ks, .inl x :: as, h => by have := flat_le (km := ks) (av := as) h; simp only [flat, List.length_cons]; omega
  | 0 :: ks, .inr (.inr r) :: as, h => by have := flat_le (km := ks) (av := as) h; simp only [flat, List.length_cons]; omega
  | 1 :: 2 :: ks, .inr (.inl x) :: as, h => by have := flat_le (km := ks) (av := as) h; simp only [flat, List.length_cons]; omega
theorem okL_entry {km : List Nat} {av : List AV} {maxL : Nat} (h : kmOk km av = true) (oks : okSt av) (hl : km.length = maxL) : okL km (entryL av maxL) := by
  subst hl
  exact okL_flat h oks _ (by have := flat_le h; omega)
/-- a method's contract off its first block -/
theorem con_of {y : MethodName} {km : List Nat} {rk : Nat} {fn : Jn St} {f : List AV → St → RS St} (hB : Blk l Z C bytes maxL ret false R AC nC zC (cC false) (sC as false) (HC Z C fs as K false) km rk (2 * K) (0, 2 * K, fn)) (hpl : plainName C = true) (hy : y.cls = C)
    (hf : ∀ av S r, f av S = some r → okSt av → fn (entryL av maxL) [] S = some r ∧ okL km (entryL av maxL)) : Con l Z C fs as K y bytes maxL ret R rk f := by
  intro i av S r h oks hH
  obtain ⟨h1, h2⟩ := hf av S r h oks
  exact met_of_blk (ws := []) hB (by rw [hy]; exact hpl) hy (fun hh => nomatch hh) rfl rfl h1 h2 hH rfl
end Hop
end Jvm.OwnKit
namespace Jvm.OwnKit
open Sem ClassFile Op Lib Jvm.Stand Jvm.Free Jvm.LawKit Jvm.RoadKit
/-! # 7. a law: it makes objects, calls them, reads its script -/
/-- where the new cells begin, how long the heap is at the call, the heap at the start, where the script lies -/
abbrev IL : Type := Nat × Nat × Heap × Nat
def AL (nob K : Nat) (i : IL) : Nat → Addr := fun h => if h < nob then i.1 + h * (K + 1) else i.2.2.2
def nL (i : IL) : Nat := i.1
def zL (i : IL) : Nat := i.2.1
def szL (K q : Nat) : Nat := q / 2 * (K + 1) + q % 2
def slL (nf sm q : Nat) : Nat := (q + 1) / 2 * nf + q / 2 * sm
def zS : St := fun _ _ => 0
def ConK (l : Launch) (Z : State) (C : String) (fs : List FE) (as : List AE) (K : Nat) (y : MethodName) (bytes : ByteArray) (maxL : Nat) (rm : Room) (f : List AV → St → RS St) : Prop :=
  ∀ (i : IC) (av : List AV) (S : St) (r : Int × St), f av S = some r → okSt av → HC Z C fs as K true i 0 S i.2.2 →
    MetFree l y (head1 [Jvm.Cond.code y bytes maxL none] rm) (fun x U => x = (av.map (conc (AC i))).toArray ∧ Z.Warmed39 U.vm ∧ U.heap = i.2.2) (fun _ _ _ _ _ => True)
      (fun _ U o U' => ∃ v L, o = .returned v ∧ ((v = Val 0 r.1 ∧ okR 0 r.1) ∧ Fr (nC i) L ∧ HC Z C fs as K true i (2 * K) r.2 U'.heap) ∧ FrameEnd U o U' L rm.cells rm.slots)
def noRef : List AV → Bool
  | [] => true
  | .inr (.inr _) :: _ => false
  | _ :: as => noRef as
theorem noRef_conc (A B : Nat → Addr) : ∀ {as : List AV}, noRef as = true → as.map (conc A) = as.map (conc B)
  | [], _ => rfl
  | .inl x :: as, h => by simp only [List.map_cons]; rw [noRef_conc A B (as := as) h]; rfl
  | .inr (.inl x) :: as, h => by simp only [List.map_cons]; rw [noRef_conc A B (as := as) h]; rfl
  | .inr (.inr x) :: as, h => by cases h
section Law
variable {σ : Type}
def HL (Z : State) (C : String) (fs : List FE) (as : List AE) (K : Nat) (gt : Nat → σ → St) (mk scr : Bool) (len : Int) (sc : Int → Int) (i : IL) (q : Nat) (S : σ) (h : Heap) : Prop :=
  (∀ b, b < i.1 → h[b]? = i.2.2.1[b]?) ∧ i.2.2.1.size = i.1 ∧ h.size = i.1 + szL K q ∧ (∀ j, 2 * j + 2 ≤ q → Clu Z (i.1 + j * (K + 1)) C fs as (2 * K) (gt j S) h) ∧ (∀ j, q = 2 * j + 1 → Clu Z (i.1 + j * (K + 1)) C fs as 0 (gt j S) h) ∧
  (scr = true → i.2.2.2 < i.1 ∧ R32 len ∧ ArrIs Z i.2.2.1 i.2.2.2 0 len sc) ∧ (mk = true → i.2.1 = i.1)
/-- a law's own helper (under 16 times its pool number and how far the objects are made): number of arguments, what it returns, what it computes -/
abbrev SE (σ : Type) : Type := Nat × Nat × (List AV → σ → RS σ)
def newL (nob ni : Nat) (mk : Bool) (pt : Nat → σ → St → σ) (idx : Nat) (st : List AV) (q : Nat) (S : σ) (k : List AV → Nat → σ → RS σ) : RS σ :=
  bif mk && Nat.beq idx ni && Nat.beq q (2 * (q / 2)) && Nat.ble (q / 2 + 1) nob then k (.inr (.inr (some (q / 2))) :: st) (q + 1) (pt (q / 2) S zS) else none
def iniL (nob W ci cna : Nat) (mk : Bool) (fc : List AV → St → RS St) (gt : Nat → σ → St) (pt : Nat → σ → St → σ) (idx : Nat) (st : List AV) (q : Nat) (S : σ) (k : List AV → Nat → σ → RS σ) : RS σ := match argsOf cna [] st with
  | some (as, .inr (.inr (some j)) :: st') => bif mk && Nat.beq idx ci && Nat.beq q (2 * j + 1) && Nat.ble (j + 1) nob && Nat.ble (wt st') W && noRef as then (fc (.inr (.inr (some 0)) :: as) (gt j S)).bind (fun r => k st' (q + 1) (pt j S r.2)) else none
  | _ => none
def virL (nob W : Nat) (ml : List (Nat × ME St)) (gt : Nat → σ → St) (pt : Nat → σ → St → σ) (idx : Nat) (st : List AV) (q : Nat) (S : σ) (k : List AV → Nat → σ → RS σ) : RS σ := match look ml idx with
  | some t => (match argsOf t.1 [] st with
    | some (as, .inr (.inr (some j)) :: st') => bif Nat.beq q (2 * (q / 2)) && Nat.ble (2 * j + 2) q && Nat.ble (j + 1) nob && Nat.ble (wt st') W && noRef as then (t.2.2 (.inr (.inr (some 0)) :: as) (gt j S)).bind (fun r => k (pushR t.2.1 r.1 st') q (pt j S r.2)) else none
    | _ => none)
  | none => none
def staL (W : Nat) (sl : List (Nat × SE σ)) (idx : Nat) (st : List AV) (q : Nat) (S : σ) (k : List AV → Nat → σ → RS σ) : RS σ := match look sl (16 * idx + q) with
  | some t => (match argsOf t.1 [] st with
    | some (as, st') => bif Nat.ble q 15 && Nat.ble (wt st') W then (t.2.2 as S).bind (fun r => k (pushR t.2.1 r.1 st') q r.2) else none
    | _ => none)
  | none => none
def ialL (nob : Nat) (scr : Bool) (len : Int) (sc : Int → Int) (st : List AV) (q : Nat) (S : σ) (k : List AV → Nat → σ → RS σ) : RS σ := match st with
  | .inl i :: .inr (.inr (some h)) :: st => bif scr && Nat.beq h nob then (if 0 ≤ i ∧ i < len then k (.inl (sc i) :: st) q S else none) else none
  | _ => none
def alnL (nob : Nat) (scr : Bool) (len : Int) (st : List AV) (q : Nat) (S : σ) (k : List AV → Nat → σ → RS σ) : RS σ := match st with
  | .inr (.inr (some h)) :: st => bif scr && Nat.beq h nob then k (.inl len :: st) q S else none
  | _ => none
def hopL (nob W ni ci cna : Nat) (mk : Bool) (fc : List AV → St → RS St) (ml : List (Nat × ME St)) (sl : List (Nat × SE σ)) (cI cJ : List (Nat × Int)) (gt : Nat → σ → St) (pt : Nat → σ → St → σ) (scr : Bool) (len : Int) (sc : Int → Int) : Hop σ := fun i st q S k => match i with
  | .new idx => newL nob ni mk pt idx st q S k
  | .invokespecial idx => iniL nob W ci cna mk fc gt pt idx st q S k
  | .invokevirtual idx => virL nob W ml gt pt idx st q S k
  | .invokestatic idx => staL W sl idx st q S k
  | .iaload => ialL nob scr len sc st q S k
  | .arraylength => alnL nob scr len st q S k
  | .ldc idx => (match look cI idx with
    | some x => k (.inl x :: st) q S
    | none => none)
  | .ldc_w idx => (match look cI idx with
    | some x => k (.inl x :: st) q S
    | none => none)
  | .ldc2_w idx => (match look cJ idx with
    | some x => k (.inr (.inl x) :: st) q S
    | none => none)
  | _ => none
def VirL (l : Launch) (Z : State) (a0 : Array Value) (own C : String) (fs : List FE) (as : List AE) (K W : Nat) (R : Room) (x : Nat × ME St) : Prop :=
  ∃ (y : MethodName) (bytes : ByteArray) (maxL : Nat) (ret : Option FieldType) (rm : Room) (ps : List FieldType), y.cls = C ∧ (Jvm.Cond.methodLink own x.1 y).before a0 Z = true ∧ (Jvm.Cond.instanceMethod y).before a0 Z = true ∧
    ((Jvm.Cond.declares y).before a0 Z = true ∧ (Jvm.Cond.selects C y y).before a0 Z = true) ∧ (Jvm.Cond.code y bytes maxL ret).before a0 Z = true ∧
    parseMethodDescriptor y.desc = some ⟨ps, ret⟩ ∧ ps.length = x.2.1 ∧ rm.cells = 0 ∧ rm.slots = 0 ∧ rm.frames + 1 ≤ R.frames ∧ W + (maxL + 11) + rm.locals ≤ R.locals ∧ Con l Z C fs as K y bytes maxL ret rm x.2.2.1 x.2.2.2
def ConL (l : Launch) (Z : State) (C : String) (fs : List FE) (as : List AE) (K nob : Nat) (gt : Nat → σ → St) (scr : Bool) (len : Int) (sc : Int → Int) (y : MethodName) (bytes : ByteArray) (maxL : Nat) (ret : Option FieldType) (rm : Room) (rk qs : Nat) (f : List AV → σ → RS σ) : Prop :=
  ∀ (i : IL) (av : List AV) (S : σ) (r : Int × σ) (h : Heap), f av S = some r → okSt av → i.2.1 = h.size → HL Z C fs as K gt false scr len sc i qs S h →
    MetFree l y (head1 [Jvm.Cond.code y bytes maxL ret] rm) (fun x U => x = (av.map (conc (AL nob K i))).toArray ∧ Z.Warmed39 U.vm ∧ U.heap = h) (fun _ _ _ _ _ => True)
      (fun _ U o U' => ∃ v L, o = .returned v ∧ ((v = Val rk r.1 ∧ okR rk r.1) ∧ Fr (nL i) L ∧ HL Z C fs as K gt false scr len sc i qs r.2 U'.heap) ∧ FrameEnd U o U' L rm.cells rm.slots)
def StaL (l : Launch) (Z : State) (a0 : Array Value) (own C : String) (fs : List FE) (as : List AE) (K nob W : Nat) (R : Room) (gt : Nat → σ → St) (scr : Bool) (len : Int) (sc : Int → Int) (x : Nat × SE σ) : Prop :=
  ∃ (y : MethodName) (bytes : ByteArray) (maxL : Nat) (ret : Option FieldType) (rm : Room) (ps : List FieldType), y.cls = own ∧ (Jvm.Cond.methodLink own (x.1 / 16) y).before a0 Z = true ∧ (Jvm.Cond.static y).before a0 Z = true ∧ (Jvm.Cond.initialized own).before a0 Z = true ∧
    (Jvm.Cond.code y bytes maxL ret).before a0 Z = true ∧
    parseMethodDescriptor y.desc = some ⟨ps, ret⟩ ∧ ps.length = x.2.1 ∧ rm.cells = 0 ∧ rm.slots = 0 ∧ rm.frames + 1 ≤ R.frames ∧ W + (maxL + 11) + rm.locals ≤ R.locals ∧ ConL l Z C fs as K nob gt scr len sc y bytes maxL ret rm x.2.2.1 (x.1 % 16) x.2.2.2
theorem clu_same {Z : State} {a0 : Array Value} {C : String} {kk : Nat} {fs : List FE} {as : List AE} {K a q : Nat} {S : St} {h h' : Heap} (H : ClsOk Z a0 C kk fs as K) (c : Clu Z a C fs as q S h) (e : ∀ b, a ≤ b → b ≤ a + K → h'[b]? = h[b]?) : Clu Z a C fs as q S h' := by
  obtain ⟨c1, c2, c3, c4⟩ := c
  refine ⟨?_, fun f hf => ⟨?_, (c2 f hf).2⟩, fun t ht hq => ?_, c4⟩
  · obtain ⟨cell, k, h1, r⟩ := c1
    exact ⟨cell, k, by rw [e a (Nat.le_refl _) (by omega)]; exact h1, r⟩
  · obtain ⟨cell, cf, k, i, f', h1, r⟩ := (c2 f hf).1
    exact ⟨cell, cf, k, i, f', by rw [e a (Nat.le_refl _) (by omega)]; exact h1, r⟩
  · have hK := H.arrK ht
    obtain ⟨cell, ⟨g0, g1⟩, g2⟩ := c3 t ht hq
    exact ⟨cell, ⟨by rw [e _ (by omega) (by omega)]; exact g0, g1⟩, g2⟩
theorem clu_raw {Z : State} {a0 : Array Value} {C : String} {kk : Nat} {fs : List FE} {as : List AE} {K a : Nat} {h : Heap} (H : ClsOk Z a0 C kk fs as K) (E : Exa Z h a C) (D : ∀ {O nm d : String} {ty : FieldType}, Laid Z a0 C O nm d → parseFieldDescriptor d = some ty → Fld Z h a O nm d (defaultValue ty)) : Clu Z a C fs as 0 zS h := by
  refine ⟨E, fun f hf => ⟨?_, fun _ => by unfold zS R32; omega⟩, fun t ht hq => ?_, fun t ht hq i => rfl⟩
  · rcases H.desc hf with ⟨e1, e2⟩ | ⟨e1, e2⟩ | ⟨t, ht, e1, e2⟩
    · have := D (H.laid hf) e2
      have e3 : fval a 0 zS f = defaultValue .int := by unfold fval; rw [e1]; rfl
      rw [e3]; exact this
    · have := D (H.laid hf) e2
      have e3 : fval a 0 zS f = defaultValue .boolean := by unfold fval; rw [e1]; rfl
      rw [e3]; exact this
    · have := D (H.laid hf) e2
      have hK := H.arrK ht
      have e3 : fval a 0 zS f = .null := by unfold fval; rw [e1]; simp; omega
      rw [e3]; exact this
  · have hK := H.arrK ht
    omega
end Law
end Jvm.OwnKit
namespace Jvm.OwnKit
open Sem ClassFile Op Lib Jvm.Stand Jvm.Free Jvm.LawKit Jvm.RoadKit
section LawHop
variable {σ : Type} {l : Launch} {Z : State} {a0 : Array Value} {own C : String} {kk : Nat} {fs : List FE} {as : List AE} {K W nob ni ci cna : Nat} {mk : Bool} {fc : List AV → St → RS St} {cI cJ : List (Nat × Int)} {ml : List (Nat × ME St)} {sl : List (Nat × SE σ)} {gt : Nat → σ → St} {pt : Nat → σ → St → σ} {scr : Bool} {len : Int} {sc : Int → Int} {bytes : ByteArray} {maxL : Nat} {ret : Option FieldType} {R : Room}
theorem newL_ok {idx : Nat} {st : List AV} {q : Nat} {S : σ} {k : List AV → Nat → σ → RS σ} {r : Int × σ} (h : newL nob ni mk pt idx st q S k = some r) : mk = true ∧ idx = ni ∧ q = 2 * (q / 2) ∧ q / 2 + 1 ≤ nob ∧ k (vR (q / 2) :: st) (q + 1) (pt (q / 2) S zS) = some r := by
  unfold newL at h
  cases hb : (mk && Nat.beq idx ni && Nat.beq q (2 * (q / 2)) && Nat.ble (q / 2 + 1) nob)
  · rw [hb] at h; cases h
  · rw [hb] at h
    simp only [Bool.and_eq_true] at hb
    exact ⟨hb.1.1.1, Nat.eq_of_beq_eq_true hb.1.1.2, Nat.eq_of_beq_eq_true hb.1.2, Nat.le_of_ble_eq_true hb.2, h⟩
theorem iniL_ok {idx : Nat} {st : List AV} {q : Nat} {S : σ} {k : List AV → Nat → σ → RS σ} {r : Int × σ} (h : iniL nob W ci cna mk fc gt pt idx st q S k = some r) :
    ∃ av j st1 r1, mk = true ∧ idx = ci ∧ av.length = cna ∧ st = av.reverse ++ vR j :: st1 ∧ q = 2 * j + 1 ∧ j + 1 ≤ nob ∧ wt st1 ≤ W ∧ noRef av = true ∧ fc (vR 0 :: av) (gt j S) = some r1 ∧ k st1 (q + 1) (pt j S r1.2) = some r := by
  unfold iniL at h
  split at h
  · rename_i av j st1 ha
    obtain ⟨zs, h1, h2, h3⟩ := argsOf_ok ha
    rw [List.append_nil] at h2
    subst h2
    cases hb : (mk && Nat.beq idx ci && Nat.beq q (2 * j + 1) && Nat.ble (j + 1) nob && Nat.ble (wt st1) W && noRef av)
    · rw [hb] at h; cases h
    · rw [hb] at h
      simp only [Bool.and_eq_true] at hb
      simp only [cond_true] at h
      obtain ⟨r1, hr1, hr2⟩ := Option.bind_eq_some_iff.mp h
      exact ⟨av, j, st1, r1, hb.1.1.1.1.1, Nat.eq_of_beq_eq_true hb.1.1.1.1.2, h1, h3, Nat.eq_of_beq_eq_true hb.1.1.1.2, Nat.le_of_ble_eq_true hb.1.1.2, Nat.le_of_ble_eq_true hb.1.2, hb.2, hr1, hr2⟩
  · cases h
theorem virL_ok {idx : Nat} {st : List AV} {q : Nat} {S : σ} {k : List AV → Nat → σ → RS σ} {r : Int × σ} (h : virL nob W ml gt pt idx st q S k = some r) :
    ∃ t av j st1 r1, look ml idx = some t ∧ av.length = t.1 ∧ st = av.reverse ++ vR j :: st1 ∧ q = 2 * (q / 2) ∧ 2 * j + 2 ≤ q ∧ j + 1 ≤ nob ∧ wt st1 ≤ W ∧ noRef av = true ∧ t.2.2 (vR 0 :: av) (gt j S) = some r1 ∧ k (pushR t.2.1 r1.1 st1) q (pt j S r1.2) = some r := by
  unfold virL at h
  split at h
  · rename_i t ht
    split at h
    · rename_i av j st1 ha
      obtain ⟨zs, h1, h2, h3⟩ := argsOf_ok ha
      rw [List.append_nil] at h2
      subst h2
      cases hb : (Nat.beq q (2 * (q / 2)) && Nat.ble (2 * j + 2) q && Nat.ble (j + 1) nob && Nat.ble (wt st1) W && noRef av)
      · rw [hb] at h; cases h
      · rw [hb] at h
        simp only [Bool.and_eq_true] at hb
        simp only [cond_true] at h
        obtain ⟨r1, hr1, hr2⟩ := Option.bind_eq_some_iff.mp h
        exact ⟨t, av, j, st1, r1, ht, h1, h3, Nat.eq_of_beq_eq_true hb.1.1.1.1, Nat.le_of_ble_eq_true hb.1.1.1.2, Nat.le_of_ble_eq_true hb.1.1.2, Nat.le_of_ble_eq_true hb.1.2, hb.2, hr1, hr2⟩
    · cases h
  · cases h
theorem staL_ok {idx : Nat} {st : List AV} {q : Nat} {S : σ} {k : List AV → Nat → σ → RS σ} {r : Int × σ} (h : staL W sl idx st q S k = some r) :
    ∃ t av st1 r1, look sl (16 * idx + q) = some t ∧ av.length = t.1 ∧ st = av.reverse ++ st1 ∧ q ≤ 15 ∧ wt st1 ≤ W ∧ t.2.2 av S = some r1 ∧ k (pushR t.2.1 r1.1 st1) q r1.2 = some r := by
  unfold staL at h
  split at h
  · rename_i t ht
    split at h
    · rename_i av st1 ha
      obtain ⟨zs, h1, h2, h3⟩ := argsOf_ok ha
      rw [List.append_nil] at h2
      subst h2
      cases hb : (Nat.ble q 15 && Nat.ble (wt st1) W)
      · rw [hb] at h; cases h
      · rw [hb] at h
        simp only [Bool.and_eq_true] at hb
        simp only [cond_true] at h
        obtain ⟨r1, hr1, hr2⟩ := Option.bind_eq_some_iff.mp h
        exact ⟨t, av, st1, r1, ht, h1, h3, Nat.le_of_ble_eq_true hb.1, Nat.le_of_ble_eq_true hb.2, hr1, hr2⟩
    · cases h
  · cases h
theorem mul_le_of {j n K : Nat} (h : j + 1 ≤ n) : j * (K + 1) + (K + 1) ≤ n * (K + 1) := by
  have := Nat.mul_le_mul_right (K + 1) h
  rw [Nat.add_mul, Nat.one_mul] at this; exact this
/-- one object's cells have changed: the others' facts stand -/
theorem HL_call {i : IL} {q j : Nat} {S : σ} {x : St} {h h' : Heap} (H : ClsOk Z a0 C kk fs as K) (hgp : ∀ j j' S x, j < nob → j' < nob → gt j' (pt j S x) = if j' = j then x else gt j' S) (hnob : ∀ j', 2 * j' + 2 ≤ q → j' < nob) (hq : q = 2 * (q / 2)) (hj : 2 * j + 2 ≤ q) (hL : HL Z C fs as K gt mk scr len sc i q S h)
    (hC : Clu Z (i.1 + j * (K + 1)) C fs as (2 * K) x h') (hO : Off h h' (i.1 + j * (K + 1)) K false (2 * K)) : HL Z C fs as K gt mk scr len sc i q (pt j S x) h' := by
  obtain ⟨l1, l2, l3, l4, l5, l6, l7⟩ := hL
  obtain ⟨o1, o2, o3⟩ := hO
  simp only [cond_false] at o3
  refine ⟨fun b hb => ?_, l2, by rw [o3]; exact l3, fun j' hj' => ?_, fun j' hj' => by omega, l6, l7⟩
  · rw [o1 b (by omega)]; exact l1 b hb
  · rw [hgp j j' S x (hnob j hj) (hnob j' hj')]
    by_cases e : j' = j
    · subst e; rw [if_pos rfl]; exact hC
    · rw [if_neg e]
      refine clu_same H (l4 j' hj') fun b hb1 hb2 => ?_
      by_cases e' : j' < j
      · have := mul_le_of (K := K) (show j' + 1 ≤ j by omega)
        exact o1 b (by omega)
      · have := mul_le_of (K := K) (show j + 1 ≤ j' by omega)
        exact o2 b (by omega)
set_option maxHeartbeats 8000000 in
theorem hopL_all (H : ClsOk Z a0 C kk fs as K) (hC : notMH C) (hO : notMH own) (wz : (Jvm.Cond.initialized C).before a0 Z = true)
    (hgp : ∀ j j' S x, j < nob → j' < nob → gt j' (pt j S x) = if j' = j then x else gt j' S)
    (hnew : mk = true → (Jvm.Cond.classLink own ni C).before a0 Z = true ∧ ∃ (y : MethodName) (bs : ByteArray) (mL : Nat) (rm : Room) (ps : List FieldType), y.cls = C ∧ y.name = "<init>" ∧ (Jvm.Cond.methodLink own ci y).before a0 Z = true ∧ (Jvm.Cond.instanceMethod y).before a0 Z = true ∧ (Jvm.Cond.code y bs mL none).before a0 Z = true ∧ parseMethodDescriptor y.desc = some ⟨ps, none⟩ ∧ ps.length = cna ∧ rm.cells = K ∧ rm.slots = sumTo (lenAt as) K ∧ rm.frames + 1 ≤ R.frames ∧ W + (mL + 11) + rm.locals ≤ R.locals ∧ ConK l Z C fs as K y bs mL rm fc)
    (hrm : mk = true → szL K (2 * nob) ≤ R.cells ∧ slL kk (sumTo (lenAt as) K) (2 * nob) ≤ R.slots) (hmk : mk = false → nob = nob)
    (hcI : ∀ x ∈ cI, (Jvm.Cond.constant own x.1 (Int32.ofInt x.2)).before a0 Z = true ∧ R32 x.2) (hcJ : ∀ x ∈ cJ, (Jvm.Cond.constantLong own x.1 (Int64.ofInt x.2)).before a0 Z = true ∧ R64 x.2)
    (hml : ∀ x ∈ ml, VirL l Z a0 own C fs as K W R x) (hsl : ∀ x ∈ sl, StaL l Z a0 own C fs as K nob W R gt scr len sc x) :
    HopAll l Z own bytes maxL ret false R (AL nob K) nL zL (fun q => bif mk then szL K q else 0) (fun q => bif mk then slL kk (sumTo (lenAt as) K) q else 0) (fun i q S h => HL Z C fs as K gt mk scr len sc i q S h ∧ q ≤ 2 * nob) (hopL nob W ni ci cna mk fc ml sl cI cJ gt pt scr len sc) := by
  intro p e s m args below meth c hctx i hsz pc ins L st q S k r hd hL oks h
  obtain ⟨hx, hby, hml0, hret, hlk, hZ, hown, hnm⟩ := hctx
  have hsize : (cL (AL nob K i) L).size = c.maxLocals := by simp [cL, hL]
  have hAL : ∀ j, j + 1 ≤ nob → AL nob K i j = i.1 + j * (K + 1) := fun j hj => by unfold AL; rw [if_pos (by omega)]
  have hroom : ∀ q', q' ≤ 2 * nob → (bif mk then szL K q' else 0) ≤ R.cells ∧ (bif mk then slL kk (sumTo (lenAt as) K) q' else 0) ≤ R.slots := by
    intro q' hq'
    cases hm : mk
    · simp
    · obtain ⟨h1, h2⟩ := hrm hm
      simp only [cond_true]
      have e1 : 2 * nob / 2 = nob := by omega
      have e2 : 2 * nob % 2 = 0 := by omega
      have e3 : (2 * nob + 1) / 2 = nob := by omega
      simp only [szL, slL, e1, e2, e3] at h1 h2 ⊢
      have g1 : q' / 2 ≤ nob := by omega
      have g2 : (q' + 1) / 2 ≤ nob := by omega
      refine ⟨?_, Nat.le_trans (Nat.add_le_add (Nat.mul_le_mul_right _ g2) (Nat.mul_le_mul_right _ g1)) h2⟩
      by_cases g3 : q' / 2 = nob
      · have : q' % 2 = 0 := by omega
        rw [this, g3]; exact h1
      · have := mul_le_of (K := K) (show q' / 2 + 1 ≤ nob by omega)
        omega
  cases ins with
  | new idx =>
    obtain ⟨hmk1, rfl, hq, hqn, hk⟩ := newL_ok h
    obtain ⟨wl, -⟩ := hnew hmk1
    refine ⟨_, _, _, hk, fun Q G => Goes.step (φ := okSt (vR (q / 2) :: st)) (fun T Lo X hP => ?_) G⟩
    obtain ⟨⟨l1, l2, l3, l4, l5, l6, l7⟩, hqb⟩ := hP
    have hr := hroom (q + 1) (by omega)
    have hr0 := hroom q (by omega)
    subst hmk1
    simp only [cond_true] at hr hr0 X ⊢
    have ec : szL K (q + 1) = szL K q + 1 := by unfold szL; have e1 : (q + 1) / 2 = q / 2 := by omega
                                                rw [e1]; omega
    have es : slL kk (sumTo (lenAt as) K) (q + 1) = slL kk (sumTo (lenAt as) K) q + kk := by
      unfold slL
      have e1 : (q + 1) / 2 = q / 2 := by omega
      have e2 : (q + 1 + 1) / 2 = q / 2 + 1 := by omega
      rw [e1, e2, Nat.add_mul, Nat.one_mul]; omega
    have hszT : T.heap.size = i.1 + q / 2 * (K + 1) := by rw [l3]; unfold szL; omega
    obtain ⟨T', h', X', e', E, Ex, D, -, stp⟩ := newO X hx hZ hown wl H.1 wz rfl (g := mkF m pc (cL (AL nob K i) L) (cSt (AL nob K i) st)) rfl hd (by rw [← ec]; exact hr.1) (by rw [← es]; exact hr.2)
    subst e'
    rw [hszT] at Ex D
    have hs1 : T'.heap.size ≤ s.heap.size + (szL K q + 1) := X'.heapSize
    have hs2 : (i.1 + q / 2 * (K + 1) : Nat) < T'.heap.size := Ex.lt
    have hs3 : s.heap.size = i.1 := by rw [hsz]; exact l7 rfl
    have hkeep : ∀ b, b < T.heap.size → T'.heap[b]? = T.heap[b]? := fun b hb => by
      rw [Array.getElem?_eq_getElem hb]; exact E.2 b _ (Array.getElem?_eq_getElem hb)
    refine ⟨T', [], by rw [List.append_nil, ec, es]; exact X', Fr.nil _, ⟨⟨fun b hb => ?_, l2, ?_, fun j hj => ?_, fun j hj => ?_, l6, l7⟩, by omega⟩, ⟨trivial, oks⟩, fun target kk' => stp target ?_⟩
    · rw [hkeep b (by omega)]; exact l1 b hb
    · rw [ec]; unfold szL at hs1 ⊢; omega
    · have hj' : 2 * j + 2 ≤ q := by omega
      rw [hgp _ _ _ _ (by omega) (by omega), if_neg (by omega)]
      refine clu_same H (l4 j hj') fun b hb1 hb2 => hkeep b ?_
      have := mul_le_of (K := K) (show j + 1 ≤ q / 2 by omega)
      omega
    · have hj' : j = q / 2 := by omega
      subst hj'
      rw [hgp _ _ _ _ (by omega) (by omega), if_pos rfl]
      exact clu_raw H Ex D
    · rw [hszT]
      have := hAL (q / 2) hqn
      show Steps p.tables e below (T'.setTop (mkF m (pc + 3) (cL (AL nob K i) L) (.ref (i.1 + q / 2 * (K + 1)) :: cSt (AL nob K i) st))) target
      rw [← this]; exact kk'
  | invokespecial idx =>
    obtain ⟨av, j, st1, r1, hmk1, rfl, hlen, rfl, hq, hjn, hwt, hnr, hf, hk⟩ := iniL_ok h
    obtain ⟨-, y, bs, mL, rm, ps, y0, y0', y1, y2, y4, y5, y6, y7, y8, y9, y10, con⟩ := hnew hmk1
    have oks' := okSt_app.mp oks
    refine ⟨_, _, _, hk, fun Q G => Goes.step (φ := okSt st1) (fun T Lo X hP => ?_) G⟩
    obtain ⟨⟨l1, l2, l3, l4, l5, l6, l7⟩, hqb⟩ := hP
    have hr := hroom (q + 1) (by omega)
    subst hmk1
    simp only [cond_true] at hr X ⊢
    have ec : szL K (q + 1) = szL K q + K := by
      unfold szL
      have e1 : (q + 1) / 2 = q / 2 + 1 := by omega
      rw [e1, Nat.add_mul, Nat.one_mul]; omega
    have es : slL kk (sumTo (lenAt as) K) (q + 1) = slL kk (sumTo (lenAt as) K) q + sumTo (lenAt as) K := by
      unfold slL
      have e1 : (q + 1) / 2 = q / 2 + 1 := by omega
      have e2 : (q + 1 + 1) / 2 = (q + 1) / 2 := by omega
      rw [e2, e1]
      simp only [Nat.add_mul, Nat.one_mul]; omega
    have hj : j = q / 2 := by omega
    have hclu := l5 j hq
    have hszT : T.heap.size = i.1 + j * (K + 1) + 1 := by rw [l3]; unfold szL; rw [← hj]; omega
    have hM := con (i.1 + j * (K + 1), i.1, T.heap) (vR 0 :: av) (gt j S) r1 hf ⟨trivial, okSt_rev.mp oks'.1⟩ ⟨Nat.le_add_right _ _, hclu, ⟨fun _ _ => rfl, fun _ _ => rfl, by simp only [cond_true]; exact hszT⟩, fun _ => hszT⟩
    have hB := backOf (Q := fun v hh Lc => (v = Val 0 r1.1 ∧ okR 0 r1.1) ∧ Fr i.1 Lc ∧ HC Z C fs as K true (i.1 + j * (K + 1), i.1, T.heap) (2 * K) r1.2 hh) (R := R) (p := p) (e := e) (below := below) (s := s) (args := args) (len := 3) (W := W) hM hZ y4 (by rw [y0]; exact wz) y9 y10
    have hst : cSt (AL nob K i) (av.reverse ++ vR j :: st1) = (av.map (conc (AL nob K i))).reverse ++ .ref (AL nob K i j) :: cSt (AL nob K i) st1 := by simp [cSt, conc]
    have hsum : 2 * 0 + ((cSt (AL nob K i) st1).map fun v => v.category).sum ≤ W := by have := wt_eq (AL nob K i) st1; omega
    have hargs : (Value.ref (AL nob K i j) :: av.map (conc (AL nob K i))).toArray = ((vR 0 :: av).map (conc (AC (i.1 + j * (K + 1), i.1, T.heap)))).toArray := by
      rw [hAL j hjn, noRef_conc (AL nob K i) (AC (i.1 + j * (K + 1), i.1, T.heap)) hnr]; rfl
    have hyC : y.cls ≠ "java/lang/invoke/MethodHandle" ∧ y.cls ≠ "java/lang/invoke/VarHandle" := by rw [y0]; exact hC
    obtain ⟨v, vm₁, ⟨T', L', k', n'⟩, hW₁, X', ⟨Lc, hQ, l1', l2', l3'⟩, stp⟩ := X.specialBack hx (y := y) y0' hown (mvT hZ y1) (mvT hZ y2) (mvT hZ y4) hyC hB (g := mkF m pc (cL (AL nob K i) L) (cSt (AL nob K i) (av.reverse ++ vR j :: st1))) rfl hsize (Steps.refl _) (a := AL nob K i j) (argsL := av.map (conc (AL nob K i))) (rest := cSt (AL nob K i) st1) (lenOf y5 (by simp [hlen, y6])) hst hsum hd (fun _ _ => ⟨hargs, rfl, by show szL K q + rm.cells ≤ _; rw [y7, ← ec]; exact hr.1, by show slL kk _ q + rm.slots ≤ _; rw [y8, ← es]; exact hr.2⟩)
    dsimp only [Pt.U, Pt.locs, Pt.cells, Pt.slots] at X' hQ l1' l2' l3' stp
    subst l1' l2' l3'
    obtain ⟨⟨rfl, hokr⟩, hFr, hna', hclu', ⟨o1, o2, o3⟩, -⟩ := hQ
    rw [y7, y8, ← ec, ← es] at X'
    dsimp only at o1 o2 o3
    simp only [cond_true] at o3
    refine ⟨T', Lc, X', hFr, ⟨⟨fun b hb => ?_, l2, ?_, fun j' hj' => ?_, fun j' hj' => by omega, l6, l7⟩, by omega⟩, oks'.2.2, fun target kk' => stp.trans kk'⟩
    · rw [o1 b (by omega)]; exact l1 b hb
    · rw [o3, ec]; unfold szL; rw [← hj]; omega
    · rw [hgp _ _ _ _ (by omega) (by omega)]
      by_cases e1 : j' = j
      · subst e1; rw [if_pos rfl]; exact hclu'
      · rw [if_neg e1]
        refine clu_same H (l4 j' (by omega)) fun b hb1 hb2 => o1 b ?_
        have := mul_le_of (K := K) (show j' + 1 ≤ j by omega)
        omega
  | invokevirtual idx =>
    obtain ⟨t, av, j, st1, r1, ht, hlen, rfl, hq, hjq, hjn, hwt, hnr, hf, hk⟩ := virL_ok h
    obtain ⟨y, bs, mL, rt, rm, ps, y0, y1, y2, ⟨y3, y3'⟩, y4, y5, y6, y7, y8, y9, y10, con⟩ := hml _ (look_mem ht)
    have oks' := okSt_app.mp oks
    refine ⟨_, _, _, hk, fun Q G => Goes.step (φ := okSt (pushR t.2.1 r1.1 st1)) (fun T Lo X hP => ?_) G⟩
    obtain ⟨hH, hqb⟩ := hP
    have hr := hroom q hqb
    have hclu := hH.2.2.2.1 j hjq
    have hM := con (i.1 + j * (K + 1), i.1, T.heap) (vR 0 :: av) (gt j S) r1 hf ⟨trivial, okSt_rev.mp oks'.1⟩ ⟨Nat.le_add_right _ _, hclu, ⟨fun _ _ => rfl, fun _ _ => rfl, rfl⟩, fun hh => nomatch hh⟩
    have hB := backOf (Q := fun v hh Lc => (v = Val t.2.1 r1.1 ∧ okR t.2.1 r1.1) ∧ Fr i.1 Lc ∧ HC Z C fs as K false (i.1 + j * (K + 1), i.1, T.heap) (2 * K) r1.2 hh) (R := R) (p := p) (e := e) (below := below) (s := s) (args := args) (len := 3) (W := W) hM hZ y4 (by rw [y0]; exact wz) y9 y10
    have hst : cSt (AL nob K i) (av.reverse ++ vR j :: st1) = (av.map (conc (AL nob K i))).reverse ++ .ref (AL nob K i j) :: cSt (AL nob K i) st1 := by simp [cSt, conc]
    have hsum : 2 * 0 + ((cSt (AL nob K i) st1).map fun v => v.category).sum ≤ W := by have := wt_eq (AL nob K i) st1; omega
    have hargs : (Value.ref (AL nob K i j) :: av.map (conc (AL nob K i))).toArray = ((vR 0 :: av).map (conc (AC (i.1 + j * (K + 1), i.1, T.heap)))).toArray := by
      rw [hAL j hjn, noRef_conc (AL nob K i) (AC (i.1 + j * (K + 1), i.1, T.heap)) hnr]; rfl
    have hyC : y.cls ≠ "java/lang/invoke/MethodHandle" ∧ y.cls ≠ "java/lang/invoke/VarHandle" := by rw [y0]; exact hC
    have hExa : Exa Z T.heap (AL nob K i j) C := by rw [hAL j hjn]; exact hclu.1
    obtain ⟨cB, kB, q1, q2, q3⟩ := isOf (s := s) (T := T) hZ rfl hExa
    obtain ⟨v, vm₁, ⟨T', L', k', n'⟩, hW₁, X', ⟨Lc, hQ, l1', l2', l3'⟩, stp⟩ := X.virtualBack hx (y := y) (z := y) hown (mvT hZ y1) (mvT hZ y3) (notFace_of_selects (args := #[]) (mvT hZ y3')) (mvT hZ y3') (mvT hZ y2) hyC hB q1 q3 (g := mkF m pc (cL (AL nob K i) L) (cSt (AL nob K i) (av.reverse ++ vR j :: st1))) rfl hsize (Steps.refl _) (argsL := av.map (conc (AL nob K i))) (rest := cSt (AL nob K i) st1) (lenOf y5 (by simp [hlen, y6])) hst hsum hd (fun _ _ => ⟨hargs, rfl, by rw [y7]; exact hr.1, by rw [y8]; exact hr.2⟩)
    dsimp only [Pt.U, Pt.locs, Pt.cells, Pt.slots] at X' hQ l1' l2' l3' stp
    subst l1' l2' l3'
    obtain ⟨⟨rfl, hokr⟩, hFr, hna', hclu', hoff', -⟩ := hQ
    rw [y7, y8, Nat.add_zero, Nat.add_zero] at X'
    refine ⟨T', Lc, X', hFr, ⟨HL_call H hgp (fun j' hj' => by omega) hq hjq hH hclu' hoff', hqb⟩, push_ok hokr oks'.2.2, fun target kk' => stp.trans ?_⟩
    rw [push_val]; exact kk'
  | invokestatic idx =>
    obtain ⟨t, av, st1, r1, ht, hlen, rfl, hq, hwt, hf, hk⟩ := staL_ok h
    obtain ⟨y, bs, mL, rt, rm, ps, y0, y1, y2, y3, y4, y5, y6, y7, y8, y9, y10, con⟩ := hsl _ (look_mem ht)
    have oks' := okSt_app.mp oks
    refine ⟨_, _, _, hk, fun Q G => Goes.step (φ := okSt (pushR t.2.1 r1.1 st1)) (fun T Lo X hP => ?_) G⟩
    obtain ⟨hH, hqb⟩ := hP
    have hr := hroom q hqb
    have hq16 : (16 * idx + q) / 16 = idx := by omega
    have hq17 : (16 * idx + q) % 16 = q := by omega
    dsimp only at y1 con
    rw [hq16] at y1
    rw [hq17] at con
    obtain ⟨l1, l2, l3, l4, l5, l6, l7⟩ := hH
    have hM := con (i.1, T.heap.size, i.2.2.1, i.2.2.2) av S r1 T.heap hf (okSt_rev.mp oks'.1) rfl ⟨l1, l2, l3, l4, l5, l6, fun hh => nomatch hh⟩
    have wz' : (Jvm.Cond.initialized y.cls).before a0 Z = true := by rw [y0]; exact y3
    have hB := backOf (Q := fun v hh Lc => (v = Val t.2.1 r1.1 ∧ okR t.2.1 r1.1) ∧ Fr i.1 Lc ∧ HL Z C fs as K gt false scr len sc (i.1, T.heap.size, i.2.2.1, i.2.2.2) q r1.2 hh) (R := R) (p := p) (e := e) (below := below) (s := s) (args := args) (len := 3) (W := W) hM hZ y4 wz' y9 y10
    have hst : cSt (AL nob K i) (av.reverse ++ st1) = (av.map (conc (AL nob K i))).reverse ++ cSt (AL nob K i) st1 := by simp [cSt]
    have hsum : 2 * 0 + ((cSt (AL nob K i) st1).map fun v => v.category).sum ≤ W := by have := wt_eq (AL nob K i) st1; omega
    have hyC : y.cls ≠ "java/lang/invoke/MethodHandle" ∧ y.cls ≠ "java/lang/invoke/VarHandle" := by rw [y0]; exact hO
    obtain ⟨v, vm₁, ⟨T', L', k', n'⟩, hW₁, X', ⟨Lc, hQ, l1', l2', l3'⟩, stp⟩ := Jvm.LawKit.callS X hx (y := y) hown (mvT hZ y1) (mvT hZ y2) (mvT hZ wz') (mvT hZ y4) hyC hB (g := mkF m pc (cL (AL nob K i) L) (cSt (AL nob K i) (av.reverse ++ st1))) rfl hsize (argsL := av.map (conc (AL nob K i))) (rest := cSt (AL nob K i) st1) (lenOf y5 (by simp [hlen, y6])) hst hsum hd (fun _ _ => ⟨rfl, rfl, by rw [y7]; exact hr.1, by rw [y8]; exact hr.2⟩)
    dsimp only [Pt.U, Pt.locs, Pt.cells, Pt.slots] at X' hQ l1' l2' l3' stp
    subst l1' l2' l3'
    obtain ⟨⟨rfl, hokr⟩, hFr, m1, m2, m3, m4, m5, m6, m7⟩ := hQ
    rw [y7, y8, Nat.add_zero, Nat.add_zero] at X'
    refine ⟨T', Lc, X', hFr, ⟨⟨m1, m2, m3, m4, m5, l6, l7⟩, hqb⟩, push_ok hokr oks'.2, fun target kk' => stp target ?_⟩
    rw [push_val]; exact kk'
  | iaload =>
    change ialL nob scr len sc st q S k = some r at h
    unfold ialL at h
    split at h
    · rename_i j n st1
      cases hb : (scr && Nat.beq n nob)
      · rw [hb] at h; cases h
      · rw [hb] at h
        rw [Bool.and_eq_true] at hb
        simp only [cond_true] at h
        split at h
        · rename_i hj
          have hn := Nat.eq_of_beq_eq_true hb.2
          subst hn
          refine ⟨_, _, _, h, fun Q G => Goes.step (φ := okSt (vI (sc j) :: st1)) (fun T Lo X hP => ?_) G⟩
          obtain ⟨⟨l1, l2, l3, l4, l5, l6, l7⟩, hqb⟩ := hP
          obtain ⟨m1, m2, cell, g1, g2, g3⟩ := l6 hb.1
          have hidx := idx_ok oks.1 hj.1
          have hA : AL n K i n = i.2.2.2 := by unfold AL; rw [if_neg (by omega)]
          have hjn : j.toNat < cell.slots.size := by omega
          have hcast : ((j.toNat : Nat) : Int) = j := by omega
          obtain ⟨g4, g5⟩ := g3 j.toNat hjn
          rw [hcast] at g4 g5
          have hcell : T.heap[i.2.2.2]? = some cell := by rw [l1 _ m1]; exact g1.1
          refine ⟨T, [], by rw [List.append_nil]; exact X, Fr.nil _, ⟨⟨l1, l2, l3, l4, l5, l6, l7⟩, hqb⟩, ⟨g5, oks.2.2⟩, fun target kk' => ?_⟩
          exact X.iaload hx hcell (State.isArrayOf_alike hZ.alike g1.2.1) g1.2.2 (in_ok oks.1 hj.1 (by omega)) (by rw [hidx.2]; exact g4) (g := mkF m pc (cL (AL n K i) L) (cSt (AL n K i) (vI j :: vR n :: st1))) rfl (by rw [← hA]; rfl) hd target kk'
        · cases h
    · cases h
  | arraylength =>
    change alnL nob scr len st q S k = some r at h
    unfold alnL at h
    split at h
    · rename_i n st1
      cases hb : (scr && Nat.beq n nob)
      · rw [hb] at h; cases h
      · rw [hb] at h
        rw [Bool.and_eq_true] at hb
        simp only [cond_true] at h
        have hn := Nat.eq_of_beq_eq_true hb.2
        subst hn
        refine ⟨_, _, _, h, fun Q G => Goes.step (φ := okSt (vI len :: st1)) (fun T Lo X hP => ?_) G⟩
        obtain ⟨⟨l1, l2, l3, l4, l5, l6, l7⟩, hqb⟩ := hP
        obtain ⟨m1, m2, cell, g1, g2, g3⟩ := l6 hb.1
        have hA : AL n K i n = i.2.2.2 := by unfold AL; rw [if_neg (by omega)]
        have hcell : T.heap[i.2.2.2]? = some cell := by rw [l1 _ m1]; exact g1.1
        refine ⟨T, [], by rw [List.append_nil]; exact X, Fr.nil _, ⟨⟨l1, l2, l3, l4, l5, l6, l7⟩, hqb⟩, ⟨m2, oks.2⟩, fun target kk' => ?_⟩
        refine X.arraylength hx hcell (State.isArrayOf_alike hZ.alike g1.2.1) (g := mkF m pc (cL (AL n K i) L) (cSt (AL n K i) (vR n :: st1))) rfl (by rw [← hA]; rfl) hd target ?_
        have e1 : cell.slots.size.toInt32 = Int32.ofInt len := by
          rw [← g2, Int32.ofInt_eq_ofNat]
        rw [e1]; exact kk'
    · cases h
  | ldc idx =>
    change (match look cI idx with | some x => k (.inl x :: st) q S | none => none) = some r at h
    split at h
    · rename_i x hl
      have hm := hcI _ (look_mem hl)
      refine ⟨_, _, _, h, fun Q G => Goes.step (φ := okSt (vI x :: st)) (fun T Lo X hP => ?_) G⟩
      exact ⟨T, [], by rw [List.append_nil]; exact X, Fr.nil _, hP, ⟨hm.2, oks⟩, fun target kk' => X.ldcI hx hown (mvT hZ hm.1) (g := mkF m pc (cL (AL nob K i) L) (cSt (AL nob K i) st)) rfl hd kk'⟩
    · cases h
  | ldc_w idx =>
    change (match look cI idx with | some x => k (.inl x :: st) q S | none => none) = some r at h
    split at h
    · rename_i x hl
      have hm := hcI _ (look_mem hl)
      refine ⟨_, _, _, h, fun Q G => Goes.step (φ := okSt (vI x :: st)) (fun T Lo X hP => ?_) G⟩
      exact ⟨T, [], by rw [List.append_nil]; exact X, Fr.nil _, hP, ⟨hm.2, oks⟩, fun target kk' => X.ldcWI hx hown (mvT hZ hm.1) (g := mkF m pc (cL (AL nob K i) L) (cSt (AL nob K i) st)) rfl hd kk'⟩
    · cases h
  | ldc2_w idx =>
    change (match look cJ idx with | some x => k (.inr (.inl x) :: st) q S | none => none) = some r at h
    split at h
    · rename_i x hl
      have hm := hcJ _ (look_mem hl)
      refine ⟨_, _, _, h, fun Q G => Goes.step (φ := okSt (vL x :: st)) (fun T Lo X hP => ?_) G⟩
      exact ⟨T, [], by rw [List.append_nil]; exact X, Fr.nil _, hP, ⟨hm.2, oks⟩, fun target kk' => X.ldc2J hx hown (mvT hZ hm.1) (g := mkF m pc (cL (AL nob K i) L) (cSt (AL nob K i) st)) rfl hd kk'⟩
    · cases h
  | _ => cases h
/-- a helper's contract off its first block -/
theorem conL_of {y : MethodName} {km : List Nat} {rk qs : Nat} {fn : Jn σ} {i : IL} {av : List AV} {S : σ} {r : Int × σ} {h : Heap} (hB : Blk l Z own bytes maxL ret false R (AL nob K) nL zL (fun _ => 0) (fun _ => 0) (fun i q S h => HL Z C fs as K gt false scr len sc i q S h ∧ q ≤ 2 * nob) km rk qs (0, qs, fn)) (hpl : plainName own = true) (hy : y.cls = own) (hq : qs ≤ 2 * nob)
    (hf : fn (entryL av maxL) [] S = some r) (hok : okL km (entryL av maxL)) (hz : i.2.1 = h.size) (hH : HL Z C fs as K gt false scr len sc i qs S h) :
    MetFree l y (head1 [Jvm.Cond.code y bytes maxL ret] R) (fun x U => x = (av.map (conc (AL nob K i))).toArray ∧ Z.Warmed39 U.vm ∧ U.heap = h) (fun _ _ _ _ _ => True)
      (fun _ U o U' => ∃ v L, o = .returned v ∧ ((v = Val rk r.1 ∧ okR rk r.1) ∧ Fr (nL i) L ∧ HL Z C fs as K gt false scr len sc i qs r.2 U'.heap) ∧ FrameEnd U o U' L R.cells R.slots) := by
  intro p e ha hc hk s m args below hfr happ hP hK
  obtain ⟨n, o, h1, h2, h3, v, L, h4, ⟨h5, h6, h7⟩, h8⟩ := met_of_blk (ws := []) hB (by rw [hy]; exact hpl) hy (fun hh => nomatch hh) rfl rfl hf hok ⟨hH, hq⟩ hz.symm p e ha hc hk s m args below hfr happ hP hK
  exact ⟨n, o, h1, h2, h3, v, L, h4, ⟨h5, h6, h7.1⟩, h8⟩
/-- the constructor's contract off its first block -/
theorem conK_of {y : MethodName} {km : List Nat} {fn : Jn St} {f : List AV → St → RS St} (hB : Blk l Z C bytes maxL none true R AC nC zC (cC true) (sC as true) (HC Z C fs as K true) km 0 (2 * K) (0, 0, fn)) (hpl : plainName C = true) (hy : y.cls = C) (hyn : y.name = "<init>")
    (hf : ∀ av S r, f av S = some r → okSt av → fn (entryL av maxL) [] S = some r ∧ okL km (entryL av maxL)) : ConK l Z C fs as K y bytes maxL R f := by
  intro i av S r h oks hH
  obtain ⟨h1, h2⟩ := hf av S r h oks
  exact met_of_blk (ws := []) hB (by rw [hy]; exact hpl) hy (fun _ => hyn) rfl rfl h1 h2 hH rfl
end LawHop
/-! # 8. from the sheet's words to the walk -/
theorem init_own {s : State} {m : MethodId} {args a : Array Value} {below : List Frame} {x : MethodName} (hn : s.methodNamed? x = some m) (hr : s.ripe m args below = true) : (Jvm.Cond.initialized x.cls).before a s = true := by
  have hc := findClass_of_methodNamed hn
  rw [State.ripe_iff, Bool.and_eq_true] at hr
  have h1 := hr.1
  unfold State.classRipe at h1
  cases hk : s.vm.classes[m.cls]? with
  | none => rw [hk] at h1; cases h1
  | some k =>
    rw [hk] at h1
    simp only [Option.any_some, decide_eq_true_eq] at h1
    simp [Cond.before, Cond.holds, Cond.value, hc, hk, h1]
def scOf (c : Cell) (j : Int) : Int := match c.slots[j.toNat]? with
  | some (.int x) => x.toInt
  | _ => 0
theorem script_of {s : State} {a : Addr} {c : Cell} (hf : Fit s) (A : Arr s s.heap a c .int) : ArrIs s s.heap a 0 c.slots.size (scOf c) := by
  refine ⟨c, A, rfl, fun i hi => ?_⟩
  have q := hf A.1 hi
  obtain ⟨hs, k, hk, comp, hkind⟩ := A.2.1
  have e : s.slotType? c.cls c.vm i = some .int := by
    cases hq : c.vm <;> first | exact absurd hq (hs _) | simp [State.slotType?, hk, hkind]
  have q2 : fits .int c.slots[i] = true := by simpa [State.fitsSlot, e] using q
  obtain ⟨x, hx⟩ := fit_I q2 (Or.inl rfl)
  have h1 : c.slots[i]? = some (.int x) := by rw [Array.getElem?_eq_getElem hi, hx]
  have h2 : scOf c (i : Int) = x.toInt := by simp [scOf, h1]
  rw [h2]
  exact ⟨by rw [h1]; show some (Value.int x) = some (Value.int (Int32.ofInt x.toInt)); rw [Int32.ofInt_toInt], ri32 x⟩
end Jvm.OwnKit
namespace Jvm.OwnKit
open Sem ClassFile Op Lib Jvm.Stand Jvm.Free Jvm.LawKit Jvm.RoadKit
/-! # 9. plain lemmas -/
theorem stw_eq (S : St) (h : Nat) (i v : Int) : stw S h i v h i = v := by simp [stw]
theorem stw_h (S : St) {h h' : Nat} (i v j : Int) (e : h' ≠ h) : stw S h i v h' j = S h' j := by simp [stw, e]
theorem stw_i (S : St) (h h' : Nat) {i j : Int} (v : Int) (e : j ≠ i) : stw S h i v h' j = S h' j := by simp [stw, e]
theorem w32_of {x : Int} (h1 : -2147483648 ≤ x) (h2 : x < 2147483648) : w32 x = x := w32_id ⟨h1, h2⟩
theorem w64_of {x : Int} (h1 : -9223372036854775808 ≤ x) (h2 : x < 9223372036854775808) : w64 x = x := w64_id ⟨h1, h2⟩
theorem lcmp_eq0 (x y : Int) : lcmp x y = 0 ↔ x = y := by unfold lcmp; split <;> (try split) <;> omega
theorem script_len {s : State} {a : Addr} {cl : Cell} {lim : Int32} {t : Term} {args : Array Value} {first : State} {o : Option Outcome} {idx : List Nat} (e0 : t.eval args first o idx s = some (.ref a)) (Ar : Arr s s.heap a cl .int) (n1 : (Jvm.Cond.le (Jvm.Term.length t) (Jvm.Term.int lim)).value args first o s idx = some true) : (cl.slots.size : Int) ≤ lim.toInt := by
  cases hl : (Jvm.Term.length t).eval args first o idx s with
  | none => simp [Cond.value, hl] at n1
  | some v =>
    obtain ⟨b, cell, h1, h2, h3, h4⟩ := Jvm.Lib.length_spec hl
    obtain rfl : a = b := by rw [e0] at h1; cases h1; rfl
    have h5 := (Jvm.Lib.arrayAt_spec h2).1
    obtain rfl : cl = cell := by have := Ar.1; rw [this] at h5; cases h5; rfl
    subst h4
    have hi : (Jvm.Term.int lim).eval args first o idx s = some (.int lim) := rfl
    have h6 : (Jvm.Cond.le (Jvm.Term.length t) (Jvm.Term.int lim)).value args first o s idx = some (decide (cl.slots.size.toInt32 ≤ lim)) := by simp only [Cond.value, hl, hi]
    have h7 := gotT h6 n1
    rw [Int32.le_iff_toInt_le] at h7
    have h8 : cl.slots.size.toInt32.toInt = cl.slots.size := Int32.toInt_ofNat_of_lt h3
    rw [h8] at h7
    exact h7
theorem staL_mk {σ : Type} {l : Launch} {Z : State} {a0 : Array Value} {own C : String} {fs : List FE} {as : List AE} {K nob W : Nat} {R : Room} {gt : Nat → σ → St} {scr : Bool} {len : Int} {sc : Int → Int} {k n rk : Nat} {F : List AV → σ → RS σ} (idx q : Nat) (h1 : k / 16 = idx) (h2 : k % 16 = q)
    (h : ∃ (y : MethodName) (bytes : ByteArray) (maxL : Nat) (ret : Option FieldType) (rm : Room) (ps : List FieldType), y.cls = own ∧ (Jvm.Cond.methodLink own idx y).before a0 Z = true ∧ (Jvm.Cond.static y).before a0 Z = true ∧ (Jvm.Cond.initialized own).before a0 Z = true ∧
      (Jvm.Cond.code y bytes maxL ret).before a0 Z = true ∧ parseMethodDescriptor y.desc = some ⟨ps, ret⟩ ∧ ps.length = n ∧ rm.cells = 0 ∧ rm.slots = 0 ∧ rm.frames + 1 ≤ R.frames ∧ W + (maxL + 11) + rm.locals ≤ R.locals ∧ ConL l Z C fs as K nob gt scr len sc y bytes maxL ret rm rk q F) :
    StaL l Z a0 own C fs as K nob W R gt scr len sc (k, n, rk, F) := by
  subst h1; subst h2; exact h
end Jvm.OwnKit
namespace Jvm.Pilot.@@N@@
open Jvm Jvm.ClassFile Sem Op Lib Jvm.Free Jvm.Stand Jvm.LawKit Jvm.RoadKit Bundle Jvm.OwnKit Jvm.Pilot.@@N@@.Jvm.D
/-! ## the class's fields and arrays -/
def fsT : List FE := [(7, 0, 3, 1, "opKind", "[I"), (13, 1, 4, 1, "opKey", "[I"), (16, 2, 5, 1, "opValue", "[I"), (19, 3, 6, 1, "opCover", "[J"), (23, 4, 7, 1, "context", "[J"), (26, 5, 8, 1, "clock", "[I"), (29, 6, 9, 1, "regStore", "[J"), (32, 7, 10, 1, "flagStore", "[J"), (35, 8, 11, 1, "viewValue", "[I"), (38, 9, 12, 1, "viewFlags", "[I"), (41, 10, 13, 1, "viewKeys", "[I"), (44, 11, 14, 1, "seq", "[I"), (47, 12, 15, 1, "low", "[I"), (50, 13, 16, 1, "acked", "[I"), (53, 14, 17, 1, "received", "[I"), (56, 15, 18, 1, "ring", "[J"), (59, 16, 19, 1, "msgKind", "[I"), (62, 17, 20, 1, "msgFrom", "[I"), (65, 18, 21, 1, "msgTo", "[I"), (68, 19, 22, 1, "msgStart", "[I"), (71, 20, 23, 1, "msgEnd", "[I"), (74, 21, 24, 1, "msgContext", "[J"), (77, 22, 25, 1, "msgDelta", "[J"), (84, 23, 0, 0, "keyCount", "I"), (88, 24, 0, 0, "slotCount", "I"), (91, 25, 0, 0, "capacity", "I")]
def asT : List AE := [(1, 0, 64), (2, 0, 64), (3, 0, 64), (4, 4, 64), (5, 4, 4), (6, 0, 16), (7, 4, 32), (8, 4, 32), (9, 0, 128), (10, 0, 4), (11, 0, 4), (12, 0, 4), (13, 0, 4), (14, 0, 16), (15, 0, 16), (16, 4, 32), (17, 0, 12), (18, 0, 12), (19, 0, 12), (20, 0, 12), (21, 0, 12), (22, 4, 12), (23, 4, 12)]
-- S 0 0: opKind [I (the array S 1, of 64)
-- S 0 1: opKey [I (the array S 2, of 64)
-- S 0 2: opValue [I (the array S 3, of 64)
-- S 0 3: opCover [J (the array S 4, of 64)
-- S 0 4: context [J (the array S 5, of 4)
-- S 0 5: clock [I (the array S 6, of 16)
-- S 0 6: regStore [J (the array S 7, of 32)
-- S 0 7: flagStore [J (the array S 8, of 32)
-- S 0 8: viewValue [I (the array S 9, of 128)
-- S 0 9: viewFlags [I (the array S 10, of 4)
-- S 0 10: viewKeys [I (the array S 11, of 4)
-- S 0 11: seq [I (the array S 12, of 4)
-- S 0 12: low [I (the array S 13, of 4)
-- S 0 13: acked [I (the array S 14, of 16)
-- S 0 14: received [I (the array S 15, of 16)
-- S 0 15: ring [J (the array S 16, of 32)
-- S 0 16: msgKind [I (the array S 17, of 12)
-- S 0 17: msgFrom [I (the array S 18, of 12)
-- S 0 18: msgTo [I (the array S 19, of 12)
-- S 0 19: msgStart [I (the array S 20, of 12)
-- S 0 20: msgEnd [I (the array S 21, of 12)
-- S 0 21: msgContext [J (the array S 22, of 12)
-- S 0 22: msgDelta [J (the array S 23, of 12)
-- S 0 23: keyCount I
-- S 0 24: slotCount I
-- S 0 25: capacity I
theorem pnC : plainName "DeltaCausalMap" = true := by first | (simp [plainName, overriddenIn]; done) | decide +kernel
theorem pnL : plainName "DeltaCausalMapL6" = true := by first | (simp [plainName, overriddenIn]; done) | decide +kernel
theorem mhC : notMH "DeltaCausalMap" := by unfold notMH; decide
theorem mhL : notMH "DeltaCausalMapL6" := by unfold notMH; decide
set_option maxRecDepth 65536 in
theorem fsT_ok : fsOk fsT asT 23 = true := by decide +kernel
set_option maxRecDepth 65536 in
theorem fsT_keys : keysOk fsT = true := by decide +kernel
set_option maxRecDepth 65536 in
set_option maxHeartbeats 4000000 in
theorem clsT {Z : State} {a0 : Array Value} (hw : ∀ d ∈ tables_1, d.before a0 Z = true) : ClsOk Z a0 "DeltaCausalMap" 26 fsT asT 23 :=
  ⟨(hw _ (List.mem_of_getElem? (i := 1) rfl)), (fc ⟨(hw _ (List.mem_of_getElem? (i := 10) rfl)), Or.inr ⟨by decide, (hw _ (List.mem_of_getElem? (i := 11) rfl))⟩⟩ (fc ⟨(hw _ (List.mem_of_getElem? (i := 12) rfl)), Or.inr ⟨by decide, (hw _ (List.mem_of_getElem? (i := 13) rfl))⟩⟩ (fc ⟨(hw _ (List.mem_of_getElem? (i := 14) rfl)), Or.inr ⟨by decide, (hw _ (List.mem_of_getElem? (i := 15) rfl))⟩⟩ (fc ⟨(hw _ (List.mem_of_getElem? (i := 17) rfl)), Or.inr ⟨by decide, (hw _ (List.mem_of_getElem? (i := 18) rfl))⟩⟩ (fc ⟨(hw _ (List.mem_of_getElem? (i := 19) rfl)), Or.inr ⟨by decide, (hw _ (List.mem_of_getElem? (i := 20) rfl))⟩⟩ (fc ⟨(hw _ (List.mem_of_getElem? (i := 21) rfl)), Or.inr ⟨by decide, (hw _ (List.mem_of_getElem? (i := 22) rfl))⟩⟩ (fc ⟨(hw _ (List.mem_of_getElem? (i := 23) rfl)), Or.inr ⟨by decide, (hw _ (List.mem_of_getElem? (i := 24) rfl))⟩⟩ (fc ⟨(hw _ (List.mem_of_getElem? (i := 25) rfl)), Or.inr ⟨by decide, (hw _ (List.mem_of_getElem? (i := 26) rfl))⟩⟩ (fc ⟨(hw _ (List.mem_of_getElem? (i := 27) rfl)), Or.inr ⟨by decide, (hw _ (List.mem_of_getElem? (i := 28) rfl))⟩⟩ (fc ⟨(hw _ (List.mem_of_getElem? (i := 29) rfl)), Or.inr ⟨by decide, (hw _ (List.mem_of_getElem? (i := 30) rfl))⟩⟩ (fc ⟨(hw _ (List.mem_of_getElem? (i := 31) rfl)), Or.inr ⟨by decide, (hw _ (List.mem_of_getElem? (i := 32) rfl))⟩⟩ (fc ⟨(hw _ (List.mem_of_getElem? (i := 33) rfl)), Or.inr ⟨by decide, (hw _ (List.mem_of_getElem? (i := 34) rfl))⟩⟩ (fc ⟨(hw _ (List.mem_of_getElem? (i := 35) rfl)), Or.inr ⟨by decide, (hw _ (List.mem_of_getElem? (i := 36) rfl))⟩⟩ (fc ⟨(hw _ (List.mem_of_getElem? (i := 37) rfl)), Or.inr ⟨by decide, (hw _ (List.mem_of_getElem? (i := 38) rfl))⟩⟩ (fc ⟨(hw _ (List.mem_of_getElem? (i := 39) rfl)), Or.inr ⟨by decide, (hw _ (List.mem_of_getElem? (i := 40) rfl))⟩⟩ (fc ⟨(hw _ (List.mem_of_getElem? (i := 41) rfl)), Or.inr ⟨by decide, (hw _ (List.mem_of_getElem? (i := 42) rfl))⟩⟩ (fc ⟨(hw _ (List.mem_of_getElem? (i := 43) rfl)), Or.inr ⟨by decide, (hw _ (List.mem_of_getElem? (i := 44) rfl))⟩⟩ (fc ⟨(hw _ (List.mem_of_getElem? (i := 45) rfl)), Or.inr ⟨by decide, (hw _ (List.mem_of_getElem? (i := 46) rfl))⟩⟩ (fc ⟨(hw _ (List.mem_of_getElem? (i := 47) rfl)), Or.inr ⟨by decide, (hw _ (List.mem_of_getElem? (i := 48) rfl))⟩⟩ (fc ⟨(hw _ (List.mem_of_getElem? (i := 49) rfl)), Or.inr ⟨by decide, (hw _ (List.mem_of_getElem? (i := 50) rfl))⟩⟩ (fc ⟨(hw _ (List.mem_of_getElem? (i := 51) rfl)), Or.inr ⟨by decide, (hw _ (List.mem_of_getElem? (i := 52) rfl))⟩⟩ (fc ⟨(hw _ (List.mem_of_getElem? (i := 53) rfl)), Or.inr ⟨by decide, (hw _ (List.mem_of_getElem? (i := 54) rfl))⟩⟩ (fc ⟨(hw _ (List.mem_of_getElem? (i := 55) rfl)), Or.inr ⟨by decide, (hw _ (List.mem_of_getElem? (i := 56) rfl))⟩⟩ (fc ⟨(hw _ (List.mem_of_getElem? (i := 61) rfl)), Or.inl ⟨rfl, (hw _ (List.mem_of_getElem? (i := 62) rfl))⟩⟩ (fc ⟨(hw _ (List.mem_of_getElem? (i := 63) rfl)), Or.inl ⟨rfl, (hw _ (List.mem_of_getElem? (i := 64) rfl))⟩⟩ (fc ⟨(hw _ (List.mem_of_getElem? (i := 65) rfl)), Or.inl ⟨rfl, (hw _ (List.mem_of_getElem? (i := 66) rfl))⟩⟩ fn)))))))))))))))))))))))))), (fc (hw _ (List.mem_of_getElem? (i := 9) rfl)) (fc (hw _ (List.mem_of_getElem? (i := 9) rfl)) (fc (hw _ (List.mem_of_getElem? (i := 9) rfl)) (fc (hw _ (List.mem_of_getElem? (i := 16) rfl)) (fc (hw _ (List.mem_of_getElem? (i := 16) rfl)) (fc (hw _ (List.mem_of_getElem? (i := 9) rfl)) (fc (hw _ (List.mem_of_getElem? (i := 16) rfl)) (fc (hw _ (List.mem_of_getElem? (i := 16) rfl)) (fc (hw _ (List.mem_of_getElem? (i := 9) rfl)) (fc (hw _ (List.mem_of_getElem? (i := 9) rfl)) (fc (hw _ (List.mem_of_getElem? (i := 9) rfl)) (fc (hw _ (List.mem_of_getElem? (i := 9) rfl)) (fc (hw _ (List.mem_of_getElem? (i := 9) rfl)) (fc (hw _ (List.mem_of_getElem? (i := 9) rfl)) (fc (hw _ (List.mem_of_getElem? (i := 9) rfl)) (fc (hw _ (List.mem_of_getElem? (i := 16) rfl)) (fc (hw _ (List.mem_of_getElem? (i := 9) rfl)) (fc (hw _ (List.mem_of_getElem? (i := 9) rfl)) (fc (hw _ (List.mem_of_getElem? (i := 9) rfl)) (fc (hw _ (List.mem_of_getElem? (i := 9) rfl)) (fc (hw _ (List.mem_of_getElem? (i := 9) rfl)) (fc (hw _ (List.mem_of_getElem? (i := 16) rfl)) (fc (hw _ (List.mem_of_getElem? (i := 16) rfl)) fn))))))))))))))))))))))), fsT_ok, fsT_keys⟩
def cIT : List (Nat × Int) := [(157, 2147483647)]
def cJT : List (Nat × Int) := [(143, (-1))]
set_option maxRecDepth 65536 in
theorem cIT_ok {Z : State} {a0 : Array Value} (hw : ∀ d ∈ tables_1, d.before a0 Z = true) : ∀ x ∈ cIT, (Jvm.Cond.constant "DeltaCausalMap" x.1 (Int32.ofInt x.2)).before a0 Z = true ∧ R32 x.2 := fc ⟨(hw _ (List.mem_of_getElem? (i := 140) rfl)), by unfold R32; decide⟩ (fn)
set_option maxRecDepth 65536 in
theorem cJT_ok {Z : State} {a0 : Array Value} (hw : ∀ d ∈ tables_1, d.before a0 Z = true) : ∀ x ∈ cJT, (Jvm.Cond.constantLong "DeltaCausalMap" x.1 (Int64.ofInt x.2)).before a0 Z = true ∧ R64 x.2 := fc ⟨(hw _ (List.mem_of_getElem? (i := 183) rfl)), by unfold R64; decide⟩ (fn)
/-! ## DeltaCausalMap.clamp:(III)I -/
set_option maxRecDepth 65536 in
set_option maxHeartbeats 4000000 in
theorem m_clamp_hop (l : Launch) {Z : State} {a0 : Array Value} (hw : ∀ d ∈ tables_1, d.before a0 Z = true) (N : Nat) : HopAll l Z "DeltaCausalMap" prog_1_method_45_code 4 (some .int) false ({ frames := 0, cells := 0, slots := 0, locals := 0 } : Room) AC nC zC (cC false) (sC asT false) (HC Z "DeltaCausalMap" fsT asT 23 false) (hopC fsT asT 23 0 false 1 cIT cJT [] []) :=
  hopC_all (clsT hw) mhC (hw _ (List.mem_of_getElem? (i := 2) rfl)) (fun h => nomatch h) (cIT_ok hw) (cJT_ok hw) fn fn (by decide) (by decide)
def m_clamp (N : Nat) (x1 : Int) (x2 : Int) (x3 : Int) (S : St) : RS St :=
  (if x1 < x2 then
    some (x2, S)
  else
    (if x3 < x1 then
      some (x3, S)
    else
      some (x1, S)))
def m_clamp_0_P (f : Int → Int → Int → St → RS St) : Jn St := fun L st S => match L, st with
  | [_, some (some (.inl x1)), some (some (.inl x2)), some (some (.inl x3))], [] => f x1 x2 x3 S
  | _, _ => none
def m_clamp_c : List Ent := [(0, .iload_n 1, 1, []), (1, .iload_n 2, 1, []), (2, .if_icmp .ge 5, 3, [7]), (5, .iload_n 2, 1, []), (6, .ireturn, 1, []), (7, .iload_n 1, 1, []), (8, .iload_n 3, 1, []), (9, .if_icmp .le 5, 3, [14]), (12, .iload_n 3, 1, []), (13, .ireturn, 1, []), (14, .iload_n 1, 1, []), (15, .ireturn, 1, [])]
set_option maxRecDepth 65536 in
theorem m_clamp_cOk : codeOk prog_1_method_45_code m_clamp_c = true := by decide +kernel
set_option maxRecDepth 65536 in
set_option maxHeartbeats 4000000 in
theorem m_clamp_0_ok (l : Launch) {Z : State} {a0 : Array Value} (hw : ∀ d ∈ tables_1, d.before a0 Z = true) (N : Nat) : Blk l Z "DeltaCausalMap" prog_1_method_45_code 4 (some .int) false ({ frames := 0, cells := 0, slots := 0, locals := 0 } : Room) AC nC zC (cC false) (sC asT false) (HC Z "DeltaCausalMap" fsT asT 23 false) [0, 0, 0, 0] 1 46 (0, 46, m_clamp_0_P (m_clamp N)) :=
  blk_of_den (jl := []) (lst := m_clamp_c) (m_clamp_hop l hw N) (Or.inr (Or.inl ⟨rfl, rfl⟩)) rfl (by decide) (by decide) m_clamp_cOk fn (fun L st S r ok h => by unfold m_clamp_0_P at h; split at h; exact h; cases h)
def m_clamp_F (N : Nat) : List AV → St → RS St := fun av S => match av with
  | [.inr (.inr (some 0)), .inl x1, .inl x2, .inl x3] => m_clamp N x1 x2 x3 S
  | _ => none
theorem m_clamp_P0 (f : Int → Int → Int → St → RS St) (x1 : Int) (x2 : Int) (x3 : Int) (S : St) : m_clamp_0_P f (entryL [.inr (.inr (some 0)), .inl x1, .inl x2, .inl x3] 4) [] S = f x1 x2 x3 S := rfl
set_option maxRecDepth 65536 in
set_option maxHeartbeats 4000000 in
theorem m_clamp_con (l : Launch) {Z : State} {a0 : Array Value} (hw : ∀ d ∈ tables_1, d.before a0 Z = true) (N : Nat) : Con l Z "DeltaCausalMap" fsT asT 23 (⟨"DeltaCausalMap", "clamp", "(III)I"⟩ : MethodName) prog_1_method_45_code 4 (some .int) ({ frames := 0, cells := 0, slots := 0, locals := 0 } : Room) 1 (m_clamp_F N) :=
  con_of (m_clamp_0_ok l hw N) pnC rfl (fun av S r h oks => by unfold m_clamp_F at h; split at h; exact ⟨(m_clamp_P0 _ _ _ _ _).trans h, okL_entry rfl oks rfl⟩; cases h)
set_option maxRecDepth 65536 in
theorem m_clamp_vir (l : Launch) {Z : State} {a0 : Array Value} (hw : ∀ d ∈ tables_1, d.before a0 Z = true) (N : Nat) (W : Nat) (R : Room) (h1 : 1 ≤ R.frames) (h2 : W + 15 ≤ R.locals) : VirOk l Z a0 "DeltaCausalMap" fsT asT 23 W R (80, 3, 1, m_clamp_F N) :=
  ⟨(⟨"DeltaCausalMap", "clamp", "(III)I"⟩ : MethodName), prog_1_method_45_code, 4, (some .int), ({ frames := 0, cells := 0, slots := 0, locals := 0 } : Room), [.int, .int, .int], rfl, (hw _ (List.mem_of_getElem? (i := 57) rfl)), (hw _ (List.mem_of_getElem? (i := 58) rfl)), Or.inl (hw _ (List.mem_of_getElem? (i := 59) rfl)), (hw _ (List.mem_of_getElem? (i := 60) rfl)), by decide +kernel, rfl, rfl, rfl, h1, by dsimp only; omega, m_clamp_con l hw N⟩
/-! ## DeltaCausalMap.<init>:(III)V -/
set_option maxRecDepth 65536 in
set_option maxHeartbeats 4000000 in
theorem m_init_hop (l : Launch) {Z : State} {a0 : Array Value} (hw : ∀ d ∈ tables_1, d.before a0 Z = true) (N : Nat) : HopAll l Z "DeltaCausalMap" prog_1_method_1_code 4 none true ({ frames := 1, cells := 23, slots := 632, locals := 16 } : Room) AC nC zC (cC true) (sC asT true) (HC Z "DeltaCausalMap" fsT asT 23 true) (hopC fsT asT 23 1 true 1 cIT cJT [(80, 3, 1, m_clamp_F N)] []) :=
  hopC_all (clsT hw) mhC (hw _ (List.mem_of_getElem? (i := 2) rfl)) (fun _ => ⟨(hw _ (List.mem_of_getElem? (i := 6) rfl)), (hw _ (List.mem_of_getElem? (i := 7) rfl)), (hw _ (List.mem_of_getElem? (i := 8) rfl)), by decide, by decide⟩) (cIT_ok hw) (cJT_ok hw) (fc (m_clamp_vir l hw N _ _ (by decide) (by decide)) fn) fn (by decide) (by decide)
def m_init (N : Nat) (x1 : Int) (x2 : Int) (x3 : Int) (S : St) : RS St :=
  ((m_clamp N x1 2 8 S).bind fun r1 =>
  ((m_clamp N x2 2 12 (stw r1.2 0 23 r1.1)).bind fun r2 =>
  ((m_clamp N x3 1 8 (stw r2.2 0 24 r2.1)).bind fun r3 =>
  some (0, stw r3.2 0 25 r3.1))))
def m_init_0_P (f : Int → Int → Int → St → RS St) : Jn St := fun L st S => match L, st with
  | [some (some (.inr (.inr (some 0)))), some (some (.inl x1)), some (some (.inl x2)), some (some (.inl x3))], [] => f x1 x2 x3 S
  | _, _ => none
def m_init_c : List Ent := [(0, .aload_n 0, 1, []), (1, .invokespecial 1, 3, []), (4, .aload_n 0, 1, []), (5, .bipush 64, 2, []), (7, .newarray .int, 2, []), (9, .putfield 7, 3, []), (12, .aload_n 0, 1, []), (13, .bipush 64, 2, []), (15, .newarray .int, 2, []), (17, .putfield 13, 3, []), (20, .aload_n 0, 1, []), (21, .bipush 64, 2, []), (23, .newarray .int, 2, []), (25, .putfield 16, 3, []), (28, .aload_n 0, 1, []), (29, .bipush 64, 2, []), (31, .newarray .long, 2, []), (33, .putfield 19, 3, []), (36, .aload_n 0, 1, []), (37, .iconst 4, 1, []), (38, .newarray .long, 2, []), (40, .putfield 23, 3, []), (43, .aload_n 0, 1, []), (44, .bipush 16, 2, []), (46, .newarray .int, 2, []), (48, .putfield 26, 3, []), (51, .aload_n 0, 1, []), (52, .bipush 32, 2, []), (54, .newarray .long, 2, []), (56, .putfield 29, 3, []), (59, .aload_n 0, 1, []), (60, .bipush 32, 2, []), (62, .newarray .long, 2, []), (64, .putfield 32, 3, []), (67, .aload_n 0, 1, []), (68, .sipush 128, 3, []), (71, .newarray .int, 2, []), (73, .putfield 35, 3, []), (76, .aload_n 0, 1, []), (77, .iconst 4, 1, []), (78, .newarray .int, 2, []), (80, .putfield 38, 3, []), (83, .aload_n 0, 1, []), (84, .iconst 4, 1, []), (85, .newarray .int, 2, []), (87, .putfield 41, 3, []), (90, .aload_n 0, 1, []), (91, .iconst 4, 1, []), (92, .newarray .int, 2, []), (94, .putfield 44, 3, []), (97, .aload_n 0, 1, []), (98, .iconst 4, 1, []), (99, .newarray .int, 2, []), (101, .putfield 47, 3, []), (104, .aload_n 0, 1, []), (105, .bipush 16, 2, []), (107, .newarray .int, 2, []), (109, .putfield 50, 3, []), (112, .aload_n 0, 1, []), (113, .bipush 16, 2, []), (115, .newarray .int, 2, []), (117, .putfield 53, 3, []), (120, .aload_n 0, 1, []), (121, .bipush 32, 2, []), (123, .newarray .long, 2, []), (125, .putfield 56, 3, []), (128, .aload_n 0, 1, []), (129, .bipush 12, 2, []), (131, .newarray .int, 2, []), (133, .putfield 59, 3, []), (136, .aload_n 0, 1, []), (137, .bipush 12, 2, []), (139, .newarray .int, 2, []), (141, .putfield 62, 3, []), (144, .aload_n 0, 1, []), (145, .bipush 12, 2, []), (147, .newarray .int, 2, []), (149, .putfield 65, 3, []), (152, .aload_n 0, 1, []), (153, .bipush 12, 2, []), (155, .newarray .int, 2, []), (157, .putfield 68, 3, []), (160, .aload_n 0, 1, []), (161, .bipush 12, 2, []), (163, .newarray .int, 2, []), (165, .putfield 71, 3, []), (168, .aload_n 0, 1, []), (169, .bipush 12, 2, []), (171, .newarray .long, 2, []), (173, .putfield 74, 3, []), (176, .aload_n 0, 1, []), (177, .bipush 12, 2, []), (179, .newarray .long, 2, []), (181, .putfield 77, 3, []), (184, .aload_n 0, 1, []), (185, .aload_n 0, 1, []), (186, .iload_n 1, 1, []), (187, .iconst 2, 1, []), (188, .bipush 8, 2, []), (190, .invokevirtual 80, 3, []), (193, .putfield 84, 3, []), (196, .aload_n 0, 1, []), (197, .aload_n 0, 1, []), (198, .iload_n 2, 1, []), (199, .iconst 2, 1, []), (200, .bipush 12, 2, []), (202, .invokevirtual 80, 3, []), (205, .putfield 88, 3, []), (208, .aload_n 0, 1, []), (209, .aload_n 0, 1, []), (210, .iload_n 3, 1, []), (211, .iconst 1, 1, []), (212, .bipush 8, 2, []), (214, .invokevirtual 80, 3, []), (217, .putfield 91, 3, []), (220, .return_, 1, [])]
set_option maxRecDepth 65536 in
theorem m_init_cOk : codeOk prog_1_method_1_code m_init_c = true := by decide +kernel
set_option maxRecDepth 65536 in
set_option maxHeartbeats 4000000 in
theorem m_init_0_ok (l : Launch) {Z : State} {a0 : Array Value} (hw : ∀ d ∈ tables_1, d.before a0 Z = true) (N : Nat) : Blk l Z "DeltaCausalMap" prog_1_method_1_code 4 none true ({ frames := 1, cells := 23, slots := 632, locals := 16 } : Room) AC nC zC (cC true) (sC asT true) (HC Z "DeltaCausalMap" fsT asT 23 true) [0, 0, 0, 0] 0 46 (0, 0, m_init_0_P (m_init N)) :=
  blk_of_den (jl := []) (lst := m_init_c) (m_init_hop l hw N) (Or.inl ⟨rfl, rfl⟩) rfl (by decide) (by decide) m_init_cOk fn (fun L st S r ok h => by unfold m_init_0_P at h; split at h; exact h; cases h)
def m_init_F (N : Nat) : List AV → St → RS St := fun av S => match av with
  | [.inr (.inr (some 0)), .inl x1, .inl x2, .inl x3] => m_init N x1 x2 x3 S
  | _ => none
theorem m_init_P0 (f : Int → Int → Int → St → RS St) (x1 : Int) (x2 : Int) (x3 : Int) (S : St) : m_init_0_P f (entryL [.inr (.inr (some 0)), .inl x1, .inl x2, .inl x3] 4) [] S = f x1 x2 x3 S := rfl
set_option maxRecDepth 65536 in
set_option maxHeartbeats 4000000 in
theorem m_init_con (l : Launch) {Z : State} {a0 : Array Value} (hw : ∀ d ∈ tables_1, d.before a0 Z = true) (N : Nat) : ConK l Z "DeltaCausalMap" fsT asT 23 (⟨"DeltaCausalMap", "<init>", "(III)V"⟩ : MethodName) prog_1_method_1_code 4 ({ frames := 1, cells := 23, slots := 632, locals := 16 } : Room) (m_init_F N) :=
  conK_of (m_init_0_ok l hw N) pnC rfl rfl (fun av S r h oks => by unfold m_init_F at h; split at h; exact ⟨(m_init_P0 _ _ _ _ _).trans h, okL_entry rfl oks rfl⟩; cases h)
/-! ## DeltaCausalMap.validReplica:(I)Z -/
set_option maxRecDepth 65536 in
set_option maxHeartbeats 4000000 in
theorem m_validReplica_hop (l : Launch) {Z : State} {a0 : Array Value} (hw : ∀ d ∈ tables_1, d.before a0 Z = true) (N : Nat) : HopAll l Z "DeltaCausalMap" prog_1_method_42_code 2 (some .boolean) false ({ frames := 0, cells := 0, slots := 0, locals := 0 } : Room) AC nC zC (cC false) (sC asT false) (HC Z "DeltaCausalMap" fsT asT 23 false) (hopC fsT asT 23 0 false 1 cIT cJT [] []) :=
  hopC_all (clsT hw) mhC (hw _ (List.mem_of_getElem? (i := 2) rfl)) (fun h => nomatch h) (cIT_ok hw) (cJT_ok hw) fn fn (by decide) (by decide)
def m_validReplica (N : Nat) (x1 : Int) (S : St) : RS St :=
  (if x1 < 0 then
    some (0, S)
  else
    (if x1 < 4 then
      some (1, S)
    else
      some (0, S)))
def m_validReplica_0_P (f : Int → St → RS St) : Jn St := fun L st S => match L, st with
  | [_, some (some (.inl x1))], [] => f x1 S
  | _, _ => none
def m_validReplica_c : List Ent := [(0, .iload_n 1, 1, []), (1, .ifCond .lt 12, 3, [13]), (4, .iload_n 1, 1, []), (5, .iconst 4, 1, []), (6, .if_icmp .ge 7, 3, [13]), (9, .iconst 1, 1, []), (10, .goto 4, 3, [14]), (13, .iconst 0, 1, []), (14, .ireturn, 1, [])]
set_option maxRecDepth 65536 in
theorem m_validReplica_cOk : codeOk prog_1_method_42_code m_validReplica_c = true := by decide +kernel
set_option maxRecDepth 65536 in
set_option maxHeartbeats 4000000 in
theorem m_validReplica_0_ok (l : Launch) {Z : State} {a0 : Array Value} (hw : ∀ d ∈ tables_1, d.before a0 Z = true) (N : Nat) : Blk l Z "DeltaCausalMap" prog_1_method_42_code 2 (some .boolean) false ({ frames := 0, cells := 0, slots := 0, locals := 0 } : Room) AC nC zC (cC false) (sC asT false) (HC Z "DeltaCausalMap" fsT asT 23 false) [0, 0] 3 46 (0, 46, m_validReplica_0_P (m_validReplica N)) :=
  blk_of_den (jl := []) (lst := m_validReplica_c) (m_validReplica_hop l hw N) (Or.inr (Or.inr (Or.inr ⟨rfl, rfl⟩))) rfl (by decide) (by decide) m_validReplica_cOk fn (fun L st S r ok h => by unfold m_validReplica_0_P at h; split at h; exact h; cases h)
def m_validReplica_F (N : Nat) : List AV → St → RS St := fun av S => match av with
  | [.inr (.inr (some 0)), .inl x1] => m_validReplica N x1 S
  | _ => none
theorem m_validReplica_P0 (f : Int → St → RS St) (x1 : Int) (S : St) : m_validReplica_0_P f (entryL [.inr (.inr (some 0)), .inl x1] 2) [] S = f x1 S := rfl
set_option maxRecDepth 65536 in
set_option maxHeartbeats 4000000 in
theorem m_validReplica_con (l : Launch) {Z : State} {a0 : Array Value} (hw : ∀ d ∈ tables_1, d.before a0 Z = true) (N : Nat) : Con l Z "DeltaCausalMap" fsT asT 23 (⟨"DeltaCausalMap", "validReplica", "(I)Z"⟩ : MethodName) prog_1_method_42_code 2 (some .boolean) ({ frames := 0, cells := 0, slots := 0, locals := 0 } : Room) 3 (m_validReplica_F N) :=
  con_of (m_validReplica_0_ok l hw N) pnC rfl (fun av S r h oks => by unfold m_validReplica_F at h; split at h; exact ⟨(m_validReplica_P0 _ _ _).trans h, okL_entry rfl oks rfl⟩; cases h)
set_option maxRecDepth 65536 in
theorem m_validReplica_vir (l : Launch) {Z : State} {a0 : Array Value} (hw : ∀ d ∈ tables_1, d.before a0 Z = true) (N : Nat) (W : Nat) (R : Room) (h1 : 1 ≤ R.frames) (h2 : W + 13 ≤ R.locals) : VirOk l Z a0 "DeltaCausalMap" fsT asT 23 W R (109, 1, 3, m_validReplica_F N) :=
  ⟨(⟨"DeltaCausalMap", "validReplica", "(I)Z"⟩ : MethodName), prog_1_method_42_code, 2, (some .boolean), ({ frames := 0, cells := 0, slots := 0, locals := 0 } : Room), [.int], rfl, (hw _ (List.mem_of_getElem? (i := 80) rfl)), (hw _ (List.mem_of_getElem? (i := 81) rfl)), Or.inl (hw _ (List.mem_of_getElem? (i := 82) rfl)), (hw _ (List.mem_of_getElem? (i := 83) rfl)), by decide +kernel, rfl, rfl, rfl, h1, by dsimp only; omega, m_validReplica_con l hw N⟩
/-! ## DeltaCausalMap.validKey:(I)Z -/
set_option maxRecDepth 65536 in
set_option maxHeartbeats 4000000 in
theorem m_validKey_hop (l : Launch) {Z : State} {a0 : Array Value} (hw : ∀ d ∈ tables_1, d.before a0 Z = true) (N : Nat) : HopAll l Z "DeltaCausalMap" prog_1_method_43_code 2 (some .boolean) false ({ frames := 0, cells := 0, slots := 0, locals := 0 } : Room) AC nC zC (cC false) (sC asT false) (HC Z "DeltaCausalMap" fsT asT 23 false) (hopC fsT asT 23 0 false 1 cIT cJT [] []) :=
  hopC_all (clsT hw) mhC (hw _ (List.mem_of_getElem? (i := 2) rfl)) (fun h => nomatch h) (cIT_ok hw) (cJT_ok hw) fn fn (by decide) (by decide)
def m_validKey (N : Nat) (x1 : Int) (S : St) : RS St :=
  (if x1 < 0 then
    some (0, S)
  else
    (if x1 < S 0 23 then
      some (1, S)
    else
      some (0, S)))
def m_validKey_0_P (f : Int → St → RS St) : Jn St := fun L st S => match L, st with
  | [some (some (.inr (.inr (some 0)))), some (some (.inl x1))], [] => f x1 S
  | _, _ => none
def m_validKey_c : List Ent := [(0, .iload_n 1, 1, []), (1, .ifCond .lt 15, 3, [16]), (4, .iload_n 1, 1, []), (5, .aload_n 0, 1, []), (6, .getfield 84, 3, []), (9, .if_icmp .ge 7, 3, [16]), (12, .iconst 1, 1, []), (13, .goto 4, 3, [17]), (16, .iconst 0, 1, []), (17, .ireturn, 1, [])]
set_option maxRecDepth 65536 in
theorem m_validKey_cOk : codeOk prog_1_method_43_code m_validKey_c = true := by decide +kernel
set_option maxRecDepth 65536 in
set_option maxHeartbeats 4000000 in
theorem m_validKey_0_ok (l : Launch) {Z : State} {a0 : Array Value} (hw : ∀ d ∈ tables_1, d.before a0 Z = true) (N : Nat) : Blk l Z "DeltaCausalMap" prog_1_method_43_code 2 (some .boolean) false ({ frames := 0, cells := 0, slots := 0, locals := 0 } : Room) AC nC zC (cC false) (sC asT false) (HC Z "DeltaCausalMap" fsT asT 23 false) [0, 0] 3 46 (0, 46, m_validKey_0_P (m_validKey N)) :=
  blk_of_den (jl := []) (lst := m_validKey_c) (m_validKey_hop l hw N) (Or.inr (Or.inr (Or.inr ⟨rfl, rfl⟩))) rfl (by decide) (by decide) m_validKey_cOk fn (fun L st S r ok h => by unfold m_validKey_0_P at h; split at h; exact h; cases h)
def m_validKey_F (N : Nat) : List AV → St → RS St := fun av S => match av with
  | [.inr (.inr (some 0)), .inl x1] => m_validKey N x1 S
  | _ => none
theorem m_validKey_P0 (f : Int → St → RS St) (x1 : Int) (S : St) : m_validKey_0_P f (entryL [.inr (.inr (some 0)), .inl x1] 2) [] S = f x1 S := rfl
set_option maxRecDepth 65536 in
set_option maxHeartbeats 4000000 in
theorem m_validKey_con (l : Launch) {Z : State} {a0 : Array Value} (hw : ∀ d ∈ tables_1, d.before a0 Z = true) (N : Nat) : Con l Z "DeltaCausalMap" fsT asT 23 (⟨"DeltaCausalMap", "validKey", "(I)Z"⟩ : MethodName) prog_1_method_43_code 2 (some .boolean) ({ frames := 0, cells := 0, slots := 0, locals := 0 } : Room) 3 (m_validKey_F N) :=
  con_of (m_validKey_0_ok l hw N) pnC rfl (fun av S r h oks => by unfold m_validKey_F at h; split at h; exact ⟨(m_validKey_P0 _ _ _).trans h, okL_entry rfl oks rfl⟩; cases h)
set_option maxRecDepth 65536 in
theorem m_validKey_vir (l : Launch) {Z : State} {a0 : Array Value} (hw : ∀ d ∈ tables_1, d.before a0 Z = true) (N : Nat) (W : Nat) (R : Room) (h1 : 1 ≤ R.frames) (h2 : W + 13 ≤ R.locals) : VirOk l Z a0 "DeltaCausalMap" fsT asT 23 W R (112, 1, 3, m_validKey_F N) :=
  ⟨(⟨"DeltaCausalMap", "validKey", "(I)Z"⟩ : MethodName), prog_1_method_43_code, 2, (some .boolean), ({ frames := 0, cells := 0, slots := 0, locals := 0 } : Room), [.int], rfl, (hw _ (List.mem_of_getElem? (i := 84) rfl)), (hw _ (List.mem_of_getElem? (i := 85) rfl)), Or.inl (hw _ (List.mem_of_getElem? (i := 86) rfl)), (hw _ (List.mem_of_getElem? (i := 87) rfl)), by decide +kernel, rfl, rfl, rfl, h1, by dsimp only; omega, m_validKey_con l hw N⟩
/-! ## DeltaCausalMap.refuseTarget:(II)I -/
set_option maxRecDepth 65536 in
set_option maxHeartbeats 4000000 in
theorem m_refuseTarget_hop (l : Launch) {Z : State} {a0 : Array Value} (hw : ∀ d ∈ tables_1, d.before a0 Z = true) (N : Nat) : HopAll l Z "DeltaCausalMap" prog_1_method_7_code 3 (some .int) false ({ frames := 1, cells := 0, slots := 0, locals := 13 } : Room) AC nC zC (cC false) (sC asT false) (HC Z "DeltaCausalMap" fsT asT 23 false) (hopC fsT asT 23 0 false 1 cIT cJT [(109, 1, 3, m_validReplica_F N), (112, 1, 3, m_validKey_F N)] []) :=
  hopC_all (clsT hw) mhC (hw _ (List.mem_of_getElem? (i := 2) rfl)) (fun h => nomatch h) (cIT_ok hw) (cJT_ok hw) (fc (m_validReplica_vir l hw N _ _ (by decide) (by decide)) (fc (m_validKey_vir l hw N _ _ (by decide) (by decide)) fn)) fn (by decide) (by decide)
def m_refuseTarget (N : Nat) (x1 : Int) (x2 : Int) (S : St) : RS St :=
  ((m_validReplica N x1 S).bind fun r1 =>
  (if r1.1 = 0 then
    some ((-1), r1.2)
  else
    ((m_validKey N x2 r1.2).bind fun r2 =>
    (if r2.1 = 0 then
      some ((-2), r2.2)
    else
      some (0, r2.2)))))
def m_refuseTarget_0_P (f : Int → Int → St → RS St) : Jn St := fun L st S => match L, st with
  | [some (some (.inr (.inr (some 0)))), some (some (.inl x1)), some (some (.inl x2))], [] => f x1 x2 S
  | _, _ => none
def m_refuseTarget_c : List Ent := [(0, .aload_n 0, 1, []), (1, .iload_n 1, 1, []), (2, .invokevirtual 109, 3, []), (5, .ifCond .ne 5, 3, [10]), (8, .iconst (-1), 1, []), (9, .ireturn, 1, []), (10, .aload_n 0, 1, []), (11, .iload_n 2, 1, []), (12, .invokevirtual 112, 3, []), (15, .ifCond .ne 6, 3, [21]), (18, .bipush (-2), 2, []), (20, .ireturn, 1, []), (21, .iconst 0, 1, []), (22, .ireturn, 1, [])]
set_option maxRecDepth 65536 in
theorem m_refuseTarget_cOk : codeOk prog_1_method_7_code m_refuseTarget_c = true := by decide +kernel
set_option maxRecDepth 65536 in
set_option maxHeartbeats 4000000 in
theorem m_refuseTarget_0_ok (l : Launch) {Z : State} {a0 : Array Value} (hw : ∀ d ∈ tables_1, d.before a0 Z = true) (N : Nat) : Blk l Z "DeltaCausalMap" prog_1_method_7_code 3 (some .int) false ({ frames := 1, cells := 0, slots := 0, locals := 13 } : Room) AC nC zC (cC false) (sC asT false) (HC Z "DeltaCausalMap" fsT asT 23 false) [0, 0, 0] 1 46 (0, 46, m_refuseTarget_0_P (m_refuseTarget N)) :=
  blk_of_den (jl := []) (lst := m_refuseTarget_c) (m_refuseTarget_hop l hw N) (Or.inr (Or.inl ⟨rfl, rfl⟩)) rfl (by decide) (by decide) m_refuseTarget_cOk fn (fun L st S r ok h => by unfold m_refuseTarget_0_P at h; split at h; exact h; cases h)
def m_refuseTarget_F (N : Nat) : List AV → St → RS St := fun av S => match av with
  | [.inr (.inr (some 0)), .inl x1, .inl x2] => m_refuseTarget N x1 x2 S
  | _ => none
theorem m_refuseTarget_P0 (f : Int → Int → St → RS St) (x1 : Int) (x2 : Int) (S : St) : m_refuseTarget_0_P f (entryL [.inr (.inr (some 0)), .inl x1, .inl x2] 3) [] S = f x1 x2 S := rfl
set_option maxRecDepth 65536 in
set_option maxHeartbeats 4000000 in
theorem m_refuseTarget_con (l : Launch) {Z : State} {a0 : Array Value} (hw : ∀ d ∈ tables_1, d.before a0 Z = true) (N : Nat) : Con l Z "DeltaCausalMap" fsT asT 23 (⟨"DeltaCausalMap", "refuseTarget", "(II)I"⟩ : MethodName) prog_1_method_7_code 3 (some .int) ({ frames := 1, cells := 0, slots := 0, locals := 13 } : Room) 1 (m_refuseTarget_F N) :=
  con_of (m_refuseTarget_0_ok l hw N) pnC rfl (fun av S r h oks => by unfold m_refuseTarget_F at h; split at h; exact ⟨(m_refuseTarget_P0 _ _ _ _).trans h, okL_entry rfl oks rfl⟩; cases h)
set_option maxRecDepth 65536 in
theorem m_refuseTarget_vir (l : Launch) {Z : State} {a0 : Array Value} (hw : ∀ d ∈ tables_1, d.before a0 Z = true) (N : Nat) (W : Nat) (R : Room) (h1 : 2 ≤ R.frames) (h2 : W + 27 ≤ R.locals) : VirOk l Z a0 "DeltaCausalMap" fsT asT 23 W R (94, 2, 1, m_refuseTarget_F N) :=
  ⟨(⟨"DeltaCausalMap", "refuseTarget", "(II)I"⟩ : MethodName), prog_1_method_7_code, 3, (some .int), ({ frames := 1, cells := 0, slots := 0, locals := 13 } : Room), [.int, .int], rfl, (hw _ (List.mem_of_getElem? (i := 76) rfl)), (hw _ (List.mem_of_getElem? (i := 77) rfl)), Or.inl (hw _ (List.mem_of_getElem? (i := 78) rfl)), (hw _ (List.mem_of_getElem? (i := 79) rfl)), by decide +kernel, rfl, rfl, rfl, h1, by dsimp only; omega, m_refuseTarget_con l hw N⟩
/-! ## DeltaCausalMap.exhausted:(I)Z -/
set_option maxRecDepth 65536 in
set_option maxHeartbeats 4000000 in
theorem m_exhausted_hop (l : Launch) {Z : State} {a0 : Array Value} (hw : ∀ d ∈ tables_1, d.before a0 Z = true) (N : Nat) : HopAll l Z "DeltaCausalMap" prog_1_method_8_code 2 (some .boolean) false ({ frames := 0, cells := 0, slots := 0, locals := 0 } : Room) AC nC zC (cC false) (sC asT false) (HC Z "DeltaCausalMap" fsT asT 23 false) (hopC fsT asT 23 0 false 1 cIT cJT [] []) :=
  hopC_all (clsT hw) mhC (hw _ (List.mem_of_getElem? (i := 2) rfl)) (fun h => nomatch h) (cIT_ok hw) (cJT_ok hw) fn fn (by decide) (by decide)
def m_exhausted (N : Nat) (x1 : Int) (S : St) : RS St :=
  (if 0 ≤ w32 ((w32 (x1 * 4)) + x1) ∧ w32 ((w32 (x1 * 4)) + x1) < 16 then
  (if S 6 (w32 ((w32 (x1 * 4)) + x1)) < 16 then
    some (0, S)
  else
    some (1, S))
  else none)
def m_exhausted_0_P (f : Int → St → RS St) : Jn St := fun L st S => match L, st with
  | [some (some (.inr (.inr (some 0)))), some (some (.inl x1))], [] => f x1 S
  | _, _ => none
def m_exhausted_c : List Ent := [(0, .aload_n 0, 1, []), (1, .getfield 26, 3, []), (4, .iload_n 1, 1, []), (5, .iconst 4, 1, []), (6, .imul, 1, []), (7, .iload_n 1, 1, []), (8, .iadd, 1, []), (9, .iaload, 1, []), (10, .bipush 16, 2, []), (12, .if_icmp .lt 7, 3, [19]), (15, .iconst 1, 1, []), (16, .goto 4, 3, [20]), (19, .iconst 0, 1, []), (20, .ireturn, 1, [])]
set_option maxRecDepth 65536 in
theorem m_exhausted_cOk : codeOk prog_1_method_8_code m_exhausted_c = true := by decide +kernel
set_option maxRecDepth 65536 in
set_option maxHeartbeats 4000000 in
theorem m_exhausted_0_ok (l : Launch) {Z : State} {a0 : Array Value} (hw : ∀ d ∈ tables_1, d.before a0 Z = true) (N : Nat) : Blk l Z "DeltaCausalMap" prog_1_method_8_code 2 (some .boolean) false ({ frames := 0, cells := 0, slots := 0, locals := 0 } : Room) AC nC zC (cC false) (sC asT false) (HC Z "DeltaCausalMap" fsT asT 23 false) [0, 0] 3 46 (0, 46, m_exhausted_0_P (m_exhausted N)) :=
  blk_of_den (jl := []) (lst := m_exhausted_c) (m_exhausted_hop l hw N) (Or.inr (Or.inr (Or.inr ⟨rfl, rfl⟩))) rfl (by decide) (by decide) m_exhausted_cOk fn (fun L st S r ok h => by unfold m_exhausted_0_P at h; split at h; exact h; cases h)
def m_exhausted_F (N : Nat) : List AV → St → RS St := fun av S => match av with
  | [.inr (.inr (some 0)), .inl x1] => m_exhausted N x1 S
  | _ => none
theorem m_exhausted_P0 (f : Int → St → RS St) (x1 : Int) (S : St) : m_exhausted_0_P f (entryL [.inr (.inr (some 0)), .inl x1] 2) [] S = f x1 S := rfl
set_option maxRecDepth 65536 in
set_option maxHeartbeats 4000000 in
theorem m_exhausted_con (l : Launch) {Z : State} {a0 : Array Value} (hw : ∀ d ∈ tables_1, d.before a0 Z = true) (N : Nat) : Con l Z "DeltaCausalMap" fsT asT 23 (⟨"DeltaCausalMap", "exhausted", "(I)Z"⟩ : MethodName) prog_1_method_8_code 2 (some .boolean) ({ frames := 0, cells := 0, slots := 0, locals := 0 } : Room) 3 (m_exhausted_F N) :=
  con_of (m_exhausted_0_ok l hw N) pnC rfl (fun av S r h oks => by unfold m_exhausted_F at h; split at h; exact ⟨(m_exhausted_P0 _ _ _).trans h, okL_entry rfl oks rfl⟩; cases h)
set_option maxRecDepth 65536 in
theorem m_exhausted_vir (l : Launch) {Z : State} {a0 : Array Value} (hw : ∀ d ∈ tables_1, d.before a0 Z = true) (N : Nat) (W : Nat) (R : Room) (h1 : 1 ≤ R.frames) (h2 : W + 13 ≤ R.locals) : VirOk l Z a0 "DeltaCausalMap" fsT asT 23 W R (98, 1, 3, m_exhausted_F N) :=
  ⟨(⟨"DeltaCausalMap", "exhausted", "(I)Z"⟩ : MethodName), prog_1_method_8_code, 2, (some .boolean), ({ frames := 0, cells := 0, slots := 0, locals := 0 } : Room), [.int], rfl, (hw _ (List.mem_of_getElem? (i := 88) rfl)), (hw _ (List.mem_of_getElem? (i := 89) rfl)), Or.inl (hw _ (List.mem_of_getElem? (i := 90) rfl)), (hw _ (List.mem_of_getElem? (i := 91) rfl)), by decide +kernel, rfl, rfl, rfl, h1, by dsimp only; omega, m_exhausted_con l hw N⟩
/-! ## DeltaCausalMap.storeIndex:(II)I -/
set_option maxRecDepth 65536 in
set_option maxHeartbeats 4000000 in
theorem m_storeIndex_hop (l : Launch) {Z : State} {a0 : Array Value} (hw : ∀ d ∈ tables_1, d.before a0 Z = true) (N : Nat) : HopAll l Z "DeltaCausalMap" prog_1_method_15_code 3 (some .int) false ({ frames := 0, cells := 0, slots := 0, locals := 0 } : Room) AC nC zC (cC false) (sC asT false) (HC Z "DeltaCausalMap" fsT asT 23 false) (hopC fsT asT 23 0 false 1 cIT cJT [] []) :=
  hopC_all (clsT hw) mhC (hw _ (List.mem_of_getElem? (i := 2) rfl)) (fun h => nomatch h) (cIT_ok hw) (cJT_ok hw) fn fn (by decide) (by decide)
def m_storeIndex (N : Nat) (x1 : Int) (x2 : Int) (S : St) : RS St :=
  some (w32 ((w32 ((iand x1 3) * 8)) + (iand x2 7)), S)
def m_storeIndex_0_P (f : Int → Int → St → RS St) : Jn St := fun L st S => match L, st with
  | [_, some (some (.inl x1)), some (some (.inl x2))], [] => f x1 x2 S
  | _, _ => none
def m_storeIndex_c : List Ent := [(0, .iload_n 1, 1, []), (1, .iconst 3, 1, []), (2, .iand, 1, []), (3, .bipush 8, 2, []), (5, .imul, 1, []), (6, .iload_n 2, 1, []), (7, .bipush 7, 2, []), (9, .iand, 1, []), (10, .iadd, 1, []), (11, .ireturn, 1, [])]
set_option maxRecDepth 65536 in
theorem m_storeIndex_cOk : codeOk prog_1_method_15_code m_storeIndex_c = true := by decide +kernel
set_option maxRecDepth 65536 in
set_option maxHeartbeats 4000000 in
theorem m_storeIndex_0_ok (l : Launch) {Z : State} {a0 : Array Value} (hw : ∀ d ∈ tables_1, d.before a0 Z = true) (N : Nat) : Blk l Z "DeltaCausalMap" prog_1_method_15_code 3 (some .int) false ({ frames := 0, cells := 0, slots := 0, locals := 0 } : Room) AC nC zC (cC false) (sC asT false) (HC Z "DeltaCausalMap" fsT asT 23 false) [0, 0, 0] 1 46 (0, 46, m_storeIndex_0_P (m_storeIndex N)) :=
  blk_of_den (jl := []) (lst := m_storeIndex_c) (m_storeIndex_hop l hw N) (Or.inr (Or.inl ⟨rfl, rfl⟩)) rfl (by decide) (by decide) m_storeIndex_cOk fn (fun L st S r ok h => by unfold m_storeIndex_0_P at h; split at h; exact h; cases h)
def m_storeIndex_F (N : Nat) : List AV → St → RS St := fun av S => match av with
  | [.inr (.inr (some 0)), .inl x1, .inl x2] => m_storeIndex N x1 x2 S
  | _ => none
theorem m_storeIndex_P0 (f : Int → Int → St → RS St) (x1 : Int) (x2 : Int) (S : St) : m_storeIndex_0_P f (entryL [.inr (.inr (some 0)), .inl x1, .inl x2] 3) [] S = f x1 x2 S := rfl
set_option maxRecDepth 65536 in
set_option maxHeartbeats 4000000 in
theorem m_storeIndex_con (l : Launch) {Z : State} {a0 : Array Value} (hw : ∀ d ∈ tables_1, d.before a0 Z = true) (N : Nat) : Con l Z "DeltaCausalMap" fsT asT 23 (⟨"DeltaCausalMap", "storeIndex", "(II)I"⟩ : MethodName) prog_1_method_15_code 3 (some .int) ({ frames := 0, cells := 0, slots := 0, locals := 0 } : Room) 1 (m_storeIndex_F N) :=
  con_of (m_storeIndex_0_ok l hw N) pnC rfl (fun av S r h oks => by unfold m_storeIndex_F at h; split at h; exact ⟨(m_storeIndex_P0 _ _ _ _).trans h, okL_entry rfl oks rfl⟩; cases h)
set_option maxRecDepth 65536 in
theorem m_storeIndex_vir (l : Launch) {Z : State} {a0 : Array Value} (hw : ∀ d ∈ tables_1, d.before a0 Z = true) (N : Nat) (W : Nat) (R : Room) (h1 : 1 ≤ R.frames) (h2 : W + 14 ≤ R.locals) : VirOk l Z a0 "DeltaCausalMap" fsT asT 23 W R (127, 2, 1, m_storeIndex_F N) :=
  ⟨(⟨"DeltaCausalMap", "storeIndex", "(II)I"⟩ : MethodName), prog_1_method_15_code, 3, (some .int), ({ frames := 0, cells := 0, slots := 0, locals := 0 } : Room), [.int, .int], rfl, (hw _ (List.mem_of_getElem? (i := 100) rfl)), (hw _ (List.mem_of_getElem? (i := 101) rfl)), Or.inl (hw _ (List.mem_of_getElem? (i := 102) rfl)), (hw _ (List.mem_of_getElem? (i := 103) rfl)), by decide +kernel, rfl, rfl, rfl, h1, by dsimp only; omega, m_storeIndex_con l hw N⟩
/-! ## DeltaCausalMap.coverFor:(III)J -/
set_option maxRecDepth 65536 in
set_option maxHeartbeats 4000000 in
theorem m_coverFor_hop (l : Launch) {Z : State} {a0 : Array Value} (hw : ∀ d ∈ tables_1, d.before a0 Z = true) (N : Nat) : HopAll l Z "DeltaCausalMap" prog_1_method_10_code 5 (some .long) false ({ frames := 1, cells := 0, slots := 0, locals := 14 } : Room) AC nC zC (cC false) (sC asT false) (HC Z "DeltaCausalMap" fsT asT 23 false) (hopC fsT asT 23 0 false 1 cIT cJT [(127, 2, 1, m_storeIndex_F N)] []) :=
  hopC_all (clsT hw) mhC (hw _ (List.mem_of_getElem? (i := 2) rfl)) (fun h => nomatch h) (cIT_ok hw) (cJT_ok hw) (fc (m_storeIndex_vir l hw N _ _ (by decide) (by decide)) fn) fn (by decide) (by decide)
def m_coverFor (N : Nat) (x1 : Int) (x2 : Int) (x3 : Int) (S : St) : RS St :=
  ((m_storeIndex N x1 x2 S).bind fun r1 =>
  (if x3 = 1 then
    (if 0 ≤ r1.1 ∧ r1.1 < 32 then
    some (r1.2 7 r1.1, r1.2)
    else none)
  else
    (if x3 = 4 then
      (if 0 ≤ r1.1 ∧ r1.1 < 32 then
      (if 0 ≤ r1.1 ∧ r1.1 < 32 then
      some (lor (r1.2 7 r1.1) (r1.2 8 r1.1), r1.2)
      else none)
      else none)
    else
      (if 0 ≤ r1.1 ∧ r1.1 < 32 then
      some (r1.2 8 r1.1, r1.2)
      else none))))
def m_coverFor_0_P (f : Int → Int → Int → St → RS St) : Jn St := fun L st S => match L, st with
  | [some (some (.inr (.inr (some 0)))), some (some (.inl x1)), some (some (.inl x2)), some (some (.inl x3)), _], [] => f x1 x2 x3 S
  | _, _ => none
def m_coverFor_c : List Ent := [(0, .aload_n 0, 1, []), (1, .iload_n 1, 1, []), (2, .iload_n 2, 1, []), (3, .invokevirtual 127, 3, []), (6, .istore 4, 2, []), (8, .iload_n 3, 1, []), (9, .iconst 1, 1, []), (10, .if_icmp .ne 11, 3, [21]), (13, .aload_n 0, 1, []), (14, .getfield 29, 3, []), (17, .iload 4, 2, []), (19, .laload, 1, []), (20, .lreturn, 1, []), (21, .iload_n 3, 1, []), (22, .iconst 4, 1, []), (23, .if_icmp .ne 19, 3, [42]), (26, .aload_n 0, 1, []), (27, .getfield 29, 3, []), (30, .iload 4, 2, []), (32, .laload, 1, []), (33, .aload_n 0, 1, []), (34, .getfield 32, 3, []), (37, .iload 4, 2, []), (39, .laload, 1, []), (40, .lor, 1, []), (41, .lreturn, 1, []), (42, .aload_n 0, 1, []), (43, .getfield 32, 3, []), (46, .iload 4, 2, []), (48, .laload, 1, []), (49, .lreturn, 1, [])]
set_option maxRecDepth 65536 in
theorem m_coverFor_cOk : codeOk prog_1_method_10_code m_coverFor_c = true := by decide +kernel
set_option maxRecDepth 65536 in
set_option maxHeartbeats 4000000 in
theorem m_coverFor_0_ok (l : Launch) {Z : State} {a0 : Array Value} (hw : ∀ d ∈ tables_1, d.before a0 Z = true) (N : Nat) : Blk l Z "DeltaCausalMap" prog_1_method_10_code 5 (some .long) false ({ frames := 1, cells := 0, slots := 0, locals := 14 } : Room) AC nC zC (cC false) (sC asT false) (HC Z "DeltaCausalMap" fsT asT 23 false) [0, 0, 0, 0, 0] 2 46 (0, 46, m_coverFor_0_P (m_coverFor N)) :=
  blk_of_den (jl := []) (lst := m_coverFor_c) (m_coverFor_hop l hw N) (Or.inr (Or.inr (Or.inl ⟨rfl, rfl⟩))) rfl (by decide) (by decide) m_coverFor_cOk fn (fun L st S r ok h => by unfold m_coverFor_0_P at h; split at h; exact h; cases h)
def m_coverFor_F (N : Nat) : List AV → St → RS St := fun av S => match av with
  | [.inr (.inr (some 0)), .inl x1, .inl x2, .inl x3] => m_coverFor N x1 x2 x3 S
  | _ => none
theorem m_coverFor_P0 (f : Int → Int → Int → St → RS St) (x1 : Int) (x2 : Int) (x3 : Int) (S : St) : m_coverFor_0_P f (entryL [.inr (.inr (some 0)), .inl x1, .inl x2, .inl x3] 5) [] S = f x1 x2 x3 S := rfl
set_option maxRecDepth 65536 in
set_option maxHeartbeats 4000000 in
theorem m_coverFor_con (l : Launch) {Z : State} {a0 : Array Value} (hw : ∀ d ∈ tables_1, d.before a0 Z = true) (N : Nat) : Con l Z "DeltaCausalMap" fsT asT 23 (⟨"DeltaCausalMap", "coverFor", "(III)J"⟩ : MethodName) prog_1_method_10_code 5 (some .long) ({ frames := 1, cells := 0, slots := 0, locals := 14 } : Room) 2 (m_coverFor_F N) :=
  con_of (m_coverFor_0_ok l hw N) pnC rfl (fun av S r h oks => by unfold m_coverFor_F at h; split at h; exact ⟨(m_coverFor_P0 _ _ _ _ _).trans h, okL_entry rfl oks rfl⟩; cases h)
set_option maxRecDepth 65536 in
theorem m_coverFor_vir (l : Launch) {Z : State} {a0 : Array Value} (hw : ∀ d ∈ tables_1, d.before a0 Z = true) (N : Nat) (W : Nat) (R : Room) (h1 : 2 ≤ R.frames) (h2 : W + 30 ≤ R.locals) : VirOk l Z a0 "DeltaCausalMap" fsT asT 23 W R (115, 3, 2, m_coverFor_F N) :=
  ⟨(⟨"DeltaCausalMap", "coverFor", "(III)J"⟩ : MethodName), prog_1_method_10_code, 5, (some .long), ({ frames := 1, cells := 0, slots := 0, locals := 14 } : Room), [.int, .int, .int], rfl, (hw _ (List.mem_of_getElem? (i := 96) rfl)), (hw _ (List.mem_of_getElem? (i := 97) rfl)), Or.inl (hw _ (List.mem_of_getElem? (i := 98) rfl)), (hw _ (List.mem_of_getElem? (i := 99) rfl)), by decide +kernel, rfl, rfl, rfl, h1, by dsimp only; omega, m_coverFor_con l hw N⟩
/-! ## DeltaCausalMap.addDot:(II)V -/
set_option maxRecDepth 65536 in
set_option maxHeartbeats 4000000 in
theorem m_addDot_hop (l : Launch) {Z : State} {a0 : Array Value} (hw : ∀ d ∈ tables_1, d.before a0 Z = true) (N : Nat) : HopAll l Z "DeltaCausalMap" prog_1_method_12_code 7 none false ({ frames := 1, cells := 0, slots := 0, locals := 14 } : Room) AC nC zC (cC false) (sC asT false) (HC Z "DeltaCausalMap" fsT asT 23 false) (hopC fsT asT 23 0 false 1 cIT cJT [(127, 2, 1, m_storeIndex_F N)] []) :=
  hopC_all (clsT hw) mhC (hw _ (List.mem_of_getElem? (i := 2) rfl)) (fun h => nomatch h) (cIT_ok hw) (cJT_ok hw) (fc (m_storeIndex_vir l hw N _ _ (by decide) (by decide)) fn) fn (by decide) (by decide)
def m_addDot (N : Nat) (x1 : Int) (x2 : Int) (S : St) : RS St :=
  (if 0 ≤ w32 ((w32 (x1 * 4)) + (iand (iushr x2 4) 3)) ∧ w32 ((w32 (x1 * 4)) + (iand (iushr x2 4) 3)) < 16 then
  (if 0 ≤ w32 ((w32 (x1 * 4)) + (iand (iushr x2 4) 3)) ∧ w32 ((w32 (x1 * 4)) + (iand (iushr x2 4) 3)) < 16 then
  (if 0 ≤ x2 ∧ x2 < 64 then
  ((m_storeIndex N x1 ((stw S 6 (w32 ((w32 (x1 * 4)) + (iand (iushr x2 4) 3))) (w32 ((S 6 (w32 ((w32 (x1 * 4)) + (iand (iushr x2 4) 3)))) + 1))) 2 x2) (stw S 6 (w32 ((w32 (x1 * 4)) + (iand (iushr x2 4) 3))) (w32 ((S 6 (w32 ((w32 (x1 * 4)) + (iand (iushr x2 4) 3)))) + 1)))).bind fun r1 =>
  (if 0 ≤ x2 ∧ x2 < 64 then
  (if r1.2 1 x2 = 1 then
    (if 0 ≤ r1.1 ∧ r1.1 < 32 then
    (if 0 ≤ r1.1 ∧ r1.1 < 32 then
    some (0, stw r1.2 7 r1.1 (lor (r1.2 7 r1.1) (lshl 1 x2)))
    else none)
    else none)
  else
    (if 0 ≤ x2 ∧ x2 < 64 then
    (if r1.2 1 x2 = 2 then
      (if 0 ≤ r1.1 ∧ r1.1 < 32 then
      (if 0 ≤ r1.1 ∧ r1.1 < 32 then
      some (0, stw r1.2 8 r1.1 (lor (r1.2 8 r1.1) (lshl 1 x2)))
      else none)
      else none)
    else
      some (0, r1.2))
    else none))
  else none))
  else none)
  else none)
  else none)
def m_addDot_0_P (f : Int → Int → St → RS St) : Jn St := fun L st S => match L, st with
  | [some (some (.inr (.inr (some 0)))), some (some (.inl x1)), some (some (.inl x2)), _, _, _, _], [] => f x1 x2 S
  | _, _ => none
def m_addDot_c : List Ent := [(0, .iload_n 2, 1, []), (1, .iconst 4, 1, []), (2, .iushr, 1, []), (3, .iconst 3, 1, []), (4, .iand, 1, []), (5, .istore_n 3, 1, []), (6, .aload_n 0, 1, []), (7, .getfield 26, 3, []), (10, .iload_n 1, 1, []), (11, .iconst 4, 1, []), (12, .imul, 1, []), (13, .iload_n 3, 1, []), (14, .iadd, 1, []), (15, .aload_n 0, 1, []), (16, .getfield 26, 3, []), (19, .iload_n 1, 1, []), (20, .iconst 4, 1, []), (21, .imul, 1, []), (22, .iload_n 3, 1, []), (23, .iadd, 1, []), (24, .iaload, 1, []), (25, .iconst 1, 1, []), (26, .iadd, 1, []), (27, .iastore, 1, []), (28, .aload_n 0, 1, []), (29, .iload_n 1, 1, []), (30, .aload_n 0, 1, []), (31, .getfield 13, 3, []), (34, .iload_n 2, 1, []), (35, .iaload, 1, []), (36, .invokevirtual 127, 3, []), (39, .istore 4, 2, []), (41, .lconst 1, 1, []), (42, .iload_n 2, 1, []), (43, .lshl, 1, []), (44, .lstore 5, 2, []), (46, .aload_n 0, 1, []), (47, .getfield 7, 3, []), (50, .iload_n 2, 1, []), (51, .iaload, 1, []), (52, .iconst 1, 1, []), (53, .if_icmp .ne 18, 3, [71]), (56, .aload_n 0, 1, []), (57, .getfield 29, 3, []), (60, .iload 4, 2, []), (62, .dup2, 1, []), (63, .laload, 1, []), (64, .lload 5, 2, []), (66, .lor, 1, []), (67, .lastore, 1, []), (68, .goto 25, 3, [93]), (71, .aload_n 0, 1, []), (72, .getfield 7, 3, []), (75, .iload_n 2, 1, []), (76, .iaload, 1, []), (77, .iconst 2, 1, []), (78, .if_icmp .ne 15, 3, [93]), (81, .aload_n 0, 1, []), (82, .getfield 32, 3, []), (85, .iload 4, 2, []), (87, .dup2, 1, []), (88, .laload, 1, []), (89, .lload 5, 2, []), (91, .lor, 1, []), (92, .lastore, 1, []), (93, .return_, 1, [])]
set_option maxRecDepth 65536 in
theorem m_addDot_cOk : codeOk prog_1_method_12_code m_addDot_c = true := by decide +kernel
set_option maxRecDepth 65536 in
set_option maxHeartbeats 4000000 in
theorem m_addDot_0_ok (l : Launch) {Z : State} {a0 : Array Value} (hw : ∀ d ∈ tables_1, d.before a0 Z = true) (N : Nat) : Blk l Z "DeltaCausalMap" prog_1_method_12_code 7 none false ({ frames := 1, cells := 0, slots := 0, locals := 14 } : Room) AC nC zC (cC false) (sC asT false) (HC Z "DeltaCausalMap" fsT asT 23 false) [0, 0, 0, 0, 0, 1, 2] 0 46 (0, 46, m_addDot_0_P (m_addDot N)) :=
  blk_of_den (jl := []) (lst := m_addDot_c) (m_addDot_hop l hw N) (Or.inl ⟨rfl, rfl⟩) rfl (by decide) (by decide) m_addDot_cOk fn (fun L st S r ok h => by unfold m_addDot_0_P at h; split at h; exact h; cases h)
def m_addDot_F (N : Nat) : List AV → St → RS St := fun av S => match av with
  | [.inr (.inr (some 0)), .inl x1, .inl x2] => m_addDot N x1 x2 S
  | _ => none
theorem m_addDot_P0 (f : Int → Int → St → RS St) (x1 : Int) (x2 : Int) (S : St) : m_addDot_0_P f (entryL [.inr (.inr (some 0)), .inl x1, .inl x2] 7) [] S = f x1 x2 S := rfl
set_option maxRecDepth 65536 in
set_option maxHeartbeats 4000000 in
theorem m_addDot_con (l : Launch) {Z : State} {a0 : Array Value} (hw : ∀ d ∈ tables_1, d.before a0 Z = true) (N : Nat) : Con l Z "DeltaCausalMap" fsT asT 23 (⟨"DeltaCausalMap", "addDot", "(II)V"⟩ : MethodName) prog_1_method_12_code 7 none ({ frames := 1, cells := 0, slots := 0, locals := 14 } : Room) 0 (m_addDot_F N) :=
  con_of (m_addDot_0_ok l hw N) pnC rfl (fun av S r h oks => by unfold m_addDot_F at h; split at h; exact ⟨(m_addDot_P0 _ _ _ _).trans h, okL_entry rfl oks rfl⟩; cases h)
set_option maxRecDepth 65536 in
theorem m_addDot_vir (l : Launch) {Z : State} {a0 : Array Value} (hw : ∀ d ∈ tables_1, d.before a0 Z = true) (N : Nat) (W : Nat) (R : Room) (h1 : 2 ≤ R.frames) (h2 : W + 32 ≤ R.locals) : VirOk l Z a0 "DeltaCausalMap" fsT asT 23 W R (130, 2, 0, m_addDot_F N) :=
  ⟨(⟨"DeltaCausalMap", "addDot", "(II)V"⟩ : MethodName), prog_1_method_12_code, 7, none, ({ frames := 1, cells := 0, slots := 0, locals := 14 } : Room), [.int, .int], rfl, (hw _ (List.mem_of_getElem? (i := 108) rfl)), (hw _ (List.mem_of_getElem? (i := 109) rfl)), Or.inl (hw _ (List.mem_of_getElem? (i := 110) rfl)), (hw _ (List.mem_of_getElem? (i := 111) rfl)), by decide +kernel, rfl, rfl, rfl, h1, by dsimp only; omega, m_addDot_con l hw N⟩
/-! ## DeltaCausalMap.pruneStores:(IJ)V -/
set_option maxRecDepth 65536 in
set_option maxHeartbeats 4000000 in
theorem m_pruneStores_hop (l : Launch) {Z : State} {a0 : Array Value} (hw : ∀ d ∈ tables_1, d.before a0 Z = true) (N : Nat) : HopAll l Z "DeltaCausalMap" prog_1_method_13_code 7 none false ({ frames := 0, cells := 0, slots := 0, locals := 0 } : Room) AC nC zC (cC false) (sC asT false) (HC Z "DeltaCausalMap" fsT asT 23 false) (hopC fsT asT 23 0 false 1 cIT cJT [] []) :=
  hopC_all (clsT hw) mhC (hw _ (List.mem_of_getElem? (i := 2) rfl)) (fun h => nomatch h) (cIT_ok hw) (cJT_ok hw) fn fn (by decide) (by decide)
def m_pruneStores_17 (N : Nat) : Nat → Int → Int → Int → St → RS St
  | 0, _, _, _, _ => none
  | n + 1, x1, x4, x6, S =>
    (if x6 < 8 then
      (if 0 ≤ w32 ((w32 (x1 * 8)) + x6) ∧ w32 ((w32 (x1 * 8)) + x6) < 32 then
      (if 0 ≤ w32 ((w32 (x1 * 8)) + x6) ∧ w32 ((w32 (x1 * 8)) + x6) < 32 then
      (if 0 ≤ w32 ((w32 (x1 * 8)) + x6) ∧ w32 ((w32 (x1 * 8)) + x6) < 32 then
      (if 0 ≤ w32 ((w32 (x1 * 8)) + x6) ∧ w32 ((w32 (x1 * 8)) + x6) < 32 then
      m_pruneStores_17 N n x1 x4 (w32 (x6 + 1)) (stw (stw S 7 (w32 ((w32 (x1 * 8)) + x6)) (land (S 7 (w32 ((w32 (x1 * 8)) + x6))) x4)) 8 (w32 ((w32 (x1 * 8)) + x6)) (land ((stw S 7 (w32 ((w32 (x1 * 8)) + x6)) (land (S 7 (w32 ((w32 (x1 * 8)) + x6))) x4)) 8 (w32 ((w32 (x1 * 8)) + x6))) x4))
      else none)
      else none)
      else none)
      else none)
    else
      some (0, S))
def m_pruneStores_17_P (f : Int → Int → Int → St → RS St) : Jn St := fun L st S => match L, st with
  | [some (some (.inr (.inr (some 0)))), some (some (.inl x1)), _, _, some (some (.inr (.inl x4))), _, some (some (.inl x6))], [] => f x1 x4 x6 S
  | _, _ => none
def m_pruneStores (N : Nat) (x1 : Int) (x2 : Int) (S : St) : RS St :=
  (if lcmp x2 0 = 0 then
    some (0, S)
  else
    m_pruneStores_17 N N x1 (lxor x2 (-1)) 0 S)
def m_pruneStores_0_P (f : Int → Int → St → RS St) : Jn St := fun L st S => match L, st with
  | [some (some (.inr (.inr (some 0)))), some (some (.inl x1)), some (some (.inr (.inl x2))), _, _, _, _], [] => f x1 x2 S
  | _, _ => none
def m_pruneStores_c : List Ent := [(0, .lload_n 2, 1, []), (1, .lconst 0, 1, []), (2, .lcmp, 1, []), (3, .ifCond .ne 4, 3, [7]), (6, .return_, 1, []), (7, .lload_n 2, 1, []), (8, .ldc2_w 143, 3, []), (11, .lxor, 1, []), (12, .lstore 4, 2, []), (14, .iconst 0, 1, []), (15, .istore 6, 2, []), (17, .iload 6, 2, []), (19, .bipush 8, 2, []), (21, .if_icmp .ge 43, 3, [64]), (24, .aload_n 0, 1, []), (25, .getfield 29, 3, []), (28, .iload_n 1, 1, []), (29, .bipush 8, 2, []), (31, .imul, 1, []), (32, .iload 6, 2, []), (34, .iadd, 1, []), (35, .dup2, 1, []), (36, .laload, 1, []), (37, .lload 4, 2, []), (39, .land, 1, []), (40, .lastore, 1, []), (41, .aload_n 0, 1, []), (42, .getfield 32, 3, []), (45, .iload_n 1, 1, []), (46, .bipush 8, 2, []), (48, .imul, 1, []), (49, .iload 6, 2, []), (51, .iadd, 1, []), (52, .dup2, 1, []), (53, .laload, 1, []), (54, .lload 4, 2, []), (56, .land, 1, []), (57, .lastore, 1, []), (58, .iinc 6 1, 3, []), (61, .goto (-44), 3, [17]), (64, .return_, 1, [])]
set_option maxRecDepth 65536 in
theorem m_pruneStores_cOk : codeOk prog_1_method_13_code m_pruneStores_c = true := by decide +kernel
set_option maxRecDepth 65536 in
set_option maxHeartbeats 4000000 in
theorem m_pruneStores_17_ok (l : Launch) {Z : State} {a0 : Array Value} (hw : ∀ d ∈ tables_1, d.before a0 Z = true) (N : Nat) : ∀ n, Blk l Z "DeltaCausalMap" prog_1_method_13_code 7 none false ({ frames := 0, cells := 0, slots := 0, locals := 0 } : Room) AC nC zC (cC false) (sC asT false) (HC Z "DeltaCausalMap" fsT asT 23 false) [0, 0, 1, 2, 1, 2, 0] 0 46 (17, 46, m_pruneStores_17_P (m_pruneStores_17 N n))
  | 0 => blk_none (fun L st S => by unfold m_pruneStores_17_P; split <;> rfl)
  | n + 1 => have ih := m_pruneStores_17_ok l hw N n
    blk_of_den (jl := [(17, 46, m_pruneStores_17_P (m_pruneStores_17 N n))]) (lst := m_pruneStores_c) (m_pruneStores_hop l hw N) (Or.inl ⟨rfl, rfl⟩) rfl (by decide) (by decide) m_pruneStores_cOk (fc ih fn) (fun L st S r ok h => by unfold m_pruneStores_17_P at h; split at h; exact h; cases h)
set_option maxRecDepth 65536 in
set_option maxHeartbeats 4000000 in
theorem m_pruneStores_0_ok (l : Launch) {Z : State} {a0 : Array Value} (hw : ∀ d ∈ tables_1, d.before a0 Z = true) (N : Nat) : Blk l Z "DeltaCausalMap" prog_1_method_13_code 7 none false ({ frames := 0, cells := 0, slots := 0, locals := 0 } : Room) AC nC zC (cC false) (sC asT false) (HC Z "DeltaCausalMap" fsT asT 23 false) [0, 0, 1, 2, 1, 2, 0] 0 46 (0, 46, m_pruneStores_0_P (m_pruneStores N)) :=
  blk_of_den (jl := [(17, 46, m_pruneStores_17_P (m_pruneStores_17 N N))]) (lst := m_pruneStores_c) (m_pruneStores_hop l hw N) (Or.inl ⟨rfl, rfl⟩) rfl (by decide) (by decide) m_pruneStores_cOk (fc (m_pruneStores_17_ok l hw N N) fn) (fun L st S r ok h => by unfold m_pruneStores_0_P at h; split at h; exact h; cases h)
def m_pruneStores_F (N : Nat) : List AV → St → RS St := fun av S => match av with
  | [.inr (.inr (some 0)), .inl x1, .inr (.inl x2)] => m_pruneStores N x1 x2 S
  | _ => none
theorem m_pruneStores_P0 (f : Int → Int → St → RS St) (x1 : Int) (x2 : Int) (S : St) : m_pruneStores_0_P f (entryL [.inr (.inr (some 0)), .inl x1, .inr (.inl x2)] 7) [] S = f x1 x2 S := rfl
set_option maxRecDepth 65536 in
set_option maxHeartbeats 4000000 in
theorem m_pruneStores_con (l : Launch) {Z : State} {a0 : Array Value} (hw : ∀ d ∈ tables_1, d.before a0 Z = true) (N : Nat) : Con l Z "DeltaCausalMap" fsT asT 23 (⟨"DeltaCausalMap", "pruneStores", "(IJ)V"⟩ : MethodName) prog_1_method_13_code 7 none ({ frames := 0, cells := 0, slots := 0, locals := 0 } : Room) 0 (m_pruneStores_F N) :=
  con_of (m_pruneStores_0_ok l hw N) pnC rfl (fun av S r h oks => by unfold m_pruneStores_F at h; split at h; exact ⟨(m_pruneStores_P0 _ _ _ _).trans h, okL_entry rfl oks rfl⟩; cases h)
set_option maxRecDepth 65536 in
theorem m_pruneStores_vir (l : Launch) {Z : State} {a0 : Array Value} (hw : ∀ d ∈ tables_1, d.before a0 Z = true) (N : Nat) (W : Nat) (R : Room) (h1 : 1 ≤ R.frames) (h2 : W + 18 ≤ R.locals) : VirOk l Z a0 "DeltaCausalMap" fsT asT 23 W R (134, 2, 0, m_pruneStores_F N) :=
  ⟨(⟨"DeltaCausalMap", "pruneStores", "(IJ)V"⟩ : MethodName), prog_1_method_13_code, 7, none, ({ frames := 0, cells := 0, slots := 0, locals := 0 } : Room), [.int, .long], rfl, (hw _ (List.mem_of_getElem? (i := 112) rfl)), (hw _ (List.mem_of_getElem? (i := 113) rfl)), Or.inl (hw _ (List.mem_of_getElem? (i := 114) rfl)), (hw _ (List.mem_of_getElem? (i := 115) rfl)), by decide +kernel, rfl, rfl, rfl, h1, by dsimp only; omega, m_pruneStores_con l hw N⟩
/-! ## DeltaCausalMap.recordChange:(IJ)V -/
set_option maxRecDepth 65536 in
set_option maxHeartbeats 4000000 in
theorem m_recordChange_hop (l : Launch) {Z : State} {a0 : Array Value} (hw : ∀ d ∈ tables_1, d.before a0 Z = true) (N : Nat) : HopAll l Z "DeltaCausalMap" prog_1_method_14_code 4 none false ({ frames := 0, cells := 0, slots := 0, locals := 0 } : Room) AC nC zC (cC false) (sC asT false) (HC Z "DeltaCausalMap" fsT asT 23 false) (hopC fsT asT 23 0 false 1 cIT cJT [] []) :=
  hopC_all (clsT hw) mhC (hw _ (List.mem_of_getElem? (i := 2) rfl)) (fun h => nomatch h) (cIT_ok hw) (cJT_ok hw) fn fn (by decide) (by decide)
def m_recordChange (N : Nat) (x1 : Int) (x2 : Int) (S : St) : RS St :=
  (if 0 ≤ x1 ∧ x1 < 4 then
  (if 0 ≤ w32 ((w32 (x1 * 8)) + (iand (S 12 x1) 7)) ∧ w32 ((w32 (x1 * 8)) + (iand (S 12 x1) 7)) < 32 then
  (if 0 ≤ x1 ∧ x1 < 4 then
  (if 0 ≤ x1 ∧ x1 < 4 then
  some (0, stw (stw S 16 (w32 ((w32 (x1 * 8)) + (iand (S 12 x1) 7))) x2) 12 x1 (w32 (((stw S 16 (w32 ((w32 (x1 * 8)) + (iand (S 12 x1) 7))) x2) 12 x1) + 1)))
  else none)
  else none)
  else none)
  else none)
def m_recordChange_0_P (f : Int → Int → St → RS St) : Jn St := fun L st S => match L, st with
  | [some (some (.inr (.inr (some 0)))), some (some (.inl x1)), some (some (.inr (.inl x2))), _], [] => f x1 x2 S
  | _, _ => none
def m_recordChange_c : List Ent := [(0, .aload_n 0, 1, []), (1, .getfield 56, 3, []), (4, .iload_n 1, 1, []), (5, .bipush 8, 2, []), (7, .imul, 1, []), (8, .aload_n 0, 1, []), (9, .getfield 44, 3, []), (12, .iload_n 1, 1, []), (13, .iaload, 1, []), (14, .bipush 7, 2, []), (16, .iand, 1, []), (17, .iadd, 1, []), (18, .lload_n 2, 1, []), (19, .lastore, 1, []), (20, .aload_n 0, 1, []), (21, .getfield 44, 3, []), (24, .iload_n 1, 1, []), (25, .aload_n 0, 1, []), (26, .getfield 44, 3, []), (29, .iload_n 1, 1, []), (30, .iaload, 1, []), (31, .iconst 1, 1, []), (32, .iadd, 1, []), (33, .iastore, 1, []), (34, .return_, 1, [])]
set_option maxRecDepth 65536 in
theorem m_recordChange_cOk : codeOk prog_1_method_14_code m_recordChange_c = true := by decide +kernel
set_option maxRecDepth 65536 in
set_option maxHeartbeats 4000000 in
theorem m_recordChange_0_ok (l : Launch) {Z : State} {a0 : Array Value} (hw : ∀ d ∈ tables_1, d.before a0 Z = true) (N : Nat) : Blk l Z "DeltaCausalMap" prog_1_method_14_code 4 none false ({ frames := 0, cells := 0, slots := 0, locals := 0 } : Room) AC nC zC (cC false) (sC asT false) (HC Z "DeltaCausalMap" fsT asT 23 false) [0, 0, 1, 2] 0 46 (0, 46, m_recordChange_0_P (m_recordChange N)) :=
  blk_of_den (jl := []) (lst := m_recordChange_c) (m_recordChange_hop l hw N) (Or.inl ⟨rfl, rfl⟩) rfl (by decide) (by decide) m_recordChange_cOk fn (fun L st S r ok h => by unfold m_recordChange_0_P at h; split at h; exact h; cases h)
def m_recordChange_F (N : Nat) : List AV → St → RS St := fun av S => match av with
  | [.inr (.inr (some 0)), .inl x1, .inr (.inl x2)] => m_recordChange N x1 x2 S
  | _ => none
theorem m_recordChange_P0 (f : Int → Int → St → RS St) (x1 : Int) (x2 : Int) (S : St) : m_recordChange_0_P f (entryL [.inr (.inr (some 0)), .inl x1, .inr (.inl x2)] 4) [] S = f x1 x2 S := rfl
set_option maxRecDepth 65536 in
set_option maxHeartbeats 4000000 in
theorem m_recordChange_con (l : Launch) {Z : State} {a0 : Array Value} (hw : ∀ d ∈ tables_1, d.before a0 Z = true) (N : Nat) : Con l Z "DeltaCausalMap" fsT asT 23 (⟨"DeltaCausalMap", "recordChange", "(IJ)V"⟩ : MethodName) prog_1_method_14_code 4 none ({ frames := 0, cells := 0, slots := 0, locals := 0 } : Room) 0 (m_recordChange_F N) :=
  con_of (m_recordChange_0_ok l hw N) pnC rfl (fun av S r h oks => by unfold m_recordChange_F at h; split at h; exact ⟨(m_recordChange_P0 _ _ _ _).trans h, okL_entry rfl oks rfl⟩; cases h)
set_option maxRecDepth 65536 in
theorem m_recordChange_vir (l : Launch) {Z : State} {a0 : Array Value} (hw : ∀ d ∈ tables_1, d.before a0 Z = true) (N : Nat) (W : Nat) (R : Room) (h1 : 1 ≤ R.frames) (h2 : W + 15 ≤ R.locals) : VirOk l Z a0 "DeltaCausalMap" fsT asT 23 W R (137, 2, 0, m_recordChange_F N) :=
  ⟨(⟨"DeltaCausalMap", "recordChange", "(IJ)V"⟩ : MethodName), prog_1_method_14_code, 4, none, ({ frames := 0, cells := 0, slots := 0, locals := 0 } : Room), [.int, .long], rfl, (hw _ (List.mem_of_getElem? (i := 116) rfl)), (hw _ (List.mem_of_getElem? (i := 117) rfl)), Or.inl (hw _ (List.mem_of_getElem? (i := 118) rfl)), (hw _ (List.mem_of_getElem? (i := 119) rfl)), by decide +kernel, rfl, rfl, rfl, h1, by dsimp only; omega, m_recordChange_con l hw N⟩
/-! ## DeltaCausalMap.valueInSegment:(JI)I -/
set_option maxRecDepth 65536 in
set_option maxHeartbeats 4000000 in
theorem m_valueInSegment_hop (l : Launch) {Z : State} {a0 : Array Value} (hw : ∀ d ∈ tables_1, d.before a0 Z = true) (N : Nat) : HopAll l Z "DeltaCausalMap" prog_1_method_18_code 6 (some .int) false ({ frames := 0, cells := 0, slots := 0, locals := 0 } : Room) AC nC zC (cC false) (sC asT false) (HC Z "DeltaCausalMap" fsT asT 23 false) (hopC fsT asT 23 0 false 1 cIT cJT [] []) :=
  hopC_all (clsT hw) mhC (hw _ (List.mem_of_getElem? (i := 2) rfl)) (fun h => nomatch h) (cIT_ok hw) (cJT_ok hw) fn fn (by decide) (by decide)
def m_valueInSegment_29 (N : Nat) (x5 : Int) (S : St) : RS St :=
  (if 0 ≤ x5 ∧ x5 < 64 then
  some (S 3 x5, S)
  else none)
def m_valueInSegment_29_P (f : Int → St → RS St) : Jn St := fun L st S => match L, st with
  | [some (some (.inr (.inr (some 0)))), _, _, _, _, some (some (.inl x5))], [] => f x5 S
  | _, _ => none
def m_valueInSegment_3 (N : Nat) : Nat → Int → Int → Int → St → RS St
  | 0, _, _, _, _ => none
  | n + 1, x1, x3, x4, S =>
    (if x4 < 16 then
      (if lcmp (land (lushr x1 (w32 ((ishl x3 4) + x4))) 1) 0 = 0 then
        m_valueInSegment_3 N n x1 x3 (w32 (x4 + 1)) S
      else
        m_valueInSegment_29 N (w32 ((ishl x3 4) + x4)) S)
    else
      some (0, S))
def m_valueInSegment_3_P (f : Int → Int → Int → St → RS St) : Jn St := fun L st S => match L, st with
  | [some (some (.inr (.inr (some 0)))), some (some (.inr (.inl x1))), _, some (some (.inl x3)), some (some (.inl x4)), _], [] => f x1 x3 x4 S
  | _, _ => none
def m_valueInSegment (N : Nat) (x1 : Int) (x3 : Int) (S : St) : RS St :=
  m_valueInSegment_3 N N x1 x3 0 S
def m_valueInSegment_0_P (f : Int → Int → St → RS St) : Jn St := fun L st S => match L, st with
  | [some (some (.inr (.inr (some 0)))), some (some (.inr (.inl x1))), _, some (some (.inl x3)), _, _], [] => f x1 x3 S
  | _, _ => none
def m_valueInSegment_c : List Ent := [(0, .iconst 0, 1, []), (1, .istore 4, 2, []), (3, .iload 4, 2, []), (5, .bipush 16, 2, []), (7, .if_icmp .ge 36, 3, [43]), (10, .iload_n 3, 1, []), (11, .iconst 4, 1, []), (12, .ishl, 1, []), (13, .iload 4, 2, []), (15, .iadd, 1, []), (16, .istore 5, 2, []), (18, .lload_n 1, 1, []), (19, .iload 5, 2, []), (21, .lushr, 1, []), (22, .lconst 1, 1, []), (23, .land, 1, []), (24, .lconst 0, 1, []), (25, .lcmp, 1, []), (26, .ifCond .eq 11, 3, [37]), (29, .aload_n 0, 1, []), (30, .getfield 16, 3, []), (33, .iload 5, 2, []), (35, .iaload, 1, []), (36, .ireturn, 1, []), (37, .iinc 4 1, 3, []), (40, .goto (-37), 3, [3]), (43, .iconst 0, 1, []), (44, .ireturn, 1, [])]
set_option maxRecDepth 65536 in
theorem m_valueInSegment_cOk : codeOk prog_1_method_18_code m_valueInSegment_c = true := by decide +kernel
set_option maxRecDepth 65536 in
set_option maxHeartbeats 4000000 in
theorem m_valueInSegment_29_ok (l : Launch) {Z : State} {a0 : Array Value} (hw : ∀ d ∈ tables_1, d.before a0 Z = true) (N : Nat) : Blk l Z "DeltaCausalMap" prog_1_method_18_code 6 (some .int) false ({ frames := 0, cells := 0, slots := 0, locals := 0 } : Room) AC nC zC (cC false) (sC asT false) (HC Z "DeltaCausalMap" fsT asT 23 false) [0, 1, 2, 0, 0, 0] 1 46 (29, 46, m_valueInSegment_29_P (m_valueInSegment_29 N)) :=
  blk_of_den (jl := []) (lst := m_valueInSegment_c) (m_valueInSegment_hop l hw N) (Or.inr (Or.inl ⟨rfl, rfl⟩)) rfl (by decide) (by decide) m_valueInSegment_cOk fn (fun L st S r ok h => by unfold m_valueInSegment_29_P at h; split at h; exact h; cases h)
set_option maxRecDepth 65536 in
set_option maxHeartbeats 4000000 in
theorem m_valueInSegment_3_ok (l : Launch) {Z : State} {a0 : Array Value} (hw : ∀ d ∈ tables_1, d.before a0 Z = true) (N : Nat) : ∀ n, Blk l Z "DeltaCausalMap" prog_1_method_18_code 6 (some .int) false ({ frames := 0, cells := 0, slots := 0, locals := 0 } : Room) AC nC zC (cC false) (sC asT false) (HC Z "DeltaCausalMap" fsT asT 23 false) [0, 1, 2, 0, 0, 0] 1 46 (3, 46, m_valueInSegment_3_P (m_valueInSegment_3 N n))
  | 0 => blk_none (fun L st S => by unfold m_valueInSegment_3_P; split <;> rfl)
  | n + 1 => have ih := m_valueInSegment_3_ok l hw N n
    blk_of_den (jl := [(3, 46, m_valueInSegment_3_P (m_valueInSegment_3 N n)), (29, 46, m_valueInSegment_29_P (m_valueInSegment_29 N))]) (lst := m_valueInSegment_c) (m_valueInSegment_hop l hw N) (Or.inr (Or.inl ⟨rfl, rfl⟩)) rfl (by decide) (by decide) m_valueInSegment_cOk (fc ih (fc (m_valueInSegment_29_ok l hw N) fn)) (fun L st S r ok h => by unfold m_valueInSegment_3_P at h; split at h; exact h; cases h)
set_option maxRecDepth 65536 in
set_option maxHeartbeats 4000000 in
theorem m_valueInSegment_0_ok (l : Launch) {Z : State} {a0 : Array Value} (hw : ∀ d ∈ tables_1, d.before a0 Z = true) (N : Nat) : Blk l Z "DeltaCausalMap" prog_1_method_18_code 6 (some .int) false ({ frames := 0, cells := 0, slots := 0, locals := 0 } : Room) AC nC zC (cC false) (sC asT false) (HC Z "DeltaCausalMap" fsT asT 23 false) [0, 1, 2, 0, 0, 0] 1 46 (0, 46, m_valueInSegment_0_P (m_valueInSegment N)) :=
  blk_of_den (jl := [(3, 46, m_valueInSegment_3_P (m_valueInSegment_3 N N))]) (lst := m_valueInSegment_c) (m_valueInSegment_hop l hw N) (Or.inr (Or.inl ⟨rfl, rfl⟩)) rfl (by decide) (by decide) m_valueInSegment_cOk (fc (m_valueInSegment_3_ok l hw N N) fn) (fun L st S r ok h => by unfold m_valueInSegment_0_P at h; split at h; exact h; cases h)
def m_valueInSegment_F (N : Nat) : List AV → St → RS St := fun av S => match av with
  | [.inr (.inr (some 0)), .inr (.inl x1), .inl x3] => m_valueInSegment N x1 x3 S
  | _ => none
theorem m_valueInSegment_P0 (f : Int → Int → St → RS St) (x1 : Int) (x3 : Int) (S : St) : m_valueInSegment_0_P f (entryL [.inr (.inr (some 0)), .inr (.inl x1), .inl x3] 6) [] S = f x1 x3 S := rfl
set_option maxRecDepth 65536 in
set_option maxHeartbeats 4000000 in
theorem m_valueInSegment_con (l : Launch) {Z : State} {a0 : Array Value} (hw : ∀ d ∈ tables_1, d.before a0 Z = true) (N : Nat) : Con l Z "DeltaCausalMap" fsT asT 23 (⟨"DeltaCausalMap", "valueInSegment", "(JI)I"⟩ : MethodName) prog_1_method_18_code 6 (some .int) ({ frames := 0, cells := 0, slots := 0, locals := 0 } : Room) 1 (m_valueInSegment_F N) :=
  con_of (m_valueInSegment_0_ok l hw N) pnC rfl (fun av S r h oks => by unfold m_valueInSegment_F at h; split at h; exact ⟨(m_valueInSegment_P0 _ _ _ _).trans h, okL_entry rfl oks rfl⟩; cases h)
set_option maxRecDepth 65536 in
theorem m_valueInSegment_vir (l : Launch) {Z : State} {a0 : Array Value} (hw : ∀ d ∈ tables_1, d.before a0 Z = true) (N : Nat) (W : Nat) (R : Room) (h1 : 1 ≤ R.frames) (h2 : W + 17 ≤ R.locals) : VirOk l Z a0 "DeltaCausalMap" fsT asT 23 W R (149, 2, 1, m_valueInSegment_F N) :=
  ⟨(⟨"DeltaCausalMap", "valueInSegment", "(JI)I"⟩ : MethodName), prog_1_method_18_code, 6, (some .int), ({ frames := 0, cells := 0, slots := 0, locals := 0 } : Room), [.long, .int], rfl, (hw _ (List.mem_of_getElem? (i := 128) rfl)), (hw _ (List.mem_of_getElem? (i := 129) rfl)), Or.inl (hw _ (List.mem_of_getElem? (i := 130) rfl)), (hw _ (List.mem_of_getElem? (i := 131) rfl)), by decide +kernel, rfl, rfl, rfl, h1, by dsimp only; omega, m_valueInSegment_con l hw N⟩
/-! ## DeltaCausalMap.refreshRegister:(IIJ)V -/
set_option maxRecDepth 65536 in
set_option maxHeartbeats 4000000 in
theorem m_refreshRegister_hop (l : Launch) {Z : State} {a0 : Array Value} (hw : ∀ d ∈ tables_1, d.before a0 Z = true) (N : Nat) : HopAll l Z "DeltaCausalMap" prog_1_method_17_code 6 none false ({ frames := 1, cells := 0, slots := 0, locals := 19 } : Room) AC nC zC (cC false) (sC asT false) (HC Z "DeltaCausalMap" fsT asT 23 false) (hopC fsT asT 23 2 false 1 cIT cJT [(149, 2, 1, m_valueInSegment_F N)] []) :=
  hopC_all (clsT hw) mhC (hw _ (List.mem_of_getElem? (i := 2) rfl)) (fun h => nomatch h) (cIT_ok hw) (cJT_ok hw) (fc (m_valueInSegment_vir l hw N _ _ (by decide) (by decide)) fn) fn (by decide) (by decide)
def m_refreshRegister_3 (N : Nat) : Nat → Int → Int → Int → Int → St → RS St
  | 0, _, _, _, _, _ => none
  | n + 1, x1, x2, x3, x5, S =>
    (if x5 < 4 then
      ((m_valueInSegment N x3 x5 S).bind fun r1 =>
      (if 0 ≤ w32 ((w32 ((w32 (x1 * 32)) + (w32 (x2 * 4)))) + x5) ∧ w32 ((w32 ((w32 (x1 * 32)) + (w32 (x2 * 4)))) + x5) < 128 then
      m_refreshRegister_3 N n x1 x2 x3 (w32 (x5 + 1)) (stw r1.2 9 (w32 ((w32 ((w32 (x1 * 32)) + (w32 (x2 * 4)))) + x5)) r1.1)
      else none))
    else
      some (0, S))
def m_refreshRegister_3_P (f : Int → Int → Int → Int → St → RS St) : Jn St := fun L st S => match L, st with
  | [some (some (.inr (.inr (some 0)))), some (some (.inl x1)), some (some (.inl x2)), some (some (.inr (.inl x3))), _, some (some (.inl x5))], [] => f x1 x2 x3 x5 S
  | _, _ => none
def m_refreshRegister (N : Nat) (x1 : Int) (x2 : Int) (x3 : Int) (S : St) : RS St :=
  m_refreshRegister_3 N N x1 x2 x3 0 S
def m_refreshRegister_0_P (f : Int → Int → Int → St → RS St) : Jn St := fun L st S => match L, st with
  | [some (some (.inr (.inr (some 0)))), some (some (.inl x1)), some (some (.inl x2)), some (some (.inr (.inl x3))), _, _], [] => f x1 x2 x3 S
  | _, _ => none
def m_refreshRegister_c : List Ent := [(0, .iconst 0, 1, []), (1, .istore 5, 2, []), (3, .iload 5, 2, []), (5, .iconst 4, 1, []), (6, .if_icmp .ge 32, 3, [38]), (9, .aload_n 0, 1, []), (10, .getfield 35, 3, []), (13, .iload_n 1, 1, []), (14, .bipush 32, 2, []), (16, .imul, 1, []), (17, .iload_n 2, 1, []), (18, .iconst 4, 1, []), (19, .imul, 1, []), (20, .iadd, 1, []), (21, .iload 5, 2, []), (23, .iadd, 1, []), (24, .aload_n 0, 1, []), (25, .lload_n 3, 1, []), (26, .iload 5, 2, []), (28, .invokevirtual 149, 3, []), (31, .iastore, 1, []), (32, .iinc 5 1, 3, []), (35, .goto (-32), 3, [3]), (38, .return_, 1, [])]
set_option maxRecDepth 65536 in
theorem m_refreshRegister_cOk : codeOk prog_1_method_17_code m_refreshRegister_c = true := by decide +kernel
set_option maxRecDepth 65536 in
set_option maxHeartbeats 4000000 in
theorem m_refreshRegister_3_ok (l : Launch) {Z : State} {a0 : Array Value} (hw : ∀ d ∈ tables_1, d.before a0 Z = true) (N : Nat) : ∀ n, Blk l Z "DeltaCausalMap" prog_1_method_17_code 6 none false ({ frames := 1, cells := 0, slots := 0, locals := 19 } : Room) AC nC zC (cC false) (sC asT false) (HC Z "DeltaCausalMap" fsT asT 23 false) [0, 0, 0, 1, 2, 0] 0 46 (3, 46, m_refreshRegister_3_P (m_refreshRegister_3 N n))
  | 0 => blk_none (fun L st S => by unfold m_refreshRegister_3_P; split <;> rfl)
  | n + 1 => have ih := m_refreshRegister_3_ok l hw N n
    blk_of_den (jl := [(3, 46, m_refreshRegister_3_P (m_refreshRegister_3 N n))]) (lst := m_refreshRegister_c) (m_refreshRegister_hop l hw N) (Or.inl ⟨rfl, rfl⟩) rfl (by decide) (by decide) m_refreshRegister_cOk (fc ih fn) (fun L st S r ok h => by unfold m_refreshRegister_3_P at h; split at h; exact h; cases h)
set_option maxRecDepth 65536 in
set_option maxHeartbeats 4000000 in
theorem m_refreshRegister_0_ok (l : Launch) {Z : State} {a0 : Array Value} (hw : ∀ d ∈ tables_1, d.before a0 Z = true) (N : Nat) : Blk l Z "DeltaCausalMap" prog_1_method_17_code 6 none false ({ frames := 1, cells := 0, slots := 0, locals := 19 } : Room) AC nC zC (cC false) (sC asT false) (HC Z "DeltaCausalMap" fsT asT 23 false) [0, 0, 0, 1, 2, 0] 0 46 (0, 46, m_refreshRegister_0_P (m_refreshRegister N)) :=
  blk_of_den (jl := [(3, 46, m_refreshRegister_3_P (m_refreshRegister_3 N N))]) (lst := m_refreshRegister_c) (m_refreshRegister_hop l hw N) (Or.inl ⟨rfl, rfl⟩) rfl (by decide) (by decide) m_refreshRegister_cOk (fc (m_refreshRegister_3_ok l hw N N) fn) (fun L st S r ok h => by unfold m_refreshRegister_0_P at h; split at h; exact h; cases h)
def m_refreshRegister_F (N : Nat) : List AV → St → RS St := fun av S => match av with
  | [.inr (.inr (some 0)), .inl x1, .inl x2, .inr (.inl x3)] => m_refreshRegister N x1 x2 x3 S
  | _ => none
theorem m_refreshRegister_P0 (f : Int → Int → Int → St → RS St) (x1 : Int) (x2 : Int) (x3 : Int) (S : St) : m_refreshRegister_0_P f (entryL [.inr (.inr (some 0)), .inl x1, .inl x2, .inr (.inl x3)] 6) [] S = f x1 x2 x3 S := rfl
set_option maxRecDepth 65536 in
set_option maxHeartbeats 4000000 in
theorem m_refreshRegister_con (l : Launch) {Z : State} {a0 : Array Value} (hw : ∀ d ∈ tables_1, d.before a0 Z = true) (N : Nat) : Con l Z "DeltaCausalMap" fsT asT 23 (⟨"DeltaCausalMap", "refreshRegister", "(IIJ)V"⟩ : MethodName) prog_1_method_17_code 6 none ({ frames := 1, cells := 0, slots := 0, locals := 19 } : Room) 0 (m_refreshRegister_F N) :=
  con_of (m_refreshRegister_0_ok l hw N) pnC rfl (fun av S r h oks => by unfold m_refreshRegister_F at h; split at h; exact ⟨(m_refreshRegister_P0 _ _ _ _ _).trans h, okL_entry rfl oks rfl⟩; cases h)
set_option maxRecDepth 65536 in
theorem m_refreshRegister_vir (l : Launch) {Z : State} {a0 : Array Value} (hw : ∀ d ∈ tables_1, d.before a0 Z = true) (N : Nat) (W : Nat) (R : Room) (h1 : 2 ≤ R.frames) (h2 : W + 36 ≤ R.locals) : VirOk l Z a0 "DeltaCausalMap" fsT asT 23 W R (145, 3, 0, m_refreshRegister_F N) :=
  ⟨(⟨"DeltaCausalMap", "refreshRegister", "(IIJ)V"⟩ : MethodName), prog_1_method_17_code, 6, none, ({ frames := 1, cells := 0, slots := 0, locals := 19 } : Room), [.int, .int, .long], rfl, (hw _ (List.mem_of_getElem? (i := 124) rfl)), (hw _ (List.mem_of_getElem? (i := 125) rfl)), Or.inl (hw _ (List.mem_of_getElem? (i := 126) rfl)), (hw _ (List.mem_of_getElem? (i := 127) rfl)), by decide +kernel, rfl, rfl, rfl, h1, by dsimp only; omega, m_refreshRegister_con l hw N⟩
/-! ## DeltaCausalMap.refreshView:(I)V -/
set_option maxRecDepth 65536 in
set_option maxHeartbeats 4000000 in
theorem m_refreshView_hop (l : Launch) {Z : State} {a0 : Array Value} (hw : ∀ d ∈ tables_1, d.before a0 Z = true) (N : Nat) : HopAll l Z "DeltaCausalMap" prog_1_method_16_code 9 none false ({ frames := 2, cells := 0, slots := 0, locals := 36 } : Room) AC nC zC (cC false) (sC asT false) (HC Z "DeltaCausalMap" fsT asT 23 false) (hopC fsT asT 23 0 false 1 cIT cJT [(145, 3, 0, m_refreshRegister_F N)] []) :=
  hopC_all (clsT hw) mhC (hw _ (List.mem_of_getElem? (i := 2) rfl)) (fun h => nomatch h) (cIT_ok hw) (cJT_ok hw) (fc (m_refreshRegister_vir l hw N _ _ (by decide) (by decide)) fn) fn (by decide) (by decide)
def m_refreshView_94 (N : Nat) (x1 : Int) (x2 : Int) (x3 : Int) (S : St) : RS St :=
  (if 0 ≤ x1 ∧ x1 < 4 then
  (if 0 ≤ x1 ∧ x1 < 4 then
  some (0, stw (stw S 10 x1 x2) 11 x1 x3)
  else none)
  else none)
def m_refreshView_94_P (f : Int → Int → Int → St → RS St) : Jn St := fun L st S => match L, st with
  | [some (some (.inr (.inr (some 0)))), some (some (.inl x1)), some (some (.inl x2)), some (some (.inl x3)), _, _, _, _, _], [] => f x1 x2 x3 S
  | _, _ => none
def m_refreshView_79 (N : Nat) (k7 : Int → Int → Int → Int → St → RS St) (x1 : Int) (x2 : Int) (x3 : Int) (x4 : Int) (x5 : Int) (S : St) : RS St :=
  ((m_refreshRegister N x1 x4 x5 S).bind fun r1 =>
  k7 x1 x2 x3 (w32 (x4 + 1)) r1.2)
def m_refreshView_79_P (f : Int → Int → Int → Int → Int → St → RS St) : Jn St := fun L st S => match L, st with
  | [some (some (.inr (.inr (some 0)))), some (some (.inl x1)), some (some (.inl x2)), some (some (.inl x3)), some (some (.inl x4)), some (some (.inr (.inl x5))), _, _, _], [] => f x1 x2 x3 x4 x5 S
  | _, _ => none
def m_refreshView_72 (N : Nat) (k7 : Int → Int → Int → Int → St → RS St) (x1 : Int) (x2 : Int) (x3 : Int) (x4 : Int) (x5 : Int) (S : St) : RS St :=
  m_refreshView_79 N k7 x1 x2 (ior x3 (ishl 1 x4)) x4 x5 S
def m_refreshView_72_P (f : Int → Int → Int → Int → Int → St → RS St) : Jn St := fun L st S => match L, st with
  | [some (some (.inr (.inr (some 0)))), some (some (.inl x1)), some (some (.inl x2)), some (some (.inl x3)), some (some (.inl x4)), some (some (.inr (.inl x5))), _, _, _], [] => f x1 x2 x3 x4 x5 S
  | _, _ => none
def m_refreshView_58 (N : Nat) (k7 : Int → Int → Int → Int → St → RS St) (x1 : Int) (x2 : Int) (x3 : Int) (x4 : Int) (x5 : Int) (x7 : Int) (S : St) : RS St :=
  (if lcmp x5 0 = 0 then
    (if lcmp x7 0 = 0 then
      m_refreshView_79 N k7 x1 x2 x3 x4 x5 S
    else
      m_refreshView_72 N k7 x1 x2 x3 x4 x5 S)
  else
    m_refreshView_72 N k7 x1 x2 x3 x4 x5 S)
def m_refreshView_58_P (f : Int → Int → Int → Int → Int → Int → St → RS St) : Jn St := fun L st S => match L, st with
  | [some (some (.inr (.inr (some 0)))), some (some (.inl x1)), some (some (.inl x2)), some (some (.inl x3)), some (some (.inl x4)), some (some (.inr (.inl x5))), _, some (some (.inr (.inl x7))), _], [] => f x1 x2 x3 x4 x5 x7 S
  | _, _ => none
def m_refreshView_7 (N : Nat) : Nat → Int → Int → Int → Int → St → RS St
  | 0, _, _, _, _, _ => none
  | n + 1, x1, x2, x3, x4, S =>
    (if x4 < S 0 23 then
      (if 0 ≤ w32 ((w32 (x1 * 8)) + x4) ∧ w32 ((w32 (x1 * 8)) + x4) < 32 then
      (if 0 ≤ w32 ((w32 (x1 * 8)) + x4) ∧ w32 ((w32 (x1 * 8)) + x4) < 32 then
      (if lcmp (S 8 (w32 ((w32 (x1 * 8)) + x4))) 0 = 0 then
        m_refreshView_58 N (m_refreshView_7 N n) x1 x2 x3 x4 (S 7 (w32 ((w32 (x1 * 8)) + x4))) (S 8 (w32 ((w32 (x1 * 8)) + x4))) S
      else
        m_refreshView_58 N (m_refreshView_7 N n) x1 (ior x2 (ishl 1 x4)) x3 x4 (S 7 (w32 ((w32 (x1 * 8)) + x4))) (S 8 (w32 ((w32 (x1 * 8)) + x4))) S)
      else none)
      else none)
    else
      m_refreshView_94 N x1 x2 x3 S)
def m_refreshView_7_P (f : Int → Int → Int → Int → St → RS St) : Jn St := fun L st S => match L, st with
  | [some (some (.inr (.inr (some 0)))), some (some (.inl x1)), some (some (.inl x2)), some (some (.inl x3)), some (some (.inl x4)), _, _, _, _], [] => f x1 x2 x3 x4 S
  | _, _ => none
def m_refreshView (N : Nat) (x1 : Int) (S : St) : RS St :=
  m_refreshView_7 N N x1 0 0 0 S
def m_refreshView_0_P (f : Int → St → RS St) : Jn St := fun L st S => match L, st with
  | [some (some (.inr (.inr (some 0)))), some (some (.inl x1)), _, _, _, _, _, _, _], [] => f x1 S
  | _, _ => none
def m_refreshView_c : List Ent := [(0, .iconst 0, 1, []), (1, .istore_n 2, 1, []), (2, .iconst 0, 1, []), (3, .istore_n 3, 1, []), (4, .iconst 0, 1, []), (5, .istore 4, 2, []), (7, .iload 4, 2, []), (9, .aload_n 0, 1, []), (10, .getfield 84, 3, []), (13, .if_icmp .ge 81, 3, [94]), (16, .aload_n 0, 1, []), (17, .getfield 29, 3, []), (20, .iload_n 1, 1, []), (21, .bipush 8, 2, []), (23, .imul, 1, []), (24, .iload 4, 2, []), (26, .iadd, 1, []), (27, .laload, 1, []), (28, .lstore 5, 2, []), (30, .aload_n 0, 1, []), (31, .getfield 32, 3, []), (34, .iload_n 1, 1, []), (35, .bipush 8, 2, []), (37, .imul, 1, []), (38, .iload 4, 2, []), (40, .iadd, 1, []), (41, .laload, 1, []), (42, .lstore 7, 2, []), (44, .lload 7, 2, []), (46, .lconst 0, 1, []), (47, .lcmp, 1, []), (48, .ifCond .eq 10, 3, [58]), (51, .iload_n 2, 1, []), (52, .iconst 1, 1, []), (53, .iload 4, 2, []), (55, .ishl, 1, []), (56, .ior, 1, []), (57, .istore_n 2, 1, []), (58, .lload 5, 2, []), (60, .lconst 0, 1, []), (61, .lcmp, 1, []), (62, .ifCond .ne 10, 3, [72]), (65, .lload 7, 2, []), (67, .lconst 0, 1, []), (68, .lcmp, 1, []), (69, .ifCond .eq 10, 3, [79]), (72, .iload_n 3, 1, []), (73, .iconst 1, 1, []), (74, .iload 4, 2, []), (76, .ishl, 1, []), (77, .ior, 1, []), (78, .istore_n 3, 1, []), (79, .aload_n 0, 1, []), (80, .iload_n 1, 1, []), (81, .iload 4, 2, []), (83, .lload 5, 2, []), (85, .invokevirtual 145, 3, []), (88, .iinc 4 1, 3, []), (91, .goto (-84), 3, [7]), (94, .aload_n 0, 1, []), (95, .getfield 38, 3, []), (98, .iload_n 1, 1, []), (99, .iload_n 2, 1, []), (100, .iastore, 1, []), (101, .aload_n 0, 1, []), (102, .getfield 41, 3, []), (105, .iload_n 1, 1, []), (106, .iload_n 3, 1, []), (107, .iastore, 1, []), (108, .return_, 1, [])]
set_option maxRecDepth 65536 in
theorem m_refreshView_cOk : codeOk prog_1_method_16_code m_refreshView_c = true := by decide +kernel
set_option maxRecDepth 65536 in
set_option maxHeartbeats 4000000 in
theorem m_refreshView_94_ok (l : Launch) {Z : State} {a0 : Array Value} (hw : ∀ d ∈ tables_1, d.before a0 Z = true) (N : Nat) : Blk l Z "DeltaCausalMap" prog_1_method_16_code 9 none false ({ frames := 2, cells := 0, slots := 0, locals := 36 } : Room) AC nC zC (cC false) (sC asT false) (HC Z "DeltaCausalMap" fsT asT 23 false) [0, 0, 0, 0, 0, 1, 2, 1, 2] 0 46 (94, 46, m_refreshView_94_P (m_refreshView_94 N)) :=
  blk_of_den (jl := []) (lst := m_refreshView_c) (m_refreshView_hop l hw N) (Or.inl ⟨rfl, rfl⟩) rfl (by decide) (by decide) m_refreshView_cOk fn (fun L st S r ok h => by unfold m_refreshView_94_P at h; split at h; exact h; cases h)
set_option maxRecDepth 65536 in
set_option maxHeartbeats 4000000 in
theorem m_refreshView_79_ok (l : Launch) {Z : State} {a0 : Array Value} (hw : ∀ d ∈ tables_1, d.before a0 Z = true) (N : Nat) {k7 : Int → Int → Int → Int → St → RS St} (h7 : Blk l Z "DeltaCausalMap" prog_1_method_16_code 9 none false ({ frames := 2, cells := 0, slots := 0, locals := 36 } : Room) AC nC zC (cC false) (sC asT false) (HC Z "DeltaCausalMap" fsT asT 23 false) [0, 0, 0, 0, 0, 1, 2, 1, 2] 0 46 (7, 46, m_refreshView_7_P (k7))) : Blk l Z "DeltaCausalMap" prog_1_method_16_code 9 none false ({ frames := 2, cells := 0, slots := 0, locals := 36 } : Room) AC nC zC (cC false) (sC asT false) (HC Z "DeltaCausalMap" fsT asT 23 false) [0, 0, 0, 0, 0, 1, 2, 1, 2] 0 46 (79, 46, m_refreshView_79_P (m_refreshView_79 N k7)) :=
  blk_of_den (jl := [(7, 46, m_refreshView_7_P (k7))]) (lst := m_refreshView_c) (m_refreshView_hop l hw N) (Or.inl ⟨rfl, rfl⟩) rfl (by decide) (by decide) m_refreshView_cOk (fc h7 fn) (fun L st S r ok h => by unfold m_refreshView_79_P at h; split at h; exact h; cases h)
set_option maxRecDepth 65536 in
set_option maxHeartbeats 4000000 in
theorem m_refreshView_72_ok (l : Launch) {Z : State} {a0 : Array Value} (hw : ∀ d ∈ tables_1, d.before a0 Z = true) (N : Nat) {k7 : Int → Int → Int → Int → St → RS St} (h7 : Blk l Z "DeltaCausalMap" prog_1_method_16_code 9 none false ({ frames := 2, cells := 0, slots := 0, locals := 36 } : Room) AC nC zC (cC false) (sC asT false) (HC Z "DeltaCausalMap" fsT asT 23 false) [0, 0, 0, 0, 0, 1, 2, 1, 2] 0 46 (7, 46, m_refreshView_7_P (k7))) : Blk l Z "DeltaCausalMap" prog_1_method_16_code 9 none false ({ frames := 2, cells := 0, slots := 0, locals := 36 } : Room) AC nC zC (cC false) (sC asT false) (HC Z "DeltaCausalMap" fsT asT 23 false) [0, 0, 0, 0, 0, 1, 2, 1, 2] 0 46 (72, 46, m_refreshView_72_P (m_refreshView_72 N k7)) :=
  blk_of_den (jl := [(79, 46, m_refreshView_79_P (m_refreshView_79 N k7))]) (lst := m_refreshView_c) (m_refreshView_hop l hw N) (Or.inl ⟨rfl, rfl⟩) rfl (by decide) (by decide) m_refreshView_cOk (fc (m_refreshView_79_ok l hw N h7) fn) (fun L st S r ok h => by unfold m_refreshView_72_P at h; split at h; exact h; cases h)
set_option maxRecDepth 65536 in
set_option maxHeartbeats 4000000 in
theorem m_refreshView_58_ok (l : Launch) {Z : State} {a0 : Array Value} (hw : ∀ d ∈ tables_1, d.before a0 Z = true) (N : Nat) {k7 : Int → Int → Int → Int → St → RS St} (h7 : Blk l Z "DeltaCausalMap" prog_1_method_16_code 9 none false ({ frames := 2, cells := 0, slots := 0, locals := 36 } : Room) AC nC zC (cC false) (sC asT false) (HC Z "DeltaCausalMap" fsT asT 23 false) [0, 0, 0, 0, 0, 1, 2, 1, 2] 0 46 (7, 46, m_refreshView_7_P (k7))) : Blk l Z "DeltaCausalMap" prog_1_method_16_code 9 none false ({ frames := 2, cells := 0, slots := 0, locals := 36 } : Room) AC nC zC (cC false) (sC asT false) (HC Z "DeltaCausalMap" fsT asT 23 false) [0, 0, 0, 0, 0, 1, 2, 1, 2] 0 46 (58, 46, m_refreshView_58_P (m_refreshView_58 N k7)) :=
  blk_of_den (jl := [(72, 46, m_refreshView_72_P (m_refreshView_72 N k7)), (79, 46, m_refreshView_79_P (m_refreshView_79 N k7))]) (lst := m_refreshView_c) (m_refreshView_hop l hw N) (Or.inl ⟨rfl, rfl⟩) rfl (by decide) (by decide) m_refreshView_cOk (fc (m_refreshView_72_ok l hw N h7) (fc (m_refreshView_79_ok l hw N h7) fn)) (fun L st S r ok h => by unfold m_refreshView_58_P at h; split at h; exact h; cases h)
set_option maxRecDepth 65536 in
set_option maxHeartbeats 4000000 in
theorem m_refreshView_7_ok (l : Launch) {Z : State} {a0 : Array Value} (hw : ∀ d ∈ tables_1, d.before a0 Z = true) (N : Nat) : ∀ n, Blk l Z "DeltaCausalMap" prog_1_method_16_code 9 none false ({ frames := 2, cells := 0, slots := 0, locals := 36 } : Room) AC nC zC (cC false) (sC asT false) (HC Z "DeltaCausalMap" fsT asT 23 false) [0, 0, 0, 0, 0, 1, 2, 1, 2] 0 46 (7, 46, m_refreshView_7_P (m_refreshView_7 N n))
  | 0 => blk_none (fun L st S => by unfold m_refreshView_7_P; split <;> rfl)
  | n + 1 => have ih := m_refreshView_7_ok l hw N n
    blk_of_den (jl := [(94, 46, m_refreshView_94_P (m_refreshView_94 N)), (58, 46, m_refreshView_58_P (m_refreshView_58 N (m_refreshView_7 N n)))]) (lst := m_refreshView_c) (m_refreshView_hop l hw N) (Or.inl ⟨rfl, rfl⟩) rfl (by decide) (by decide) m_refreshView_cOk (fc (m_refreshView_94_ok l hw N) (fc (m_refreshView_58_ok l hw N ih) fn)) (fun L st S r ok h => by unfold m_refreshView_7_P at h; split at h; exact h; cases h)
set_option maxRecDepth 65536 in
set_option maxHeartbeats 4000000 in
theorem m_refreshView_0_ok (l : Launch) {Z : State} {a0 : Array Value} (hw : ∀ d ∈ tables_1, d.before a0 Z = true) (N : Nat) : Blk l Z "DeltaCausalMap" prog_1_method_16_code 9 none false ({ frames := 2, cells := 0, slots := 0, locals := 36 } : Room) AC nC zC (cC false) (sC asT false) (HC Z "DeltaCausalMap" fsT asT 23 false) [0, 0, 0, 0, 0, 1, 2, 1, 2] 0 46 (0, 46, m_refreshView_0_P (m_refreshView N)) :=
  blk_of_den (jl := [(7, 46, m_refreshView_7_P (m_refreshView_7 N N))]) (lst := m_refreshView_c) (m_refreshView_hop l hw N) (Or.inl ⟨rfl, rfl⟩) rfl (by decide) (by decide) m_refreshView_cOk (fc (m_refreshView_7_ok l hw N N) fn) (fun L st S r ok h => by unfold m_refreshView_0_P at h; split at h; exact h; cases h)
def m_refreshView_F (N : Nat) : List AV → St → RS St := fun av S => match av with
  | [.inr (.inr (some 0)), .inl x1] => m_refreshView N x1 S
  | _ => none
theorem m_refreshView_P0 (f : Int → St → RS St) (x1 : Int) (S : St) : m_refreshView_0_P f (entryL [.inr (.inr (some 0)), .inl x1] 9) [] S = f x1 S := rfl
set_option maxRecDepth 65536 in
set_option maxHeartbeats 4000000 in
theorem m_refreshView_con (l : Launch) {Z : State} {a0 : Array Value} (hw : ∀ d ∈ tables_1, d.before a0 Z = true) (N : Nat) : Con l Z "DeltaCausalMap" fsT asT 23 (⟨"DeltaCausalMap", "refreshView", "(I)V"⟩ : MethodName) prog_1_method_16_code 9 none ({ frames := 2, cells := 0, slots := 0, locals := 36 } : Room) 0 (m_refreshView_F N) :=
  con_of (m_refreshView_0_ok l hw N) pnC rfl (fun av S r h oks => by unfold m_refreshView_F at h; split at h; exact ⟨(m_refreshView_P0 _ _ _).trans h, okL_entry rfl oks rfl⟩; cases h)
set_option maxRecDepth 65536 in
theorem m_refreshView_vir (l : Launch) {Z : State} {a0 : Array Value} (hw : ∀ d ∈ tables_1, d.before a0 Z = true) (N : Nat) (W : Nat) (R : Room) (h1 : 3 ≤ R.frames) (h2 : W + 56 ≤ R.locals) : VirOk l Z a0 "DeltaCausalMap" fsT asT 23 W R (140, 1, 0, m_refreshView_F N) :=
  ⟨(⟨"DeltaCausalMap", "refreshView", "(I)V"⟩ : MethodName), prog_1_method_16_code, 9, none, ({ frames := 2, cells := 0, slots := 0, locals := 36 } : Room), [.int], rfl, (hw _ (List.mem_of_getElem? (i := 120) rfl)), (hw _ (List.mem_of_getElem? (i := 121) rfl)), Or.inl (hw _ (List.mem_of_getElem? (i := 122) rfl)), (hw _ (List.mem_of_getElem? (i := 123) rfl)), by decide +kernel, rfl, rfl, rfl, h1, by dsimp only; omega, m_refreshView_con l hw N⟩
/-! ## DeltaCausalMap.join:(IJ)V -/
set_option maxRecDepth 65536 in
set_option maxHeartbeats 4000000 in
theorem m_join_hop (l : Launch) {Z : State} {a0 : Array Value} (hw : ∀ d ∈ tables_1, d.before a0 Z = true) (N : Nat) : HopAll l Z "DeltaCausalMap" prog_1_method_11_code 7 none false ({ frames := 3, cells := 0, slots := 0, locals := 56 } : Room) AC nC zC (cC false) (sC asT false) (HC Z "DeltaCausalMap" fsT asT 23 false) (hopC fsT asT 23 0 false 1 cIT cJT [(130, 2, 0, m_addDot_F N), (134, 2, 0, m_pruneStores_F N), (137, 2, 0, m_recordChange_F N), (140, 1, 0, m_refreshView_F N)] []) :=
  hopC_all (clsT hw) mhC (hw _ (List.mem_of_getElem? (i := 2) rfl)) (fun h => nomatch h) (cIT_ok hw) (cJT_ok hw) (fc (m_addDot_vir l hw N _ _ (by decide) (by decide)) (fc (m_pruneStores_vir l hw N _ _ (by decide) (by decide)) (fc (m_recordChange_vir l hw N _ _ (by decide) (by decide)) (fc (m_refreshView_vir l hw N _ _ (by decide) (by decide)) fn)))) fn (by decide) (by decide)
def m_join_49 (N : Nat) (x1 : Int) (x2 : Int) (x4 : Int) (S : St) : RS St :=
  ((m_pruneStores N x1 x4 S).bind fun r1 =>
  (if 0 ≤ x1 ∧ x1 < 4 then
  (if 0 ≤ x1 ∧ x1 < 4 then
  ((m_recordChange N x1 x2 (stw r1.2 5 x1 (lor (r1.2 5 x1) x2))).bind fun r2 =>
  ((m_refreshView N x1 r2.2).bind fun r3 =>
  some (0, r3.2)))
  else none)
  else none))
def m_join_49_P (f : Int → Int → Int → St → RS St) : Jn St := fun L st S => match L, st with
  | [some (some (.inr (.inr (some 0)))), some (some (.inl x1)), some (some (.inr (.inl x2))), _, some (some (.inr (.inl x4))), _, _], [] => f x1 x2 x4 S
  | _, _ => none
def m_join_43 (N : Nat) (k6 : Int → Int → Int → Int → St → RS St) (x1 : Int) (x2 : Int) (x4 : Int) (x6 : Int) (S : St) : RS St :=
  k6 x1 x2 x4 (w32 (x6 + 1)) S
def m_join_43_P (f : Int → Int → Int → Int → St → RS St) : Jn St := fun L st S => match L, st with
  | [some (some (.inr (.inr (some 0)))), some (some (.inl x1)), some (some (.inr (.inl x2))), _, some (some (.inr (.inl x4))), _, some (some (.inl x6))], [] => f x1 x2 x4 x6 S
  | _, _ => none
def m_join_6 (N : Nat) : Nat → Int → Int → Int → Int → St → RS St
  | 0, _, _, _, _, _ => none
  | n + 1, x1, x2, x4, x6, S =>
    (if x6 < 64 then
      (if lcmp (land (lushr x2 x6) 1) 0 = 0 then
        m_join_43 N (m_join_6 N n) x1 x2 x4 x6 S
      else
        (if 0 ≤ x6 ∧ x6 < 64 then
        ((m_addDot N x1 x6 S).bind fun r1 =>
        m_join_43 N (m_join_6 N n) x1 x2 (lor x4 (S 4 x6)) x6 r1.2)
        else none))
    else
      m_join_49 N x1 x2 x4 S)
def m_join_6_P (f : Int → Int → Int → Int → St → RS St) : Jn St := fun L st S => match L, st with
  | [some (some (.inr (.inr (some 0)))), some (some (.inl x1)), some (some (.inr (.inl x2))), _, some (some (.inr (.inl x4))), _, some (some (.inl x6))], [] => f x1 x2 x4 x6 S
  | _, _ => none
def m_join (N : Nat) (x1 : Int) (x2 : Int) (S : St) : RS St :=
  m_join_6 N N x1 x2 0 0 S
def m_join_0_P (f : Int → Int → St → RS St) : Jn St := fun L st S => match L, st with
  | [some (some (.inr (.inr (some 0)))), some (some (.inl x1)), some (some (.inr (.inl x2))), _, _, _, _], [] => f x1 x2 S
  | _, _ => none
def m_join_c : List Ent := [(0, .lconst 0, 1, []), (1, .lstore 4, 2, []), (3, .iconst 0, 1, []), (4, .istore 6, 2, []), (6, .iload 6, 2, []), (8, .bipush 64, 2, []), (10, .if_icmp .ge 39, 3, [49]), (13, .lload_n 2, 1, []), (14, .iload 6, 2, []), (16, .lushr, 1, []), (17, .lconst 1, 1, []), (18, .land, 1, []), (19, .lconst 0, 1, []), (20, .lcmp, 1, []), (21, .ifCond .eq 22, 3, [43]), (24, .lload 4, 2, []), (26, .aload_n 0, 1, []), (27, .getfield 19, 3, []), (30, .iload 6, 2, []), (32, .laload, 1, []), (33, .lor, 1, []), (34, .lstore 4, 2, []), (36, .aload_n 0, 1, []), (37, .iload_n 1, 1, []), (38, .iload 6, 2, []), (40, .invokevirtual 130, 3, []), (43, .iinc 6 1, 3, []), (46, .goto (-40), 3, [6]), (49, .aload_n 0, 1, []), (50, .iload_n 1, 1, []), (51, .lload 4, 2, []), (53, .invokevirtual 134, 3, []), (56, .aload_n 0, 1, []), (57, .getfield 23, 3, []), (60, .iload_n 1, 1, []), (61, .dup2, 1, []), (62, .laload, 1, []), (63, .lload_n 2, 1, []), (64, .lor, 1, []), (65, .lastore, 1, []), (66, .aload_n 0, 1, []), (67, .iload_n 1, 1, []), (68, .lload_n 2, 1, []), (69, .invokevirtual 137, 3, []), (72, .aload_n 0, 1, []), (73, .iload_n 1, 1, []), (74, .invokevirtual 140, 3, []), (77, .return_, 1, [])]
set_option maxRecDepth 65536 in
theorem m_join_cOk : codeOk prog_1_method_11_code m_join_c = true := by decide +kernel
set_option maxRecDepth 65536 in
set_option maxHeartbeats 4000000 in
theorem m_join_49_ok (l : Launch) {Z : State} {a0 : Array Value} (hw : ∀ d ∈ tables_1, d.before a0 Z = true) (N : Nat) : Blk l Z "DeltaCausalMap" prog_1_method_11_code 7 none false ({ frames := 3, cells := 0, slots := 0, locals := 56 } : Room) AC nC zC (cC false) (sC asT false) (HC Z "DeltaCausalMap" fsT asT 23 false) [0, 0, 1, 2, 1, 2, 0] 0 46 (49, 46, m_join_49_P (m_join_49 N)) :=
  blk_of_den (jl := []) (lst := m_join_c) (m_join_hop l hw N) (Or.inl ⟨rfl, rfl⟩) rfl (by decide) (by decide) m_join_cOk fn (fun L st S r ok h => by unfold m_join_49_P at h; split at h; exact h; cases h)
set_option maxRecDepth 65536 in
set_option maxHeartbeats 4000000 in
theorem m_join_43_ok (l : Launch) {Z : State} {a0 : Array Value} (hw : ∀ d ∈ tables_1, d.before a0 Z = true) (N : Nat) {k6 : Int → Int → Int → Int → St → RS St} (h6 : Blk l Z "DeltaCausalMap" prog_1_method_11_code 7 none false ({ frames := 3, cells := 0, slots := 0, locals := 56 } : Room) AC nC zC (cC false) (sC asT false) (HC Z "DeltaCausalMap" fsT asT 23 false) [0, 0, 1, 2, 1, 2, 0] 0 46 (6, 46, m_join_6_P (k6))) : Blk l Z "DeltaCausalMap" prog_1_method_11_code 7 none false ({ frames := 3, cells := 0, slots := 0, locals := 56 } : Room) AC nC zC (cC false) (sC asT false) (HC Z "DeltaCausalMap" fsT asT 23 false) [0, 0, 1, 2, 1, 2, 0] 0 46 (43, 46, m_join_43_P (m_join_43 N k6)) :=
  blk_of_den (jl := [(6, 46, m_join_6_P (k6))]) (lst := m_join_c) (m_join_hop l hw N) (Or.inl ⟨rfl, rfl⟩) rfl (by decide) (by decide) m_join_cOk (fc h6 fn) (fun L st S r ok h => by unfold m_join_43_P at h; split at h; exact h; cases h)
set_option maxRecDepth 65536 in
set_option maxHeartbeats 4000000 in
theorem m_join_6_ok (l : Launch) {Z : State} {a0 : Array Value} (hw : ∀ d ∈ tables_1, d.before a0 Z = true) (N : Nat) : ∀ n, Blk l Z "DeltaCausalMap" prog_1_method_11_code 7 none false ({ frames := 3, cells := 0, slots := 0, locals := 56 } : Room) AC nC zC (cC false) (sC asT false) (HC Z "DeltaCausalMap" fsT asT 23 false) [0, 0, 1, 2, 1, 2, 0] 0 46 (6, 46, m_join_6_P (m_join_6 N n))
  | 0 => blk_none (fun L st S => by unfold m_join_6_P; split <;> rfl)
  | n + 1 => have ih := m_join_6_ok l hw N n
    blk_of_den (jl := [(49, 46, m_join_49_P (m_join_49 N)), (43, 46, m_join_43_P (m_join_43 N (m_join_6 N n)))]) (lst := m_join_c) (m_join_hop l hw N) (Or.inl ⟨rfl, rfl⟩) rfl (by decide) (by decide) m_join_cOk (fc (m_join_49_ok l hw N) (fc (m_join_43_ok l hw N ih) fn)) (fun L st S r ok h => by unfold m_join_6_P at h; split at h; exact h; cases h)
set_option maxRecDepth 65536 in
set_option maxHeartbeats 4000000 in
theorem m_join_0_ok (l : Launch) {Z : State} {a0 : Array Value} (hw : ∀ d ∈ tables_1, d.before a0 Z = true) (N : Nat) : Blk l Z "DeltaCausalMap" prog_1_method_11_code 7 none false ({ frames := 3, cells := 0, slots := 0, locals := 56 } : Room) AC nC zC (cC false) (sC asT false) (HC Z "DeltaCausalMap" fsT asT 23 false) [0, 0, 1, 2, 1, 2, 0] 0 46 (0, 46, m_join_0_P (m_join N)) :=
  blk_of_den (jl := [(6, 46, m_join_6_P (m_join_6 N N))]) (lst := m_join_c) (m_join_hop l hw N) (Or.inl ⟨rfl, rfl⟩) rfl (by decide) (by decide) m_join_cOk (fc (m_join_6_ok l hw N N) fn) (fun L st S r ok h => by unfold m_join_0_P at h; split at h; exact h; cases h)
def m_join_F (N : Nat) : List AV → St → RS St := fun av S => match av with
  | [.inr (.inr (some 0)), .inl x1, .inr (.inl x2)] => m_join N x1 x2 S
  | _ => none
theorem m_join_P0 (f : Int → Int → St → RS St) (x1 : Int) (x2 : Int) (S : St) : m_join_0_P f (entryL [.inr (.inr (some 0)), .inl x1, .inr (.inl x2)] 7) [] S = f x1 x2 S := rfl
set_option maxRecDepth 65536 in
set_option maxHeartbeats 4000000 in
theorem m_join_con (l : Launch) {Z : State} {a0 : Array Value} (hw : ∀ d ∈ tables_1, d.before a0 Z = true) (N : Nat) : Con l Z "DeltaCausalMap" fsT asT 23 (⟨"DeltaCausalMap", "join", "(IJ)V"⟩ : MethodName) prog_1_method_11_code 7 none ({ frames := 3, cells := 0, slots := 0, locals := 56 } : Room) 0 (m_join_F N) :=
  con_of (m_join_0_ok l hw N) pnC rfl (fun av S r h oks => by unfold m_join_F at h; split at h; exact ⟨(m_join_P0 _ _ _ _).trans h, okL_entry rfl oks rfl⟩; cases h)
set_option maxRecDepth 65536 in
theorem m_join_vir (l : Launch) {Z : State} {a0 : Array Value} (hw : ∀ d ∈ tables_1, d.before a0 Z = true) (N : Nat) (W : Nat) (R : Room) (h1 : 4 ≤ R.frames) (h2 : W + 74 ≤ R.locals) : VirOk l Z a0 "DeltaCausalMap" fsT asT 23 W R (119, 2, 0, m_join_F N) :=
  ⟨(⟨"DeltaCausalMap", "join", "(IJ)V"⟩ : MethodName), prog_1_method_11_code, 7, none, ({ frames := 3, cells := 0, slots := 0, locals := 56 } : Room), [.int, .long], rfl, (hw _ (List.mem_of_getElem? (i := 104) rfl)), (hw _ (List.mem_of_getElem? (i := 105) rfl)), Or.inl (hw _ (List.mem_of_getElem? (i := 106) rfl)), (hw _ (List.mem_of_getElem? (i := 107) rfl)), by decide +kernel, rfl, rfl, rfl, h1, by dsimp only; omega, m_join_con l hw N⟩
/-! ## DeltaCausalMap.leastAck:(I)I -/
set_option maxRecDepth 65536 in
set_option maxHeartbeats 4000000 in
theorem m_leastAck_hop (l : Launch) {Z : State} {a0 : Array Value} (hw : ∀ d ∈ tables_1, d.before a0 Z = true) (N : Nat) : HopAll l Z "DeltaCausalMap" prog_1_method_20_code 4 (some .int) false ({ frames := 0, cells := 0, slots := 0, locals := 0 } : Room) AC nC zC (cC false) (sC asT false) (HC Z "DeltaCausalMap" fsT asT 23 false) (hopC fsT asT 23 0 false 1 cIT cJT [] []) :=
  hopC_all (clsT hw) mhC (hw _ (List.mem_of_getElem? (i := 2) rfl)) (fun h => nomatch h) (cIT_ok hw) (cJT_ok hw) fn fn (by decide) (by decide)
def m_leastAck_40 (N : Nat) (k5 : Int → Int → Int → St → RS St) (x1 : Int) (x2 : Int) (x3 : Int) (S : St) : RS St :=
  k5 x1 x2 (w32 (x3 + 1)) S
def m_leastAck_40_P (f : Int → Int → Int → St → RS St) : Jn St := fun L st S => match L, st with
  | [some (some (.inr (.inr (some 0)))), some (some (.inl x1)), some (some (.inl x2)), some (some (.inl x3))], [] => f x1 x2 x3 S
  | _, _ => none
def m_leastAck_5 (N : Nat) : Nat → Int → Int → Int → St → RS St
  | 0, _, _, _, _ => none
  | n + 1, x1, x2, x3, S =>
    (if x3 < 4 then
      (if x3 = x1 then
        m_leastAck_40 N (m_leastAck_5 N n) x1 x2 x3 S
      else
        (if 0 ≤ w32 ((w32 (x1 * 4)) + x3) ∧ w32 ((w32 (x1 * 4)) + x3) < 16 then
        (if S 14 (w32 ((w32 (x1 * 4)) + x3)) < x2 then
          (if 0 ≤ w32 ((w32 (x1 * 4)) + x3) ∧ w32 ((w32 (x1 * 4)) + x3) < 16 then
          m_leastAck_40 N (m_leastAck_5 N n) x1 (S 14 (w32 ((w32 (x1 * 4)) + x3))) x3 S
          else none)
        else
          m_leastAck_40 N (m_leastAck_5 N n) x1 x2 x3 S)
        else none))
    else
      some (x2, S))
def m_leastAck_5_P (f : Int → Int → Int → St → RS St) : Jn St := fun L st S => match L, st with
  | [some (some (.inr (.inr (some 0)))), some (some (.inl x1)), some (some (.inl x2)), some (some (.inl x3))], [] => f x1 x2 x3 S
  | _, _ => none
def m_leastAck (N : Nat) (x1 : Int) (S : St) : RS St :=
  m_leastAck_5 N N x1 2147483647 0 S
def m_leastAck_0_P (f : Int → St → RS St) : Jn St := fun L st S => match L, st with
  | [some (some (.inr (.inr (some 0)))), some (some (.inl x1)), _, _], [] => f x1 S
  | _, _ => none
def m_leastAck_c : List Ent := [(0, .ldc 157, 2, []), (2, .istore_n 2, 1, []), (3, .iconst 0, 1, []), (4, .istore_n 3, 1, []), (5, .iload_n 3, 1, []), (6, .iconst 4, 1, []), (7, .if_icmp .ge 39, 3, [46]), (10, .iload_n 3, 1, []), (11, .iload_n 1, 1, []), (12, .if_icmp .eq 28, 3, [40]), (15, .aload_n 0, 1, []), (16, .getfield 50, 3, []), (19, .iload_n 1, 1, []), (20, .iconst 4, 1, []), (21, .imul, 1, []), (22, .iload_n 3, 1, []), (23, .iadd, 1, []), (24, .iaload, 1, []), (25, .iload_n 2, 1, []), (26, .if_icmp .ge 14, 3, [40]), (29, .aload_n 0, 1, []), (30, .getfield 50, 3, []), (33, .iload_n 1, 1, []), (34, .iconst 4, 1, []), (35, .imul, 1, []), (36, .iload_n 3, 1, []), (37, .iadd, 1, []), (38, .iaload, 1, []), (39, .istore_n 2, 1, []), (40, .iinc 3 1, 3, []), (43, .goto (-38), 3, [5]), (46, .iload_n 2, 1, []), (47, .ireturn, 1, [])]
set_option maxRecDepth 65536 in
theorem m_leastAck_cOk : codeOk prog_1_method_20_code m_leastAck_c = true := by decide +kernel
set_option maxRecDepth 65536 in
set_option maxHeartbeats 4000000 in
theorem m_leastAck_40_ok (l : Launch) {Z : State} {a0 : Array Value} (hw : ∀ d ∈ tables_1, d.before a0 Z = true) (N : Nat) {k5 : Int → Int → Int → St → RS St} (h5 : Blk l Z "DeltaCausalMap" prog_1_method_20_code 4 (some .int) false ({ frames := 0, cells := 0, slots := 0, locals := 0 } : Room) AC nC zC (cC false) (sC asT false) (HC Z "DeltaCausalMap" fsT asT 23 false) [0, 0, 0, 0] 1 46 (5, 46, m_leastAck_5_P (k5))) : Blk l Z "DeltaCausalMap" prog_1_method_20_code 4 (some .int) false ({ frames := 0, cells := 0, slots := 0, locals := 0 } : Room) AC nC zC (cC false) (sC asT false) (HC Z "DeltaCausalMap" fsT asT 23 false) [0, 0, 0, 0] 1 46 (40, 46, m_leastAck_40_P (m_leastAck_40 N k5)) :=
  blk_of_den (jl := [(5, 46, m_leastAck_5_P (k5))]) (lst := m_leastAck_c) (m_leastAck_hop l hw N) (Or.inr (Or.inl ⟨rfl, rfl⟩)) rfl (by decide) (by decide) m_leastAck_cOk (fc h5 fn) (fun L st S r ok h => by unfold m_leastAck_40_P at h; split at h; exact h; cases h)
set_option maxRecDepth 65536 in
set_option maxHeartbeats 4000000 in
theorem m_leastAck_5_ok (l : Launch) {Z : State} {a0 : Array Value} (hw : ∀ d ∈ tables_1, d.before a0 Z = true) (N : Nat) : ∀ n, Blk l Z "DeltaCausalMap" prog_1_method_20_code 4 (some .int) false ({ frames := 0, cells := 0, slots := 0, locals := 0 } : Room) AC nC zC (cC false) (sC asT false) (HC Z "DeltaCausalMap" fsT asT 23 false) [0, 0, 0, 0] 1 46 (5, 46, m_leastAck_5_P (m_leastAck_5 N n))
  | 0 => blk_none (fun L st S => by unfold m_leastAck_5_P; split <;> rfl)
  | n + 1 => have ih := m_leastAck_5_ok l hw N n
    blk_of_den (jl := [(40, 46, m_leastAck_40_P (m_leastAck_40 N (m_leastAck_5 N n)))]) (lst := m_leastAck_c) (m_leastAck_hop l hw N) (Or.inr (Or.inl ⟨rfl, rfl⟩)) rfl (by decide) (by decide) m_leastAck_cOk (fc (m_leastAck_40_ok l hw N ih) fn) (fun L st S r ok h => by unfold m_leastAck_5_P at h; split at h; exact h; cases h)
set_option maxRecDepth 65536 in
set_option maxHeartbeats 4000000 in
theorem m_leastAck_0_ok (l : Launch) {Z : State} {a0 : Array Value} (hw : ∀ d ∈ tables_1, d.before a0 Z = true) (N : Nat) : Blk l Z "DeltaCausalMap" prog_1_method_20_code 4 (some .int) false ({ frames := 0, cells := 0, slots := 0, locals := 0 } : Room) AC nC zC (cC false) (sC asT false) (HC Z "DeltaCausalMap" fsT asT 23 false) [0, 0, 0, 0] 1 46 (0, 46, m_leastAck_0_P (m_leastAck N)) :=
  blk_of_den (jl := [(5, 46, m_leastAck_5_P (m_leastAck_5 N N))]) (lst := m_leastAck_c) (m_leastAck_hop l hw N) (Or.inr (Or.inl ⟨rfl, rfl⟩)) rfl (by decide) (by decide) m_leastAck_cOk (fc (m_leastAck_5_ok l hw N N) fn) (fun L st S r ok h => by unfold m_leastAck_0_P at h; split at h; exact h; cases h)
def m_leastAck_F (N : Nat) : List AV → St → RS St := fun av S => match av with
  | [.inr (.inr (some 0)), .inl x1] => m_leastAck N x1 S
  | _ => none
theorem m_leastAck_P0 (f : Int → St → RS St) (x1 : Int) (S : St) : m_leastAck_0_P f (entryL [.inr (.inr (some 0)), .inl x1] 4) [] S = f x1 S := rfl
set_option maxRecDepth 65536 in
set_option maxHeartbeats 4000000 in
theorem m_leastAck_con (l : Launch) {Z : State} {a0 : Array Value} (hw : ∀ d ∈ tables_1, d.before a0 Z = true) (N : Nat) : Con l Z "DeltaCausalMap" fsT asT 23 (⟨"DeltaCausalMap", "leastAck", "(I)I"⟩ : MethodName) prog_1_method_20_code 4 (some .int) ({ frames := 0, cells := 0, slots := 0, locals := 0 } : Room) 1 (m_leastAck_F N) :=
  con_of (m_leastAck_0_ok l hw N) pnC rfl (fun av S r h oks => by unfold m_leastAck_F at h; split at h; exact ⟨(m_leastAck_P0 _ _ _).trans h, okL_entry rfl oks rfl⟩; cases h)
set_option maxRecDepth 65536 in
theorem m_leastAck_vir (l : Launch) {Z : State} {a0 : Array Value} (hw : ∀ d ∈ tables_1, d.before a0 Z = true) (N : Nat) (W : Nat) (R : Room) (h1 : 1 ≤ R.frames) (h2 : W + 15 ≤ R.locals) : VirOk l Z a0 "DeltaCausalMap" fsT asT 23 W R (153, 1, 1, m_leastAck_F N) :=
  ⟨(⟨"DeltaCausalMap", "leastAck", "(I)I"⟩ : MethodName), prog_1_method_20_code, 4, (some .int), ({ frames := 0, cells := 0, slots := 0, locals := 0 } : Room), [.int], rfl, (hw _ (List.mem_of_getElem? (i := 136) rfl)), (hw _ (List.mem_of_getElem? (i := 137) rfl)), Or.inl (hw _ (List.mem_of_getElem? (i := 138) rfl)), (hw _ (List.mem_of_getElem? (i := 139) rfl)), by decide +kernel, rfl, rfl, rfl, h1, by dsimp only; omega, m_leastAck_con l hw N⟩
/-! ## DeltaCausalMap.trim:(I)V -/
set_option maxRecDepth 65536 in
set_option maxHeartbeats 4000000 in
theorem m_trim_hop (l : Launch) {Z : State} {a0 : Array Value} (hw : ∀ d ∈ tables_1, d.before a0 Z = true) (N : Nat) : HopAll l Z "DeltaCausalMap" prog_1_method_19_code 3 none false ({ frames := 1, cells := 0, slots := 0, locals := 15 } : Room) AC nC zC (cC false) (sC asT false) (HC Z "DeltaCausalMap" fsT asT 23 false) (hopC fsT asT 23 0 false 1 cIT cJT [(153, 1, 1, m_leastAck_F N)] []) :=
  hopC_all (clsT hw) mhC (hw _ (List.mem_of_getElem? (i := 2) rfl)) (fun h => nomatch h) (cIT_ok hw) (cJT_ok hw) (fc (m_leastAck_vir l hw N _ _ (by decide) (by decide)) fn) fn (by decide) (by decide)
def m_trim_23 (N : Nat) (x1 : Int) (S : St) : RS St :=
  (if 0 ≤ x1 ∧ x1 < 4 then
  (if 0 ≤ x1 ∧ x1 < 4 then
  (if S 0 25 < w32 ((S 12 x1) - (S 13 x1)) then
    (if 0 ≤ x1 ∧ x1 < 4 then
    (if 0 ≤ x1 ∧ x1 < 4 then
    some (0, stw S 13 x1 (w32 ((S 12 x1) - (S 0 25))))
    else none)
    else none)
  else
    some (0, S))
  else none)
  else none)
def m_trim_23_P (f : Int → St → RS St) : Jn St := fun L st S => match L, st with
  | [some (some (.inr (.inr (some 0)))), some (some (.inl x1)), _], [] => f x1 S
  | _, _ => none
def m_trim (N : Nat) (x1 : Int) (S : St) : RS St :=
  ((m_leastAck N x1 S).bind fun r1 =>
  (if 0 ≤ x1 ∧ x1 < 4 then
  (if r1.2 13 x1 < r1.1 then
    (if 0 ≤ x1 ∧ x1 < 4 then
    m_trim_23 N x1 (stw r1.2 13 x1 r1.1)
    else none)
  else
    m_trim_23 N x1 r1.2)
  else none))
def m_trim_0_P (f : Int → St → RS St) : Jn St := fun L st S => match L, st with
  | [some (some (.inr (.inr (some 0)))), some (some (.inl x1)), _], [] => f x1 S
  | _, _ => none
def m_trim_c : List Ent := [(0, .aload_n 0, 1, []), (1, .iload_n 1, 1, []), (2, .invokevirtual 153, 3, []), (5, .istore_n 2, 1, []), (6, .iload_n 2, 1, []), (7, .aload_n 0, 1, []), (8, .getfield 47, 3, []), (11, .iload_n 1, 1, []), (12, .iaload, 1, []), (13, .if_icmp .le 10, 3, [23]), (16, .aload_n 0, 1, []), (17, .getfield 47, 3, []), (20, .iload_n 1, 1, []), (21, .iload_n 2, 1, []), (22, .iastore, 1, []), (23, .aload_n 0, 1, []), (24, .getfield 44, 3, []), (27, .iload_n 1, 1, []), (28, .iaload, 1, []), (29, .aload_n 0, 1, []), (30, .getfield 47, 3, []), (33, .iload_n 1, 1, []), (34, .iaload, 1, []), (35, .isub, 1, []), (36, .aload_n 0, 1, []), (37, .getfield 91, 3, []), (40, .if_icmp .le 20, 3, [60]), (43, .aload_n 0, 1, []), (44, .getfield 47, 3, []), (47, .iload_n 1, 1, []), (48, .aload_n 0, 1, []), (49, .getfield 44, 3, []), (52, .iload_n 1, 1, []), (53, .iaload, 1, []), (54, .aload_n 0, 1, []), (55, .getfield 91, 3, []), (58, .isub, 1, []), (59, .iastore, 1, []), (60, .return_, 1, [])]
set_option maxRecDepth 65536 in
theorem m_trim_cOk : codeOk prog_1_method_19_code m_trim_c = true := by decide +kernel
set_option maxRecDepth 65536 in
set_option maxHeartbeats 4000000 in
theorem m_trim_23_ok (l : Launch) {Z : State} {a0 : Array Value} (hw : ∀ d ∈ tables_1, d.before a0 Z = true) (N : Nat) : Blk l Z "DeltaCausalMap" prog_1_method_19_code 3 none false ({ frames := 1, cells := 0, slots := 0, locals := 15 } : Room) AC nC zC (cC false) (sC asT false) (HC Z "DeltaCausalMap" fsT asT 23 false) [0, 0, 0] 0 46 (23, 46, m_trim_23_P (m_trim_23 N)) :=
  blk_of_den (jl := []) (lst := m_trim_c) (m_trim_hop l hw N) (Or.inl ⟨rfl, rfl⟩) rfl (by decide) (by decide) m_trim_cOk fn (fun L st S r ok h => by unfold m_trim_23_P at h; split at h; exact h; cases h)
set_option maxRecDepth 65536 in
set_option maxHeartbeats 4000000 in
theorem m_trim_0_ok (l : Launch) {Z : State} {a0 : Array Value} (hw : ∀ d ∈ tables_1, d.before a0 Z = true) (N : Nat) : Blk l Z "DeltaCausalMap" prog_1_method_19_code 3 none false ({ frames := 1, cells := 0, slots := 0, locals := 15 } : Room) AC nC zC (cC false) (sC asT false) (HC Z "DeltaCausalMap" fsT asT 23 false) [0, 0, 0] 0 46 (0, 46, m_trim_0_P (m_trim N)) :=
  blk_of_den (jl := [(23, 46, m_trim_23_P (m_trim_23 N))]) (lst := m_trim_c) (m_trim_hop l hw N) (Or.inl ⟨rfl, rfl⟩) rfl (by decide) (by decide) m_trim_cOk (fc (m_trim_23_ok l hw N) fn) (fun L st S r ok h => by unfold m_trim_0_P at h; split at h; exact h; cases h)
def m_trim_F (N : Nat) : List AV → St → RS St := fun av S => match av with
  | [.inr (.inr (some 0)), .inl x1] => m_trim N x1 S
  | _ => none
theorem m_trim_P0 (f : Int → St → RS St) (x1 : Int) (S : St) : m_trim_0_P f (entryL [.inr (.inr (some 0)), .inl x1] 3) [] S = f x1 S := rfl
set_option maxRecDepth 65536 in
set_option maxHeartbeats 4000000 in
theorem m_trim_con (l : Launch) {Z : State} {a0 : Array Value} (hw : ∀ d ∈ tables_1, d.before a0 Z = true) (N : Nat) : Con l Z "DeltaCausalMap" fsT asT 23 (⟨"DeltaCausalMap", "trim", "(I)V"⟩ : MethodName) prog_1_method_19_code 3 none ({ frames := 1, cells := 0, slots := 0, locals := 15 } : Room) 0 (m_trim_F N) :=
  con_of (m_trim_0_ok l hw N) pnC rfl (fun av S r h oks => by unfold m_trim_F at h; split at h; exact ⟨(m_trim_P0 _ _ _).trans h, okL_entry rfl oks rfl⟩; cases h)
set_option maxRecDepth 65536 in
theorem m_trim_vir (l : Launch) {Z : State} {a0 : Array Value} (hw : ∀ d ∈ tables_1, d.before a0 Z = true) (N : Nat) (W : Nat) (R : Room) (h1 : 2 ≤ R.frames) (h2 : W + 29 ≤ R.locals) : VirOk l Z a0 "DeltaCausalMap" fsT asT 23 W R (123, 1, 0, m_trim_F N) :=
  ⟨(⟨"DeltaCausalMap", "trim", "(I)V"⟩ : MethodName), prog_1_method_19_code, 3, none, ({ frames := 1, cells := 0, slots := 0, locals := 15 } : Room), [.int], rfl, (hw _ (List.mem_of_getElem? (i := 132) rfl)), (hw _ (List.mem_of_getElem? (i := 133) rfl)), Or.inl (hw _ (List.mem_of_getElem? (i := 134) rfl)), (hw _ (List.mem_of_getElem? (i := 135) rfl)), by decide +kernel, rfl, rfl, rfl, h1, by dsimp only; omega, m_trim_con l hw N⟩
/-! ## DeltaCausalMap.makeOperation:(IIII)I -/
set_option maxRecDepth 65536 in
set_option maxHeartbeats 4000000 in
theorem m_makeOperation_hop (l : Launch) {Z : State} {a0 : Array Value} (hw : ∀ d ∈ tables_1, d.before a0 Z = true) (N : Nat) : HopAll l Z "DeltaCausalMap" prog_1_method_9_code 11 (some .int) false ({ frames := 4, cells := 0, slots := 0, locals := 74 } : Room) AC nC zC (cC false) (sC asT false) (HC Z "DeltaCausalMap" fsT asT 23 false) (hopC fsT asT 23 0 false 1 cIT cJT [(115, 3, 2, m_coverFor_F N), (119, 2, 0, m_join_F N), (123, 1, 0, m_trim_F N)] []) :=
  hopC_all (clsT hw) mhC (hw _ (List.mem_of_getElem? (i := 2) rfl)) (fun h => nomatch h) (cIT_ok hw) (cJT_ok hw) (fc (m_coverFor_vir l hw N _ _ (by decide) (by decide)) (fc (m_join_vir l hw N _ _ (by decide) (by decide)) (fc (m_trim_vir l hw N _ _ (by decide) (by decide)) fn))) fn (by decide) (by decide)
set_option maxHeartbeats 8000000 in
set_option maxRecDepth 65536 in
def m_makeOperation (N : Nat) (x1 : Int) (x2 : Int) (x3 : Int) (x4 : Int) (S : St) : RS St :=
  ((m_coverFor N x1 x2 x3 S).bind fun r1 =>
  (if 0 ≤ w32 ((w32 (x1 * 4)) + x1) ∧ w32 ((w32 (x1 * 4)) + x1) < 16 then
  (if 0 ≤ w32 ((w32 ((ishl x1 4) + (w32 ((r1.2 6 (w32 ((w32 (x1 * 4)) + x1))) + 1)))) - 1) ∧ w32 ((w32 ((ishl x1 4) + (w32 ((r1.2 6 (w32 ((w32 (x1 * 4)) + x1))) + 1)))) - 1) < 64 then
  (if 0 ≤ w32 ((w32 ((ishl x1 4) + (w32 ((r1.2 6 (w32 ((w32 (x1 * 4)) + x1))) + 1)))) - 1) ∧ w32 ((w32 ((ishl x1 4) + (w32 ((r1.2 6 (w32 ((w32 (x1 * 4)) + x1))) + 1)))) - 1) < 64 then
  (if 0 ≤ w32 ((w32 ((ishl x1 4) + (w32 ((r1.2 6 (w32 ((w32 (x1 * 4)) + x1))) + 1)))) - 1) ∧ w32 ((w32 ((ishl x1 4) + (w32 ((r1.2 6 (w32 ((w32 (x1 * 4)) + x1))) + 1)))) - 1) < 64 then
  (if 0 ≤ w32 ((w32 ((ishl x1 4) + (w32 ((r1.2 6 (w32 ((w32 (x1 * 4)) + x1))) + 1)))) - 1) ∧ w32 ((w32 ((ishl x1 4) + (w32 ((r1.2 6 (w32 ((w32 (x1 * 4)) + x1))) + 1)))) - 1) < 64 then
  ((m_join N x1 (lshl 1 (w32 ((w32 ((ishl x1 4) + (w32 ((r1.2 6 (w32 ((w32 (x1 * 4)) + x1))) + 1)))) - 1))) (stw (stw (stw (stw r1.2 1 (w32 ((w32 ((ishl x1 4) + (w32 ((r1.2 6 (w32 ((w32 (x1 * 4)) + x1))) + 1)))) - 1)) x3) 2 (w32 ((w32 ((ishl x1 4) + (w32 ((r1.2 6 (w32 ((w32 (x1 * 4)) + x1))) + 1)))) - 1)) x2) 3 (w32 ((w32 ((ishl x1 4) + (w32 ((r1.2 6 (w32 ((w32 (x1 * 4)) + x1))) + 1)))) - 1)) x4) 4 (w32 ((w32 ((ishl x1 4) + (w32 ((r1.2 6 (w32 ((w32 (x1 * 4)) + x1))) + 1)))) - 1)) r1.1)).bind fun r2 =>
  ((m_trim N x1 r2.2).bind fun r3 =>
  some (w32 ((r1.2 6 (w32 ((w32 (x1 * 4)) + x1))) + 1), r3.2)))
  else none)
  else none)
  else none)
  else none)
  else none))
def m_makeOperation_0_P (f : Int → Int → Int → Int → St → RS St) : Jn St := fun L st S => match L, st with
  | [some (some (.inr (.inr (some 0)))), some (some (.inl x1)), some (some (.inl x2)), some (some (.inl x3)), some (some (.inl x4)), _, _, _, _, _, _], [] => f x1 x2 x3 x4 S
  | _, _ => none
def m_makeOperation_c : List Ent := [(0, .aload_n 0, 1, []), (1, .iload_n 1, 1, []), (2, .iload_n 2, 1, []), (3, .iload_n 3, 1, []), (4, .invokevirtual 115, 3, []), (7, .lstore 5, 2, []), (9, .aload_n 0, 1, []), (10, .getfield 26, 3, []), (13, .iload_n 1, 1, []), (14, .iconst 4, 1, []), (15, .imul, 1, []), (16, .iload_n 1, 1, []), (17, .iadd, 1, []), (18, .iaload, 1, []), (19, .iconst 1, 1, []), (20, .iadd, 1, []), (21, .istore 7, 2, []), (23, .iload_n 1, 1, []), (24, .iconst 4, 1, []), (25, .ishl, 1, []), (26, .iload 7, 2, []), (28, .iadd, 1, []), (29, .iconst 1, 1, []), (30, .isub, 1, []), (31, .istore 8, 2, []), (33, .aload_n 0, 1, []), (34, .getfield 7, 3, []), (37, .iload 8, 2, []), (39, .iload_n 3, 1, []), (40, .iastore, 1, []), (41, .aload_n 0, 1, []), (42, .getfield 13, 3, []), (45, .iload 8, 2, []), (47, .iload_n 2, 1, []), (48, .iastore, 1, []), (49, .aload_n 0, 1, []), (50, .getfield 16, 3, []), (53, .iload 8, 2, []), (55, .iload 4, 2, []), (57, .iastore, 1, []), (58, .aload_n 0, 1, []), (59, .getfield 19, 3, []), (62, .iload 8, 2, []), (64, .lload 5, 2, []), (66, .lastore, 1, []), (67, .lconst 1, 1, []), (68, .iload 8, 2, []), (70, .lshl, 1, []), (71, .lstore 9, 2, []), (73, .aload_n 0, 1, []), (74, .iload_n 1, 1, []), (75, .lload 9, 2, []), (77, .invokevirtual 119, 3, []), (80, .aload_n 0, 1, []), (81, .iload_n 1, 1, []), (82, .invokevirtual 123, 3, []), (85, .iload 7, 2, []), (87, .ireturn, 1, [])]
set_option maxRecDepth 65536 in
theorem m_makeOperation_cOk : codeOk prog_1_method_9_code m_makeOperation_c = true := by decide +kernel
set_option maxRecDepth 65536 in
set_option maxHeartbeats 4000000 in
theorem m_makeOperation_0_ok (l : Launch) {Z : State} {a0 : Array Value} (hw : ∀ d ∈ tables_1, d.before a0 Z = true) (N : Nat) : Blk l Z "DeltaCausalMap" prog_1_method_9_code 11 (some .int) false ({ frames := 4, cells := 0, slots := 0, locals := 74 } : Room) AC nC zC (cC false) (sC asT false) (HC Z "DeltaCausalMap" fsT asT 23 false) [0, 0, 0, 0, 0, 1, 2, 0, 0, 1, 2] 1 46 (0, 46, m_makeOperation_0_P (m_makeOperation N)) :=
  blk_of_den (jl := []) (lst := m_makeOperation_c) (m_makeOperation_hop l hw N) (Or.inr (Or.inl ⟨rfl, rfl⟩)) rfl (by decide) (by decide) m_makeOperation_cOk fn (fun L st S r ok h => by unfold m_makeOperation_0_P at h; split at h; exact h; cases h)
def m_makeOperation_F (N : Nat) : List AV → St → RS St := fun av S => match av with
  | [.inr (.inr (some 0)), .inl x1, .inl x2, .inl x3, .inl x4] => m_makeOperation N x1 x2 x3 x4 S
  | _ => none
theorem m_makeOperation_P0 (f : Int → Int → Int → Int → St → RS St) (x1 : Int) (x2 : Int) (x3 : Int) (x4 : Int) (S : St) : m_makeOperation_0_P f (entryL [.inr (.inr (some 0)), .inl x1, .inl x2, .inl x3, .inl x4] 11) [] S = f x1 x2 x3 x4 S := rfl
set_option maxRecDepth 65536 in
set_option maxHeartbeats 4000000 in
theorem m_makeOperation_con (l : Launch) {Z : State} {a0 : Array Value} (hw : ∀ d ∈ tables_1, d.before a0 Z = true) (N : Nat) : Con l Z "DeltaCausalMap" fsT asT 23 (⟨"DeltaCausalMap", "makeOperation", "(IIII)I"⟩ : MethodName) prog_1_method_9_code 11 (some .int) ({ frames := 4, cells := 0, slots := 0, locals := 74 } : Room) 1 (m_makeOperation_F N) :=
  con_of (m_makeOperation_0_ok l hw N) pnC rfl (fun av S r h oks => by unfold m_makeOperation_F at h; split at h; exact ⟨(m_makeOperation_P0 _ _ _ _ _ _).trans h, okL_entry rfl oks rfl⟩; cases h)
set_option maxRecDepth 65536 in
theorem m_makeOperation_vir (l : Launch) {Z : State} {a0 : Array Value} (hw : ∀ d ∈ tables_1, d.before a0 Z = true) (N : Nat) (W : Nat) (R : Room) (h1 : 5 ≤ R.frames) (h2 : W + 96 ≤ R.locals) : VirOk l Z a0 "DeltaCausalMap" fsT asT 23 W R (102, 4, 1, m_makeOperation_F N) :=
  ⟨(⟨"DeltaCausalMap", "makeOperation", "(IIII)I"⟩ : MethodName), prog_1_method_9_code, 11, (some .int), ({ frames := 4, cells := 0, slots := 0, locals := 74 } : Room), [.int, .int, .int, .int], rfl, (hw _ (List.mem_of_getElem? (i := 92) rfl)), (hw _ (List.mem_of_getElem? (i := 93) rfl)), Or.inl (hw _ (List.mem_of_getElem? (i := 94) rfl)), (hw _ (List.mem_of_getElem? (i := 95) rfl)), by decide +kernel, rfl, rfl, rfl, h1, by dsimp only; omega, m_makeOperation_con l hw N⟩
/-! ## DeltaCausalMap.mutate:(III)I -/
set_option maxRecDepth 65536 in
set_option maxHeartbeats 4000000 in
theorem m_mutate_hop (l : Launch) {Z : State} {a0 : Array Value} (hw : ∀ d ∈ tables_1, d.before a0 Z = true) (N : Nat) : HopAll l Z "DeltaCausalMap" prog_1_method_6_code 5 (some .int) false ({ frames := 5, cells := 0, slots := 0, locals := 96 } : Room) AC nC zC (cC false) (sC asT false) (HC Z "DeltaCausalMap" fsT asT 23 false) (hopC fsT asT 23 0 false 1 cIT cJT [(94, 2, 1, m_refuseTarget_F N), (98, 1, 3, m_exhausted_F N), (102, 4, 1, m_makeOperation_F N)] []) :=
  hopC_all (clsT hw) mhC (hw _ (List.mem_of_getElem? (i := 2) rfl)) (fun h => nomatch h) (cIT_ok hw) (cJT_ok hw) (fc (m_refuseTarget_vir l hw N _ _ (by decide) (by decide)) (fc (m_exhausted_vir l hw N _ _ (by decide) (by decide)) (fc (m_makeOperation_vir l hw N _ _ (by decide) (by decide)) fn))) fn (by decide) (by decide)
def m_mutate (N : Nat) (x1 : Int) (x2 : Int) (x3 : Int) (S : St) : RS St :=
  ((m_refuseTarget N x1 x2 S).bind fun r1 =>
  (if r1.1 = 0 then
    ((m_exhausted N x1 r1.2).bind fun r2 =>
    (if r2.1 = 0 then
      ((m_makeOperation N x1 x2 x3 0 r2.2).bind fun r3 =>
      some (r3.1, r3.2))
    else
      some ((-4), r2.2)))
  else
    some (r1.1, r1.2)))
def m_mutate_0_P (f : Int → Int → Int → St → RS St) : Jn St := fun L st S => match L, st with
  | [some (some (.inr (.inr (some 0)))), some (some (.inl x1)), some (some (.inl x2)), some (some (.inl x3)), _], [] => f x1 x2 x3 S
  | _, _ => none
def m_mutate_c : List Ent := [(0, .aload_n 0, 1, []), (1, .iload_n 1, 1, []), (2, .iload_n 2, 1, []), (3, .invokevirtual 94, 3, []), (6, .istore 4, 2, []), (8, .iload 4, 2, []), (10, .ifCond .eq 6, 3, [16]), (13, .iload 4, 2, []), (15, .ireturn, 1, []), (16, .aload_n 0, 1, []), (17, .iload_n 1, 1, []), (18, .invokevirtual 98, 3, []), (21, .ifCond .eq 6, 3, [27]), (24, .bipush (-4), 2, []), (26, .ireturn, 1, []), (27, .aload_n 0, 1, []), (28, .iload_n 1, 1, []), (29, .iload_n 2, 1, []), (30, .iload_n 3, 1, []), (31, .iconst 0, 1, []), (32, .invokevirtual 102, 3, []), (35, .ireturn, 1, [])]
set_option maxRecDepth 65536 in
theorem m_mutate_cOk : codeOk prog_1_method_6_code m_mutate_c = true := by decide +kernel
set_option maxRecDepth 65536 in
set_option maxHeartbeats 4000000 in
theorem m_mutate_0_ok (l : Launch) {Z : State} {a0 : Array Value} (hw : ∀ d ∈ tables_1, d.before a0 Z = true) (N : Nat) : Blk l Z "DeltaCausalMap" prog_1_method_6_code 5 (some .int) false ({ frames := 5, cells := 0, slots := 0, locals := 96 } : Room) AC nC zC (cC false) (sC asT false) (HC Z "DeltaCausalMap" fsT asT 23 false) [0, 0, 0, 0, 0] 1 46 (0, 46, m_mutate_0_P (m_mutate N)) :=
  blk_of_den (jl := []) (lst := m_mutate_c) (m_mutate_hop l hw N) (Or.inr (Or.inl ⟨rfl, rfl⟩)) rfl (by decide) (by decide) m_mutate_cOk fn (fun L st S r ok h => by unfold m_mutate_0_P at h; split at h; exact h; cases h)
def m_mutate_F (N : Nat) : List AV → St → RS St := fun av S => match av with
  | [.inr (.inr (some 0)), .inl x1, .inl x2, .inl x3] => m_mutate N x1 x2 x3 S
  | _ => none
theorem m_mutate_P0 (f : Int → Int → Int → St → RS St) (x1 : Int) (x2 : Int) (x3 : Int) (S : St) : m_mutate_0_P f (entryL [.inr (.inr (some 0)), .inl x1, .inl x2, .inl x3] 5) [] S = f x1 x2 x3 S := rfl
set_option maxRecDepth 65536 in
set_option maxHeartbeats 4000000 in
theorem m_mutate_con (l : Launch) {Z : State} {a0 : Array Value} (hw : ∀ d ∈ tables_1, d.before a0 Z = true) (N : Nat) : Con l Z "DeltaCausalMap" fsT asT 23 (⟨"DeltaCausalMap", "mutate", "(III)I"⟩ : MethodName) prog_1_method_6_code 5 (some .int) ({ frames := 5, cells := 0, slots := 0, locals := 96 } : Room) 1 (m_mutate_F N) :=
  con_of (m_mutate_0_ok l hw N) pnC rfl (fun av S r h oks => by unfold m_mutate_F at h; split at h; exact ⟨(m_mutate_P0 _ _ _ _ _).trans h, okL_entry rfl oks rfl⟩; cases h)
set_option maxRecDepth 65536 in
theorem m_mutate_vir (l : Launch) {Z : State} {a0 : Array Value} (hw : ∀ d ∈ tables_1, d.before a0 Z = true) (N : Nat) (W : Nat) (R : Room) (h1 : 6 ≤ R.frames) (h2 : W + 112 ≤ R.locals) : VirOk l Z a0 "DeltaCausalMap" fsT asT 23 W R (106, 3, 1, m_mutate_F N) :=
  ⟨(⟨"DeltaCausalMap", "mutate", "(III)I"⟩ : MethodName), prog_1_method_6_code, 5, (some .int), ({ frames := 5, cells := 0, slots := 0, locals := 96 } : Room), [.int, .int, .int], rfl, (hw _ (List.mem_of_getElem? (i := 72) rfl)), (hw _ (List.mem_of_getElem? (i := 73) rfl)), Or.inl (hw _ (List.mem_of_getElem? (i := 74) rfl)), (hw _ (List.mem_of_getElem? (i := 75) rfl)), by decide +kernel, rfl, rfl, rfl, h1, by dsimp only; omega, m_mutate_con l hw N⟩
/-! ## DeltaCausalMap.removeKey:(II)I -/
set_option maxRecDepth 65536 in
set_option maxHeartbeats 4000000 in
theorem m_removeKey_hop (l : Launch) {Z : State} {a0 : Array Value} (hw : ∀ d ∈ tables_1, d.before a0 Z = true) (N : Nat) : HopAll l Z "DeltaCausalMap" prog_1_method_5_code 3 (some .int) false ({ frames := 6, cells := 0, slots := 0, locals := 112 } : Room) AC nC zC (cC false) (sC asT false) (HC Z "DeltaCausalMap" fsT asT 23 false) (hopC fsT asT 23 0 false 1 cIT cJT [(106, 3, 1, m_mutate_F N)] []) :=
  hopC_all (clsT hw) mhC (hw _ (List.mem_of_getElem? (i := 2) rfl)) (fun h => nomatch h) (cIT_ok hw) (cJT_ok hw) (fc (m_mutate_vir l hw N _ _ (by decide) (by decide)) fn) fn (by decide) (by decide)
def m_removeKey (N : Nat) (x1 : Int) (x2 : Int) (S : St) : RS St :=
  ((m_mutate N x1 x2 4 S).bind fun r1 =>
  some (r1.1, r1.2))
def m_removeKey_0_P (f : Int → Int → St → RS St) : Jn St := fun L st S => match L, st with
  | [some (some (.inr (.inr (some 0)))), some (some (.inl x1)), some (some (.inl x2))], [] => f x1 x2 S
  | _, _ => none
def m_removeKey_c : List Ent := [(0, .aload_n 0, 1, []), (1, .iload_n 1, 1, []), (2, .iload_n 2, 1, []), (3, .iconst 4, 1, []), (4, .invokevirtual 106, 3, []), (7, .ireturn, 1, [])]
set_option maxRecDepth 65536 in
theorem m_removeKey_cOk : codeOk prog_1_method_5_code m_removeKey_c = true := by decide +kernel
set_option maxRecDepth 65536 in
set_option maxHeartbeats 4000000 in
theorem m_removeKey_0_ok (l : Launch) {Z : State} {a0 : Array Value} (hw : ∀ d ∈ tables_1, d.before a0 Z = true) (N : Nat) : Blk l Z "DeltaCausalMap" prog_1_method_5_code 3 (some .int) false ({ frames := 6, cells := 0, slots := 0, locals := 112 } : Room) AC nC zC (cC false) (sC asT false) (HC Z "DeltaCausalMap" fsT asT 23 false) [0, 0, 0] 1 46 (0, 46, m_removeKey_0_P (m_removeKey N)) :=
  blk_of_den (jl := []) (lst := m_removeKey_c) (m_removeKey_hop l hw N) (Or.inr (Or.inl ⟨rfl, rfl⟩)) rfl (by decide) (by decide) m_removeKey_cOk fn (fun L st S r ok h => by unfold m_removeKey_0_P at h; split at h; exact h; cases h)
def m_removeKey_F (N : Nat) : List AV → St → RS St := fun av S => match av with
  | [.inr (.inr (some 0)), .inl x1, .inl x2] => m_removeKey N x1 x2 S
  | _ => none
theorem m_removeKey_P0 (f : Int → Int → St → RS St) (x1 : Int) (x2 : Int) (S : St) : m_removeKey_0_P f (entryL [.inr (.inr (some 0)), .inl x1, .inl x2] 3) [] S = f x1 x2 S := rfl
set_option maxRecDepth 65536 in
set_option maxHeartbeats 4000000 in
theorem m_removeKey_con (l : Launch) {Z : State} {a0 : Array Value} (hw : ∀ d ∈ tables_1, d.before a0 Z = true) (N : Nat) : Con l Z "DeltaCausalMap" fsT asT 23 (⟨"DeltaCausalMap", "removeKey", "(II)I"⟩ : MethodName) prog_1_method_5_code 3 (some .int) ({ frames := 6, cells := 0, slots := 0, locals := 112 } : Room) 1 (m_removeKey_F N) :=
  con_of (m_removeKey_0_ok l hw N) pnC rfl (fun av S r h oks => by unfold m_removeKey_F at h; split at h; exact ⟨(m_removeKey_P0 _ _ _ _).trans h, okL_entry rfl oks rfl⟩; cases h)
set_option maxRecDepth 65536 in
theorem m_removeKey_virL (l : Launch) {Z : State} {a0 : Array Value} (hw : ∀ d ∈ tables_1, d.before a0 Z = true) (N : Nat) (W : Nat) (R : Room) (h1 : 7 ≤ R.frames) (h2 : W + 126 ≤ R.locals) : VirL l Z a0 "DeltaCausalMapL6" "DeltaCausalMap" fsT asT 23 W R (40, 2, 1, m_removeKey_F N) :=
  ⟨(⟨"DeltaCausalMap", "removeKey", "(II)I"⟩ : MethodName), prog_1_method_5_code, 3, (some .int), ({ frames := 6, cells := 0, slots := 0, locals := 112 } : Room), [.int, .int], rfl, (hw _ (List.mem_of_getElem? (i := 67) rfl)), (hw _ (List.mem_of_getElem? (i := 69) rfl)), ⟨(hw _ (List.mem_of_getElem? (i := 68) rfl)), (hw _ (List.mem_of_getElem? (i := 70) rfl))⟩, (hw _ (List.mem_of_getElem? (i := 71) rfl)), by decide +kernel, rfl, rfl, rfl, h1, by dsimp only; omega, m_removeKey_con l hw N⟩
/-! ## DeltaCausalMap.validSlot:(I)Z -/
set_option maxRecDepth 65536 in
set_option maxHeartbeats 4000000 in
theorem m_validSlot_hop (l : Launch) {Z : State} {a0 : Array Value} (hw : ∀ d ∈ tables_1, d.before a0 Z = true) (N : Nat) : HopAll l Z "DeltaCausalMap" prog_1_method_44_code 2 (some .boolean) false ({ frames := 0, cells := 0, slots := 0, locals := 0 } : Room) AC nC zC (cC false) (sC asT false) (HC Z "DeltaCausalMap" fsT asT 23 false) (hopC fsT asT 23 0 false 1 cIT cJT [] []) :=
  hopC_all (clsT hw) mhC (hw _ (List.mem_of_getElem? (i := 2) rfl)) (fun h => nomatch h) (cIT_ok hw) (cJT_ok hw) fn fn (by decide) (by decide)
def m_validSlot (N : Nat) (x1 : Int) (S : St) : RS St :=
  (if x1 < 0 then
    some (0, S)
  else
    (if x1 < S 0 24 then
      some (1, S)
    else
      some (0, S)))
def m_validSlot_0_P (f : Int → St → RS St) : Jn St := fun L st S => match L, st with
  | [some (some (.inr (.inr (some 0)))), some (some (.inl x1))], [] => f x1 S
  | _, _ => none
def m_validSlot_c : List Ent := [(0, .iload_n 1, 1, []), (1, .ifCond .lt 15, 3, [16]), (4, .iload_n 1, 1, []), (5, .aload_n 0, 1, []), (6, .getfield 88, 3, []), (9, .if_icmp .ge 7, 3, [16]), (12, .iconst 1, 1, []), (13, .goto 4, 3, [17]), (16, .iconst 0, 1, []), (17, .ireturn, 1, [])]
set_option maxRecDepth 65536 in
theorem m_validSlot_cOk : codeOk prog_1_method_44_code m_validSlot_c = true := by decide +kernel
set_option maxRecDepth 65536 in
set_option maxHeartbeats 4000000 in
theorem m_validSlot_0_ok (l : Launch) {Z : State} {a0 : Array Value} (hw : ∀ d ∈ tables_1, d.before a0 Z = true) (N : Nat) : Blk l Z "DeltaCausalMap" prog_1_method_44_code 2 (some .boolean) false ({ frames := 0, cells := 0, slots := 0, locals := 0 } : Room) AC nC zC (cC false) (sC asT false) (HC Z "DeltaCausalMap" fsT asT 23 false) [0, 0] 3 46 (0, 46, m_validSlot_0_P (m_validSlot N)) :=
  blk_of_den (jl := []) (lst := m_validSlot_c) (m_validSlot_hop l hw N) (Or.inr (Or.inr (Or.inr ⟨rfl, rfl⟩))) rfl (by decide) (by decide) m_validSlot_cOk fn (fun L st S r ok h => by unfold m_validSlot_0_P at h; split at h; exact h; cases h)
def m_validSlot_F (N : Nat) : List AV → St → RS St := fun av S => match av with
  | [.inr (.inr (some 0)), .inl x1] => m_validSlot N x1 S
  | _ => none
theorem m_validSlot_P0 (f : Int → St → RS St) (x1 : Int) (S : St) : m_validSlot_0_P f (entryL [.inr (.inr (some 0)), .inl x1] 2) [] S = f x1 S := rfl
set_option maxRecDepth 65536 in
set_option maxHeartbeats 4000000 in
theorem m_validSlot_con (l : Launch) {Z : State} {a0 : Array Value} (hw : ∀ d ∈ tables_1, d.before a0 Z = true) (N : Nat) : Con l Z "DeltaCausalMap" fsT asT 23 (⟨"DeltaCausalMap", "validSlot", "(I)Z"⟩ : MethodName) prog_1_method_44_code 2 (some .boolean) ({ frames := 0, cells := 0, slots := 0, locals := 0 } : Room) 3 (m_validSlot_F N) :=
  con_of (m_validSlot_0_ok l hw N) pnC rfl (fun av S r h oks => by unfold m_validSlot_F at h; split at h; exact ⟨(m_validSlot_P0 _ _ _).trans h, okL_entry rfl oks rfl⟩; cases h)
set_option maxRecDepth 65536 in
theorem m_validSlot_vir (l : Launch) {Z : State} {a0 : Array Value} (hw : ∀ d ∈ tables_1, d.before a0 Z = true) (N : Nat) (W : Nat) (R : Room) (h1 : 1 ≤ R.frames) (h2 : W + 13 ≤ R.locals) : VirOk l Z a0 "DeltaCausalMap" fsT asT 23 W R (190, 1, 3, m_validSlot_F N) :=
  ⟨(⟨"DeltaCausalMap", "validSlot", "(I)Z"⟩ : MethodName), prog_1_method_44_code, 2, (some .boolean), ({ frames := 0, cells := 0, slots := 0, locals := 0 } : Room), [.int], rfl, (hw _ (List.mem_of_getElem? (i := 154) rfl)), (hw _ (List.mem_of_getElem? (i := 155) rfl)), Or.inl (hw _ (List.mem_of_getElem? (i := 156) rfl)), (hw _ (List.mem_of_getElem? (i := 157) rfl)), by decide +kernel, rfl, rfl, rfl, h1, by dsimp only; omega, m_validSlot_con l hw N⟩
/-! ## DeltaCausalMap.headerOrCount:(II)I -/
set_option maxRecDepth 65536 in
set_option maxHeartbeats 4000000 in
theorem m_headerOrCount_hop (l : Launch) {Z : State} {a0 : Array Value} (hw : ∀ d ∈ tables_1, d.before a0 Z = true) (N : Nat) : HopAll l Z "DeltaCausalMap" prog_1_method_40_code 3 (some .int) false ({ frames := 0, cells := 0, slots := 0, locals := 0 } : Room) AC nC zC (cC false) (sC asT false) (HC Z "DeltaCausalMap" fsT asT 23 false) (hopC fsT asT 23 0 false 1 cIT cJT [] []) :=
  hopC_all (clsT hw) mhC (hw _ (List.mem_of_getElem? (i := 2) rfl)) (fun h => nomatch h) (cIT_ok hw) (cJT_ok hw) fn fn (by decide) (by decide)
def m_headerOrCount (N : Nat) (x1 : Int) (x2 : Int) (S : St) : RS St :=
  (if x2 = 0 then
    (if 0 ≤ x1 ∧ x1 < 12 then
    some (S 17 x1, S)
    else none)
  else
    (if x2 = 1 then
      (if 0 ≤ x1 ∧ x1 < 12 then
      some (S 18 x1, S)
      else none)
    else
      (if x2 = 2 then
        (if 0 ≤ x1 ∧ x1 < 12 then
        some (S 19 x1, S)
        else none)
      else
        (if x2 = 3 then
          (if 0 ≤ x1 ∧ x1 < 12 then
          some (S 20 x1, S)
          else none)
        else
          (if x2 = 4 then
            (if 0 ≤ x1 ∧ x1 < 12 then
            some (S 21 x1, S)
            else none)
          else
            (if 0 ≤ x1 ∧ x1 < 12 then
            none
            else none))))))
def m_headerOrCount_0_P (f : Int → Int → St → RS St) : Jn St := fun L st S => match L, st with
  | [some (some (.inr (.inr (some 0)))), some (some (.inl x1)), some (some (.inl x2))], [] => f x1 x2 S
  | _, _ => none
def m_headerOrCount_c : List Ent := [(0, .iload_n 2, 1, []), (1, .ifCond .ne 10, 3, [11]), (4, .aload_n 0, 1, []), (5, .getfield 59, 3, []), (8, .iload_n 1, 1, []), (9, .iaload, 1, []), (10, .ireturn, 1, []), (11, .iload_n 2, 1, []), (12, .iconst 1, 1, []), (13, .if_icmp .ne 10, 3, [23]), (16, .aload_n 0, 1, []), (17, .getfield 62, 3, []), (20, .iload_n 1, 1, []), (21, .iaload, 1, []), (22, .ireturn, 1, []), (23, .iload_n 2, 1, []), (24, .iconst 2, 1, []), (25, .if_icmp .ne 10, 3, [35]), (28, .aload_n 0, 1, []), (29, .getfield 65, 3, []), (32, .iload_n 1, 1, []), (33, .iaload, 1, []), (34, .ireturn, 1, []), (35, .iload_n 2, 1, []), (36, .iconst 3, 1, []), (37, .if_icmp .ne 10, 3, [47]), (40, .aload_n 0, 1, []), (41, .getfield 68, 3, []), (44, .iload_n 1, 1, []), (45, .iaload, 1, []), (46, .ireturn, 1, []), (47, .iload_n 2, 1, []), (48, .iconst 4, 1, []), (49, .if_icmp .ne 10, 3, [59]), (52, .aload_n 0, 1, []), (53, .getfield 71, 3, []), (56, .iload_n 1, 1, []), (57, .iaload, 1, []), (58, .ireturn, 1, []), (59, .aload_n 0, 1, []), (60, .aload_n 0, 1, []), (61, .getfield 74, 3, []), (64, .iload_n 1, 1, []), (65, .laload, 1, []), (66, .iload_n 2, 1, []), (67, .iconst 5, 1, []), (68, .isub, 1, []), (69, .invokevirtual 196, 3, [])]
set_option maxRecDepth 65536 in
theorem m_headerOrCount_cOk : codeOk prog_1_method_40_code m_headerOrCount_c = true := by decide +kernel
set_option maxRecDepth 65536 in
set_option maxHeartbeats 4000000 in
theorem m_headerOrCount_0_ok (l : Launch) {Z : State} {a0 : Array Value} (hw : ∀ d ∈ tables_1, d.before a0 Z = true) (N : Nat) : Blk l Z "DeltaCausalMap" prog_1_method_40_code 3 (some .int) false ({ frames := 0, cells := 0, slots := 0, locals := 0 } : Room) AC nC zC (cC false) (sC asT false) (HC Z "DeltaCausalMap" fsT asT 23 false) [0, 0, 0] 1 46 (0, 46, m_headerOrCount_0_P (m_headerOrCount N)) :=
  blk_of_den (jl := []) (lst := m_headerOrCount_c) (m_headerOrCount_hop l hw N) (Or.inr (Or.inl ⟨rfl, rfl⟩)) rfl (by decide) (by decide) m_headerOrCount_cOk fn (fun L st S r ok h => by unfold m_headerOrCount_0_P at h; split at h; exact h; cases h)
def m_headerOrCount_F (N : Nat) : List AV → St → RS St := fun av S => match av with
  | [.inr (.inr (some 0)), .inl x1, .inl x2] => m_headerOrCount N x1 x2 S
  | _ => none
theorem m_headerOrCount_P0 (f : Int → Int → St → RS St) (x1 : Int) (x2 : Int) (S : St) : m_headerOrCount_0_P f (entryL [.inr (.inr (some 0)), .inl x1, .inl x2] 3) [] S = f x1 x2 S := rfl
set_option maxRecDepth 65536 in
set_option maxHeartbeats 4000000 in
theorem m_headerOrCount_con (l : Launch) {Z : State} {a0 : Array Value} (hw : ∀ d ∈ tables_1, d.before a0 Z = true) (N : Nat) : Con l Z "DeltaCausalMap" fsT asT 23 (⟨"DeltaCausalMap", "headerOrCount", "(II)I"⟩ : MethodName) prog_1_method_40_code 3 (some .int) ({ frames := 0, cells := 0, slots := 0, locals := 0 } : Room) 1 (m_headerOrCount_F N) :=
  con_of (m_headerOrCount_0_ok l hw N) pnC rfl (fun av S r h oks => by unfold m_headerOrCount_F at h; split at h; exact ⟨(m_headerOrCount_P0 _ _ _ _).trans h, okL_entry rfl oks rfl⟩; cases h)
set_option maxRecDepth 65536 in
theorem m_headerOrCount_vir (l : Launch) {Z : State} {a0 : Array Value} (hw : ∀ d ∈ tables_1, d.before a0 Z = true) (N : Nat) (W : Nat) (R : Room) (h1 : 1 ≤ R.frames) (h2 : W + 14 ≤ R.locals) : VirOk l Z a0 "DeltaCausalMap" fsT asT 23 W R (193, 2, 1, m_headerOrCount_F N) :=
  ⟨(⟨"DeltaCausalMap", "headerOrCount", "(II)I"⟩ : MethodName), prog_1_method_40_code, 3, (some .int), ({ frames := 0, cells := 0, slots := 0, locals := 0 } : Room), [.int, .int], rfl, (hw _ (List.mem_of_getElem? (i := 224) rfl)), (hw _ (List.mem_of_getElem? (i := 225) rfl)), Or.inl (hw _ (List.mem_of_getElem? (i := 226) rfl)), (hw _ (List.mem_of_getElem? (i := 227) rfl)), by decide +kernel, rfl, rfl, rfl, h1, by dsimp only; omega, m_headerOrCount_con l hw N⟩
/-! ## DeltaCausalMap.messageField:(II)I -/
set_option maxRecDepth 65536 in
set_option maxHeartbeats 4000000 in
theorem m_messageField_hop (l : Launch) {Z : State} {a0 : Array Value} (hw : ∀ d ∈ tables_1, d.before a0 Z = true) (N : Nat) : HopAll l Z "DeltaCausalMap" prog_1_method_39_code 4 (some .int) false ({ frames := 1, cells := 0, slots := 0, locals := 14 } : Room) AC nC zC (cC false) (sC asT false) (HC Z "DeltaCausalMap" fsT asT 23 false) (hopC fsT asT 23 0 false 1 cIT cJT [(190, 1, 3, m_validSlot_F N), (193, 2, 1, m_headerOrCount_F N)] []) :=
  hopC_all (clsT hw) mhC (hw _ (List.mem_of_getElem? (i := 2) rfl)) (fun h => nomatch h) (cIT_ok hw) (cJT_ok hw) (fc (m_validSlot_vir l hw N _ _ (by decide) (by decide)) (fc (m_headerOrCount_vir l hw N _ _ (by decide) (by decide)) fn)) fn (by decide) (by decide)
def m_messageField (N : Nat) (x1 : Int) (x2 : Int) (S : St) : RS St :=
  ((m_validSlot N x1 S).bind fun r1 =>
  (if r1.1 = 0 then
    some ((-7), r1.2)
  else
    (if x2 < 0 then
      some ((-7), r1.2)
    else
      (if 8 < x2 then
        some ((-7), r1.2)
      else
        (if 0 ≤ x1 ∧ x1 < 12 then
        (if r1.2 17 x1 = 0 then
          (if x2 = 0 then
            some (0, r1.2)
          else
            some ((-7), r1.2))
        else
          ((m_headerOrCount N x1 x2 r1.2).bind fun r2 =>
          some (r2.1, r2.2)))
        else none)))))
def m_messageField_0_P (f : Int → Int → St → RS St) : Jn St := fun L st S => match L, st with
  | [some (some (.inr (.inr (some 0)))), some (some (.inl x1)), some (some (.inl x2)), _], [] => f x1 x2 S
  | _, _ => none
def m_messageField_c : List Ent := [(0, .aload_n 0, 1, []), (1, .iload_n 1, 1, []), (2, .invokevirtual 190, 3, []), (5, .ifCond .eq 13, 3, [18]), (8, .iload_n 2, 1, []), (9, .ifCond .lt 9, 3, [18]), (12, .iload_n 2, 1, []), (13, .bipush 8, 2, []), (15, .if_icmp .le 6, 3, [21]), (18, .bipush (-7), 2, []), (20, .ireturn, 1, []), (21, .aload_n 0, 1, []), (22, .getfield 59, 3, []), (25, .iload_n 1, 1, []), (26, .iaload, 1, []), (27, .istore_n 3, 1, []), (28, .iload_n 3, 1, []), (29, .ifCond .ne 12, 3, [41]), (32, .iload_n 2, 1, []), (33, .ifCond .ne 5, 3, [38]), (36, .iconst 0, 1, []), (37, .ireturn, 1, []), (38, .bipush (-7), 2, []), (40, .ireturn, 1, []), (41, .aload_n 0, 1, []), (42, .iload_n 1, 1, []), (43, .iload_n 2, 1, []), (44, .invokevirtual 193, 3, []), (47, .ireturn, 1, [])]
set_option maxRecDepth 65536 in
theorem m_messageField_cOk : codeOk prog_1_method_39_code m_messageField_c = true := by decide +kernel
set_option maxRecDepth 65536 in
set_option maxHeartbeats 4000000 in
theorem m_messageField_0_ok (l : Launch) {Z : State} {a0 : Array Value} (hw : ∀ d ∈ tables_1, d.before a0 Z = true) (N : Nat) : Blk l Z "DeltaCausalMap" prog_1_method_39_code 4 (some .int) false ({ frames := 1, cells := 0, slots := 0, locals := 14 } : Room) AC nC zC (cC false) (sC asT false) (HC Z "DeltaCausalMap" fsT asT 23 false) [0, 0, 0, 0] 1 46 (0, 46, m_messageField_0_P (m_messageField N)) :=
  blk_of_den (jl := []) (lst := m_messageField_c) (m_messageField_hop l hw N) (Or.inr (Or.inl ⟨rfl, rfl⟩)) rfl (by decide) (by decide) m_messageField_cOk fn (fun L st S r ok h => by unfold m_messageField_0_P at h; split at h; exact h; cases h)
def m_messageField_F (N : Nat) : List AV → St → RS St := fun av S => match av with
  | [.inr (.inr (some 0)), .inl x1, .inl x2] => m_messageField N x1 x2 S
  | _ => none
theorem m_messageField_P0 (f : Int → Int → St → RS St) (x1 : Int) (x2 : Int) (S : St) : m_messageField_0_P f (entryL [.inr (.inr (some 0)), .inl x1, .inl x2] 4) [] S = f x1 x2 S := rfl
set_option maxRecDepth 65536 in
set_option maxHeartbeats 4000000 in
theorem m_messageField_con (l : Launch) {Z : State} {a0 : Array Value} (hw : ∀ d ∈ tables_1, d.before a0 Z = true) (N : Nat) : Con l Z "DeltaCausalMap" fsT asT 23 (⟨"DeltaCausalMap", "messageField", "(II)I"⟩ : MethodName) prog_1_method_39_code 4 (some .int) ({ frames := 1, cells := 0, slots := 0, locals := 14 } : Room) 1 (m_messageField_F N) :=
  con_of (m_messageField_0_ok l hw N) pnC rfl (fun av S r h oks => by unfold m_messageField_F at h; split at h; exact ⟨(m_messageField_P0 _ _ _ _).trans h, okL_entry rfl oks rfl⟩; cases h)
set_option maxRecDepth 65536 in
theorem m_messageField_virL (l : Launch) {Z : State} {a0 : Array Value} (hw : ∀ d ∈ tables_1, d.before a0 Z = true) (N : Nat) (W : Nat) (R : Room) (h1 : 2 ≤ R.frames) (h2 : W + 29 ≤ R.locals) : VirL l Z a0 "DeltaCausalMapL6" "DeltaCausalMap" fsT asT 23 W R (11, 2, 1, m_messageField_F N) :=
  ⟨(⟨"DeltaCausalMap", "messageField", "(II)I"⟩ : MethodName), prog_1_method_39_code, 4, (some .int), ({ frames := 1, cells := 0, slots := 0, locals := 14 } : Room), [.int, .int], rfl, (hw _ (List.mem_of_getElem? (i := 149) rfl)), (hw _ (List.mem_of_getElem? (i := 151) rfl)), ⟨(hw _ (List.mem_of_getElem? (i := 150) rfl)), (hw _ (List.mem_of_getElem? (i := 152) rfl))⟩, (hw _ (List.mem_of_getElem? (i := 153) rfl)), by decide +kernel, rfl, rfl, rfl, h1, by dsimp only; omega, m_messageField_con l hw N⟩
/-! ## DeltaCausalMap.protocol:(III)I -/
set_option maxRecDepth 65536 in
set_option maxHeartbeats 4000000 in
theorem m_protocol_hop (l : Launch) {Z : State} {a0 : Array Value} (hw : ∀ d ∈ tables_1, d.before a0 Z = true) (N : Nat) : HopAll l Z "DeltaCausalMap" prog_1_method_38_code 4 (some .int) false ({ frames := 1, cells := 0, slots := 0, locals := 13 } : Room) AC nC zC (cC false) (sC asT false) (HC Z "DeltaCausalMap" fsT asT 23 false) (hopC fsT asT 23 0 false 1 cIT cJT [(109, 1, 3, m_validReplica_F N)] []) :=
  hopC_all (clsT hw) mhC (hw _ (List.mem_of_getElem? (i := 2) rfl)) (fun h => nomatch h) (cIT_ok hw) (cJT_ok hw) (fc (m_validReplica_vir l hw N _ _ (by decide) (by decide)) fn) fn (by decide) (by decide)
def m_protocol (N : Nat) (x1 : Int) (x2 : Int) (x3 : Int) (S : St) : RS St :=
  ((m_validReplica N x1 S).bind fun r1 =>
  (if r1.1 = 0 then
    some ((-7), r1.2)
  else
    (if x2 < 0 then
      some ((-7), r1.2)
    else
      (if 3 < x2 then
        some ((-7), r1.2)
      else
        (if x2 = 0 then
          (if 0 ≤ x1 ∧ x1 < 4 then
          some (r1.2 12 x1, r1.2)
          else none)
        else
          (if x2 = 1 then
            (if 0 ≤ x1 ∧ x1 < 4 then
            some (r1.2 13 x1, r1.2)
            else none)
          else
            ((m_validReplica N x3 r1.2).bind fun r2 =>
            (if r2.1 = 0 then
              some ((-7), r2.2)
            else
              (if x3 = x1 then
                some ((-7), r2.2)
              else
                (if x2 = 2 then
                  (if 0 ≤ w32 ((w32 (x1 * 4)) + x3) ∧ w32 ((w32 (x1 * 4)) + x3) < 16 then
                  some (r2.2 14 (w32 ((w32 (x1 * 4)) + x3)), r2.2)
                  else none)
                else
                  (if 0 ≤ w32 ((w32 (x1 * 4)) + x3) ∧ w32 ((w32 (x1 * 4)) + x3) < 16 then
                  some (r2.2 15 (w32 ((w32 (x1 * 4)) + x3)), r2.2)
                  else none)))))))))))
def m_protocol_0_P (f : Int → Int → Int → St → RS St) : Jn St := fun L st S => match L, st with
  | [some (some (.inr (.inr (some 0)))), some (some (.inl x1)), some (some (.inl x2)), some (some (.inl x3))], [] => f x1 x2 x3 S
  | _, _ => none
def m_protocol_c : List Ent := [(0, .aload_n 0, 1, []), (1, .iload_n 1, 1, []), (2, .invokevirtual 109, 3, []), (5, .ifCond .eq 12, 3, [17]), (8, .iload_n 2, 1, []), (9, .ifCond .lt 8, 3, [17]), (12, .iload_n 2, 1, []), (13, .iconst 3, 1, []), (14, .if_icmp .le 6, 3, [20]), (17, .bipush (-7), 2, []), (19, .ireturn, 1, []), (20, .iload_n 2, 1, []), (21, .ifCond .ne 10, 3, [31]), (24, .aload_n 0, 1, []), (25, .getfield 44, 3, []), (28, .iload_n 1, 1, []), (29, .iaload, 1, []), (30, .ireturn, 1, []), (31, .iload_n 2, 1, []), (32, .iconst 1, 1, []), (33, .if_icmp .ne 10, 3, [43]), (36, .aload_n 0, 1, []), (37, .getfield 47, 3, []), (40, .iload_n 1, 1, []), (41, .iaload, 1, []), (42, .ireturn, 1, []), (43, .aload_n 0, 1, []), (44, .iload_n 3, 1, []), (45, .invokevirtual 109, 3, []), (48, .ifCond .eq 8, 3, [56]), (51, .iload_n 3, 1, []), (52, .iload_n 1, 1, []), (53, .if_icmp .ne 6, 3, [59]), (56, .bipush (-7), 2, []), (58, .ireturn, 1, []), (59, .iload_n 2, 1, []), (60, .iconst 2, 1, []), (61, .if_icmp .ne 14, 3, [75]), (64, .aload_n 0, 1, []), (65, .getfield 50, 3, []), (68, .iload_n 1, 1, []), (69, .iconst 4, 1, []), (70, .imul, 1, []), (71, .iload_n 3, 1, []), (72, .iadd, 1, []), (73, .iaload, 1, []), (74, .ireturn, 1, []), (75, .aload_n 0, 1, []), (76, .getfield 53, 3, []), (79, .iload_n 1, 1, []), (80, .iconst 4, 1, []), (81, .imul, 1, []), (82, .iload_n 3, 1, []), (83, .iadd, 1, []), (84, .iaload, 1, []), (85, .ireturn, 1, [])]
set_option maxRecDepth 65536 in
theorem m_protocol_cOk : codeOk prog_1_method_38_code m_protocol_c = true := by decide +kernel
set_option maxRecDepth 65536 in
set_option maxHeartbeats 4000000 in
theorem m_protocol_0_ok (l : Launch) {Z : State} {a0 : Array Value} (hw : ∀ d ∈ tables_1, d.before a0 Z = true) (N : Nat) : Blk l Z "DeltaCausalMap" prog_1_method_38_code 4 (some .int) false ({ frames := 1, cells := 0, slots := 0, locals := 13 } : Room) AC nC zC (cC false) (sC asT false) (HC Z "DeltaCausalMap" fsT asT 23 false) [0, 0, 0, 0] 1 46 (0, 46, m_protocol_0_P (m_protocol N)) :=
  blk_of_den (jl := []) (lst := m_protocol_c) (m_protocol_hop l hw N) (Or.inr (Or.inl ⟨rfl, rfl⟩)) rfl (by decide) (by decide) m_protocol_cOk fn (fun L st S r ok h => by unfold m_protocol_0_P at h; split at h; exact h; cases h)
def m_protocol_F (N : Nat) : List AV → St → RS St := fun av S => match av with
  | [.inr (.inr (some 0)), .inl x1, .inl x2, .inl x3] => m_protocol N x1 x2 x3 S
  | _ => none
theorem m_protocol_P0 (f : Int → Int → Int → St → RS St) (x1 : Int) (x2 : Int) (x3 : Int) (S : St) : m_protocol_0_P f (entryL [.inr (.inr (some 0)), .inl x1, .inl x2, .inl x3] 4) [] S = f x1 x2 x3 S := rfl
set_option maxRecDepth 65536 in
set_option maxHeartbeats 4000000 in
theorem m_protocol_con (l : Launch) {Z : State} {a0 : Array Value} (hw : ∀ d ∈ tables_1, d.before a0 Z = true) (N : Nat) : Con l Z "DeltaCausalMap" fsT asT 23 (⟨"DeltaCausalMap", "protocol", "(III)I"⟩ : MethodName) prog_1_method_38_code 4 (some .int) ({ frames := 1, cells := 0, slots := 0, locals := 13 } : Room) 1 (m_protocol_F N) :=
  con_of (m_protocol_0_ok l hw N) pnC rfl (fun av S r h oks => by unfold m_protocol_F at h; split at h; exact ⟨(m_protocol_P0 _ _ _ _ _).trans h, okL_entry rfl oks rfl⟩; cases h)
set_option maxRecDepth 65536 in
theorem m_protocol_virL (l : Launch) {Z : State} {a0 : Array Value} (hw : ∀ d ∈ tables_1, d.before a0 Z = true) (N : Nat) (W : Nat) (R : Room) (h1 : 2 ≤ R.frames) (h2 : W + 28 ≤ R.locals) : VirL l Z a0 "DeltaCausalMapL6" "DeltaCausalMap" fsT asT 23 W R (15, 3, 1, m_protocol_F N) :=
  ⟨(⟨"DeltaCausalMap", "protocol", "(III)I"⟩ : MethodName), prog_1_method_38_code, 4, (some .int), ({ frames := 1, cells := 0, slots := 0, locals := 13 } : Room), [.int, .int, .int], rfl, (hw _ (List.mem_of_getElem? (i := 158) rfl)), (hw _ (List.mem_of_getElem? (i := 160) rfl)), ⟨(hw _ (List.mem_of_getElem? (i := 159) rfl)), (hw _ (List.mem_of_getElem? (i := 161) rfl))⟩, (hw _ (List.mem_of_getElem? (i := 162) rfl)), by decide +kernel, rfl, rfl, rfl, h1, by dsimp only; omega, m_protocol_con l hw N⟩
/-! ## DeltaCausalMap.known:(II)I -/
set_option maxRecDepth 65536 in
set_option maxHeartbeats 4000000 in
theorem m_known_hop (l : Launch) {Z : State} {a0 : Array Value} (hw : ∀ d ∈ tables_1, d.before a0 Z = true) (N : Nat) : HopAll l Z "DeltaCausalMap" prog_1_method_37_code 3 (some .int) false ({ frames := 1, cells := 0, slots := 0, locals := 13 } : Room) AC nC zC (cC false) (sC asT false) (HC Z "DeltaCausalMap" fsT asT 23 false) (hopC fsT asT 23 0 false 1 cIT cJT [(109, 1, 3, m_validReplica_F N)] []) :=
  hopC_all (clsT hw) mhC (hw _ (List.mem_of_getElem? (i := 2) rfl)) (fun h => nomatch h) (cIT_ok hw) (cJT_ok hw) (fc (m_validReplica_vir l hw N _ _ (by decide) (by decide)) fn) fn (by decide) (by decide)
def m_known (N : Nat) (x1 : Int) (x2 : Int) (S : St) : RS St :=
  ((m_validReplica N x1 S).bind fun r1 =>
  (if r1.1 = 0 then
    some ((-7), r1.2)
  else
    ((m_validReplica N x2 r1.2).bind fun r2 =>
    (if r2.1 = 0 then
      some ((-7), r2.2)
    else
      (if 0 ≤ w32 ((w32 (x1 * 4)) + x2) ∧ w32 ((w32 (x1 * 4)) + x2) < 16 then
      some (r2.2 6 (w32 ((w32 (x1 * 4)) + x2)), r2.2)
      else none)))))
def m_known_0_P (f : Int → Int → St → RS St) : Jn St := fun L st S => match L, st with
  | [some (some (.inr (.inr (some 0)))), some (some (.inl x1)), some (some (.inl x2))], [] => f x1 x2 S
  | _, _ => none
def m_known_c : List Ent := [(0, .aload_n 0, 1, []), (1, .iload_n 1, 1, []), (2, .invokevirtual 109, 3, []), (5, .ifCond .eq 11, 3, [16]), (8, .aload_n 0, 1, []), (9, .iload_n 2, 1, []), (10, .invokevirtual 109, 3, []), (13, .ifCond .ne 6, 3, [19]), (16, .bipush (-7), 2, []), (18, .ireturn, 1, []), (19, .aload_n 0, 1, []), (20, .getfield 26, 3, []), (23, .iload_n 1, 1, []), (24, .iconst 4, 1, []), (25, .imul, 1, []), (26, .iload_n 2, 1, []), (27, .iadd, 1, []), (28, .iaload, 1, []), (29, .ireturn, 1, [])]
set_option maxRecDepth 65536 in
theorem m_known_cOk : codeOk prog_1_method_37_code m_known_c = true := by decide +kernel
set_option maxRecDepth 65536 in
set_option maxHeartbeats 4000000 in
theorem m_known_0_ok (l : Launch) {Z : State} {a0 : Array Value} (hw : ∀ d ∈ tables_1, d.before a0 Z = true) (N : Nat) : Blk l Z "DeltaCausalMap" prog_1_method_37_code 3 (some .int) false ({ frames := 1, cells := 0, slots := 0, locals := 13 } : Room) AC nC zC (cC false) (sC asT false) (HC Z "DeltaCausalMap" fsT asT 23 false) [0, 0, 0] 1 46 (0, 46, m_known_0_P (m_known N)) :=
  blk_of_den (jl := []) (lst := m_known_c) (m_known_hop l hw N) (Or.inr (Or.inl ⟨rfl, rfl⟩)) rfl (by decide) (by decide) m_known_cOk fn (fun L st S r ok h => by unfold m_known_0_P at h; split at h; exact h; cases h)
def m_known_F (N : Nat) : List AV → St → RS St := fun av S => match av with
  | [.inr (.inr (some 0)), .inl x1, .inl x2] => m_known N x1 x2 S
  | _ => none
theorem m_known_P0 (f : Int → Int → St → RS St) (x1 : Int) (x2 : Int) (S : St) : m_known_0_P f (entryL [.inr (.inr (some 0)), .inl x1, .inl x2] 3) [] S = f x1 x2 S := rfl
set_option maxRecDepth 65536 in
set_option maxHeartbeats 4000000 in
theorem m_known_con (l : Launch) {Z : State} {a0 : Array Value} (hw : ∀ d ∈ tables_1, d.before a0 Z = true) (N : Nat) : Con l Z "DeltaCausalMap" fsT asT 23 (⟨"DeltaCausalMap", "known", "(II)I"⟩ : MethodName) prog_1_method_37_code 3 (some .int) ({ frames := 1, cells := 0, slots := 0, locals := 13 } : Room) 1 (m_known_F N) :=
  con_of (m_known_0_ok l hw N) pnC rfl (fun av S r h oks => by unfold m_known_F at h; split at h; exact ⟨(m_known_P0 _ _ _ _).trans h, okL_entry rfl oks rfl⟩; cases h)
set_option maxRecDepth 65536 in
theorem m_known_virL (l : Launch) {Z : State} {a0 : Array Value} (hw : ∀ d ∈ tables_1, d.before a0 Z = true) (N : Nat) (W : Nat) (R : Room) (h1 : 2 ≤ R.frames) (h2 : W + 27 ≤ R.locals) : VirL l Z a0 "DeltaCausalMapL6" "DeltaCausalMap" fsT asT 23 W R (25, 2, 1, m_known_F N) :=
  ⟨(⟨"DeltaCausalMap", "known", "(II)I"⟩ : MethodName), prog_1_method_37_code, 3, (some .int), ({ frames := 1, cells := 0, slots := 0, locals := 13 } : Room), [.int, .int], rfl, (hw _ (List.mem_of_getElem? (i := 163) rfl)), (hw _ (List.mem_of_getElem? (i := 165) rfl)), ⟨(hw _ (List.mem_of_getElem? (i := 164) rfl)), (hw _ (List.mem_of_getElem? (i := 166) rfl))⟩, (hw _ (List.mem_of_getElem? (i := 167) rfl)), by decide +kernel, rfl, rfl, rfl, h1, by dsimp only; omega, m_known_con l hw N⟩
/-! ## DeltaCausalMap.enable:(II)I -/
set_option maxRecDepth 65536 in
set_option maxHeartbeats 4000000 in
theorem m_enable_hop (l : Launch) {Z : State} {a0 : Array Value} (hw : ∀ d ∈ tables_1, d.before a0 Z = true) (N : Nat) : HopAll l Z "DeltaCausalMap" prog_1_method_3_code 3 (some .int) false ({ frames := 6, cells := 0, slots := 0, locals := 112 } : Room) AC nC zC (cC false) (sC asT false) (HC Z "DeltaCausalMap" fsT asT 23 false) (hopC fsT asT 23 0 false 1 cIT cJT [(106, 3, 1, m_mutate_F N)] []) :=
  hopC_all (clsT hw) mhC (hw _ (List.mem_of_getElem? (i := 2) rfl)) (fun h => nomatch h) (cIT_ok hw) (cJT_ok hw) (fc (m_mutate_vir l hw N _ _ (by decide) (by decide)) fn) fn (by decide) (by decide)
def m_enable (N : Nat) (x1 : Int) (x2 : Int) (S : St) : RS St :=
  ((m_mutate N x1 x2 2 S).bind fun r1 =>
  some (r1.1, r1.2))
def m_enable_0_P (f : Int → Int → St → RS St) : Jn St := fun L st S => match L, st with
  | [some (some (.inr (.inr (some 0)))), some (some (.inl x1)), some (some (.inl x2))], [] => f x1 x2 S
  | _, _ => none
def m_enable_c : List Ent := [(0, .aload_n 0, 1, []), (1, .iload_n 1, 1, []), (2, .iload_n 2, 1, []), (3, .iconst 2, 1, []), (4, .invokevirtual 106, 3, []), (7, .ireturn, 1, [])]
set_option maxRecDepth 65536 in
theorem m_enable_cOk : codeOk prog_1_method_3_code m_enable_c = true := by decide +kernel
set_option maxRecDepth 65536 in
set_option maxHeartbeats 4000000 in
theorem m_enable_0_ok (l : Launch) {Z : State} {a0 : Array Value} (hw : ∀ d ∈ tables_1, d.before a0 Z = true) (N : Nat) : Blk l Z "DeltaCausalMap" prog_1_method_3_code 3 (some .int) false ({ frames := 6, cells := 0, slots := 0, locals := 112 } : Room) AC nC zC (cC false) (sC asT false) (HC Z "DeltaCausalMap" fsT asT 23 false) [0, 0, 0] 1 46 (0, 46, m_enable_0_P (m_enable N)) :=
  blk_of_den (jl := []) (lst := m_enable_c) (m_enable_hop l hw N) (Or.inr (Or.inl ⟨rfl, rfl⟩)) rfl (by decide) (by decide) m_enable_cOk fn (fun L st S r ok h => by unfold m_enable_0_P at h; split at h; exact h; cases h)
def m_enable_F (N : Nat) : List AV → St → RS St := fun av S => match av with
  | [.inr (.inr (some 0)), .inl x1, .inl x2] => m_enable N x1 x2 S
  | _ => none
theorem m_enable_P0 (f : Int → Int → St → RS St) (x1 : Int) (x2 : Int) (S : St) : m_enable_0_P f (entryL [.inr (.inr (some 0)), .inl x1, .inl x2] 3) [] S = f x1 x2 S := rfl
set_option maxRecDepth 65536 in
set_option maxHeartbeats 4000000 in
theorem m_enable_con (l : Launch) {Z : State} {a0 : Array Value} (hw : ∀ d ∈ tables_1, d.before a0 Z = true) (N : Nat) : Con l Z "DeltaCausalMap" fsT asT 23 (⟨"DeltaCausalMap", "enable", "(II)I"⟩ : MethodName) prog_1_method_3_code 3 (some .int) ({ frames := 6, cells := 0, slots := 0, locals := 112 } : Room) 1 (m_enable_F N) :=
  con_of (m_enable_0_ok l hw N) pnC rfl (fun av S r h oks => by unfold m_enable_F at h; split at h; exact ⟨(m_enable_P0 _ _ _ _).trans h, okL_entry rfl oks rfl⟩; cases h)
set_option maxRecDepth 65536 in
theorem m_enable_virL (l : Launch) {Z : State} {a0 : Array Value} (hw : ∀ d ∈ tables_1, d.before a0 Z = true) (N : Nat) (W : Nat) (R : Room) (h1 : 7 ≤ R.frames) (h2 : W + 126 ≤ R.locals) : VirL l Z a0 "DeltaCausalMapL6" "DeltaCausalMap" fsT asT 23 W R (34, 2, 1, m_enable_F N) :=
  ⟨(⟨"DeltaCausalMap", "enable", "(II)I"⟩ : MethodName), prog_1_method_3_code, 3, (some .int), ({ frames := 6, cells := 0, slots := 0, locals := 112 } : Room), [.int, .int], rfl, (hw _ (List.mem_of_getElem? (i := 168) rfl)), (hw _ (List.mem_of_getElem? (i := 170) rfl)), ⟨(hw _ (List.mem_of_getElem? (i := 169) rfl)), (hw _ (List.mem_of_getElem? (i := 171) rfl))⟩, (hw _ (List.mem_of_getElem? (i := 172) rfl)), by decide +kernel, rfl, rfl, rfl, h1, by dsimp only; omega, m_enable_con l hw N⟩
/-! ## DeltaCausalMap.write:(III)I -/
set_option maxRecDepth 65536 in
set_option maxHeartbeats 4000000 in
theorem m_write_hop (l : Launch) {Z : State} {a0 : Array Value} (hw : ∀ d ∈ tables_1, d.before a0 Z = true) (N : Nat) : HopAll l Z "DeltaCausalMap" prog_1_method_2_code 5 (some .int) false ({ frames := 5, cells := 0, slots := 0, locals := 96 } : Room) AC nC zC (cC false) (sC asT false) (HC Z "DeltaCausalMap" fsT asT 23 false) (hopC fsT asT 23 0 false 1 cIT cJT [(94, 2, 1, m_refuseTarget_F N), (98, 1, 3, m_exhausted_F N), (102, 4, 1, m_makeOperation_F N)] []) :=
  hopC_all (clsT hw) mhC (hw _ (List.mem_of_getElem? (i := 2) rfl)) (fun h => nomatch h) (cIT_ok hw) (cJT_ok hw) (fc (m_refuseTarget_vir l hw N _ _ (by decide) (by decide)) (fc (m_exhausted_vir l hw N _ _ (by decide) (by decide)) (fc (m_makeOperation_vir l hw N _ _ (by decide) (by decide)) fn))) fn (by decide) (by decide)
def m_write (N : Nat) (x1 : Int) (x2 : Int) (x3 : Int) (S : St) : RS St :=
  ((m_refuseTarget N x1 x2 S).bind fun r1 =>
  (if r1.1 = 0 then
    (if x3 < 1 then
      some ((-3), r1.2)
    else
      (if 255 < x3 then
        some ((-3), r1.2)
      else
        ((m_exhausted N x1 r1.2).bind fun r2 =>
        (if r2.1 = 0 then
          ((m_makeOperation N x1 x2 1 x3 r2.2).bind fun r3 =>
          some (r3.1, r3.2))
        else
          some ((-4), r2.2)))))
  else
    some (r1.1, r1.2)))
def m_write_0_P (f : Int → Int → Int → St → RS St) : Jn St := fun L st S => match L, st with
  | [some (some (.inr (.inr (some 0)))), some (some (.inl x1)), some (some (.inl x2)), some (some (.inl x3)), _], [] => f x1 x2 x3 S
  | _, _ => none
def m_write_c : List Ent := [(0, .aload_n 0, 1, []), (1, .iload_n 1, 1, []), (2, .iload_n 2, 1, []), (3, .invokevirtual 94, 3, []), (6, .istore 4, 2, []), (8, .iload 4, 2, []), (10, .ifCond .eq 6, 3, [16]), (13, .iload 4, 2, []), (15, .ireturn, 1, []), (16, .iload_n 3, 1, []), (17, .iconst 1, 1, []), (18, .if_icmp .lt 10, 3, [28]), (21, .iload_n 3, 1, []), (22, .sipush 255, 3, []), (25, .if_icmp .le 6, 3, [31]), (28, .bipush (-3), 2, []), (30, .ireturn, 1, []), (31, .aload_n 0, 1, []), (32, .iload_n 1, 1, []), (33, .invokevirtual 98, 3, []), (36, .ifCond .eq 6, 3, [42]), (39, .bipush (-4), 2, []), (41, .ireturn, 1, []), (42, .aload_n 0, 1, []), (43, .iload_n 1, 1, []), (44, .iload_n 2, 1, []), (45, .iconst 1, 1, []), (46, .iload_n 3, 1, []), (47, .invokevirtual 102, 3, []), (50, .ireturn, 1, [])]
set_option maxRecDepth 65536 in
theorem m_write_cOk : codeOk prog_1_method_2_code m_write_c = true := by decide +kernel
set_option maxRecDepth 65536 in
set_option maxHeartbeats 4000000 in
theorem m_write_0_ok (l : Launch) {Z : State} {a0 : Array Value} (hw : ∀ d ∈ tables_1, d.before a0 Z = true) (N : Nat) : Blk l Z "DeltaCausalMap" prog_1_method_2_code 5 (some .int) false ({ frames := 5, cells := 0, slots := 0, locals := 96 } : Room) AC nC zC (cC false) (sC asT false) (HC Z "DeltaCausalMap" fsT asT 23 false) [0, 0, 0, 0, 0] 1 46 (0, 46, m_write_0_P (m_write N)) :=
  blk_of_den (jl := []) (lst := m_write_c) (m_write_hop l hw N) (Or.inr (Or.inl ⟨rfl, rfl⟩)) rfl (by decide) (by decide) m_write_cOk fn (fun L st S r ok h => by unfold m_write_0_P at h; split at h; exact h; cases h)
def m_write_F (N : Nat) : List AV → St → RS St := fun av S => match av with
  | [.inr (.inr (some 0)), .inl x1, .inl x2, .inl x3] => m_write N x1 x2 x3 S
  | _ => none
theorem m_write_P0 (f : Int → Int → Int → St → RS St) (x1 : Int) (x2 : Int) (x3 : Int) (S : St) : m_write_0_P f (entryL [.inr (.inr (some 0)), .inl x1, .inl x2, .inl x3] 5) [] S = f x1 x2 x3 S := rfl
set_option maxRecDepth 65536 in
set_option maxHeartbeats 4000000 in
theorem m_write_con (l : Launch) {Z : State} {a0 : Array Value} (hw : ∀ d ∈ tables_1, d.before a0 Z = true) (N : Nat) : Con l Z "DeltaCausalMap" fsT asT 23 (⟨"DeltaCausalMap", "write", "(III)I"⟩ : MethodName) prog_1_method_2_code 5 (some .int) ({ frames := 5, cells := 0, slots := 0, locals := 96 } : Room) 1 (m_write_F N) :=
  con_of (m_write_0_ok l hw N) pnC rfl (fun av S r h oks => by unfold m_write_F at h; split at h; exact ⟨(m_write_P0 _ _ _ _ _).trans h, okL_entry rfl oks rfl⟩; cases h)
set_option maxRecDepth 65536 in
theorem m_write_virL (l : Launch) {Z : State} {a0 : Array Value} (hw : ∀ d ∈ tables_1, d.before a0 Z = true) (N : Nat) (W : Nat) (R : Room) (h1 : 6 ≤ R.frames) (h2 : W + 112 ≤ R.locals) : VirL l Z a0 "DeltaCausalMapL6" "DeltaCausalMap" fsT asT 23 W R (31, 3, 1, m_write_F N) :=
  ⟨(⟨"DeltaCausalMap", "write", "(III)I"⟩ : MethodName), prog_1_method_2_code, 5, (some .int), ({ frames := 5, cells := 0, slots := 0, locals := 96 } : Room), [.int, .int, .int], rfl, (hw _ (List.mem_of_getElem? (i := 173) rfl)), (hw _ (List.mem_of_getElem? (i := 175) rfl)), ⟨(hw _ (List.mem_of_getElem? (i := 174) rfl)), (hw _ (List.mem_of_getElem? (i := 176) rfl))⟩, (hw _ (List.mem_of_getElem? (i := 177) rfl)), by decide +kernel, rfl, rfl, rfl, h1, by dsimp only; omega, m_write_con l hw N⟩
/-! ## DeltaCausalMap.disable:(II)I -/
set_option maxRecDepth 65536 in
set_option maxHeartbeats 4000000 in
theorem m_disable_hop (l : Launch) {Z : State} {a0 : Array Value} (hw : ∀ d ∈ tables_1, d.before a0 Z = true) (N : Nat) : HopAll l Z "DeltaCausalMap" prog_1_method_4_code 3 (some .int) false ({ frames := 6, cells := 0, slots := 0, locals := 112 } : Room) AC nC zC (cC false) (sC asT false) (HC Z "DeltaCausalMap" fsT asT 23 false) (hopC fsT asT 23 0 false 1 cIT cJT [(106, 3, 1, m_mutate_F N)] []) :=
  hopC_all (clsT hw) mhC (hw _ (List.mem_of_getElem? (i := 2) rfl)) (fun h => nomatch h) (cIT_ok hw) (cJT_ok hw) (fc (m_mutate_vir l hw N _ _ (by decide) (by decide)) fn) fn (by decide) (by decide)
def m_disable (N : Nat) (x1 : Int) (x2 : Int) (S : St) : RS St :=
  ((m_mutate N x1 x2 3 S).bind fun r1 =>
  some (r1.1, r1.2))
def m_disable_0_P (f : Int → Int → St → RS St) : Jn St := fun L st S => match L, st with
  | [some (some (.inr (.inr (some 0)))), some (some (.inl x1)), some (some (.inl x2))], [] => f x1 x2 S
  | _, _ => none
def m_disable_c : List Ent := [(0, .aload_n 0, 1, []), (1, .iload_n 1, 1, []), (2, .iload_n 2, 1, []), (3, .iconst 3, 1, []), (4, .invokevirtual 106, 3, []), (7, .ireturn, 1, [])]
set_option maxRecDepth 65536 in
theorem m_disable_cOk : codeOk prog_1_method_4_code m_disable_c = true := by decide +kernel
set_option maxRecDepth 65536 in
set_option maxHeartbeats 4000000 in
theorem m_disable_0_ok (l : Launch) {Z : State} {a0 : Array Value} (hw : ∀ d ∈ tables_1, d.before a0 Z = true) (N : Nat) : Blk l Z "DeltaCausalMap" prog_1_method_4_code 3 (some .int) false ({ frames := 6, cells := 0, slots := 0, locals := 112 } : Room) AC nC zC (cC false) (sC asT false) (HC Z "DeltaCausalMap" fsT asT 23 false) [0, 0, 0] 1 46 (0, 46, m_disable_0_P (m_disable N)) :=
  blk_of_den (jl := []) (lst := m_disable_c) (m_disable_hop l hw N) (Or.inr (Or.inl ⟨rfl, rfl⟩)) rfl (by decide) (by decide) m_disable_cOk fn (fun L st S r ok h => by unfold m_disable_0_P at h; split at h; exact h; cases h)
def m_disable_F (N : Nat) : List AV → St → RS St := fun av S => match av with
  | [.inr (.inr (some 0)), .inl x1, .inl x2] => m_disable N x1 x2 S
  | _ => none
theorem m_disable_P0 (f : Int → Int → St → RS St) (x1 : Int) (x2 : Int) (S : St) : m_disable_0_P f (entryL [.inr (.inr (some 0)), .inl x1, .inl x2] 3) [] S = f x1 x2 S := rfl
set_option maxRecDepth 65536 in
set_option maxHeartbeats 4000000 in
theorem m_disable_con (l : Launch) {Z : State} {a0 : Array Value} (hw : ∀ d ∈ tables_1, d.before a0 Z = true) (N : Nat) : Con l Z "DeltaCausalMap" fsT asT 23 (⟨"DeltaCausalMap", "disable", "(II)I"⟩ : MethodName) prog_1_method_4_code 3 (some .int) ({ frames := 6, cells := 0, slots := 0, locals := 112 } : Room) 1 (m_disable_F N) :=
  con_of (m_disable_0_ok l hw N) pnC rfl (fun av S r h oks => by unfold m_disable_F at h; split at h; exact ⟨(m_disable_P0 _ _ _ _).trans h, okL_entry rfl oks rfl⟩; cases h)
set_option maxRecDepth 65536 in
theorem m_disable_virL (l : Launch) {Z : State} {a0 : Array Value} (hw : ∀ d ∈ tables_1, d.before a0 Z = true) (N : Nat) (W : Nat) (R : Room) (h1 : 7 ≤ R.frames) (h2 : W + 126 ≤ R.locals) : VirL l Z a0 "DeltaCausalMapL6" "DeltaCausalMap" fsT asT 23 W R (37, 2, 1, m_disable_F N) :=
  ⟨(⟨"DeltaCausalMap", "disable", "(II)I"⟩ : MethodName), prog_1_method_4_code, 3, (some .int), ({ frames := 6, cells := 0, slots := 0, locals := 112 } : Room), [.int, .int], rfl, (hw _ (List.mem_of_getElem? (i := 178) rfl)), (hw _ (List.mem_of_getElem? (i := 180) rfl)), ⟨(hw _ (List.mem_of_getElem? (i := 179) rfl)), (hw _ (List.mem_of_getElem? (i := 181) rfl))⟩, (hw _ (List.mem_of_getElem? (i := 182) rfl)), by decide +kernel, rfl, rfl, rfl, h1, by dsimp only; omega, m_disable_con l hw N⟩
/-! ## DeltaCausalMap.occupied:(I)Z -/
set_option maxRecDepth 65536 in
set_option maxHeartbeats 4000000 in
theorem m_occupied_hop (l : Launch) {Z : State} {a0 : Array Value} (hw : ∀ d ∈ tables_1, d.before a0 Z = true) (N : Nat) : HopAll l Z "DeltaCausalMap" prog_1_method_33_code 2 (some .boolean) false ({ frames := 1, cells := 0, slots := 0, locals := 13 } : Room) AC nC zC (cC false) (sC asT false) (HC Z "DeltaCausalMap" fsT asT 23 false) (hopC fsT asT 23 0 false 1 cIT cJT [(190, 1, 3, m_validSlot_F N)] []) :=
  hopC_all (clsT hw) mhC (hw _ (List.mem_of_getElem? (i := 2) rfl)) (fun h => nomatch h) (cIT_ok hw) (cJT_ok hw) (fc (m_validSlot_vir l hw N _ _ (by decide) (by decide)) fn) fn (by decide) (by decide)
def m_occupied (N : Nat) (x1 : Int) (S : St) : RS St :=
  ((m_validSlot N x1 S).bind fun r1 =>
  (if r1.1 = 0 then
    some (0, r1.2)
  else
    (if 0 ≤ x1 ∧ x1 < 12 then
    (if r1.2 17 x1 = 0 then
      some (0, r1.2)
    else
      some (1, r1.2))
    else none)))
def m_occupied_0_P (f : Int → St → RS St) : Jn St := fun L st S => match L, st with
  | [some (some (.inr (.inr (some 0)))), some (some (.inl x1))], [] => f x1 S
  | _, _ => none
def m_occupied_c : List Ent := [(0, .aload_n 0, 1, []), (1, .iload_n 1, 1, []), (2, .invokevirtual 190, 3, []), (5, .ifCond .eq 16, 3, [21]), (8, .aload_n 0, 1, []), (9, .getfield 59, 3, []), (12, .iload_n 1, 1, []), (13, .iaload, 1, []), (14, .ifCond .eq 7, 3, [21]), (17, .iconst 1, 1, []), (18, .goto 4, 3, [22]), (21, .iconst 0, 1, []), (22, .ireturn, 1, [])]
set_option maxRecDepth 65536 in
theorem m_occupied_cOk : codeOk prog_1_method_33_code m_occupied_c = true := by decide +kernel
set_option maxRecDepth 65536 in
set_option maxHeartbeats 4000000 in
theorem m_occupied_0_ok (l : Launch) {Z : State} {a0 : Array Value} (hw : ∀ d ∈ tables_1, d.before a0 Z = true) (N : Nat) : Blk l Z "DeltaCausalMap" prog_1_method_33_code 2 (some .boolean) false ({ frames := 1, cells := 0, slots := 0, locals := 13 } : Room) AC nC zC (cC false) (sC asT false) (HC Z "DeltaCausalMap" fsT asT 23 false) [0, 0] 3 46 (0, 46, m_occupied_0_P (m_occupied N)) :=
  blk_of_den (jl := []) (lst := m_occupied_c) (m_occupied_hop l hw N) (Or.inr (Or.inr (Or.inr ⟨rfl, rfl⟩))) rfl (by decide) (by decide) m_occupied_cOk fn (fun L st S r ok h => by unfold m_occupied_0_P at h; split at h; exact h; cases h)
def m_occupied_F (N : Nat) : List AV → St → RS St := fun av S => match av with
  | [.inr (.inr (some 0)), .inl x1] => m_occupied N x1 S
  | _ => none
theorem m_occupied_P0 (f : Int → St → RS St) (x1 : Int) (S : St) : m_occupied_0_P f (entryL [.inr (.inr (some 0)), .inl x1] 2) [] S = f x1 S := rfl
set_option maxRecDepth 65536 in
set_option maxHeartbeats 4000000 in
theorem m_occupied_con (l : Launch) {Z : State} {a0 : Array Value} (hw : ∀ d ∈ tables_1, d.before a0 Z = true) (N : Nat) : Con l Z "DeltaCausalMap" fsT asT 23 (⟨"DeltaCausalMap", "occupied", "(I)Z"⟩ : MethodName) prog_1_method_33_code 2 (some .boolean) ({ frames := 1, cells := 0, slots := 0, locals := 13 } : Room) 3 (m_occupied_F N) :=
  con_of (m_occupied_0_ok l hw N) pnC rfl (fun av S r h oks => by unfold m_occupied_F at h; split at h; exact ⟨(m_occupied_P0 _ _ _).trans h, okL_entry rfl oks rfl⟩; cases h)
set_option maxRecDepth 65536 in
theorem m_occupied_vir (l : Launch) {Z : State} {a0 : Array Value} (hw : ∀ d ∈ tables_1, d.before a0 Z = true) (N : Nat) (W : Nat) (R : Room) (h1 : 2 ≤ R.frames) (h2 : W + 26 ≤ R.locals) : VirOk l Z a0 "DeltaCausalMap" fsT asT 23 W R (174, 1, 3, m_occupied_F N) :=
  ⟨(⟨"DeltaCausalMap", "occupied", "(I)Z"⟩ : MethodName), prog_1_method_33_code, 2, (some .boolean), ({ frames := 1, cells := 0, slots := 0, locals := 13 } : Room), [.int], rfl, (hw _ (List.mem_of_getElem? (i := 189) rfl)), (hw _ (List.mem_of_getElem? (i := 190) rfl)), Or.inl (hw _ (List.mem_of_getElem? (i := 191) rfl)), (hw _ (List.mem_of_getElem? (i := 192) rfl)), by decide +kernel, rfl, rfl, rfl, h1, by dsimp only; omega, m_occupied_con l hw N⟩
/-! ## DeltaCausalMap.setHeader:(IIIIII)V -/
set_option maxRecDepth 65536 in
set_option maxHeartbeats 4000000 in
theorem m_setHeader_hop (l : Launch) {Z : State} {a0 : Array Value} (hw : ∀ d ∈ tables_1, d.before a0 Z = true) (N : Nat) : HopAll l Z "DeltaCausalMap" prog_1_method_29_code 7 none false ({ frames := 0, cells := 0, slots := 0, locals := 0 } : Room) AC nC zC (cC false) (sC asT false) (HC Z "DeltaCausalMap" fsT asT 23 false) (hopC fsT asT 23 0 false 1 cIT cJT [] []) :=
  hopC_all (clsT hw) mhC (hw _ (List.mem_of_getElem? (i := 2) rfl)) (fun h => nomatch h) (cIT_ok hw) (cJT_ok hw) fn fn (by decide) (by decide)
def m_setHeader (N : Nat) (x1 : Int) (x2 : Int) (x3 : Int) (x4 : Int) (x5 : Int) (x6 : Int) (S : St) : RS St :=
  (if 0 ≤ x1 ∧ x1 < 12 then
  (if 0 ≤ x1 ∧ x1 < 12 then
  (if 0 ≤ x1 ∧ x1 < 12 then
  (if 0 ≤ x1 ∧ x1 < 12 then
  (if 0 ≤ x1 ∧ x1 < 12 then
  some (0, stw (stw (stw (stw (stw S 17 x1 x2) 18 x1 x3) 19 x1 x4) 20 x1 x5) 21 x1 x6)
  else none)
  else none)
  else none)
  else none)
  else none)
def m_setHeader_0_P (f : Int → Int → Int → Int → Int → Int → St → RS St) : Jn St := fun L st S => match L, st with
  | [some (some (.inr (.inr (some 0)))), some (some (.inl x1)), some (some (.inl x2)), some (some (.inl x3)), some (some (.inl x4)), some (some (.inl x5)), some (some (.inl x6))], [] => f x1 x2 x3 x4 x5 x6 S
  | _, _ => none
def m_setHeader_c : List Ent := [(0, .aload_n 0, 1, []), (1, .getfield 59, 3, []), (4, .iload_n 1, 1, []), (5, .iload_n 2, 1, []), (6, .iastore, 1, []), (7, .aload_n 0, 1, []), (8, .getfield 62, 3, []), (11, .iload_n 1, 1, []), (12, .iload_n 3, 1, []), (13, .iastore, 1, []), (14, .aload_n 0, 1, []), (15, .getfield 65, 3, []), (18, .iload_n 1, 1, []), (19, .iload 4, 2, []), (21, .iastore, 1, []), (22, .aload_n 0, 1, []), (23, .getfield 68, 3, []), (26, .iload_n 1, 1, []), (27, .iload 5, 2, []), (29, .iastore, 1, []), (30, .aload_n 0, 1, []), (31, .getfield 71, 3, []), (34, .iload_n 1, 1, []), (35, .iload 6, 2, []), (37, .iastore, 1, []), (38, .return_, 1, [])]
set_option maxRecDepth 65536 in
theorem m_setHeader_cOk : codeOk prog_1_method_29_code m_setHeader_c = true := by decide +kernel
set_option maxRecDepth 65536 in
set_option maxHeartbeats 4000000 in
theorem m_setHeader_0_ok (l : Launch) {Z : State} {a0 : Array Value} (hw : ∀ d ∈ tables_1, d.before a0 Z = true) (N : Nat) : Blk l Z "DeltaCausalMap" prog_1_method_29_code 7 none false ({ frames := 0, cells := 0, slots := 0, locals := 0 } : Room) AC nC zC (cC false) (sC asT false) (HC Z "DeltaCausalMap" fsT asT 23 false) [0, 0, 0, 0, 0, 0, 0] 0 46 (0, 46, m_setHeader_0_P (m_setHeader N)) :=
  blk_of_den (jl := []) (lst := m_setHeader_c) (m_setHeader_hop l hw N) (Or.inl ⟨rfl, rfl⟩) rfl (by decide) (by decide) m_setHeader_cOk fn (fun L st S r ok h => by unfold m_setHeader_0_P at h; split at h; exact h; cases h)
def m_setHeader_F (N : Nat) : List AV → St → RS St := fun av S => match av with
  | [.inr (.inr (some 0)), .inl x1, .inl x2, .inl x3, .inl x4, .inl x5, .inl x6] => m_setHeader N x1 x2 x3 x4 x5 x6 S
  | _ => none
theorem m_setHeader_P0 (f : Int → Int → Int → Int → Int → Int → St → RS St) (x1 : Int) (x2 : Int) (x3 : Int) (x4 : Int) (x5 : Int) (x6 : Int) (S : St) : m_setHeader_0_P f (entryL [.inr (.inr (some 0)), .inl x1, .inl x2, .inl x3, .inl x4, .inl x5, .inl x6] 7) [] S = f x1 x2 x3 x4 x5 x6 S := rfl
set_option maxRecDepth 65536 in
set_option maxHeartbeats 4000000 in
theorem m_setHeader_con (l : Launch) {Z : State} {a0 : Array Value} (hw : ∀ d ∈ tables_1, d.before a0 Z = true) (N : Nat) : Con l Z "DeltaCausalMap" fsT asT 23 (⟨"DeltaCausalMap", "setHeader", "(IIIIII)V"⟩ : MethodName) prog_1_method_29_code 7 none ({ frames := 0, cells := 0, slots := 0, locals := 0 } : Room) 0 (m_setHeader_F N) :=
  con_of (m_setHeader_0_ok l hw N) pnC rfl (fun av S r h oks => by unfold m_setHeader_F at h; split at h; exact ⟨(m_setHeader_P0 _ _ _ _ _ _ _ _).trans h, okL_entry rfl oks rfl⟩; cases h)
set_option maxRecDepth 65536 in
theorem m_setHeader_vir (l : Launch) {Z : State} {a0 : Array Value} (hw : ∀ d ∈ tables_1, d.before a0 Z = true) (N : Nat) (W : Nat) (R : Room) (h1 : 1 ≤ R.frames) (h2 : W + 18 ≤ R.locals) : VirOk l Z a0 "DeltaCausalMap" fsT asT 23 W R (166, 6, 0, m_setHeader_F N) :=
  ⟨(⟨"DeltaCausalMap", "setHeader", "(IIIIII)V"⟩ : MethodName), prog_1_method_29_code, 7, none, ({ frames := 0, cells := 0, slots := 0, locals := 0 } : Room), [.int, .int, .int, .int, .int, .int], rfl, (hw _ (List.mem_of_getElem? (i := 216) rfl)), (hw _ (List.mem_of_getElem? (i := 217) rfl)), Or.inl (hw _ (List.mem_of_getElem? (i := 218) rfl)), (hw _ (List.mem_of_getElem? (i := 219) rfl)), by decide +kernel, rfl, rfl, rfl, h1, by dsimp only; omega, m_setHeader_con l hw N⟩
/-! ## DeltaCausalMap.setPayload:(IJJ)V -/
set_option maxRecDepth 65536 in
set_option maxHeartbeats 4000000 in
theorem m_setPayload_hop (l : Launch) {Z : State} {a0 : Array Value} (hw : ∀ d ∈ tables_1, d.before a0 Z = true) (N : Nat) : HopAll l Z "DeltaCausalMap" prog_1_method_30_code 6 none false ({ frames := 0, cells := 0, slots := 0, locals := 0 } : Room) AC nC zC (cC false) (sC asT false) (HC Z "DeltaCausalMap" fsT asT 23 false) (hopC fsT asT 23 0 false 1 cIT cJT [] []) :=
  hopC_all (clsT hw) mhC (hw _ (List.mem_of_getElem? (i := 2) rfl)) (fun h => nomatch h) (cIT_ok hw) (cJT_ok hw) fn fn (by decide) (by decide)
def m_setPayload (N : Nat) (x1 : Int) (x2 : Int) (x4 : Int) (S : St) : RS St :=
  (if 0 ≤ x1 ∧ x1 < 12 then
  (if 0 ≤ x1 ∧ x1 < 12 then
  some (0, stw (stw S 22 x1 x2) 23 x1 x4)
  else none)
  else none)
def m_setPayload_0_P (f : Int → Int → Int → St → RS St) : Jn St := fun L st S => match L, st with
  | [some (some (.inr (.inr (some 0)))), some (some (.inl x1)), some (some (.inr (.inl x2))), _, some (some (.inr (.inl x4))), _], [] => f x1 x2 x4 S
  | _, _ => none
def m_setPayload_c : List Ent := [(0, .aload_n 0, 1, []), (1, .getfield 74, 3, []), (4, .iload_n 1, 1, []), (5, .lload_n 2, 1, []), (6, .lastore, 1, []), (7, .aload_n 0, 1, []), (8, .getfield 77, 3, []), (11, .iload_n 1, 1, []), (12, .lload 4, 2, []), (14, .lastore, 1, []), (15, .return_, 1, [])]
set_option maxRecDepth 65536 in
theorem m_setPayload_cOk : codeOk prog_1_method_30_code m_setPayload_c = true := by decide +kernel
set_option maxRecDepth 65536 in
set_option maxHeartbeats 4000000 in
theorem m_setPayload_0_ok (l : Launch) {Z : State} {a0 : Array Value} (hw : ∀ d ∈ tables_1, d.before a0 Z = true) (N : Nat) : Blk l Z "DeltaCausalMap" prog_1_method_30_code 6 none false ({ frames := 0, cells := 0, slots := 0, locals := 0 } : Room) AC nC zC (cC false) (sC asT false) (HC Z "DeltaCausalMap" fsT asT 23 false) [0, 0, 1, 2, 1, 2] 0 46 (0, 46, m_setPayload_0_P (m_setPayload N)) :=
  blk_of_den (jl := []) (lst := m_setPayload_c) (m_setPayload_hop l hw N) (Or.inl ⟨rfl, rfl⟩) rfl (by decide) (by decide) m_setPayload_cOk fn (fun L st S r ok h => by unfold m_setPayload_0_P at h; split at h; exact h; cases h)
def m_setPayload_F (N : Nat) : List AV → St → RS St := fun av S => match av with
  | [.inr (.inr (some 0)), .inl x1, .inr (.inl x2), .inr (.inl x4)] => m_setPayload N x1 x2 x4 S
  | _ => none
theorem m_setPayload_P0 (f : Int → Int → Int → St → RS St) (x1 : Int) (x2 : Int) (x4 : Int) (S : St) : m_setPayload_0_P f (entryL [.inr (.inr (some 0)), .inl x1, .inr (.inl x2), .inr (.inl x4)] 6) [] S = f x1 x2 x4 S := rfl
set_option maxRecDepth 65536 in
set_option maxHeartbeats 4000000 in
theorem m_setPayload_con (l : Launch) {Z : State} {a0 : Array Value} (hw : ∀ d ∈ tables_1, d.before a0 Z = true) (N : Nat) : Con l Z "DeltaCausalMap" fsT asT 23 (⟨"DeltaCausalMap", "setPayload", "(IJJ)V"⟩ : MethodName) prog_1_method_30_code 6 none ({ frames := 0, cells := 0, slots := 0, locals := 0 } : Room) 0 (m_setPayload_F N) :=
  con_of (m_setPayload_0_ok l hw N) pnC rfl (fun av S r h oks => by unfold m_setPayload_F at h; split at h; exact ⟨(m_setPayload_P0 _ _ _ _ _).trans h, okL_entry rfl oks rfl⟩; cases h)
set_option maxRecDepth 65536 in
theorem m_setPayload_vir (l : Launch) {Z : State} {a0 : Array Value} (hw : ∀ d ∈ tables_1, d.before a0 Z = true) (N : Nat) (W : Nat) (R : Room) (h1 : 1 ≤ R.frames) (h2 : W + 17 ≤ R.locals) : VirOk l Z a0 "DeltaCausalMap" fsT asT 23 W R (170, 3, 0, m_setPayload_F N) :=
  ⟨(⟨"DeltaCausalMap", "setPayload", "(IJJ)V"⟩ : MethodName), prog_1_method_30_code, 6, none, ({ frames := 0, cells := 0, slots := 0, locals := 0 } : Room), [.int, .long, .long], rfl, (hw _ (List.mem_of_getElem? (i := 220) rfl)), (hw _ (List.mem_of_getElem? (i := 221) rfl)), Or.inl (hw _ (List.mem_of_getElem? (i := 222) rfl)), (hw _ (List.mem_of_getElem? (i := 223) rfl)), by decide +kernel, rfl, rfl, rfl, h1, by dsimp only; omega, m_setPayload_con l hw N⟩
/-! ## DeltaCausalMap.clearSlot:(I)V -/
set_option maxRecDepth 65536 in
set_option maxHeartbeats 4000000 in
theorem m_clearSlot_hop (l : Launch) {Z : State} {a0 : Array Value} (hw : ∀ d ∈ tables_1, d.before a0 Z = true) (N : Nat) : HopAll l Z "DeltaCausalMap" prog_1_method_31_code 2 none false ({ frames := 1, cells := 0, slots := 0, locals := 18 } : Room) AC nC zC (cC false) (sC asT false) (HC Z "DeltaCausalMap" fsT asT 23 false) (hopC fsT asT 23 0 false 1 cIT cJT [(166, 6, 0, m_setHeader_F N), (170, 3, 0, m_setPayload_F N)] []) :=
  hopC_all (clsT hw) mhC (hw _ (List.mem_of_getElem? (i := 2) rfl)) (fun h => nomatch h) (cIT_ok hw) (cJT_ok hw) (fc (m_setHeader_vir l hw N _ _ (by decide) (by decide)) (fc (m_setPayload_vir l hw N _ _ (by decide) (by decide)) fn)) fn (by decide) (by decide)
def m_clearSlot (N : Nat) (x1 : Int) (S : St) : RS St :=
  ((m_setHeader N x1 0 0 0 0 0 S).bind fun r1 =>
  ((m_setPayload N x1 0 0 r1.2).bind fun r2 =>
  some (0, r2.2)))
def m_clearSlot_0_P (f : Int → St → RS St) : Jn St := fun L st S => match L, st with
  | [some (some (.inr (.inr (some 0)))), some (some (.inl x1))], [] => f x1 S
  | _, _ => none
def m_clearSlot_c : List Ent := [(0, .aload_n 0, 1, []), (1, .iload_n 1, 1, []), (2, .iconst 0, 1, []), (3, .iconst 0, 1, []), (4, .iconst 0, 1, []), (5, .iconst 0, 1, []), (6, .iconst 0, 1, []), (7, .invokevirtual 166, 3, []), (10, .aload_n 0, 1, []), (11, .iload_n 1, 1, []), (12, .lconst 0, 1, []), (13, .lconst 0, 1, []), (14, .invokevirtual 170, 3, []), (17, .return_, 1, [])]
set_option maxRecDepth 65536 in
theorem m_clearSlot_cOk : codeOk prog_1_method_31_code m_clearSlot_c = true := by decide +kernel
set_option maxRecDepth 65536 in
set_option maxHeartbeats 4000000 in
theorem m_clearSlot_0_ok (l : Launch) {Z : State} {a0 : Array Value} (hw : ∀ d ∈ tables_1, d.before a0 Z = true) (N : Nat) : Blk l Z "DeltaCausalMap" prog_1_method_31_code 2 none false ({ frames := 1, cells := 0, slots := 0, locals := 18 } : Room) AC nC zC (cC false) (sC asT false) (HC Z "DeltaCausalMap" fsT asT 23 false) [0, 0] 0 46 (0, 46, m_clearSlot_0_P (m_clearSlot N)) :=
  blk_of_den (jl := []) (lst := m_clearSlot_c) (m_clearSlot_hop l hw N) (Or.inl ⟨rfl, rfl⟩) rfl (by decide) (by decide) m_clearSlot_cOk fn (fun L st S r ok h => by unfold m_clearSlot_0_P at h; split at h; exact h; cases h)
def m_clearSlot_F (N : Nat) : List AV → St → RS St := fun av S => match av with
  | [.inr (.inr (some 0)), .inl x1] => m_clearSlot N x1 S
  | _ => none
theorem m_clearSlot_P0 (f : Int → St → RS St) (x1 : Int) (S : St) : m_clearSlot_0_P f (entryL [.inr (.inr (some 0)), .inl x1] 2) [] S = f x1 S := rfl
set_option maxRecDepth 65536 in
set_option maxHeartbeats 4000000 in
theorem m_clearSlot_con (l : Launch) {Z : State} {a0 : Array Value} (hw : ∀ d ∈ tables_1, d.before a0 Z = true) (N : Nat) : Con l Z "DeltaCausalMap" fsT asT 23 (⟨"DeltaCausalMap", "clearSlot", "(I)V"⟩ : MethodName) prog_1_method_31_code 2 none ({ frames := 1, cells := 0, slots := 0, locals := 18 } : Room) 0 (m_clearSlot_F N) :=
  con_of (m_clearSlot_0_ok l hw N) pnC rfl (fun av S r h oks => by unfold m_clearSlot_F at h; split at h; exact ⟨(m_clearSlot_P0 _ _ _).trans h, okL_entry rfl oks rfl⟩; cases h)
set_option maxRecDepth 65536 in
theorem m_clearSlot_vir (l : Launch) {Z : State} {a0 : Array Value} (hw : ∀ d ∈ tables_1, d.before a0 Z = true) (N : Nat) (W : Nat) (R : Room) (h1 : 2 ≤ R.frames) (h2 : W + 31 ≤ R.locals) : VirOk l Z a0 "DeltaCausalMap" fsT asT 23 W R (183, 1, 0, m_clearSlot_F N) :=
  ⟨(⟨"DeltaCausalMap", "clearSlot", "(I)V"⟩ : MethodName), prog_1_method_31_code, 2, none, ({ frames := 1, cells := 0, slots := 0, locals := 18 } : Room), [.int], rfl, (hw _ (List.mem_of_getElem? (i := 228) rfl)), (hw _ (List.mem_of_getElem? (i := 229) rfl)), Or.inl (hw _ (List.mem_of_getElem? (i := 230) rfl)), (hw _ (List.mem_of_getElem? (i := 231) rfl)), by decide +kernel, rfl, rfl, rfl, h1, by dsimp only; omega, m_clearSlot_con l hw N⟩
/-! ## DeltaCausalMap.drop:(I)Z -/
set_option maxRecDepth 65536 in
set_option maxHeartbeats 4000000 in
theorem m_drop_hop (l : Launch) {Z : State} {a0 : Array Value} (hw : ∀ d ∈ tables_1, d.before a0 Z = true) (N : Nat) : HopAll l Z "DeltaCausalMap" prog_1_method_27_code 2 (some .boolean) false ({ frames := 2, cells := 0, slots := 0, locals := 31 } : Room) AC nC zC (cC false) (sC asT false) (HC Z "DeltaCausalMap" fsT asT 23 false) (hopC fsT asT 23 0 false 1 cIT cJT [(174, 1, 3, m_occupied_F N), (183, 1, 0, m_clearSlot_F N)] []) :=
  hopC_all (clsT hw) mhC (hw _ (List.mem_of_getElem? (i := 2) rfl)) (fun h => nomatch h) (cIT_ok hw) (cJT_ok hw) (fc (m_occupied_vir l hw N _ _ (by decide) (by decide)) (fc (m_clearSlot_vir l hw N _ _ (by decide) (by decide)) fn)) fn (by decide) (by decide)
def m_drop (N : Nat) (x1 : Int) (S : St) : RS St :=
  ((m_occupied N x1 S).bind fun r1 =>
  (if r1.1 = 0 then
    some (0, r1.2)
  else
    ((m_clearSlot N x1 r1.2).bind fun r2 =>
    some (1, r2.2))))
def m_drop_0_P (f : Int → St → RS St) : Jn St := fun L st S => match L, st with
  | [some (some (.inr (.inr (some 0)))), some (some (.inl x1))], [] => f x1 S
  | _, _ => none
def m_drop_c : List Ent := [(0, .aload_n 0, 1, []), (1, .iload_n 1, 1, []), (2, .invokevirtual 174, 3, []), (5, .ifCond .ne 5, 3, [10]), (8, .iconst 0, 1, []), (9, .ireturn, 1, []), (10, .aload_n 0, 1, []), (11, .iload_n 1, 1, []), (12, .invokevirtual 183, 3, []), (15, .iconst 1, 1, []), (16, .ireturn, 1, [])]
set_option maxRecDepth 65536 in
theorem m_drop_cOk : codeOk prog_1_method_27_code m_drop_c = true := by decide +kernel
set_option maxRecDepth 65536 in
set_option maxHeartbeats 4000000 in
theorem m_drop_0_ok (l : Launch) {Z : State} {a0 : Array Value} (hw : ∀ d ∈ tables_1, d.before a0 Z = true) (N : Nat) : Blk l Z "DeltaCausalMap" prog_1_method_27_code 2 (some .boolean) false ({ frames := 2, cells := 0, slots := 0, locals := 31 } : Room) AC nC zC (cC false) (sC asT false) (HC Z "DeltaCausalMap" fsT asT 23 false) [0, 0] 3 46 (0, 46, m_drop_0_P (m_drop N)) :=
  blk_of_den (jl := []) (lst := m_drop_c) (m_drop_hop l hw N) (Or.inr (Or.inr (Or.inr ⟨rfl, rfl⟩))) rfl (by decide) (by decide) m_drop_cOk fn (fun L st S r ok h => by unfold m_drop_0_P at h; split at h; exact h; cases h)
def m_drop_F (N : Nat) : List AV → St → RS St := fun av S => match av with
  | [.inr (.inr (some 0)), .inl x1] => m_drop N x1 S
  | _ => none
theorem m_drop_P0 (f : Int → St → RS St) (x1 : Int) (S : St) : m_drop_0_P f (entryL [.inr (.inr (some 0)), .inl x1] 2) [] S = f x1 S := rfl
set_option maxRecDepth 65536 in
set_option maxHeartbeats 4000000 in
theorem m_drop_con (l : Launch) {Z : State} {a0 : Array Value} (hw : ∀ d ∈ tables_1, d.before a0 Z = true) (N : Nat) : Con l Z "DeltaCausalMap" fsT asT 23 (⟨"DeltaCausalMap", "drop", "(I)Z"⟩ : MethodName) prog_1_method_27_code 2 (some .boolean) ({ frames := 2, cells := 0, slots := 0, locals := 31 } : Room) 3 (m_drop_F N) :=
  con_of (m_drop_0_ok l hw N) pnC rfl (fun av S r h oks => by unfold m_drop_F at h; split at h; exact ⟨(m_drop_P0 _ _ _).trans h, okL_entry rfl oks rfl⟩; cases h)
set_option maxRecDepth 65536 in
theorem m_drop_virL (l : Launch) {Z : State} {a0 : Array Value} (hw : ∀ d ∈ tables_1, d.before a0 Z = true) (N : Nat) (W : Nat) (R : Room) (h1 : 3 ≤ R.frames) (h2 : W + 44 ≤ R.locals) : VirL l Z a0 "DeltaCausalMapL6" "DeltaCausalMap" fsT asT 23 W R (50, 1, 3, m_drop_F N) :=
  ⟨(⟨"DeltaCausalMap", "drop", "(I)Z"⟩ : MethodName), prog_1_method_27_code, 2, (some .boolean), ({ frames := 2, cells := 0, slots := 0, locals := 31 } : Room), [.int], rfl, (hw _ (List.mem_of_getElem? (i := 184) rfl)), (hw _ (List.mem_of_getElem? (i := 186) rfl)), ⟨(hw _ (List.mem_of_getElem? (i := 185) rfl)), (hw _ (List.mem_of_getElem? (i := 187) rfl))⟩, (hw _ (List.mem_of_getElem? (i := 188) rfl)), by decide +kernel, rfl, rfl, rfl, h1, by dsimp only; omega, m_drop_con l hw N⟩
/-! ## DeltaCausalMap.freeSlot:()I -/
set_option maxRecDepth 65536 in
set_option maxHeartbeats 4000000 in
theorem m_freeSlot_hop (l : Launch) {Z : State} {a0 : Array Value} (hw : ∀ d ∈ tables_1, d.before a0 Z = true) (N : Nat) : HopAll l Z "DeltaCausalMap" prog_1_method_32_code 2 (some .int) false ({ frames := 0, cells := 0, slots := 0, locals := 0 } : Room) AC nC zC (cC false) (sC asT false) (HC Z "DeltaCausalMap" fsT asT 23 false) (hopC fsT asT 23 0 false 1 cIT cJT [] []) :=
  hopC_all (clsT hw) mhC (hw _ (List.mem_of_getElem? (i := 2) rfl)) (fun h => nomatch h) (cIT_ok hw) (cJT_ok hw) fn fn (by decide) (by decide)
def m_freeSlot_2 (N : Nat) : Nat → Int → St → RS St
  | 0, _, _ => none
  | n + 1, x1, S =>
    (if x1 < S 0 24 then
      (if 0 ≤ x1 ∧ x1 < 12 then
      (if S 17 x1 = 0 then
        some (x1, S)
      else
        m_freeSlot_2 N n (w32 (x1 + 1)) S)
      else none)
    else
      some ((-1), S))
def m_freeSlot_2_P (f : Int → St → RS St) : Jn St := fun L st S => match L, st with
  | [some (some (.inr (.inr (some 0)))), some (some (.inl x1))], [] => f x1 S
  | _, _ => none
def m_freeSlot (N : Nat) (S : St) : RS St :=
  m_freeSlot_2 N N 0 S
def m_freeSlot_0_P (f : St → RS St) : Jn St := fun L st S => match L, st with
  | [some (some (.inr (.inr (some 0)))), _], [] => f S
  | _, _ => none
def m_freeSlot_c : List Ent := [(0, .iconst 0, 1, []), (1, .istore_n 1, 1, []), (2, .iload_n 1, 1, []), (3, .aload_n 0, 1, []), (4, .getfield 88, 3, []), (7, .if_icmp .ge 20, 3, [27]), (10, .aload_n 0, 1, []), (11, .getfield 59, 3, []), (14, .iload_n 1, 1, []), (15, .iaload, 1, []), (16, .ifCond .ne 5, 3, [21]), (19, .iload_n 1, 1, []), (20, .ireturn, 1, []), (21, .iinc 1 1, 3, []), (24, .goto (-22), 3, [2]), (27, .iconst (-1), 1, []), (28, .ireturn, 1, [])]
set_option maxRecDepth 65536 in
theorem m_freeSlot_cOk : codeOk prog_1_method_32_code m_freeSlot_c = true := by decide +kernel
set_option maxRecDepth 65536 in
set_option maxHeartbeats 4000000 in
theorem m_freeSlot_2_ok (l : Launch) {Z : State} {a0 : Array Value} (hw : ∀ d ∈ tables_1, d.before a0 Z = true) (N : Nat) : ∀ n, Blk l Z "DeltaCausalMap" prog_1_method_32_code 2 (some .int) false ({ frames := 0, cells := 0, slots := 0, locals := 0 } : Room) AC nC zC (cC false) (sC asT false) (HC Z "DeltaCausalMap" fsT asT 23 false) [0, 0] 1 46 (2, 46, m_freeSlot_2_P (m_freeSlot_2 N n))
  | 0 => blk_none (fun L st S => by unfold m_freeSlot_2_P; split <;> rfl)
  | n + 1 => have ih := m_freeSlot_2_ok l hw N n
    blk_of_den (jl := [(2, 46, m_freeSlot_2_P (m_freeSlot_2 N n))]) (lst := m_freeSlot_c) (m_freeSlot_hop l hw N) (Or.inr (Or.inl ⟨rfl, rfl⟩)) rfl (by decide) (by decide) m_freeSlot_cOk (fc ih fn) (fun L st S r ok h => by unfold m_freeSlot_2_P at h; split at h; exact h; cases h)
set_option maxRecDepth 65536 in
set_option maxHeartbeats 4000000 in
theorem m_freeSlot_0_ok (l : Launch) {Z : State} {a0 : Array Value} (hw : ∀ d ∈ tables_1, d.before a0 Z = true) (N : Nat) : Blk l Z "DeltaCausalMap" prog_1_method_32_code 2 (some .int) false ({ frames := 0, cells := 0, slots := 0, locals := 0 } : Room) AC nC zC (cC false) (sC asT false) (HC Z "DeltaCausalMap" fsT asT 23 false) [0, 0] 1 46 (0, 46, m_freeSlot_0_P (m_freeSlot N)) :=
  blk_of_den (jl := [(2, 46, m_freeSlot_2_P (m_freeSlot_2 N N))]) (lst := m_freeSlot_c) (m_freeSlot_hop l hw N) (Or.inr (Or.inl ⟨rfl, rfl⟩)) rfl (by decide) (by decide) m_freeSlot_cOk (fc (m_freeSlot_2_ok l hw N N) fn) (fun L st S r ok h => by unfold m_freeSlot_0_P at h; split at h; exact h; cases h)
def m_freeSlot_F (N : Nat) : List AV → St → RS St := fun av S => match av with
  | [.inr (.inr (some 0))] => m_freeSlot N S
  | _ => none
theorem m_freeSlot_P0 (f : St → RS St) (S : St) : m_freeSlot_0_P f (entryL [.inr (.inr (some 0))] 2) [] S = f S := rfl
set_option maxRecDepth 65536 in
set_option maxHeartbeats 4000000 in
theorem m_freeSlot_con (l : Launch) {Z : State} {a0 : Array Value} (hw : ∀ d ∈ tables_1, d.before a0 Z = true) (N : Nat) : Con l Z "DeltaCausalMap" fsT asT 23 (⟨"DeltaCausalMap", "freeSlot", "()I"⟩ : MethodName) prog_1_method_32_code 2 (some .int) ({ frames := 0, cells := 0, slots := 0, locals := 0 } : Room) 1 (m_freeSlot_F N) :=
  con_of (m_freeSlot_0_ok l hw N) pnC rfl (fun av S r h oks => by unfold m_freeSlot_F at h; split at h; exact ⟨(m_freeSlot_P0 _ _).trans h, okL_entry rfl oks rfl⟩; cases h)
set_option maxRecDepth 65536 in
theorem m_freeSlot_vir (l : Launch) {Z : State} {a0 : Array Value} (hw : ∀ d ∈ tables_1, d.before a0 Z = true) (N : Nat) (W : Nat) (R : Room) (h1 : 1 ≤ R.frames) (h2 : W + 13 ≤ R.locals) : VirOk l Z a0 "DeltaCausalMap" fsT asT 23 W R (158, 0, 1, m_freeSlot_F N) :=
  ⟨(⟨"DeltaCausalMap", "freeSlot", "()I"⟩ : MethodName), prog_1_method_32_code, 2, (some .int), ({ frames := 0, cells := 0, slots := 0, locals := 0 } : Room), [], rfl, (hw _ (List.mem_of_getElem? (i := 208) rfl)), (hw _ (List.mem_of_getElem? (i := 209) rfl)), Or.inl (hw _ (List.mem_of_getElem? (i := 210) rfl)), (hw _ (List.mem_of_getElem? (i := 211) rfl)), by decide +kernel, rfl, rfl, rfl, h1, by dsimp only; omega, m_freeSlot_con l hw N⟩
/-! ## DeltaCausalMap.duplicate:(I)I -/
set_option maxRecDepth 65536 in
set_option maxHeartbeats 4000000 in
theorem m_duplicate_hop (l : Launch) {Z : State} {a0 : Array Value} (hw : ∀ d ∈ tables_1, d.before a0 Z = true) (N : Nat) : HopAll l Z "DeltaCausalMap" prog_1_method_28_code 3 (some .int) false ({ frames := 2, cells := 0, slots := 0, locals := 26 } : Room) AC nC zC (cC false) (sC asT false) (HC Z "DeltaCausalMap" fsT asT 23 false) (hopC fsT asT 23 0 false 1 cIT cJT [(174, 1, 3, m_occupied_F N), (158, 0, 1, m_freeSlot_F N), (166, 6, 0, m_setHeader_F N), (170, 3, 0, m_setPayload_F N)] []) :=
  hopC_all (clsT hw) mhC (hw _ (List.mem_of_getElem? (i := 2) rfl)) (fun h => nomatch h) (cIT_ok hw) (cJT_ok hw) (fc (m_occupied_vir l hw N _ _ (by decide) (by decide)) (fc (m_freeSlot_vir l hw N _ _ (by decide) (by decide)) (fc (m_setHeader_vir l hw N _ _ (by decide) (by decide)) (fc (m_setPayload_vir l hw N _ _ (by decide) (by decide)) fn)))) fn (by decide) (by decide)
def m_duplicate (N : Nat) (x1 : Int) (S : St) : RS St :=
  ((m_occupied N x1 S).bind fun r1 =>
  (if r1.1 = 0 then
    some ((-6), r1.2)
  else
    ((m_freeSlot N r1.2).bind fun r2 =>
    (if r2.1 < 0 then
      some ((-5), r2.2)
    else
      (if 0 ≤ x1 ∧ x1 < 12 then
      (if 0 ≤ x1 ∧ x1 < 12 then
      (if 0 ≤ x1 ∧ x1 < 12 then
      (if 0 ≤ x1 ∧ x1 < 12 then
      (if 0 ≤ x1 ∧ x1 < 12 then
      ((m_setHeader N r2.1 (r2.2 17 x1) (r2.2 18 x1) (r2.2 19 x1) (r2.2 20 x1) (r2.2 21 x1) r2.2).bind fun r3 =>
      (if 0 ≤ x1 ∧ x1 < 12 then
      (if 0 ≤ x1 ∧ x1 < 12 then
      ((m_setPayload N r2.1 (r3.2 22 x1) (r3.2 23 x1) r3.2).bind fun r4 =>
      some (r2.1, r4.2))
      else none)
      else none))
      else none)
      else none)
      else none)
      else none)
      else none)))))
def m_duplicate_0_P (f : Int → St → RS St) : Jn St := fun L st S => match L, st with
  | [some (some (.inr (.inr (some 0)))), some (some (.inl x1)), _], [] => f x1 S
  | _, _ => none
def m_duplicate_c : List Ent := [(0, .aload_n 0, 1, []), (1, .iload_n 1, 1, []), (2, .invokevirtual 174, 3, []), (5, .ifCond .ne 6, 3, [11]), (8, .bipush (-6), 2, []), (10, .ireturn, 1, []), (11, .aload_n 0, 1, []), (12, .invokevirtual 158, 3, []), (15, .istore_n 2, 1, []), (16, .iload_n 2, 1, []), (17, .ifCond .ge 6, 3, [23]), (20, .bipush (-5), 2, []), (22, .ireturn, 1, []), (23, .aload_n 0, 1, []), (24, .iload_n 2, 1, []), (25, .aload_n 0, 1, []), (26, .getfield 59, 3, []), (29, .iload_n 1, 1, []), (30, .iaload, 1, []), (31, .aload_n 0, 1, []), (32, .getfield 62, 3, []), (35, .iload_n 1, 1, []), (36, .iaload, 1, []), (37, .aload_n 0, 1, []), (38, .getfield 65, 3, []), (41, .iload_n 1, 1, []), (42, .iaload, 1, []), (43, .aload_n 0, 1, []), (44, .getfield 68, 3, []), (47, .iload_n 1, 1, []), (48, .iaload, 1, []), (49, .aload_n 0, 1, []), (50, .getfield 71, 3, []), (53, .iload_n 1, 1, []), (54, .iaload, 1, []), (55, .invokevirtual 166, 3, []), (58, .aload_n 0, 1, []), (59, .iload_n 2, 1, []), (60, .aload_n 0, 1, []), (61, .getfield 74, 3, []), (64, .iload_n 1, 1, []), (65, .laload, 1, []), (66, .aload_n 0, 1, []), (67, .getfield 77, 3, []), (70, .iload_n 1, 1, []), (71, .laload, 1, []), (72, .invokevirtual 170, 3, []), (75, .iload_n 2, 1, []), (76, .ireturn, 1, [])]
set_option maxRecDepth 65536 in
theorem m_duplicate_cOk : codeOk prog_1_method_28_code m_duplicate_c = true := by decide +kernel
set_option maxRecDepth 65536 in
set_option maxHeartbeats 4000000 in
theorem m_duplicate_0_ok (l : Launch) {Z : State} {a0 : Array Value} (hw : ∀ d ∈ tables_1, d.before a0 Z = true) (N : Nat) : Blk l Z "DeltaCausalMap" prog_1_method_28_code 3 (some .int) false ({ frames := 2, cells := 0, slots := 0, locals := 26 } : Room) AC nC zC (cC false) (sC asT false) (HC Z "DeltaCausalMap" fsT asT 23 false) [0, 0, 0] 1 46 (0, 46, m_duplicate_0_P (m_duplicate N)) :=
  blk_of_den (jl := []) (lst := m_duplicate_c) (m_duplicate_hop l hw N) (Or.inr (Or.inl ⟨rfl, rfl⟩)) rfl (by decide) (by decide) m_duplicate_cOk fn (fun L st S r ok h => by unfold m_duplicate_0_P at h; split at h; exact h; cases h)
def m_duplicate_F (N : Nat) : List AV → St → RS St := fun av S => match av with
  | [.inr (.inr (some 0)), .inl x1] => m_duplicate N x1 S
  | _ => none
theorem m_duplicate_P0 (f : Int → St → RS St) (x1 : Int) (S : St) : m_duplicate_0_P f (entryL [.inr (.inr (some 0)), .inl x1] 3) [] S = f x1 S := rfl
set_option maxRecDepth 65536 in
set_option maxHeartbeats 4000000 in
theorem m_duplicate_con (l : Launch) {Z : State} {a0 : Array Value} (hw : ∀ d ∈ tables_1, d.before a0 Z = true) (N : Nat) : Con l Z "DeltaCausalMap" fsT asT 23 (⟨"DeltaCausalMap", "duplicate", "(I)I"⟩ : MethodName) prog_1_method_28_code 3 (some .int) ({ frames := 2, cells := 0, slots := 0, locals := 26 } : Room) 1 (m_duplicate_F N) :=
  con_of (m_duplicate_0_ok l hw N) pnC rfl (fun av S r h oks => by unfold m_duplicate_F at h; split at h; exact ⟨(m_duplicate_P0 _ _ _).trans h, okL_entry rfl oks rfl⟩; cases h)
set_option maxRecDepth 65536 in
theorem m_duplicate_virL (l : Launch) {Z : State} {a0 : Array Value} (hw : ∀ d ∈ tables_1, d.before a0 Z = true) (N : Nat) (W : Nat) (R : Room) (h1 : 3 ≤ R.frames) (h2 : W + 40 ≤ R.locals) : VirL l Z a0 "DeltaCausalMapL6" "DeltaCausalMap" fsT asT 23 W R (54, 1, 1, m_duplicate_F N) :=
  ⟨(⟨"DeltaCausalMap", "duplicate", "(I)I"⟩ : MethodName), prog_1_method_28_code, 3, (some .int), ({ frames := 2, cells := 0, slots := 0, locals := 26 } : Room), [.int], rfl, (hw _ (List.mem_of_getElem? (i := 193) rfl)), (hw _ (List.mem_of_getElem? (i := 195) rfl)), ⟨(hw _ (List.mem_of_getElem? (i := 194) rfl)), (hw _ (List.mem_of_getElem? (i := 196) rfl))⟩, (hw _ (List.mem_of_getElem? (i := 197) rfl)), by decide +kernel, rfl, rfl, rfl, h1, by dsimp only; omega, m_duplicate_con l hw N⟩
/-! ## DeltaCausalMap.takeAck:(I)I -/
set_option maxRecDepth 65536 in
set_option maxHeartbeats 4000000 in
theorem m_takeAck_hop (l : Launch) {Z : State} {a0 : Array Value} (hw : ∀ d ∈ tables_1, d.before a0 Z = true) (N : Nat) : HopAll l Z "DeltaCausalMap" prog_1_method_26_code 6 (some .int) false ({ frames := 2, cells := 0, slots := 0, locals := 31 } : Room) AC nC zC (cC false) (sC asT false) (HC Z "DeltaCausalMap" fsT asT 23 false) (hopC fsT asT 23 0 false 1 cIT cJT [(183, 1, 0, m_clearSlot_F N), (123, 1, 0, m_trim_F N)] []) :=
  hopC_all (clsT hw) mhC (hw _ (List.mem_of_getElem? (i := 2) rfl)) (fun h => nomatch h) (cIT_ok hw) (cJT_ok hw) (fc (m_clearSlot_vir l hw N _ _ (by decide) (by decide)) (fc (m_trim_vir l hw N _ _ (by decide) (by decide)) fn)) fn (by decide) (by decide)
def m_takeAck_55 (N : Nat) (x3 : Int) (S : St) : RS St :=
  ((m_trim N x3 S).bind fun r1 =>
  some (3, r1.2))
def m_takeAck_55_P (f : Int → St → RS St) : Jn St := fun L st S => match L, st with
  | [some (some (.inr (.inr (some 0)))), _, _, some (some (.inl x3)), _, _], [] => f x3 S
  | _, _ => none
def m_takeAck (N : Nat) (x1 : Int) (S : St) : RS St :=
  (if 0 ≤ x1 ∧ x1 < 12 then
  (if 0 ≤ x1 ∧ x1 < 12 then
  (if 0 ≤ x1 ∧ x1 < 12 then
  ((m_clearSlot N x1 S).bind fun r1 =>
  (if 0 ≤ w32 ((w32 ((S 19 x1) * 4)) + (S 18 x1)) ∧ w32 ((w32 ((S 19 x1) * 4)) + (S 18 x1)) < 16 then
  (if r1.2 14 (w32 ((w32 ((S 19 x1) * 4)) + (S 18 x1))) < S 21 x1 then
    (if 0 ≤ w32 ((w32 ((S 19 x1) * 4)) + (S 18 x1)) ∧ w32 ((w32 ((S 19 x1) * 4)) + (S 18 x1)) < 16 then
    m_takeAck_55 N (S 19 x1) (stw r1.2 14 (w32 ((w32 ((S 19 x1) * 4)) + (S 18 x1))) (S 21 x1))
    else none)
  else
    m_takeAck_55 N (S 19 x1) r1.2)
  else none))
  else none)
  else none)
  else none)
def m_takeAck_0_P (f : Int → St → RS St) : Jn St := fun L st S => match L, st with
  | [some (some (.inr (.inr (some 0)))), some (some (.inl x1)), _, _, _, _], [] => f x1 S
  | _, _ => none
def m_takeAck_c : List Ent := [(0, .aload_n 0, 1, []), (1, .getfield 62, 3, []), (4, .iload_n 1, 1, []), (5, .iaload, 1, []), (6, .istore_n 2, 1, []), (7, .aload_n 0, 1, []), (8, .getfield 65, 3, []), (11, .iload_n 1, 1, []), (12, .iaload, 1, []), (13, .istore_n 3, 1, []), (14, .aload_n 0, 1, []), (15, .getfield 71, 3, []), (18, .iload_n 1, 1, []), (19, .iaload, 1, []), (20, .istore 4, 2, []), (22, .aload_n 0, 1, []), (23, .iload_n 1, 1, []), (24, .invokevirtual 183, 3, []), (27, .iload_n 3, 1, []), (28, .iconst 4, 1, []), (29, .imul, 1, []), (30, .iload_n 2, 1, []), (31, .iadd, 1, []), (32, .istore 5, 2, []), (34, .iload 4, 2, []), (36, .aload_n 0, 1, []), (37, .getfield 50, 3, []), (40, .iload 5, 2, []), (42, .iaload, 1, []), (43, .if_icmp .le 12, 3, [55]), (46, .aload_n 0, 1, []), (47, .getfield 50, 3, []), (50, .iload 5, 2, []), (52, .iload 4, 2, []), (54, .iastore, 1, []), (55, .aload_n 0, 1, []), (56, .iload_n 3, 1, []), (57, .invokevirtual 123, 3, []), (60, .iconst 3, 1, []), (61, .ireturn, 1, [])]
set_option maxRecDepth 65536 in
theorem m_takeAck_cOk : codeOk prog_1_method_26_code m_takeAck_c = true := by decide +kernel
set_option maxRecDepth 65536 in
set_option maxHeartbeats 4000000 in
theorem m_takeAck_55_ok (l : Launch) {Z : State} {a0 : Array Value} (hw : ∀ d ∈ tables_1, d.before a0 Z = true) (N : Nat) : Blk l Z "DeltaCausalMap" prog_1_method_26_code 6 (some .int) false ({ frames := 2, cells := 0, slots := 0, locals := 31 } : Room) AC nC zC (cC false) (sC asT false) (HC Z "DeltaCausalMap" fsT asT 23 false) [0, 0, 0, 0, 0, 0] 1 46 (55, 46, m_takeAck_55_P (m_takeAck_55 N)) :=
  blk_of_den (jl := []) (lst := m_takeAck_c) (m_takeAck_hop l hw N) (Or.inr (Or.inl ⟨rfl, rfl⟩)) rfl (by decide) (by decide) m_takeAck_cOk fn (fun L st S r ok h => by unfold m_takeAck_55_P at h; split at h; exact h; cases h)
set_option maxRecDepth 65536 in
set_option maxHeartbeats 4000000 in
theorem m_takeAck_0_ok (l : Launch) {Z : State} {a0 : Array Value} (hw : ∀ d ∈ tables_1, d.before a0 Z = true) (N : Nat) : Blk l Z "DeltaCausalMap" prog_1_method_26_code 6 (some .int) false ({ frames := 2, cells := 0, slots := 0, locals := 31 } : Room) AC nC zC (cC false) (sC asT false) (HC Z "DeltaCausalMap" fsT asT 23 false) [0, 0, 0, 0, 0, 0] 1 46 (0, 46, m_takeAck_0_P (m_takeAck N)) :=
  blk_of_den (jl := [(55, 46, m_takeAck_55_P (m_takeAck_55 N))]) (lst := m_takeAck_c) (m_takeAck_hop l hw N) (Or.inr (Or.inl ⟨rfl, rfl⟩)) rfl (by decide) (by decide) m_takeAck_cOk (fc (m_takeAck_55_ok l hw N) fn) (fun L st S r ok h => by unfold m_takeAck_0_P at h; split at h; exact h; cases h)
def m_takeAck_F (N : Nat) : List AV → St → RS St := fun av S => match av with
  | [.inr (.inr (some 0)), .inl x1] => m_takeAck N x1 S
  | _ => none
theorem m_takeAck_P0 (f : Int → St → RS St) (x1 : Int) (S : St) : m_takeAck_0_P f (entryL [.inr (.inr (some 0)), .inl x1] 6) [] S = f x1 S := rfl
set_option maxRecDepth 65536 in
set_option maxHeartbeats 4000000 in
theorem m_takeAck_con (l : Launch) {Z : State} {a0 : Array Value} (hw : ∀ d ∈ tables_1, d.before a0 Z = true) (N : Nat) : Con l Z "DeltaCausalMap" fsT asT 23 (⟨"DeltaCausalMap", "takeAck", "(I)I"⟩ : MethodName) prog_1_method_26_code 6 (some .int) ({ frames := 2, cells := 0, slots := 0, locals := 31 } : Room) 1 (m_takeAck_F N) :=
  con_of (m_takeAck_0_ok l hw N) pnC rfl (fun av S r h oks => by unfold m_takeAck_F at h; split at h; exact ⟨(m_takeAck_P0 _ _ _).trans h, okL_entry rfl oks rfl⟩; cases h)
set_option maxRecDepth 65536 in
theorem m_takeAck_vir (l : Launch) {Z : State} {a0 : Array Value} (hw : ∀ d ∈ tables_1, d.before a0 Z = true) (N : Nat) (W : Nat) (R : Room) (h1 : 3 ≤ R.frames) (h2 : W + 48 ≤ R.locals) : VirOk l Z a0 "DeltaCausalMap" fsT asT 23 W R (177, 1, 1, m_takeAck_F N) :=
  ⟨(⟨"DeltaCausalMap", "takeAck", "(I)I"⟩ : MethodName), prog_1_method_26_code, 6, (some .int), ({ frames := 2, cells := 0, slots := 0, locals := 31 } : Room), [.int], rfl, (hw _ (List.mem_of_getElem? (i := 240) rfl)), (hw _ (List.mem_of_getElem? (i := 241) rfl)), Or.inl (hw _ (List.mem_of_getElem? (i := 242) rfl)), (hw _ (List.mem_of_getElem? (i := 243) rfl)), by decide +kernel, rfl, rfl, rfl, h1, by dsimp only; omega, m_takeAck_con l hw N⟩
/-! ## DeltaCausalMap.placeAck:(III)V -/
set_option maxRecDepth 65536 in
set_option maxHeartbeats 4000000 in
theorem m_placeAck_hop (l : Launch) {Z : State} {a0 : Array Value} (hw : ∀ d ∈ tables_1, d.before a0 Z = true) (N : Nat) : HopAll l Z "DeltaCausalMap" prog_1_method_25_code 5 none false ({ frames := 1, cells := 0, slots := 0, locals := 18 } : Room) AC nC zC (cC false) (sC asT false) (HC Z "DeltaCausalMap" fsT asT 23 false) (hopC fsT asT 23 0 false 1 cIT cJT [(158, 0, 1, m_freeSlot_F N), (166, 6, 0, m_setHeader_F N), (170, 3, 0, m_setPayload_F N)] []) :=
  hopC_all (clsT hw) mhC (hw _ (List.mem_of_getElem? (i := 2) rfl)) (fun h => nomatch h) (cIT_ok hw) (cJT_ok hw) (fc (m_freeSlot_vir l hw N _ _ (by decide) (by decide)) (fc (m_setHeader_vir l hw N _ _ (by decide) (by decide)) (fc (m_setPayload_vir l hw N _ _ (by decide) (by decide)) fn))) fn (by decide) (by decide)
def m_placeAck (N : Nat) (x1 : Int) (x2 : Int) (x3 : Int) (S : St) : RS St :=
  ((m_freeSlot N S).bind fun r1 =>
  (if r1.1 < 0 then
    some (0, r1.2)
  else
    ((m_setHeader N r1.1 3 x1 x2 0 x3 r1.2).bind fun r2 =>
    ((m_setPayload N r1.1 0 0 r2.2).bind fun r3 =>
    some (0, r3.2)))))
def m_placeAck_0_P (f : Int → Int → Int → St → RS St) : Jn St := fun L st S => match L, st with
  | [some (some (.inr (.inr (some 0)))), some (some (.inl x1)), some (some (.inl x2)), some (some (.inl x3)), _], [] => f x1 x2 x3 S
  | _, _ => none
def m_placeAck_c : List Ent := [(0, .aload_n 0, 1, []), (1, .invokevirtual 158, 3, []), (4, .istore 4, 2, []), (6, .iload 4, 2, []), (8, .ifCond .ge 4, 3, [12]), (11, .return_, 1, []), (12, .aload_n 0, 1, []), (13, .iload 4, 2, []), (15, .iconst 3, 1, []), (16, .iload_n 1, 1, []), (17, .iload_n 2, 1, []), (18, .iconst 0, 1, []), (19, .iload_n 3, 1, []), (20, .invokevirtual 166, 3, []), (23, .aload_n 0, 1, []), (24, .iload 4, 2, []), (26, .lconst 0, 1, []), (27, .lconst 0, 1, []), (28, .invokevirtual 170, 3, []), (31, .return_, 1, [])]
set_option maxRecDepth 65536 in
theorem m_placeAck_cOk : codeOk prog_1_method_25_code m_placeAck_c = true := by decide +kernel
set_option maxRecDepth 65536 in
set_option maxHeartbeats 4000000 in
theorem m_placeAck_0_ok (l : Launch) {Z : State} {a0 : Array Value} (hw : ∀ d ∈ tables_1, d.before a0 Z = true) (N : Nat) : Blk l Z "DeltaCausalMap" prog_1_method_25_code 5 none false ({ frames := 1, cells := 0, slots := 0, locals := 18 } : Room) AC nC zC (cC false) (sC asT false) (HC Z "DeltaCausalMap" fsT asT 23 false) [0, 0, 0, 0, 0] 0 46 (0, 46, m_placeAck_0_P (m_placeAck N)) :=
  blk_of_den (jl := []) (lst := m_placeAck_c) (m_placeAck_hop l hw N) (Or.inl ⟨rfl, rfl⟩) rfl (by decide) (by decide) m_placeAck_cOk fn (fun L st S r ok h => by unfold m_placeAck_0_P at h; split at h; exact h; cases h)
def m_placeAck_F (N : Nat) : List AV → St → RS St := fun av S => match av with
  | [.inr (.inr (some 0)), .inl x1, .inl x2, .inl x3] => m_placeAck N x1 x2 x3 S
  | _ => none
theorem m_placeAck_P0 (f : Int → Int → Int → St → RS St) (x1 : Int) (x2 : Int) (x3 : Int) (S : St) : m_placeAck_0_P f (entryL [.inr (.inr (some 0)), .inl x1, .inl x2, .inl x3] 5) [] S = f x1 x2 x3 S := rfl
set_option maxRecDepth 65536 in
set_option maxHeartbeats 4000000 in
theorem m_placeAck_con (l : Launch) {Z : State} {a0 : Array Value} (hw : ∀ d ∈ tables_1, d.before a0 Z = true) (N : Nat) : Con l Z "DeltaCausalMap" fsT asT 23 (⟨"DeltaCausalMap", "placeAck", "(III)V"⟩ : MethodName) prog_1_method_25_code 5 none ({ frames := 1, cells := 0, slots := 0, locals := 18 } : Room) 0 (m_placeAck_F N) :=
  con_of (m_placeAck_0_ok l hw N) pnC rfl (fun av S r h oks => by unfold m_placeAck_F at h; split at h; exact ⟨(m_placeAck_P0 _ _ _ _ _).trans h, okL_entry rfl oks rfl⟩; cases h)
set_option maxRecDepth 65536 in
theorem m_placeAck_vir (l : Launch) {Z : State} {a0 : Array Value} (hw : ∀ d ∈ tables_1, d.before a0 Z = true) (N : Nat) (W : Nat) (R : Room) (h1 : 2 ≤ R.frames) (h2 : W + 34 ≤ R.locals) : VirOk l Z a0 "DeltaCausalMap" fsT asT 23 W R (186, 3, 0, m_placeAck_F N) :=
  ⟨(⟨"DeltaCausalMap", "placeAck", "(III)V"⟩ : MethodName), prog_1_method_25_code, 5, none, ({ frames := 1, cells := 0, slots := 0, locals := 18 } : Room), [.int, .int, .int], rfl, (hw _ (List.mem_of_getElem? (i := 236) rfl)), (hw _ (List.mem_of_getElem? (i := 237) rfl)), Or.inl (hw _ (List.mem_of_getElem? (i := 238) rfl)), (hw _ (List.mem_of_getElem? (i := 239) rfl)), by decide +kernel, rfl, rfl, rfl, h1, by dsimp only; omega, m_placeAck_con l hw N⟩
/-! ## DeltaCausalMap.takeState:(I)I -/
set_option maxRecDepth 65536 in
set_option maxHeartbeats 4000000 in
theorem m_takeState_hop (l : Launch) {Z : State} {a0 : Array Value} (hw : ∀ d ∈ tables_1, d.before a0 Z = true) (N : Nat) : HopAll l Z "DeltaCausalMap" prog_1_method_24_code 11 (some .int) false ({ frames := 4, cells := 0, slots := 0, locals := 74 } : Room) AC nC zC (cC false) (sC asT false) (HC Z "DeltaCausalMap" fsT asT 23 false) (hopC fsT asT 23 0 false 1 cIT cJT [(183, 1, 0, m_clearSlot_F N), (119, 2, 0, m_join_F N), (123, 1, 0, m_trim_F N), (186, 3, 0, m_placeAck_F N)] []) :=
  hopC_all (clsT hw) mhC (hw _ (List.mem_of_getElem? (i := 2) rfl)) (fun h => nomatch h) (cIT_ok hw) (cJT_ok hw) (fc (m_clearSlot_vir l hw N _ _ (by decide) (by decide)) (fc (m_join_vir l hw N _ _ (by decide) (by decide)) (fc (m_trim_vir l hw N _ _ (by decide) (by decide)) (fc (m_placeAck_vir l hw N _ _ (by decide) (by decide)) fn)))) fn (by decide) (by decide)
def m_takeState_98 (N : Nat) (x2 : Int) (x3 : Int) (x4 : Int) (x10 : Int) (S : St) : RS St :=
  ((m_trim N x3 S).bind fun r1 =>
  ((m_placeAck N x3 x2 x4 r1.2).bind fun r2 =>
  some (x10, r2.2)))
def m_takeState_98_P (f : Int → Int → Int → Int → St → RS St) : Jn St := fun L st S => match L, st with
  | [some (some (.inr (.inr (some 0)))), _, some (some (.inl x2)), some (some (.inl x3)), some (some (.inl x4)), _, _, _, _, _, some (some (.inl x10))], [] => f x2 x3 x4 x10 S
  | _, _ => none
def m_takeState_63 (N : Nat) (x2 : Int) (x3 : Int) (x4 : Int) (x5 : Int) (S : St) : RS St :=
  (if 0 ≤ x3 ∧ x3 < 4 then
  (if lcmp (land x5 (lxor (S 5 x3) (-1))) 0 = 0 then
    m_takeState_98 N x2 x3 x4 2 S
  else
    ((m_join N x3 (land x5 (lxor (S 5 x3) (-1))) S).bind fun r1 =>
    m_takeState_98 N x2 x3 x4 1 r1.2))
  else none)
def m_takeState_63_P (f : Int → Int → Int → Int → St → RS St) : Jn St := fun L st S => match L, st with
  | [some (some (.inr (.inr (some 0)))), _, some (some (.inl x2)), some (some (.inl x3)), some (some (.inl x4)), some (some (.inr (.inl x5))), _, _, _, _, _], [] => f x2 x3 x4 x5 S
  | _, _ => none
def m_takeState (N : Nat) (x1 : Int) (S : St) : RS St :=
  (if 0 ≤ x1 ∧ x1 < 12 then
  (if 0 ≤ x1 ∧ x1 < 12 then
  (if 0 ≤ x1 ∧ x1 < 12 then
  (if 0 ≤ x1 ∧ x1 < 12 then
  ((m_clearSlot N x1 S).bind fun r1 =>
  (if 0 ≤ w32 ((w32 ((S 19 x1) * 4)) + (S 18 x1)) ∧ w32 ((w32 ((S 19 x1) * 4)) + (S 18 x1)) < 16 then
  (if r1.2 15 (w32 ((w32 ((S 19 x1) * 4)) + (S 18 x1))) < S 21 x1 then
    (if 0 ≤ w32 ((w32 ((S 19 x1) * 4)) + (S 18 x1)) ∧ w32 ((w32 ((S 19 x1) * 4)) + (S 18 x1)) < 16 then
    m_takeState_63 N (S 18 x1) (S 19 x1) (S 21 x1) (S 23 x1) (stw r1.2 15 (w32 ((w32 ((S 19 x1) * 4)) + (S 18 x1))) (S 21 x1))
    else none)
  else
    m_takeState_63 N (S 18 x1) (S 19 x1) (S 21 x1) (S 23 x1) r1.2)
  else none))
  else none)
  else none)
  else none)
  else none)
def m_takeState_0_P (f : Int → St → RS St) : Jn St := fun L st S => match L, st with
  | [some (some (.inr (.inr (some 0)))), some (some (.inl x1)), _, _, _, _, _, _, _, _, _], [] => f x1 S
  | _, _ => none
def m_takeState_c : List Ent := [(0, .aload_n 0, 1, []), (1, .getfield 62, 3, []), (4, .iload_n 1, 1, []), (5, .iaload, 1, []), (6, .istore_n 2, 1, []), (7, .aload_n 0, 1, []), (8, .getfield 65, 3, []), (11, .iload_n 1, 1, []), (12, .iaload, 1, []), (13, .istore_n 3, 1, []), (14, .aload_n 0, 1, []), (15, .getfield 71, 3, []), (18, .iload_n 1, 1, []), (19, .iaload, 1, []), (20, .istore 4, 2, []), (22, .aload_n 0, 1, []), (23, .getfield 77, 3, []), (26, .iload_n 1, 1, []), (27, .laload, 1, []), (28, .lstore 5, 2, []), (30, .aload_n 0, 1, []), (31, .iload_n 1, 1, []), (32, .invokevirtual 183, 3, []), (35, .iload_n 3, 1, []), (36, .iconst 4, 1, []), (37, .imul, 1, []), (38, .iload_n 2, 1, []), (39, .iadd, 1, []), (40, .istore 7, 2, []), (42, .iload 4, 2, []), (44, .aload_n 0, 1, []), (45, .getfield 53, 3, []), (48, .iload 7, 2, []), (50, .iaload, 1, []), (51, .if_icmp .le 12, 3, [63]), (54, .aload_n 0, 1, []), (55, .getfield 53, 3, []), (58, .iload 7, 2, []), (60, .iload 4, 2, []), (62, .iastore, 1, []), (63, .lload 5, 2, []), (65, .aload_n 0, 1, []), (66, .getfield 23, 3, []), (69, .iload_n 3, 1, []), (70, .laload, 1, []), (71, .ldc2_w 143, 3, []), (74, .lxor, 1, []), (75, .land, 1, []), (76, .lstore 8, 2, []), (78, .iconst 2, 1, []), (79, .istore 10, 2, []), (81, .lload 8, 2, []), (83, .lconst 0, 1, []), (84, .lcmp, 1, []), (85, .ifCond .eq 13, 3, [98]), (88, .aload_n 0, 1, []), (89, .iload_n 3, 1, []), (90, .lload 8, 2, []), (92, .invokevirtual 119, 3, []), (95, .iconst 1, 1, []), (96, .istore 10, 2, []), (98, .aload_n 0, 1, []), (99, .iload_n 3, 1, []), (100, .invokevirtual 123, 3, []), (103, .aload_n 0, 1, []), (104, .iload_n 3, 1, []), (105, .iload_n 2, 1, []), (106, .iload 4, 2, []), (108, .invokevirtual 186, 3, []), (111, .iload 10, 2, []), (113, .ireturn, 1, [])]
set_option maxRecDepth 65536 in
theorem m_takeState_cOk : codeOk prog_1_method_24_code m_takeState_c = true := by decide +kernel
set_option maxRecDepth 65536 in
set_option maxHeartbeats 4000000 in
theorem m_takeState_98_ok (l : Launch) {Z : State} {a0 : Array Value} (hw : ∀ d ∈ tables_1, d.before a0 Z = true) (N : Nat) : Blk l Z "DeltaCausalMap" prog_1_method_24_code 11 (some .int) false ({ frames := 4, cells := 0, slots := 0, locals := 74 } : Room) AC nC zC (cC false) (sC asT false) (HC Z "DeltaCausalMap" fsT asT 23 false) [0, 0, 0, 0, 0, 1, 2, 0, 1, 2, 0] 1 46 (98, 46, m_takeState_98_P (m_takeState_98 N)) :=
  blk_of_den (jl := []) (lst := m_takeState_c) (m_takeState_hop l hw N) (Or.inr (Or.inl ⟨rfl, rfl⟩)) rfl (by decide) (by decide) m_takeState_cOk fn (fun L st S r ok h => by unfold m_takeState_98_P at h; split at h; exact h; cases h)
set_option maxRecDepth 65536 in
set_option maxHeartbeats 4000000 in
theorem m_takeState_63_ok (l : Launch) {Z : State} {a0 : Array Value} (hw : ∀ d ∈ tables_1, d.before a0 Z = true) (N : Nat) : Blk l Z "DeltaCausalMap" prog_1_method_24_code 11 (some .int) false ({ frames := 4, cells := 0, slots := 0, locals := 74 } : Room) AC nC zC (cC false) (sC asT false) (HC Z "DeltaCausalMap" fsT asT 23 false) [0, 0, 0, 0, 0, 1, 2, 0, 1, 2, 0] 1 46 (63, 46, m_takeState_63_P (m_takeState_63 N)) :=
  blk_of_den (jl := [(98, 46, m_takeState_98_P (m_takeState_98 N))]) (lst := m_takeState_c) (m_takeState_hop l hw N) (Or.inr (Or.inl ⟨rfl, rfl⟩)) rfl (by decide) (by decide) m_takeState_cOk (fc (m_takeState_98_ok l hw N) fn) (fun L st S r ok h => by unfold m_takeState_63_P at h; split at h; exact h; cases h)
set_option maxRecDepth 65536 in
set_option maxHeartbeats 4000000 in
theorem m_takeState_0_ok (l : Launch) {Z : State} {a0 : Array Value} (hw : ∀ d ∈ tables_1, d.before a0 Z = true) (N : Nat) : Blk l Z "DeltaCausalMap" prog_1_method_24_code 11 (some .int) false ({ frames := 4, cells := 0, slots := 0, locals := 74 } : Room) AC nC zC (cC false) (sC asT false) (HC Z "DeltaCausalMap" fsT asT 23 false) [0, 0, 0, 0, 0, 1, 2, 0, 1, 2, 0] 1 46 (0, 46, m_takeState_0_P (m_takeState N)) :=
  blk_of_den (jl := [(63, 46, m_takeState_63_P (m_takeState_63 N))]) (lst := m_takeState_c) (m_takeState_hop l hw N) (Or.inr (Or.inl ⟨rfl, rfl⟩)) rfl (by decide) (by decide) m_takeState_cOk (fc (m_takeState_63_ok l hw N) fn) (fun L st S r ok h => by unfold m_takeState_0_P at h; split at h; exact h; cases h)
def m_takeState_F (N : Nat) : List AV → St → RS St := fun av S => match av with
  | [.inr (.inr (some 0)), .inl x1] => m_takeState N x1 S
  | _ => none
theorem m_takeState_P0 (f : Int → St → RS St) (x1 : Int) (S : St) : m_takeState_0_P f (entryL [.inr (.inr (some 0)), .inl x1] 11) [] S = f x1 S := rfl
set_option maxRecDepth 65536 in
set_option maxHeartbeats 4000000 in
theorem m_takeState_con (l : Launch) {Z : State} {a0 : Array Value} (hw : ∀ d ∈ tables_1, d.before a0 Z = true) (N : Nat) : Con l Z "DeltaCausalMap" fsT asT 23 (⟨"DeltaCausalMap", "takeState", "(I)I"⟩ : MethodName) prog_1_method_24_code 11 (some .int) ({ frames := 4, cells := 0, slots := 0, locals := 74 } : Room) 1 (m_takeState_F N) :=
  con_of (m_takeState_0_ok l hw N) pnC rfl (fun av S r h oks => by unfold m_takeState_F at h; split at h; exact ⟨(m_takeState_P0 _ _ _).trans h, okL_entry rfl oks rfl⟩; cases h)
set_option maxRecDepth 65536 in
theorem m_takeState_vir (l : Launch) {Z : State} {a0 : Array Value} (hw : ∀ d ∈ tables_1, d.before a0 Z = true) (N : Nat) (W : Nat) (R : Room) (h1 : 5 ≤ R.frames) (h2 : W + 96 ≤ R.locals) : VirOk l Z a0 "DeltaCausalMap" fsT asT 23 W R (180, 1, 1, m_takeState_F N) :=
  ⟨(⟨"DeltaCausalMap", "takeState", "(I)I"⟩ : MethodName), prog_1_method_24_code, 11, (some .int), ({ frames := 4, cells := 0, slots := 0, locals := 74 } : Room), [.int], rfl, (hw _ (List.mem_of_getElem? (i := 232) rfl)), (hw _ (List.mem_of_getElem? (i := 233) rfl)), Or.inl (hw _ (List.mem_of_getElem? (i := 234) rfl)), (hw _ (List.mem_of_getElem? (i := 235) rfl)), by decide +kernel, rfl, rfl, rfl, h1, by dsimp only; omega, m_takeState_con l hw N⟩
/-! ## DeltaCausalMap.deliver:(I)I -/
set_option maxRecDepth 65536 in
set_option maxHeartbeats 4000000 in
theorem m_deliver_hop (l : Launch) {Z : State} {a0 : Array Value} (hw : ∀ d ∈ tables_1, d.before a0 Z = true) (N : Nat) : HopAll l Z "DeltaCausalMap" prog_1_method_23_code 2 (some .int) false ({ frames := 5, cells := 0, slots := 0, locals := 96 } : Room) AC nC zC (cC false) (sC asT false) (HC Z "DeltaCausalMap" fsT asT 23 false) (hopC fsT asT 23 0 false 1 cIT cJT [(174, 1, 3, m_occupied_F N), (177, 1, 1, m_takeAck_F N), (180, 1, 1, m_takeState_F N)] []) :=
  hopC_all (clsT hw) mhC (hw _ (List.mem_of_getElem? (i := 2) rfl)) (fun h => nomatch h) (cIT_ok hw) (cJT_ok hw) (fc (m_occupied_vir l hw N _ _ (by decide) (by decide)) (fc (m_takeAck_vir l hw N _ _ (by decide) (by decide)) (fc (m_takeState_vir l hw N _ _ (by decide) (by decide)) fn))) fn (by decide) (by decide)
def m_deliver (N : Nat) (x1 : Int) (S : St) : RS St :=
  ((m_occupied N x1 S).bind fun r1 =>
  (if r1.1 = 0 then
    some ((-6), r1.2)
  else
    (if 0 ≤ x1 ∧ x1 < 12 then
    (if r1.2 17 x1 = 3 then
      ((m_takeAck N x1 r1.2).bind fun r3 =>
      some (r3.1, r3.2))
    else
      ((m_takeState N x1 r1.2).bind fun r2 =>
      some (r2.1, r2.2)))
    else none)))
def m_deliver_0_P (f : Int → St → RS St) : Jn St := fun L st S => match L, st with
  | [some (some (.inr (.inr (some 0)))), some (some (.inl x1))], [] => f x1 S
  | _, _ => none
def m_deliver_c : List Ent := [(0, .aload_n 0, 1, []), (1, .iload_n 1, 1, []), (2, .invokevirtual 174, 3, []), (5, .ifCond .ne 6, 3, [11]), (8, .bipush (-6), 2, []), (10, .ireturn, 1, []), (11, .aload_n 0, 1, []), (12, .getfield 59, 3, []), (15, .iload_n 1, 1, []), (16, .iaload, 1, []), (17, .iconst 3, 1, []), (18, .if_icmp .ne 9, 3, [27]), (21, .aload_n 0, 1, []), (22, .iload_n 1, 1, []), (23, .invokevirtual 177, 3, []), (26, .ireturn, 1, []), (27, .aload_n 0, 1, []), (28, .iload_n 1, 1, []), (29, .invokevirtual 180, 3, []), (32, .ireturn, 1, [])]
set_option maxRecDepth 65536 in
theorem m_deliver_cOk : codeOk prog_1_method_23_code m_deliver_c = true := by decide +kernel
set_option maxRecDepth 65536 in
set_option maxHeartbeats 4000000 in
theorem m_deliver_0_ok (l : Launch) {Z : State} {a0 : Array Value} (hw : ∀ d ∈ tables_1, d.before a0 Z = true) (N : Nat) : Blk l Z "DeltaCausalMap" prog_1_method_23_code 2 (some .int) false ({ frames := 5, cells := 0, slots := 0, locals := 96 } : Room) AC nC zC (cC false) (sC asT false) (HC Z "DeltaCausalMap" fsT asT 23 false) [0, 0] 1 46 (0, 46, m_deliver_0_P (m_deliver N)) :=
  blk_of_den (jl := []) (lst := m_deliver_c) (m_deliver_hop l hw N) (Or.inr (Or.inl ⟨rfl, rfl⟩)) rfl (by decide) (by decide) m_deliver_cOk fn (fun L st S r ok h => by unfold m_deliver_0_P at h; split at h; exact h; cases h)
def m_deliver_F (N : Nat) : List AV → St → RS St := fun av S => match av with
  | [.inr (.inr (some 0)), .inl x1] => m_deliver N x1 S
  | _ => none
theorem m_deliver_P0 (f : Int → St → RS St) (x1 : Int) (S : St) : m_deliver_0_P f (entryL [.inr (.inr (some 0)), .inl x1] 2) [] S = f x1 S := rfl
set_option maxRecDepth 65536 in
set_option maxHeartbeats 4000000 in
theorem m_deliver_con (l : Launch) {Z : State} {a0 : Array Value} (hw : ∀ d ∈ tables_1, d.before a0 Z = true) (N : Nat) : Con l Z "DeltaCausalMap" fsT asT 23 (⟨"DeltaCausalMap", "deliver", "(I)I"⟩ : MethodName) prog_1_method_23_code 2 (some .int) ({ frames := 5, cells := 0, slots := 0, locals := 96 } : Room) 1 (m_deliver_F N) :=
  con_of (m_deliver_0_ok l hw N) pnC rfl (fun av S r h oks => by unfold m_deliver_F at h; split at h; exact ⟨(m_deliver_P0 _ _ _).trans h, okL_entry rfl oks rfl⟩; cases h)
set_option maxRecDepth 65536 in
theorem m_deliver_virL (l : Launch) {Z : State} {a0 : Array Value} (hw : ∀ d ∈ tables_1, d.before a0 Z = true) (N : Nat) (W : Nat) (R : Room) (h1 : 6 ≤ R.frames) (h2 : W + 109 ≤ R.locals) : VirL l Z a0 "DeltaCausalMapL6" "DeltaCausalMap" fsT asT 23 W R (46, 1, 1, m_deliver_F N) :=
  ⟨(⟨"DeltaCausalMap", "deliver", "(I)I"⟩ : MethodName), prog_1_method_23_code, 2, (some .int), ({ frames := 5, cells := 0, slots := 0, locals := 96 } : Room), [.int], rfl, (hw _ (List.mem_of_getElem? (i := 198) rfl)), (hw _ (List.mem_of_getElem? (i := 200) rfl)), ⟨(hw _ (List.mem_of_getElem? (i := 199) rfl)), (hw _ (List.mem_of_getElem? (i := 201) rfl))⟩, (hw _ (List.mem_of_getElem? (i := 202) rfl)), by decide +kernel, rfl, rfl, rfl, h1, by dsimp only; omega, m_deliver_con l hw N⟩
/-! ## DeltaCausalMap.deltaSince:(II)J -/
set_option maxRecDepth 65536 in
set_option maxHeartbeats 4000000 in
theorem m_deltaSince_hop (l : Launch) {Z : State} {a0 : Array Value} (hw : ∀ d ∈ tables_1, d.before a0 Z = true) (N : Nat) : HopAll l Z "DeltaCausalMap" prog_1_method_21_code 7 (some .long) false ({ frames := 0, cells := 0, slots := 0, locals := 0 } : Room) AC nC zC (cC false) (sC asT false) (HC Z "DeltaCausalMap" fsT asT 23 false) (hopC fsT asT 23 0 false 1 cIT cJT [] []) :=
  hopC_all (clsT hw) mhC (hw _ (List.mem_of_getElem? (i := 2) rfl)) (fun h => nomatch h) (cIT_ok hw) (cJT_ok hw) fn fn (by decide) (by decide)
def m_deltaSince_13 (N : Nat) : Nat → Int → Int → Int → Int → Int → St → RS St
  | 0, _, _, _, _, _, _ => none
  | n + 1, x1, x2, x3, x5, x6, S =>
    (if x6 < 8 then
      (if w32 (x2 + x6) < x5 then
        (if 0 ≤ w32 ((w32 (x1 * 8)) + (iand (w32 (x2 + x6)) 7)) ∧ w32 ((w32 (x1 * 8)) + (iand (w32 (x2 + x6)) 7)) < 32 then
        m_deltaSince_13 N n x1 x2 (lor x3 (S 16 (w32 ((w32 (x1 * 8)) + (iand (w32 (x2 + x6)) 7))))) x5 (w32 (x6 + 1)) S
        else none)
      else
        some (x3, S))
    else
      some (x3, S))
def m_deltaSince_13_P (f : Int → Int → Int → Int → Int → St → RS St) : Jn St := fun L st S => match L, st with
  | [some (some (.inr (.inr (some 0)))), some (some (.inl x1)), some (some (.inl x2)), some (some (.inr (.inl x3))), _, some (some (.inl x5)), some (some (.inl x6))], [] => f x1 x2 x3 x5 x6 S
  | _, _ => none
def m_deltaSince (N : Nat) (x1 : Int) (x2 : Int) (S : St) : RS St :=
  (if 0 ≤ x1 ∧ x1 < 4 then
  m_deltaSince_13 N N x1 x2 0 (S 12 x1) 0 S
  else none)
def m_deltaSince_0_P (f : Int → Int → St → RS St) : Jn St := fun L st S => match L, st with
  | [some (some (.inr (.inr (some 0)))), some (some (.inl x1)), some (some (.inl x2)), _, _, _, _], [] => f x1 x2 S
  | _, _ => none
def m_deltaSince_c : List Ent := [(0, .lconst 0, 1, []), (1, .lstore_n 3, 1, []), (2, .aload_n 0, 1, []), (3, .getfield 44, 3, []), (6, .iload_n 1, 1, []), (7, .iaload, 1, []), (8, .istore 5, 2, []), (10, .iconst 0, 1, []), (11, .istore 6, 2, []), (13, .iload 6, 2, []), (15, .bipush 8, 2, []), (17, .if_icmp .ge 38, 3, [55]), (20, .iload_n 2, 1, []), (21, .iload 6, 2, []), (23, .iadd, 1, []), (24, .iload 5, 2, []), (26, .if_icmp .ge 29, 3, [55]), (29, .lload_n 3, 1, []), (30, .aload_n 0, 1, []), (31, .getfield 56, 3, []), (34, .iload_n 1, 1, []), (35, .bipush 8, 2, []), (37, .imul, 1, []), (38, .iload_n 2, 1, []), (39, .iload 6, 2, []), (41, .iadd, 1, []), (42, .bipush 7, 2, []), (44, .iand, 1, []), (45, .iadd, 1, []), (46, .laload, 1, []), (47, .lor, 1, []), (48, .lstore_n 3, 1, []), (49, .iinc 6 1, 3, []), (52, .goto (-39), 3, [13]), (55, .lload_n 3, 1, []), (56, .lreturn, 1, [])]
set_option maxRecDepth 65536 in
theorem m_deltaSince_cOk : codeOk prog_1_method_21_code m_deltaSince_c = true := by decide +kernel
set_option maxRecDepth 65536 in
set_option maxHeartbeats 4000000 in
theorem m_deltaSince_13_ok (l : Launch) {Z : State} {a0 : Array Value} (hw : ∀ d ∈ tables_1, d.before a0 Z = true) (N : Nat) : ∀ n, Blk l Z "DeltaCausalMap" prog_1_method_21_code 7 (some .long) false ({ frames := 0, cells := 0, slots := 0, locals := 0 } : Room) AC nC zC (cC false) (sC asT false) (HC Z "DeltaCausalMap" fsT asT 23 false) [0, 0, 0, 1, 2, 0, 0] 2 46 (13, 46, m_deltaSince_13_P (m_deltaSince_13 N n))
  | 0 => blk_none (fun L st S => by unfold m_deltaSince_13_P; split <;> rfl)
  | n + 1 => have ih := m_deltaSince_13_ok l hw N n
    blk_of_den (jl := [(13, 46, m_deltaSince_13_P (m_deltaSince_13 N n))]) (lst := m_deltaSince_c) (m_deltaSince_hop l hw N) (Or.inr (Or.inr (Or.inl ⟨rfl, rfl⟩))) rfl (by decide) (by decide) m_deltaSince_cOk (fc ih fn) (fun L st S r ok h => by unfold m_deltaSince_13_P at h; split at h; exact h; cases h)
set_option maxRecDepth 65536 in
set_option maxHeartbeats 4000000 in
theorem m_deltaSince_0_ok (l : Launch) {Z : State} {a0 : Array Value} (hw : ∀ d ∈ tables_1, d.before a0 Z = true) (N : Nat) : Blk l Z "DeltaCausalMap" prog_1_method_21_code 7 (some .long) false ({ frames := 0, cells := 0, slots := 0, locals := 0 } : Room) AC nC zC (cC false) (sC asT false) (HC Z "DeltaCausalMap" fsT asT 23 false) [0, 0, 0, 1, 2, 0, 0] 2 46 (0, 46, m_deltaSince_0_P (m_deltaSince N)) :=
  blk_of_den (jl := [(13, 46, m_deltaSince_13_P (m_deltaSince_13 N N))]) (lst := m_deltaSince_c) (m_deltaSince_hop l hw N) (Or.inr (Or.inr (Or.inl ⟨rfl, rfl⟩))) rfl (by decide) (by decide) m_deltaSince_cOk (fc (m_deltaSince_13_ok l hw N N) fn) (fun L st S r ok h => by unfold m_deltaSince_0_P at h; split at h; exact h; cases h)
def m_deltaSince_F (N : Nat) : List AV → St → RS St := fun av S => match av with
  | [.inr (.inr (some 0)), .inl x1, .inl x2] => m_deltaSince N x1 x2 S
  | _ => none
theorem m_deltaSince_P0 (f : Int → Int → St → RS St) (x1 : Int) (x2 : Int) (S : St) : m_deltaSince_0_P f (entryL [.inr (.inr (some 0)), .inl x1, .inl x2] 7) [] S = f x1 x2 S := rfl
set_option maxRecDepth 65536 in
set_option maxHeartbeats 4000000 in
theorem m_deltaSince_con (l : Launch) {Z : State} {a0 : Array Value} (hw : ∀ d ∈ tables_1, d.before a0 Z = true) (N : Nat) : Con l Z "DeltaCausalMap" fsT asT 23 (⟨"DeltaCausalMap", "deltaSince", "(II)J"⟩ : MethodName) prog_1_method_21_code 7 (some .long) ({ frames := 0, cells := 0, slots := 0, locals := 0 } : Room) 2 (m_deltaSince_F N) :=
  con_of (m_deltaSince_0_ok l hw N) pnC rfl (fun av S r h oks => by unfold m_deltaSince_F at h; split at h; exact ⟨(m_deltaSince_P0 _ _ _ _).trans h, okL_entry rfl oks rfl⟩; cases h)
set_option maxRecDepth 65536 in
theorem m_deltaSince_vir (l : Launch) {Z : State} {a0 : Array Value} (hw : ∀ d ∈ tables_1, d.before a0 Z = true) (N : Nat) (W : Nat) (R : Room) (h1 : 1 ≤ R.frames) (h2 : W + 18 ≤ R.locals) : VirOk l Z a0 "DeltaCausalMap" fsT asT 23 W R (162, 2, 2, m_deltaSince_F N) :=
  ⟨(⟨"DeltaCausalMap", "deltaSince", "(II)J"⟩ : MethodName), prog_1_method_21_code, 7, (some .long), ({ frames := 0, cells := 0, slots := 0, locals := 0 } : Room), [.int, .int], rfl, (hw _ (List.mem_of_getElem? (i := 212) rfl)), (hw _ (List.mem_of_getElem? (i := 213) rfl)), Or.inl (hw _ (List.mem_of_getElem? (i := 214) rfl)), (hw _ (List.mem_of_getElem? (i := 215) rfl)), by decide +kernel, rfl, rfl, rfl, h1, by dsimp only; omega, m_deltaSince_con l hw N⟩
/-! ## DeltaCausalMap.send:(II)I -/
set_option maxRecDepth 65536 in
set_option maxHeartbeats 4000000 in
theorem m_send_hop (l : Launch) {Z : State} {a0 : Array Value} (hw : ∀ d ∈ tables_1, d.before a0 Z = true) (N : Nat) : HopAll l Z "DeltaCausalMap" prog_1_method_22_code 7 (some .int) false ({ frames := 1, cells := 0, slots := 0, locals := 18 } : Room) AC nC zC (cC false) (sC asT false) (HC Z "DeltaCausalMap" fsT asT 23 false) (hopC fsT asT 23 0 false 1 cIT cJT [(109, 1, 3, m_validReplica_F N), (158, 0, 1, m_freeSlot_F N), (162, 2, 2, m_deltaSince_F N), (166, 6, 0, m_setHeader_F N), (170, 3, 0, m_setPayload_F N)] []) :=
  hopC_all (clsT hw) mhC (hw _ (List.mem_of_getElem? (i := 2) rfl)) (fun h => nomatch h) (cIT_ok hw) (cJT_ok hw) (fc (m_validReplica_vir l hw N _ _ (by decide) (by decide)) (fc (m_freeSlot_vir l hw N _ _ (by decide) (by decide)) (fc (m_deltaSince_vir l hw N _ _ (by decide) (by decide)) (fc (m_setHeader_vir l hw N _ _ (by decide) (by decide)) (fc (m_setPayload_vir l hw N _ _ (by decide) (by decide)) fn))))) fn (by decide) (by decide)
def m_send (N : Nat) (x1 : Int) (x2 : Int) (S : St) : RS St :=
  ((m_validReplica N x1 S).bind fun r1 =>
  (if r1.1 = 0 then
    some ((-1), r1.2)
  else
    ((m_validReplica N x2 r1.2).bind fun r2 =>
    (if r2.1 = 0 then
      some ((-1), r2.2)
    else
      (if x1 = x2 then
        some ((-1), r2.2)
      else
        ((m_freeSlot N r2.2).bind fun r3 =>
        (if r3.1 < 0 then
          some ((-5), r3.2)
        else
          (if 0 ≤ w32 ((w32 (x1 * 4)) + x2) ∧ w32 ((w32 (x1 * 4)) + x2) < 16 then
          (if 0 ≤ x1 ∧ x1 < 4 then
          (if r3.2 14 (w32 ((w32 (x1 * 4)) + x2)) < r3.2 13 x1 then
            (if 0 ≤ x1 ∧ x1 < 4 then
            ((m_setHeader N r3.1 2 x1 x2 0 (r3.2 12 x1) r3.2).bind fun r4 =>
            (if 0 ≤ x1 ∧ x1 < 4 then
            (if 0 ≤ x1 ∧ x1 < 4 then
            ((m_setPayload N r3.1 (r4.2 5 x1) (r4.2 5 x1) r4.2).bind fun r5 =>
            some (r3.1, r5.2))
            else none)
            else none))
            else none)
          else
            ((m_deltaSince N x1 (r3.2 14 (w32 ((w32 (x1 * 4)) + x2))) r3.2).bind fun r6 =>
            (if 0 ≤ x1 ∧ x1 < 4 then
            ((m_setHeader N r3.1 1 x1 x2 (r3.2 14 (w32 ((w32 (x1 * 4)) + x2))) (r6.2 12 x1) r6.2).bind fun r7 =>
            (if 0 ≤ x1 ∧ x1 < 4 then
            ((m_setPayload N r3.1 (r7.2 5 x1) r6.1 r7.2).bind fun r8 =>
            some (r3.1, r8.2))
            else none))
            else none)))
          else none)
          else none))))))))
def m_send_0_P (f : Int → Int → St → RS St) : Jn St := fun L st S => match L, st with
  | [some (some (.inr (.inr (some 0)))), some (some (.inl x1)), some (some (.inl x2)), _, _, _, _], [] => f x1 x2 S
  | _, _ => none
def m_send_c : List Ent := [(0, .aload_n 0, 1, []), (1, .iload_n 1, 1, []), (2, .invokevirtual 109, 3, []), (5, .ifCond .eq 16, 3, [21]), (8, .aload_n 0, 1, []), (9, .iload_n 2, 1, []), (10, .invokevirtual 109, 3, []), (13, .ifCond .eq 8, 3, [21]), (16, .iload_n 1, 1, []), (17, .iload_n 2, 1, []), (18, .if_icmp .ne 5, 3, [23]), (21, .iconst (-1), 1, []), (22, .ireturn, 1, []), (23, .aload_n 0, 1, []), (24, .invokevirtual 158, 3, []), (27, .istore_n 3, 1, []), (28, .iload_n 3, 1, []), (29, .ifCond .ge 6, 3, [35]), (32, .bipush (-5), 2, []), (34, .ireturn, 1, []), (35, .aload_n 0, 1, []), (36, .getfield 50, 3, []), (39, .iload_n 1, 1, []), (40, .iconst 4, 1, []), (41, .imul, 1, []), (42, .iload_n 2, 1, []), (43, .iadd, 1, []), (44, .iaload, 1, []), (45, .istore 4, 2, []), (47, .iload 4, 2, []), (49, .aload_n 0, 1, []), (50, .getfield 47, 3, []), (53, .iload_n 1, 1, []), (54, .iaload, 1, []), (55, .if_icmp .lt 44, 3, [99]), (58, .aload_n 0, 1, []), (59, .iload_n 1, 1, []), (60, .iload 4, 2, []), (62, .invokevirtual 162, 3, []), (65, .lstore 5, 2, []), (67, .aload_n 0, 1, []), (68, .iload_n 3, 1, []), (69, .iconst 1, 1, []), (70, .iload_n 1, 1, []), (71, .iload_n 2, 1, []), (72, .iload 4, 2, []), (74, .aload_n 0, 1, []), (75, .getfield 44, 3, []), (78, .iload_n 1, 1, []), (79, .iaload, 1, []), (80, .invokevirtual 166, 3, []), (83, .aload_n 0, 1, []), (84, .iload_n 3, 1, []), (85, .aload_n 0, 1, []), (86, .getfield 23, 3, []), (89, .iload_n 1, 1, []), (90, .laload, 1, []), (91, .lload 5, 2, []), (93, .invokevirtual 170, 3, []), (96, .goto 35, 3, [131]), (99, .aload_n 0, 1, []), (100, .iload_n 3, 1, []), (101, .iconst 2, 1, []), (102, .iload_n 1, 1, []), (103, .iload_n 2, 1, []), (104, .iconst 0, 1, []), (105, .aload_n 0, 1, []), (106, .getfield 44, 3, []), (109, .iload_n 1, 1, []), (110, .iaload, 1, []), (111, .invokevirtual 166, 3, []), (114, .aload_n 0, 1, []), (115, .iload_n 3, 1, []), (116, .aload_n 0, 1, []), (117, .getfield 23, 3, []), (120, .iload_n 1, 1, []), (121, .laload, 1, []), (122, .aload_n 0, 1, []), (123, .getfield 23, 3, []), (126, .iload_n 1, 1, []), (127, .laload, 1, []), (128, .invokevirtual 170, 3, []), (131, .iload_n 3, 1, []), (132, .ireturn, 1, [])]
set_option maxRecDepth 65536 in
theorem m_send_cOk : codeOk prog_1_method_22_code m_send_c = true := by decide +kernel
set_option maxRecDepth 65536 in
set_option maxHeartbeats 4000000 in
theorem m_send_0_ok (l : Launch) {Z : State} {a0 : Array Value} (hw : ∀ d ∈ tables_1, d.before a0 Z = true) (N : Nat) : Blk l Z "DeltaCausalMap" prog_1_method_22_code 7 (some .int) false ({ frames := 1, cells := 0, slots := 0, locals := 18 } : Room) AC nC zC (cC false) (sC asT false) (HC Z "DeltaCausalMap" fsT asT 23 false) [0, 0, 0, 0, 0, 1, 2] 1 46 (0, 46, m_send_0_P (m_send N)) :=
  blk_of_den (jl := []) (lst := m_send_c) (m_send_hop l hw N) (Or.inr (Or.inl ⟨rfl, rfl⟩)) rfl (by decide) (by decide) m_send_cOk fn (fun L st S r ok h => by unfold m_send_0_P at h; split at h; exact h; cases h)
def m_send_F (N : Nat) : List AV → St → RS St := fun av S => match av with
  | [.inr (.inr (some 0)), .inl x1, .inl x2] => m_send N x1 x2 S
  | _ => none
theorem m_send_P0 (f : Int → Int → St → RS St) (x1 : Int) (x2 : Int) (S : St) : m_send_0_P f (entryL [.inr (.inr (some 0)), .inl x1, .inl x2] 7) [] S = f x1 x2 S := rfl
set_option maxRecDepth 65536 in
set_option maxHeartbeats 4000000 in
theorem m_send_con (l : Launch) {Z : State} {a0 : Array Value} (hw : ∀ d ∈ tables_1, d.before a0 Z = true) (N : Nat) : Con l Z "DeltaCausalMap" fsT asT 23 (⟨"DeltaCausalMap", "send", "(II)I"⟩ : MethodName) prog_1_method_22_code 7 (some .int) ({ frames := 1, cells := 0, slots := 0, locals := 18 } : Room) 1 (m_send_F N) :=
  con_of (m_send_0_ok l hw N) pnC rfl (fun av S r h oks => by unfold m_send_F at h; split at h; exact ⟨(m_send_P0 _ _ _ _).trans h, okL_entry rfl oks rfl⟩; cases h)
set_option maxRecDepth 65536 in
theorem m_send_virL (l : Launch) {Z : State} {a0 : Array Value} (hw : ∀ d ∈ tables_1, d.before a0 Z = true) (N : Nat) (W : Nat) (R : Room) (h1 : 2 ≤ R.frames) (h2 : W + 36 ≤ R.locals) : VirL l Z a0 "DeltaCausalMapL6" "DeltaCausalMap" fsT asT 23 W R (43, 2, 1, m_send_F N) :=
  ⟨(⟨"DeltaCausalMap", "send", "(II)I"⟩ : MethodName), prog_1_method_22_code, 7, (some .int), ({ frames := 1, cells := 0, slots := 0, locals := 18 } : Room), [.int, .int], rfl, (hw _ (List.mem_of_getElem? (i := 203) rfl)), (hw _ (List.mem_of_getElem? (i := 205) rfl)), ⟨(hw _ (List.mem_of_getElem? (i := 204) rfl)), (hw _ (List.mem_of_getElem? (i := 206) rfl))⟩, (hw _ (List.mem_of_getElem? (i := 207) rfl)), by decide +kernel, rfl, rfl, rfl, h1, by dsimp only; omega, m_send_con l hw N⟩
/-! ## the law's state -/
def gtT : Nat → St → St := fun _ S => S
def ptT : Nat → St → St → St := fun _ _ x => x
theorem gpT : ∀ (j j' : Nat) (S : St) (x : St), j < 1 → j' < 1 → gtT j' (ptT j S x) = if j' = j then x else gtT j' S := by
  intro j j' S x h1 h2; have : j' = j := by omega
  simp [gtT, ptT, this]
def cIL : List (Nat × Int) := []
def cJL : List (Nat × Int) := [(7, 255)]
set_option maxRecDepth 65536 in
theorem cIL_ok {Z : State} {a0 : Array Value} (hw : ∀ d ∈ tables_1, d.before a0 Z = true) : ∀ x ∈ cIL, (Jvm.Cond.constant "DeltaCausalMapL6" x.1 (Int32.ofInt x.2)).before a0 Z = true ∧ R32 x.2 := fn
set_option maxRecDepth 65536 in
theorem cJL_ok {Z : State} {a0 : Array Value} (hw : ∀ d ∈ tables_1, d.before a0 Z = true) : ∀ x ∈ cJL, (Jvm.Cond.constantLong "DeltaCausalMapL6" x.1 (Int64.ofInt x.2)).before a0 Z = true ∧ R64 x.2 := fc ⟨(hw _ (List.mem_of_getElem? (i := 145) rfl)), by unfold R64; decide⟩ (fn)
/-! ## DeltaCausalMapL6.get:(JI)I, as l_get_q2 -/
set_option maxRecDepth 65536 in
set_option maxHeartbeats 4000000 in
theorem l_get_q2_hop (l : Launch) {Z : State} {a0 : Array Value} (hw : ∀ d ∈ tables_1, d.before a0 Z = true) (hi : (Jvm.Cond.initialized "DeltaCausalMapL6").before a0 Z = true) (N : Nat) (len : Int) (sc : Int → Int) : HopAll l Z "DeltaCausalMapL6" method_2_code 3 (some .int) false ({ frames := 0, cells := 0, slots := 0, locals := 0 } : Room) (AL 1 23) nL zL (fun _ => 0) (fun _ => 0) (fun i q S h => HL Z "DeltaCausalMap" fsT asT 23 gtT false true len sc i q S h ∧ q ≤ 2 * 1) (hopL 1 0 9 28 3 false (m_init_F N) [] [] cIL cJL gtT ptT true len sc) :=
  hopL_all (kk := 26) (clsT hw) mhC mhL (hw _ (List.mem_of_getElem? (i := 2) rfl)) gpT (fun h => nomatch h) (fun h => nomatch h) (fun _ => rfl) (cIL_ok hw) (cJL_ok hw) fn fn
def l_get_q2 (N : Nat) (len : Int) (sc : Int → Int) (x0 : Int) (x2 : Int) (S : St) : RS St :=
  some (w32 (land (lushr x0 (w32 (8 * x2))) 255), S)
def l_get_q2_0_P (f : Int → Int → St → RS St) : Jn St := fun L st S => match L, st with
  | [some (some (.inr (.inl x0))), _, some (some (.inl x2))], [] => f x0 x2 S
  | _, _ => none
def l_get_q2_c : List Ent := [(0, .lload_n 0, 1, []), (1, .bipush 8, 2, []), (3, .iload_n 2, 1, []), (4, .imul, 1, []), (5, .lushr, 1, []), (6, .ldc2_w 7, 3, []), (9, .land, 1, []), (10, .l2i, 1, []), (11, .ireturn, 1, [])]
set_option maxRecDepth 65536 in
theorem l_get_q2_cOk : codeOk method_2_code l_get_q2_c = true := by decide +kernel
set_option maxRecDepth 65536 in
set_option maxHeartbeats 4000000 in
theorem l_get_q2_0_ok (l : Launch) {Z : State} {a0 : Array Value} (hw : ∀ d ∈ tables_1, d.before a0 Z = true) (hi : (Jvm.Cond.initialized "DeltaCausalMapL6").before a0 Z = true) (N : Nat) (len : Int) (sc : Int → Int) : Blk l Z "DeltaCausalMapL6" method_2_code 3 (some .int) false ({ frames := 0, cells := 0, slots := 0, locals := 0 } : Room) (AL 1 23) nL zL (fun _ => 0) (fun _ => 0) (fun i q S h => HL Z "DeltaCausalMap" fsT asT 23 gtT false true len sc i q S h ∧ q ≤ 2 * 1) [1, 2, 0] 1 2 (0, 2, l_get_q2_0_P (l_get_q2 N len sc)) :=
  blk_of_den (jl := []) (lst := l_get_q2_c) (l_get_q2_hop l hw hi N len sc) (Or.inr (Or.inl ⟨rfl, rfl⟩)) rfl (by decide) (by decide) l_get_q2_cOk fn (fun L st S r ok h => by unfold l_get_q2_0_P at h; split at h; exact h; cases h)
def l_get_s2_F (N : Nat) (len : Int) (sc : Int → Int) : List AV → St → RS St := fun av S => match av with
  | [.inr (.inl x0), .inl x2] => l_get_q2 N len sc x0 x2 S
  | _ => none
theorem l_get_q2_P0 (f : Int → Int → St → RS St) (x0 : Int) (x2 : Int) (S : St) : l_get_q2_0_P f (entryL [.inr (.inl x0), .inl x2] 3) [] S = f x0 x2 S := rfl
set_option maxRecDepth 65536 in
set_option maxHeartbeats 4000000 in
theorem l_get_s2_con (l : Launch) {Z : State} {a0 : Array Value} (hw : ∀ d ∈ tables_1, d.before a0 Z = true) (hi : (Jvm.Cond.initialized "DeltaCausalMapL6").before a0 Z = true) (N : Nat) (len : Int) (sc : Int → Int) : ConL l Z "DeltaCausalMap" fsT asT 23 1 gtT true len sc (⟨"DeltaCausalMapL6", "get", "(JI)I"⟩ : MethodName) method_2_code 3 (some .int) ({ frames := 0, cells := 0, slots := 0, locals := 0 } : Room) 1 2 (l_get_s2_F N len sc) := by
  intro i av S r hh h oks hz hH
  unfold l_get_s2_F at h
  split at h
  · exact conL_of (l_get_q2_0_ok l hw hi N len sc) pnL rfl (by decide) ((l_get_q2_P0 _ _ _ _).trans h) (okL_entry rfl oks rfl) hz hH
  · cases h
set_option maxRecDepth 65536 in
theorem l_get_s2_stat (l : Launch) {Z : State} {a0 : Array Value} (hw : ∀ d ∈ tables_1, d.before a0 Z = true) (hi : (Jvm.Cond.initialized "DeltaCausalMapL6").before a0 Z = true) (N : Nat) (len : Int) (sc : Int → Int) (W : Nat) (R : Room) (h1 : 1 ≤ R.frames) (h2 : W + 14 ≤ R.locals) : StaL l Z a0 "DeltaCausalMapL6" "DeltaCausalMap" fsT asT 23 1 W R gtT true len sc (306, 2, 1, l_get_s2_F N len sc) :=
  staL_mk 19 2 (by decide) (by decide) ⟨(⟨"DeltaCausalMapL6", "get", "(JI)I"⟩ : MethodName), method_2_code, 3, (some .int), ({ frames := 0, cells := 0, slots := 0, locals := 0 } : Room), [.long, .int], rfl, (hw _ (List.mem_of_getElem? (i := 141) rfl)), (hw _ (List.mem_of_getElem? (i := 142) rfl)), hi, (hw _ (List.mem_of_getElem? (i := 144) rfl)), by decide +kernel, rfl, rfl, rfl, h1, by dsimp only; omega, l_get_s2_con l hw hi N len sc⟩
/-! ## DeltaCausalMapL6.ok:(LDeltaCausalMap;JJI)Z, as l_ok_0_q2 -/
set_option maxRecDepth 65536 in
set_option maxHeartbeats 4000000 in
theorem l_ok_0_q2_hop (l : Launch) {Z : State} {a0 : Array Value} (hw : ∀ d ∈ tables_1, d.before a0 Z = true) (hi : (Jvm.Cond.initialized "DeltaCausalMapL6").before a0 Z = true) (N : Nat) (len : Int) (sc : Int → Int) : HopAll l Z "DeltaCausalMapL6" method_3_code 13 (some .boolean) false ({ frames := 2, cells := 0, slots := 0, locals := 30 } : Room) (AL 1 23) nL zL (fun _ => 0) (fun _ => 0) (fun i q S h => HL Z "DeltaCausalMap" fsT asT 23 gtT false true len sc i q S h ∧ q ≤ 2 * 1) (hopL 1 1 9 28 3 false (m_init_F N) [(11, 2, 1, m_messageField_F N), (15, 3, 1, m_protocol_F N), (25, 2, 1, m_known_F N)] [(306, 2, 1, l_get_s2_F N len sc)] cIL cJL gtT ptT true len sc) :=
  hopL_all (kk := 26) (clsT hw) mhC mhL (hw _ (List.mem_of_getElem? (i := 2) rfl)) gpT (fun h => nomatch h) (fun h => nomatch h) (fun _ => rfl) (cIL_ok hw) (cJL_ok hw) (fc (m_messageField_virL l hw N _ _ (by decide) (by decide)) (fc (m_protocol_virL l hw N _ _ (by decide) (by decide)) (fc (m_known_virL l hw N _ _ (by decide) (by decide)) fn))) (fc (l_get_s2_stat l hw hi N len sc _ _ (by decide) (by decide)) fn)
def l_ok_0_q2_147 (N : Nat) (len : Int) (sc : Int → Int) (k44 : Int → Int → Int → St → RS St) (x1 : Int) (x3 : Int) (x7 : Int) (x9 : Int) (x12 : Int) (S : St) : RS St :=
  (if x12 < 0 then
    some (0, S)
  else
    ((l_get_q2 N len sc x1 x9 S).bind fun r1 =>
    (if r1.1 < x12 then
      some (0, r1.2)
    else
      k44 x1 x3 (w32 (x7 + 1)) r1.2)))
def l_ok_0_q2_147_P (f : Int → Int → Int → Int → Int → St → RS St) : Jn St := fun L st S => match L, st with
  | [some (some (.inr (.inr (some 0)))), some (some (.inr (.inl x1))), _, some (some (.inr (.inl x3))), _, _, _, some (some (.inl x7)), _, some (some (.inl x9)), _, _, some (some (.inl x12))], [] => f x1 x3 x7 x9 x12 S
  | _, _ => none
def l_ok_0_q2_44 (N : Nat) (len : Int) (sc : Int → Int) : Nat → Int → Int → Int → St → RS St
  | 0, _, _, _, _ => none
  | n + 1, x1, x3, x7, S =>
    (if x7 < 16 then
      ((m_protocol N (ishr x7 2) 0 0 S).bind fun r1 =>
      ((m_protocol N (ishr x7 2) 1 0 r1.2).bind fun r2 =>
      ((l_get_q2 N len sc x3 (ishr x7 2) r2.2).bind fun r3 =>
      (if r1.1 = r3.1 then
        (if r2.1 < 0 then
          some (0, r3.2)
        else
          (if r1.1 < r2.1 then
            some (0, r3.2)
          else
            (if 2 < w32 (r1.1 - r2.1) then
              some (0, r3.2)
            else
              ((m_known N (ishr x7 2) (iand x7 3) r3.2).bind fun r4 =>
              (if iand x7 3 = ishr x7 2 then
                ((l_get_q2 N len sc x1 (ishr x7 2) r4.2).bind fun r5 =>
                (if r4.1 = r5.1 then
                  l_ok_0_q2_147 N len sc (l_ok_0_q2_44 N len sc n) x1 x3 x7 (iand x7 3) r4.1 r5.2
                else
                  some (0, r5.2)))
              else
                l_ok_0_q2_147 N len sc (l_ok_0_q2_44 N len sc n) x1 x3 x7 (iand x7 3) r4.1 r4.2)))))
      else
        some (0, r3.2)))))
    else
      some (1, S))
def l_ok_0_q2_44_P (f : Int → Int → Int → St → RS St) : Jn St := fun L st S => match L, st with
  | [some (some (.inr (.inr (some 0)))), some (some (.inr (.inl x1))), _, some (some (.inr (.inl x3))), _, _, _, some (some (.inl x7)), _, _, _, _, _], [] => f x1 x3 x7 S
  | _, _ => none
def l_ok_0_q2_32 (N : Nat) (len : Int) (sc : Int → Int) (x1 : Int) (x3 : Int) (x5 : Int) (x6 : Int) (S : St) : RS St :=
  (if x6 = x5 then
    l_ok_0_q2_44 N len sc N x1 x3 0 S
  else
    some (0, S))
def l_ok_0_q2_32_P (f : Int → Int → Int → Int → St → RS St) : Jn St := fun L st S => match L, st with
  | [some (some (.inr (.inr (some 0)))), some (some (.inr (.inl x1))), _, some (some (.inr (.inl x3))), _, some (some (.inl x5)), some (some (.inl x6)), _, _, _, _, _, _], [] => f x1 x3 x5 x6 S
  | _, _ => none
def l_ok_0_q2_26 (N : Nat) (len : Int) (sc : Int → Int) (k6 : Int → Int → Int → Int → Int → St → RS St) (x1 : Int) (x3 : Int) (x5 : Int) (x6 : Int) (x7 : Int) (S : St) : RS St :=
  k6 x1 x3 x5 x6 (w32 (x7 + 1)) S
def l_ok_0_q2_26_P (f : Int → Int → Int → Int → Int → St → RS St) : Jn St := fun L st S => match L, st with
  | [some (some (.inr (.inr (some 0)))), some (some (.inr (.inl x1))), _, some (some (.inr (.inl x3))), _, some (some (.inl x5)), some (some (.inl x6)), some (some (.inl x7)), _, _, _, _, _], [] => f x1 x3 x5 x6 x7 S
  | _, _ => none
def l_ok_0_q2_6 (N : Nat) (len : Int) (sc : Int → Int) : Nat → Int → Int → Int → Int → Int → St → RS St
  | 0, _, _, _, _, _, _ => none
  | n + 1, x1, x3, x5, x6, x7, S =>
    (if x7 < 6 then
      ((m_messageField N x7 0 S).bind fun r1 =>
      (if r1.1 = 0 then
        l_ok_0_q2_26 N len sc (l_ok_0_q2_6 N len sc n) x1 x3 x5 x6 x7 r1.2
      else
        l_ok_0_q2_26 N len sc (l_ok_0_q2_6 N len sc n) x1 x3 x5 (w32 (x6 + 1)) x7 r1.2))
    else
      l_ok_0_q2_32 N len sc x1 x3 x5 x6 S)
def l_ok_0_q2_6_P (f : Int → Int → Int → Int → Int → St → RS St) : Jn St := fun L st S => match L, st with
  | [some (some (.inr (.inr (some 0)))), some (some (.inr (.inl x1))), _, some (some (.inr (.inl x3))), _, some (some (.inl x5)), some (some (.inl x6)), some (some (.inl x7)), _, _, _, _, _], [] => f x1 x3 x5 x6 x7 S
  | _, _ => none
def l_ok_0_q2 (N : Nat) (len : Int) (sc : Int → Int) (x1 : Int) (x3 : Int) (x5 : Int) (S : St) : RS St :=
  l_ok_0_q2_6 N len sc N x1 x3 x5 0 0 S
def l_ok_0_q2_0_P (f : Int → Int → Int → St → RS St) : Jn St := fun L st S => match L, st with
  | [some (some (.inr (.inr (some 0)))), some (some (.inr (.inl x1))), _, some (some (.inr (.inl x3))), _, some (some (.inl x5)), _, _, _, _, _, _, _], [] => f x1 x3 x5 S
  | _, _ => none
def l_ok_0_q2_c : List Ent := [(0, .iconst 0, 1, []), (1, .istore 6, 2, []), (3, .iconst 0, 1, []), (4, .istore 7, 2, []), (6, .iload 7, 2, []), (8, .bipush 6, 2, []), (10, .if_icmp .ge 22, 3, [32]), (13, .aload_n 0, 1, []), (14, .iload 7, 2, []), (16, .iconst 0, 1, []), (17, .invokevirtual 11, 3, []), (20, .ifCond .eq 6, 3, [26]), (23, .iinc 6 1, 3, []), (26, .iinc 7 1, 3, []), (29, .goto (-23), 3, [6]), (32, .iload 6, 2, []), (34, .iload 5, 2, []), (36, .if_icmp .eq 5, 3, [41]), (39, .iconst 0, 1, []), (40, .ireturn, 1, []), (41, .iconst 0, 1, []), (42, .istore 7, 2, []), (44, .iload 7, 2, []), (46, .bipush 16, 2, []), (48, .if_icmp .ge 123, 3, [171]), (51, .iload 7, 2, []), (53, .iconst 2, 1, []), (54, .ishr, 1, []), (55, .istore 8, 2, []), (57, .iload 7, 2, []), (59, .iconst 3, 1, []), (60, .iand, 1, []), (61, .istore 9, 2, []), (63, .aload_n 0, 1, []), (64, .iload 8, 2, []), (66, .iconst 0, 1, []), (67, .iconst 0, 1, []), (68, .invokevirtual 15, 3, []), (71, .istore 10, 2, []), (73, .aload_n 0, 1, []), (74, .iload 8, 2, []), (76, .iconst 1, 1, []), (77, .iconst 0, 1, []), (78, .invokevirtual 15, 3, []), (81, .istore 11, 2, []), (83, .iload 10, 2, []), (85, .lload_n 3, 1, []), (86, .iload 8, 2, []), (88, .invokestatic 19, 3, []), (91, .if_icmp .ne 24, 3, [115]), (94, .iload 11, 2, []), (96, .ifCond .lt 19, 3, [115]), (99, .iload 11, 2, []), (101, .iload 10, 2, []), (103, .if_icmp .gt 12, 3, [115]), (106, .iload 10, 2, []), (108, .iload 11, 2, []), (110, .isub, 1, []), (111, .iconst 2, 1, []), (112, .if_icmp .le 5, 3, [117]), (115, .iconst 0, 1, []), (116, .ireturn, 1, []), (117, .aload_n 0, 1, []), (118, .iload 8, 2, []), (120, .iload 9, 2, []), (122, .invokevirtual 25, 3, []), (125, .istore 12, 2, []), (127, .iload 9, 2, []), (129, .iload 8, 2, []), (131, .if_icmp .ne 16, 3, [147]), (134, .iload 12, 2, []), (136, .lload_n 1, 1, []), (137, .iload 8, 2, []), (139, .invokestatic 19, 3, []), (142, .if_icmp .eq 5, 3, [147]), (145, .iconst 0, 1, []), (146, .ireturn, 1, []), (147, .iload 12, 2, []), (149, .ifCond .lt 14, 3, [163]), (152, .iload 12, 2, []), (154, .lload_n 1, 1, []), (155, .iload 9, 2, []), (157, .invokestatic 19, 3, []), (160, .if_icmp .le 5, 3, [165]), (163, .iconst 0, 1, []), (164, .ireturn, 1, []), (165, .iinc 7 1, 3, []), (168, .goto (-124), 3, [44]), (171, .iconst 1, 1, []), (172, .ireturn, 1, [])]
set_option maxRecDepth 65536 in
theorem l_ok_0_q2_cOk : codeOk method_3_code l_ok_0_q2_c = true := by decide +kernel
set_option maxRecDepth 65536 in
set_option maxHeartbeats 4000000 in
theorem l_ok_0_q2_147_ok (l : Launch) {Z : State} {a0 : Array Value} (hw : ∀ d ∈ tables_1, d.before a0 Z = true) (hi : (Jvm.Cond.initialized "DeltaCausalMapL6").before a0 Z = true) (N : Nat) (len : Int) (sc : Int → Int) {k44 : Int → Int → Int → St → RS St} (h44 : Blk l Z "DeltaCausalMapL6" method_3_code 13 (some .boolean) false ({ frames := 2, cells := 0, slots := 0, locals := 30 } : Room) (AL 1 23) nL zL (fun _ => 0) (fun _ => 0) (fun i q S h => HL Z "DeltaCausalMap" fsT asT 23 gtT false true len sc i q S h ∧ q ≤ 2 * 1) [0, 1, 2, 1, 2, 0, 0, 0, 0, 0, 0, 0, 0] 3 2 (44, 2, l_ok_0_q2_44_P (k44))) : Blk l Z "DeltaCausalMapL6" method_3_code 13 (some .boolean) false ({ frames := 2, cells := 0, slots := 0, locals := 30 } : Room) (AL 1 23) nL zL (fun _ => 0) (fun _ => 0) (fun i q S h => HL Z "DeltaCausalMap" fsT asT 23 gtT false true len sc i q S h ∧ q ≤ 2 * 1) [0, 1, 2, 1, 2, 0, 0, 0, 0, 0, 0, 0, 0] 3 2 (147, 2, l_ok_0_q2_147_P (l_ok_0_q2_147 N len sc k44)) :=
  blk_of_den (jl := [(44, 2, l_ok_0_q2_44_P (k44))]) (lst := l_ok_0_q2_c) (l_ok_0_q2_hop l hw hi N len sc) (Or.inr (Or.inr (Or.inr ⟨rfl, rfl⟩))) rfl (by decide) (by decide) l_ok_0_q2_cOk (fc h44 fn) (fun L st S r ok h => by unfold l_ok_0_q2_147_P at h; split at h; exact h; cases h)
set_option maxRecDepth 65536 in
set_option maxHeartbeats 4000000 in
theorem l_ok_0_q2_44_ok (l : Launch) {Z : State} {a0 : Array Value} (hw : ∀ d ∈ tables_1, d.before a0 Z = true) (hi : (Jvm.Cond.initialized "DeltaCausalMapL6").before a0 Z = true) (N : Nat) (len : Int) (sc : Int → Int) : ∀ n, Blk l Z "DeltaCausalMapL6" method_3_code 13 (some .boolean) false ({ frames := 2, cells := 0, slots := 0, locals := 30 } : Room) (AL 1 23) nL zL (fun _ => 0) (fun _ => 0) (fun i q S h => HL Z "DeltaCausalMap" fsT asT 23 gtT false true len sc i q S h ∧ q ≤ 2 * 1) [0, 1, 2, 1, 2, 0, 0, 0, 0, 0, 0, 0, 0] 3 2 (44, 2, l_ok_0_q2_44_P (l_ok_0_q2_44 N len sc n))
  | 0 => blk_none (fun L st S => by unfold l_ok_0_q2_44_P; split <;> rfl)
  | n + 1 => have ih := l_ok_0_q2_44_ok l hw hi N len sc n
    blk_of_den (jl := [(147, 2, l_ok_0_q2_147_P (l_ok_0_q2_147 N len sc (l_ok_0_q2_44 N len sc n)))]) (lst := l_ok_0_q2_c) (l_ok_0_q2_hop l hw hi N len sc) (Or.inr (Or.inr (Or.inr ⟨rfl, rfl⟩))) rfl (by decide) (by decide) l_ok_0_q2_cOk (fc (l_ok_0_q2_147_ok l hw hi N len sc ih) fn) (fun L st S r ok h => by unfold l_ok_0_q2_44_P at h; split at h; exact h; cases h)
set_option maxRecDepth 65536 in
set_option maxHeartbeats 4000000 in
theorem l_ok_0_q2_32_ok (l : Launch) {Z : State} {a0 : Array Value} (hw : ∀ d ∈ tables_1, d.before a0 Z = true) (hi : (Jvm.Cond.initialized "DeltaCausalMapL6").before a0 Z = true) (N : Nat) (len : Int) (sc : Int → Int) : Blk l Z "DeltaCausalMapL6" method_3_code 13 (some .boolean) false ({ frames := 2, cells := 0, slots := 0, locals := 30 } : Room) (AL 1 23) nL zL (fun _ => 0) (fun _ => 0) (fun i q S h => HL Z "DeltaCausalMap" fsT asT 23 gtT false true len sc i q S h ∧ q ≤ 2 * 1) [0, 1, 2, 1, 2, 0, 0, 0, 0, 0, 0, 0, 0] 3 2 (32, 2, l_ok_0_q2_32_P (l_ok_0_q2_32 N len sc)) :=
  blk_of_den (jl := [(44, 2, l_ok_0_q2_44_P (l_ok_0_q2_44 N len sc N))]) (lst := l_ok_0_q2_c) (l_ok_0_q2_hop l hw hi N len sc) (Or.inr (Or.inr (Or.inr ⟨rfl, rfl⟩))) rfl (by decide) (by decide) l_ok_0_q2_cOk (fc (l_ok_0_q2_44_ok l hw hi N len sc N) fn) (fun L st S r ok h => by unfold l_ok_0_q2_32_P at h; split at h; exact h; cases h)
set_option maxRecDepth 65536 in
set_option maxHeartbeats 4000000 in
theorem l_ok_0_q2_26_ok (l : Launch) {Z : State} {a0 : Array Value} (hw : ∀ d ∈ tables_1, d.before a0 Z = true) (hi : (Jvm.Cond.initialized "DeltaCausalMapL6").before a0 Z = true) (N : Nat) (len : Int) (sc : Int → Int) {k6 : Int → Int → Int → Int → Int → St → RS St} (h6 : Blk l Z "DeltaCausalMapL6" method_3_code 13 (some .boolean) false ({ frames := 2, cells := 0, slots := 0, locals := 30 } : Room) (AL 1 23) nL zL (fun _ => 0) (fun _ => 0) (fun i q S h => HL Z "DeltaCausalMap" fsT asT 23 gtT false true len sc i q S h ∧ q ≤ 2 * 1) [0, 1, 2, 1, 2, 0, 0, 0, 0, 0, 0, 0, 0] 3 2 (6, 2, l_ok_0_q2_6_P (k6))) : Blk l Z "DeltaCausalMapL6" method_3_code 13 (some .boolean) false ({ frames := 2, cells := 0, slots := 0, locals := 30 } : Room) (AL 1 23) nL zL (fun _ => 0) (fun _ => 0) (fun i q S h => HL Z "DeltaCausalMap" fsT asT 23 gtT false true len sc i q S h ∧ q ≤ 2 * 1) [0, 1, 2, 1, 2, 0, 0, 0, 0, 0, 0, 0, 0] 3 2 (26, 2, l_ok_0_q2_26_P (l_ok_0_q2_26 N len sc k6)) :=
  blk_of_den (jl := [(6, 2, l_ok_0_q2_6_P (k6))]) (lst := l_ok_0_q2_c) (l_ok_0_q2_hop l hw hi N len sc) (Or.inr (Or.inr (Or.inr ⟨rfl, rfl⟩))) rfl (by decide) (by decide) l_ok_0_q2_cOk (fc h6 fn) (fun L st S r ok h => by unfold l_ok_0_q2_26_P at h; split at h; exact h; cases h)
set_option maxRecDepth 65536 in
set_option maxHeartbeats 4000000 in
theorem l_ok_0_q2_6_ok (l : Launch) {Z : State} {a0 : Array Value} (hw : ∀ d ∈ tables_1, d.before a0 Z = true) (hi : (Jvm.Cond.initialized "DeltaCausalMapL6").before a0 Z = true) (N : Nat) (len : Int) (sc : Int → Int) : ∀ n, Blk l Z "DeltaCausalMapL6" method_3_code 13 (some .boolean) false ({ frames := 2, cells := 0, slots := 0, locals := 30 } : Room) (AL 1 23) nL zL (fun _ => 0) (fun _ => 0) (fun i q S h => HL Z "DeltaCausalMap" fsT asT 23 gtT false true len sc i q S h ∧ q ≤ 2 * 1) [0, 1, 2, 1, 2, 0, 0, 0, 0, 0, 0, 0, 0] 3 2 (6, 2, l_ok_0_q2_6_P (l_ok_0_q2_6 N len sc n))
  | 0 => blk_none (fun L st S => by unfold l_ok_0_q2_6_P; split <;> rfl)
  | n + 1 => have ih := l_ok_0_q2_6_ok l hw hi N len sc n
    blk_of_den (jl := [(32, 2, l_ok_0_q2_32_P (l_ok_0_q2_32 N len sc)), (26, 2, l_ok_0_q2_26_P (l_ok_0_q2_26 N len sc (l_ok_0_q2_6 N len sc n)))]) (lst := l_ok_0_q2_c) (l_ok_0_q2_hop l hw hi N len sc) (Or.inr (Or.inr (Or.inr ⟨rfl, rfl⟩))) rfl (by decide) (by decide) l_ok_0_q2_cOk (fc (l_ok_0_q2_32_ok l hw hi N len sc) (fc (l_ok_0_q2_26_ok l hw hi N len sc ih) fn)) (fun L st S r ok h => by unfold l_ok_0_q2_6_P at h; split at h; exact h; cases h)
set_option maxRecDepth 65536 in
set_option maxHeartbeats 4000000 in
theorem l_ok_0_q2_0_ok (l : Launch) {Z : State} {a0 : Array Value} (hw : ∀ d ∈ tables_1, d.before a0 Z = true) (hi : (Jvm.Cond.initialized "DeltaCausalMapL6").before a0 Z = true) (N : Nat) (len : Int) (sc : Int → Int) : Blk l Z "DeltaCausalMapL6" method_3_code 13 (some .boolean) false ({ frames := 2, cells := 0, slots := 0, locals := 30 } : Room) (AL 1 23) nL zL (fun _ => 0) (fun _ => 0) (fun i q S h => HL Z "DeltaCausalMap" fsT asT 23 gtT false true len sc i q S h ∧ q ≤ 2 * 1) [0, 1, 2, 1, 2, 0, 0, 0, 0, 0, 0, 0, 0] 3 2 (0, 2, l_ok_0_q2_0_P (l_ok_0_q2 N len sc)) :=
  blk_of_den (jl := [(6, 2, l_ok_0_q2_6_P (l_ok_0_q2_6 N len sc N))]) (lst := l_ok_0_q2_c) (l_ok_0_q2_hop l hw hi N len sc) (Or.inr (Or.inr (Or.inr ⟨rfl, rfl⟩))) rfl (by decide) (by decide) l_ok_0_q2_cOk (fc (l_ok_0_q2_6_ok l hw hi N len sc N) fn) (fun L st S r ok h => by unfold l_ok_0_q2_0_P at h; split at h; exact h; cases h)
def l_ok_s2_F (N : Nat) (len : Int) (sc : Int → Int) : List AV → St → RS St := fun av S => match av with
  | [.inr (.inr (some 0)), .inr (.inl x1), .inr (.inl x3), .inl x5] => l_ok_0_q2 N len sc x1 x3 x5 S
  | _ => none
theorem l_ok_0_q2_P0 (f : Int → Int → Int → St → RS St) (x1 : Int) (x3 : Int) (x5 : Int) (S : St) : l_ok_0_q2_0_P f (entryL [.inr (.inr (some 0)), .inr (.inl x1), .inr (.inl x3), .inl x5] 13) [] S = f x1 x3 x5 S := rfl
set_option maxRecDepth 65536 in
set_option maxHeartbeats 4000000 in
theorem l_ok_s2_con (l : Launch) {Z : State} {a0 : Array Value} (hw : ∀ d ∈ tables_1, d.before a0 Z = true) (hi : (Jvm.Cond.initialized "DeltaCausalMapL6").before a0 Z = true) (N : Nat) (len : Int) (sc : Int → Int) : ConL l Z "DeltaCausalMap" fsT asT 23 1 gtT true len sc (⟨"DeltaCausalMapL6", "ok", "(LDeltaCausalMap;JJI)Z"⟩ : MethodName) method_3_code 13 (some .boolean) ({ frames := 2, cells := 0, slots := 0, locals := 30 } : Room) 3 2 (l_ok_s2_F N len sc) := by
  intro i av S r hh h oks hz hH
  unfold l_ok_s2_F at h
  split at h
  · exact conL_of (l_ok_0_q2_0_ok l hw hi N len sc) pnL rfl (by decide) ((l_ok_0_q2_P0 _ _ _ _ _).trans h) (okL_entry rfl oks rfl) hz hH
  · cases h
set_option maxRecDepth 65536 in
theorem l_ok_s2_stat (l : Launch) {Z : State} {a0 : Array Value} (hw : ∀ d ∈ tables_1, d.before a0 Z = true) (hi : (Jvm.Cond.initialized "DeltaCausalMapL6").before a0 Z = true) (N : Nat) (len : Int) (sc : Int → Int) (W : Nat) (R : Room) (h1 : 3 ≤ R.frames) (h2 : W + 54 ≤ R.locals) : StaL l Z a0 "DeltaCausalMapL6" "DeltaCausalMap" fsT asT 23 1 W R gtT true len sc (914, 4, 3, l_ok_s2_F N len sc) :=
  staL_mk 57 2 (by decide) (by decide) ⟨(⟨"DeltaCausalMapL6", "ok", "(LDeltaCausalMap;JJI)Z"⟩ : MethodName), method_3_code, 13, (some .boolean), ({ frames := 2, cells := 0, slots := 0, locals := 30 } : Room), [(.object "DeltaCausalMap"), .long, .long, .int], rfl, (hw _ (List.mem_of_getElem? (i := 146) rfl)), (hw _ (List.mem_of_getElem? (i := 147) rfl)), hi, (hw _ (List.mem_of_getElem? (i := 148) rfl)), by decide +kernel, rfl, rfl, rfl, h1, by dsimp only; omega, l_ok_s2_con l hw hi N len sc⟩
/-! ## DeltaCausalMapL6.law:([I)Z, as l_law -/
set_option maxRecDepth 65536 in
set_option maxHeartbeats 4000000 in
theorem l_law_hop (l : Launch) {Z : State} {a0 : Array Value} (hw : ∀ d ∈ tables_1, d.before a0 Z = true) (hi : (Jvm.Cond.initialized "DeltaCausalMapL6").before a0 Z = true) (N : Nat) (len : Int) (sc : Int → Int) : HopAll l Z "DeltaCausalMapL6" code maxLocals ret false room_1 (AL 1 23) nL zL (fun q => szL 23 q) (fun q => slL 26 (sumTo (lenAt asT) 23) q) (fun i q S h => HL Z "DeltaCausalMap" fsT asT 23 gtT true true len sc i q S h ∧ q ≤ 2 * 1) (hopL 1 1 9 28 3 true (m_init_F N) [(31, 3, 1, m_write_F N), (34, 2, 1, m_enable_F N), (37, 2, 1, m_disable_F N), (40, 2, 1, m_removeKey_F N), (43, 2, 1, m_send_F N), (11, 2, 1, m_messageField_F N), (46, 1, 1, m_deliver_F N), (15, 3, 1, m_protocol_F N), (50, 1, 3, m_drop_F N), (54, 1, 1, m_duplicate_F N)] [(914, 4, 3, l_ok_s2_F N len sc), (306, 2, 1, l_get_s2_F N len sc)] cIL cJL gtT ptT true len sc) :=
  hopL_all (kk := 26) (clsT hw) mhC mhL (hw _ (List.mem_of_getElem? (i := 2) rfl)) gpT (fun _ => ⟨(hw _ (List.mem_of_getElem? (i := 0) rfl)), (⟨"DeltaCausalMap", "<init>", "(III)V"⟩ : MethodName), prog_1_method_1_code, 4, ({ frames := 1, cells := 23, slots := 632, locals := 16 } : Room), [.int, .int, .int], rfl, rfl, (hw _ (List.mem_of_getElem? (i := 3) rfl)), (hw _ (List.mem_of_getElem? (i := 4) rfl)), (hw _ (List.mem_of_getElem? (i := 5) rfl)), by decide +kernel, rfl, rfl, by decide, by decide, by decide, m_init_con l hw N⟩) (fun _ => ⟨by decide, by decide⟩) (fun _ => rfl) (cIL_ok hw) (cJL_ok hw) (fc (m_write_virL l hw N _ _ (by decide) (by decide)) (fc (m_enable_virL l hw N _ _ (by decide) (by decide)) (fc (m_disable_virL l hw N _ _ (by decide) (by decide)) (fc (m_removeKey_virL l hw N _ _ (by decide) (by decide)) (fc (m_send_virL l hw N _ _ (by decide) (by decide)) (fc (m_messageField_virL l hw N _ _ (by decide) (by decide)) (fc (m_deliver_virL l hw N _ _ (by decide) (by decide)) (fc (m_protocol_virL l hw N _ _ (by decide) (by decide)) (fc (m_drop_virL l hw N _ _ (by decide) (by decide)) (fc (m_duplicate_virL l hw N _ _ (by decide) (by decide)) fn)))))))))) (fc (l_ok_s2_stat l hw hi N len sc _ _ (by decide) (by decide)) (fc (l_get_s2_stat l hw hi N len sc _ _ (by decide) (by decide)) fn))
def l_law_623 (N : Nat) (len : Int) (sc : Int → Int) (k23 : Int → Int → Int → Int → St → RS St) (x2 : Int) (x4 : Int) (x6 : Int) (x7 : Int) (S : St) : RS St :=
  ((l_ok_0_q2 N len sc x2 x4 x6 S).bind fun r1 =>
  (if r1.1 = 0 then
    some (0, r1.2)
  else
    k23 x2 x4 x6 (w32 (x7 + 4)) r1.2))
def l_law_623_P (f : Int → Int → Int → Int → St → RS St) : Jn St := fun L st S => match L, st with
  | [some (some (.inr (.inr (some 1)))), some (some (.inr (.inr (some 0)))), some (some (.inr (.inl x2))), _, some (some (.inr (.inl x4))), _, some (some (.inl x6)), some (some (.inl x7)), _, _, _, _, _, _, _, _, _, _, _, _], [] => f x2 x4 x6 x7 S
  | _, _ => none
def l_law_566 (N : Nat) (len : Int) (sc : Int → Int) (k23 : Int → Int → Int → Int → St → RS St) (x2 : Int) (x4 : Int) (x6 : Int) (x7 : Int) (S : St) : RS St :=
  l_law_623 N len sc k23 x2 x4 x6 x7 S
def l_law_566_P (f : Int → Int → Int → Int → St → RS St) : Jn St := fun L st S => match L, st with
  | [some (some (.inr (.inr (some 1)))), some (some (.inr (.inr (some 0)))), some (some (.inr (.inl x2))), _, some (some (.inr (.inl x4))), _, some (some (.inl x6)), some (some (.inl x7)), _, _, _, _, _, _, _, _, _, _, _, _], [] => f x2 x4 x6 x7 S
  | _, _ => none
def l_law_553 (N : Nat) (len : Int) (sc : Int → Int) (k23 : Int → Int → Int → Int → St → RS St) (x2 : Int) (x4 : Int) (x6 : Int) (x7 : Int) (x19 : Int) (t0 : Int) (t1 : Int) (S : St) : RS St :=
  (if t1 = t0 then
    (if x19 = 0 then
      l_law_566 N len sc k23 x2 x4 x6 x7 S
    else
      l_law_566 N len sc k23 x2 x4 (w32 (x6 + (-1))) x7 S)
  else
    some (0, S))
def l_law_553_P (f : Int → Int → Int → Int → Int → Int → Int → St → RS St) : Jn St := fun L st S => match L, st with
  | [some (some (.inr (.inr (some 1)))), some (some (.inr (.inr (some 0)))), some (some (.inr (.inl x2))), _, some (some (.inr (.inl x4))), _, some (some (.inl x6)), some (some (.inl x7)), _, _, _, _, _, _, _, _, _, _, _, some (some (.inl x19))], [.inl t0, .inl t1] => f x2 x4 x6 x7 x19 t0 t1 S
  | _, _ => none
def l_law_523 (N : Nat) (len : Int) (sc : Int → Int) (k23 : Int → Int → Int → Int → St → RS St) (x2 : Int) (x4 : Int) (x6 : Int) (x7 : Int) (S : St) : RS St :=
  l_law_623 N len sc k23 x2 x4 x6 x7 S
def l_law_523_P (f : Int → Int → Int → Int → St → RS St) : Jn St := fun L st S => match L, st with
  | [some (some (.inr (.inr (some 1)))), some (some (.inr (.inr (some 0)))), some (some (.inr (.inl x2))), _, some (some (.inr (.inl x4))), _, some (some (.inl x6)), some (some (.inl x7)), _, _, _, _, _, _, _, _, _, _, _, _], [] => f x2 x4 x6 x7 S
  | _, _ => none
def l_law_507 (N : Nat) (len : Int) (sc : Int → Int) (k23 : Int → Int → Int → Int → St → RS St) (x2 : Int) (x4 : Int) (x6 : Int) (x7 : Int) (x16 : Int) (x17 : Int) (x18 : Int) (S : St) : RS St :=
  ((m_protocol N x17 3 x16 S).bind fun r1 =>
  (if r1.1 < x18 then
    some (0, r1.2)
  else
    l_law_523 N len sc k23 x2 x4 x6 x7 r1.2))
def l_law_507_P (f : Int → Int → Int → Int → Int → Int → Int → St → RS St) : Jn St := fun L st S => match L, st with
  | [some (some (.inr (.inr (some 1)))), some (some (.inr (.inr (some 0)))), some (some (.inr (.inl x2))), _, some (some (.inr (.inl x4))), _, some (some (.inl x6)), some (some (.inl x7)), _, _, _, _, _, _, _, _, some (some (.inl x16)), some (some (.inl x17)), some (some (.inl x18)), _], [] => f x2 x4 x6 x7 x16 x17 x18 S
  | _, _ => none
set_option maxHeartbeats 8000000 in
set_option maxRecDepth 65536 in
def l_law_403 (N : Nat) (len : Int) (sc : Int → Int) (k23 : Int → Int → Int → Int → St → RS St) (x2 : Int) (x4 : Int) (x6 : Int) (x7 : Int) (x8 : Int) (x14 : Int) (x15 : Int) (x16 : Int) (x17 : Int) (x18 : Int) (S : St) : RS St :=
  (if x8 = 5 then
    ((m_deliver N x14 S).bind fun r3 =>
    (if 0 < x15 then
      (if x15 = 3 then
        (if r3.1 = 3 then
          ((m_protocol N x17 2 x16 r3.2).bind fun r4 =>
          (if r4.1 < x18 then
            some (0, r4.2)
          else
            l_law_523 N len sc k23 x2 x4 (w32 (x6 + (-1))) x7 r4.2))
        else
          some (0, r3.2))
      else
        (if r3.1 = 1 then
          (if x17 < 0 then
            some (0, r3.2)
          else
            (if 3 < x17 then
              some (0, r3.2)
            else
              l_law_507 N len sc k23 x2 (w64 (x4 + (lshl 1 (w32 (8 * x17))))) x6 x7 x16 x17 x18 r3.2))
        else
          (if r3.1 = 2 then
            l_law_507 N len sc k23 x2 x4 x6 x7 x16 x17 x18 r3.2
          else
            some (0, r3.2))))
    else
      (if r3.1 = (-6) then
        l_law_523 N len sc k23 x2 x4 x6 x7 r3.2
      else
        some (0, r3.2))))
  else
    (if x8 = 6 then
      ((m_drop N x14 S).bind fun r2 =>
      (if 0 < x15 then
        l_law_553 N len sc k23 x2 x4 x6 x7 r2.1 1 r2.1 r2.2
      else
        l_law_553 N len sc k23 x2 x4 x6 x7 r2.1 0 r2.1 r2.2))
    else
      ((m_duplicate N x14 S).bind fun r1 =>
      (if 0 < x15 then
        (if x6 = 6 then
          (if r1.1 = (-5) then
            l_law_623 N len sc k23 x2 x4 x6 x7 r1.2
          else
            some (0, r1.2))
        else
          (if r1.1 < 0 then
            some (0, r1.2)
          else
            (if 5 < r1.1 then
              some (0, r1.2)
            else
              l_law_623 N len sc k23 x2 x4 (w32 (x6 + 1)) x7 r1.2)))
      else
        (if r1.1 = (-6) then
          l_law_623 N len sc k23 x2 x4 x6 x7 r1.2
        else
          some (0, r1.2))))))
def l_law_403_P (f : Int → Int → Int → Int → Int → Int → Int → Int → Int → Int → St → RS St) : Jn St := fun L st S => match L, st with
  | [some (some (.inr (.inr (some 1)))), some (some (.inr (.inr (some 0)))), some (some (.inr (.inl x2))), _, some (some (.inr (.inl x4))), _, some (some (.inl x6)), some (some (.inl x7)), some (some (.inl x8)), _, _, _, _, _, some (some (.inl x14)), some (some (.inl x15)), some (some (.inl x16)), some (some (.inl x17)), some (some (.inl x18)), _], [] => f x2 x4 x6 x7 x8 x14 x15 x16 x17 x18 S
  | _, _ => none
def l_law_350 (N : Nat) (len : Int) (sc : Int → Int) (k23 : Int → Int → Int → Int → St → RS St) (x2 : Int) (x4 : Int) (x6 : Int) (x7 : Int) (S : St) : RS St :=
  l_law_623 N len sc k23 x2 x4 x6 x7 S
def l_law_350_P (f : Int → Int → Int → Int → St → RS St) : Jn St := fun L st S => match L, st with
  | [some (some (.inr (.inr (some 1)))), some (some (.inr (.inr (some 0)))), some (some (.inr (.inl x2))), _, some (some (.inr (.inl x4))), _, some (some (.inl x6)), some (some (.inl x7)), _, _, _, _, _, _, _, _, _, _, _, _], [] => f x2 x4 x6 x7 S
  | _, _ => none
def l_law_310 (N : Nat) (len : Int) (sc : Int → Int) (k23 : Int → Int → Int → Int → St → RS St) (x2 : Int) (x4 : Int) (x6 : Int) (x7 : Int) (x16 : Int) (S : St) : RS St :=
  (if x16 = (-1) then
    l_law_350 N len sc k23 x2 x4 x6 x7 S
  else
    some (0, S))
def l_law_310_P (f : Int → Int → Int → Int → Int → St → RS St) : Jn St := fun L st S => match L, st with
  | [some (some (.inr (.inr (some 1)))), some (some (.inr (.inr (some 0)))), some (some (.inr (.inl x2))), _, some (some (.inr (.inl x4))), _, some (some (.inl x6)), some (some (.inl x7)), _, _, _, _, _, _, _, _, some (some (.inl x16)), _, _, _], [] => f x2 x4 x6 x7 x16 S
  | _, _ => none
def l_law_272 (N : Nat) (len : Int) (sc : Int → Int) (k23 : Int → Int → Int → Int → St → RS St) (x2 : Int) (x4 : Int) (x6 : Int) (x7 : Int) (S : St) : RS St :=
  l_law_623 N len sc k23 x2 x4 x6 x7 S
def l_law_272_P (f : Int → Int → Int → Int → St → RS St) : Jn St := fun L st S => match L, st with
  | [some (some (.inr (.inr (some 1)))), some (some (.inr (.inr (some 0)))), some (some (.inr (.inl x2))), _, some (some (.inr (.inl x4))), _, some (some (.inl x6)), some (some (.inl x7)), _, _, _, _, _, _, _, _, _, _, _, _], [] => f x2 x4 x6 x7 S
  | _, _ => none
def l_law_236 (N : Nat) (len : Int) (sc : Int → Int) (k23 : Int → Int → Int → Int → St → RS St) (x2 : Int) (x4 : Int) (x6 : Int) (x7 : Int) (x11 : Int) (x15 : Int) (x16 : Int) (S : St) : RS St :=
  (if x15 = x16 then
    (if 0 < x16 then
      l_law_272 N len sc k23 (w64 (x2 + (lshl 1 (w32 (8 * x11))))) (w64 (x4 + (lshl 1 (w32 (8 * x11))))) x6 x7 S
    else
      l_law_272 N len sc k23 x2 x4 x6 x7 S)
  else
    some (0, S))
def l_law_236_P (f : Int → Int → Int → Int → Int → Int → Int → St → RS St) : Jn St := fun L st S => match L, st with
  | [some (some (.inr (.inr (some 1)))), some (some (.inr (.inr (some 0)))), some (some (.inr (.inl x2))), _, some (some (.inr (.inl x4))), _, some (some (.inl x6)), some (some (.inl x7)), _, _, _, some (some (.inl x11)), _, _, _, some (some (.inl x15)), some (some (.inl x16)), _, _, _], [] => f x2 x4 x6 x7 x11 x15 x16 S
  | _, _ => none
def l_law_208 (N : Nat) (len : Int) (sc : Int → Int) (k23 : Int → Int → Int → Int → St → RS St) (x2 : Int) (x4 : Int) (x6 : Int) (x7 : Int) (x11 : Int) (x15 : Int) (S : St) : RS St :=
  ((l_get_q2 N len sc x2 x11 S).bind fun r1 =>
  (if r1.1 = 16 then
    l_law_236 N len sc k23 x2 x4 x6 x7 x11 x15 (-4) r1.2
  else
    ((l_get_q2 N len sc x2 x11 r1.2).bind fun r2 =>
    l_law_236 N len sc k23 x2 x4 x6 x7 x11 x15 (w32 (r2.1 + 1)) r2.2)))
def l_law_208_P (f : Int → Int → Int → Int → Int → Int → St → RS St) : Jn St := fun L st S => match L, st with
  | [some (some (.inr (.inr (some 1)))), some (some (.inr (.inr (some 0)))), some (some (.inr (.inl x2))), _, some (some (.inr (.inl x4))), _, some (some (.inl x6)), some (some (.inl x7)), _, _, _, some (some (.inl x11)), _, _, _, some (some (.inl x15)), _, _, _, _], [] => f x2 x4 x6 x7 x11 x15 S
  | _, _ => none
def l_law_166 (N : Nat) (len : Int) (sc : Int → Int) (k23 : Int → Int → Int → Int → St → RS St) (x2 : Int) (x4 : Int) (x6 : Int) (x7 : Int) (x8 : Int) (x11 : Int) (x12 : Int) (x13 : Int) (x15 : Int) (S : St) : RS St :=
  (if x11 = 4 then
    l_law_236 N len sc k23 x2 x4 x6 x7 x11 x15 (-1) S
  else
    (if x12 = 3 then
      l_law_236 N len sc k23 x2 x4 x6 x7 x11 x15 (-2) S
    else
      (if x8 = 0 then
        (if x13 = 0 then
          l_law_236 N len sc k23 x2 x4 x6 x7 x11 x15 (-3) S
        else
          l_law_208 N len sc k23 x2 x4 x6 x7 x11 x15 S)
      else
        l_law_208 N len sc k23 x2 x4 x6 x7 x11 x15 S)))
def l_law_166_P (f : Int → Int → Int → Int → Int → Int → Int → Int → Int → St → RS St) : Jn St := fun L st S => match L, st with
  | [some (some (.inr (.inr (some 1)))), some (some (.inr (.inr (some 0)))), some (some (.inr (.inl x2))), _, some (some (.inr (.inl x4))), _, some (some (.inl x6)), some (some (.inl x7)), some (some (.inl x8)), _, _, some (some (.inl x11)), some (some (.inl x12)), some (some (.inl x13)), _, some (some (.inl x15)), _, _, _, _], [] => f x2 x4 x6 x7 x8 x11 x12 x13 x15 S
  | _, _ => none
set_option maxHeartbeats 8000000 in
set_option maxRecDepth 65536 in
def l_law_23 (N : Nat) (len : Int) (sc : Int → Int) : Nat → Int → Int → Int → Int → St → RS St
  | 0, _, _, _, _, _ => none
  | n + 1, x2, x4, x6, x7, S =>
    (if w32 (x7 + 3) < len then
      (if 0 ≤ x7 ∧ x7 < len then
      (if 0 ≤ w32 (x7 + 1) ∧ w32 (x7 + 1) < len then
      (if 0 ≤ w32 (x7 + 2) ∧ w32 (x7 + 2) < len then
      (if 5 = 0 then none else
      (if 0 ≤ w32 (x7 + 3) ∧ w32 (x7 + 3) < len then
      (if 3 < iand (sc x7) 7 then
        (if iand (sc x7) 7 = 4 then
          ((m_send N (Int.tmod (iand (sc (w32 (x7 + 1))) 255) 5) (iand (sc (w32 (x7 + 2))) 3) S).bind fun r5 =>
          (if Int.tmod (iand (sc (w32 (x7 + 1))) 255) 5 = 4 then
            l_law_310 N len sc (l_law_23 N len sc n) x2 x4 x6 x7 r5.1 r5.2
          else
            (if Int.tmod (iand (sc (w32 (x7 + 1))) 255) 5 = iand (sc (w32 (x7 + 2))) 3 then
              l_law_310 N len sc (l_law_23 N len sc n) x2 x4 x6 x7 r5.1 r5.2
            else
              (if x6 = 6 then
                (if r5.1 = (-5) then
                  l_law_350 N len sc (l_law_23 N len sc n) x2 x4 x6 x7 r5.2
                else
                  some (0, r5.2))
              else
                (if r5.1 < 0 then
                  some (0, r5.2)
                else
                  (if 5 < r5.1 then
                    some (0, r5.2)
                  else
                    l_law_350 N len sc (l_law_23 N len sc n) x2 x4 (w32 (x6 + 1)) x7 r5.2))))))
        else
          ((m_messageField N (iand (sc (w32 (x7 + 1))) 7) 0 S).bind fun r1 =>
          (if 0 < r1.1 then
            ((m_messageField N (iand (sc (w32 (x7 + 1))) 7) 1 r1.2).bind fun r2 =>
            ((m_messageField N (iand (sc (w32 (x7 + 1))) 7) 2 r2.2).bind fun r3 =>
            ((m_messageField N (iand (sc (w32 (x7 + 1))) 7) 4 r3.2).bind fun r4 =>
            l_law_403 N len sc (l_law_23 N len sc n) x2 x4 x6 x7 (iand (sc x7) 7) (iand (sc (w32 (x7 + 1))) 7) r1.1 r2.1 r3.1 r4.1 r4.2)))
          else
            l_law_403 N len sc (l_law_23 N len sc n) x2 x4 x6 x7 (iand (sc x7) 7) (iand (sc (w32 (x7 + 1))) 7) r1.1 0 0 0 r1.2)))
      else
        (if iand (sc x7) 7 = 0 then
          ((m_write N (Int.tmod (iand (sc (w32 (x7 + 1))) 255) 5) (iand (sc (w32 (x7 + 2))) 3) (iand (sc (w32 (x7 + 3))) 255) S).bind fun r9 =>
          l_law_166 N len sc (l_law_23 N len sc n) x2 x4 x6 x7 (iand (sc x7) 7) (Int.tmod (iand (sc (w32 (x7 + 1))) 255) 5) (iand (sc (w32 (x7 + 2))) 3) (iand (sc (w32 (x7 + 3))) 255) r9.1 r9.2)
        else
          (if iand (sc x7) 7 = 1 then
            ((m_enable N (Int.tmod (iand (sc (w32 (x7 + 1))) 255) 5) (iand (sc (w32 (x7 + 2))) 3) S).bind fun r8 =>
            l_law_166 N len sc (l_law_23 N len sc n) x2 x4 x6 x7 (iand (sc x7) 7) (Int.tmod (iand (sc (w32 (x7 + 1))) 255) 5) (iand (sc (w32 (x7 + 2))) 3) (iand (sc (w32 (x7 + 3))) 255) r8.1 r8.2)
          else
            (if iand (sc x7) 7 = 2 then
              ((m_disable N (Int.tmod (iand (sc (w32 (x7 + 1))) 255) 5) (iand (sc (w32 (x7 + 2))) 3) S).bind fun r7 =>
              l_law_166 N len sc (l_law_23 N len sc n) x2 x4 x6 x7 (iand (sc x7) 7) (Int.tmod (iand (sc (w32 (x7 + 1))) 255) 5) (iand (sc (w32 (x7 + 2))) 3) (iand (sc (w32 (x7 + 3))) 255) r7.1 r7.2)
            else
              ((m_removeKey N (Int.tmod (iand (sc (w32 (x7 + 1))) 255) 5) (iand (sc (w32 (x7 + 2))) 3) S).bind fun r6 =>
              l_law_166 N len sc (l_law_23 N len sc n) x2 x4 x6 x7 (iand (sc x7) 7) (Int.tmod (iand (sc (w32 (x7 + 1))) 255) 5) (iand (sc (w32 (x7 + 2))) 3) (iand (sc (w32 (x7 + 3))) 255) r6.1 r6.2)))))
      else none))
      else none)
      else none)
      else none)
    else
      some (1, S))
def l_law_23_P (f : Int → Int → Int → Int → St → RS St) : Jn St := fun L st S => match L, st with
  | [some (some (.inr (.inr (some 1)))), some (some (.inr (.inr (some 0)))), some (some (.inr (.inl x2))), _, some (some (.inr (.inl x4))), _, some (some (.inl x6)), some (some (.inl x7)), _, _, _, _, _, _, _, _, _, _, _, _], [] => f x2 x4 x6 x7 S
  | _, _ => none
def l_law (N : Nat) (len : Int) (sc : Int → Int) (S : St) : RS St :=
  ((m_init N 3 6 2 zS).bind fun r1 =>
  l_law_23 N len sc N 0 0 0 0 r1.2)
def l_law_0_P (f : St → RS St) : Jn St := fun L st S => match L, st with
  | [some (some (.inr (.inr (some 1)))), _, _, _, _, _, _, _, _, _, _, _, _, _, _, _, _, _, _, _], [] => f S
  | _, _ => none
def l_law_c : List Ent := [(0, .new 9, 3, []), (3, .dup, 1, []), (4, .iconst 3, 1, []), (5, .bipush 6, 2, []), (7, .iconst 2, 1, []), (8, .invokespecial 28, 3, []), (11, .astore_n 1, 1, []), (12, .lconst 0, 1, []), (13, .lstore_n 2, 1, []), (14, .lconst 0, 1, []), (15, .lstore 4, 2, []), (17, .iconst 0, 1, []), (18, .istore 6, 2, []), (20, .iconst 0, 1, []), (21, .istore 7, 2, []), (23, .iload 7, 2, []), (25, .iconst 3, 1, []), (26, .iadd, 1, []), (27, .aload_n 0, 1, []), (28, .arraylength, 1, []), (29, .if_icmp .ge 614, 3, [643]), (32, .aload_n 0, 1, []), (33, .iload 7, 2, []), (35, .iaload, 1, []), (36, .bipush 7, 2, []), (38, .iand, 1, []), (39, .istore 8, 2, []), (41, .aload_n 0, 1, []), (42, .iload 7, 2, []), (44, .iconst 1, 1, []), (45, .iadd, 1, []), (46, .iaload, 1, []), (47, .istore 9, 2, []), (49, .aload_n 0, 1, []), (50, .iload 7, 2, []), (52, .iconst 2, 1, []), (53, .iadd, 1, []), (54, .iaload, 1, []), (55, .istore 10, 2, []), (57, .iload 9, 2, []), (59, .sipush 255, 3, []), (62, .iand, 1, []), (63, .iconst 5, 1, []), (64, .irem, 1, []), (65, .istore 11, 2, []), (67, .iload 10, 2, []), (69, .iconst 3, 1, []), (70, .iand, 1, []), (71, .istore 12, 2, []), (73, .aload_n 0, 1, []), (74, .iload 7, 2, []), (76, .iconst 3, 1, []), (77, .iadd, 1, []), (78, .iaload, 1, []), (79, .sipush 255, 3, []), (82, .iand, 1, []), (83, .istore 13, 2, []), (85, .iload 9, 2, []), (87, .bipush 7, 2, []), (89, .iand, 1, []), (90, .istore 14, 2, []), (92, .iload 8, 2, []), (94, .iconst 3, 1, []), (95, .if_icmp .gt 180, 3, [275]), (98, .iload 8, 2, []), (100, .ifCond .ne 18, 3, [118]), (103, .aload_n 1, 1, []), (104, .iload 11, 2, []), (106, .iload 12, 2, []), (108, .iload 13, 2, []), (110, .invokevirtual 31, 3, []), (113, .istore 15, 2, []), (115, .goto 51, 3, [166]), (118, .iload 8, 2, []), (120, .iconst 1, 1, []), (121, .if_icmp .ne 16, 3, [137]), (124, .aload_n 1, 1, []), (125, .iload 11, 2, []), (127, .iload 12, 2, []), (129, .invokevirtual 34, 3, []), (132, .istore 15, 2, []), (134, .goto 32, 3, [166]), (137, .iload 8, 2, []), (139, .iconst 2, 1, []), (140, .if_icmp .ne 16, 3, [156]), (143, .aload_n 1, 1, []), (144, .iload 11, 2, []), (146, .iload 12, 2, []), (148, .invokevirtual 37, 3, []), (151, .istore 15, 2, []), (153, .goto 13, 3, [166]), (156, .aload_n 1, 1, []), (157, .iload 11, 2, []), (159, .iload 12, 2, []), (161, .invokevirtual 40, 3, []), (164, .istore 15, 2, []), (166, .iload 11, 2, []), (168, .iconst 4, 1, []), (169, .if_icmp .ne 9, 3, [178]), (172, .iconst (-1), 1, []), (173, .istore 16, 2, []), (175, .goto 61, 3, [236]), (178, .iload 12, 2, []), (180, .iconst 3, 1, []), (181, .if_icmp .ne 10, 3, [191]), (184, .bipush (-2), 2, []), (186, .istore 16, 2, []), (188, .goto 48, 3, [236]), (191, .iload 8, 2, []), (193, .ifCond .ne 15, 3, [208]), (196, .iload 13, 2, []), (198, .ifCond .ne 10, 3, [208]), (201, .bipush (-3), 2, []), (203, .istore 16, 2, []), (205, .goto 31, 3, [236]), (208, .lload_n 2, 1, []), (209, .iload 11, 2, []), (211, .invokestatic 19, 3, []), (214, .bipush 16, 2, []), (216, .if_icmp .ne 10, 3, [226]), (219, .bipush (-4), 2, []), (221, .istore 16, 2, []), (223, .goto 13, 3, [236]), (226, .lload_n 2, 1, []), (227, .iload 11, 2, []), (229, .invokestatic 19, 3, []), (232, .iconst 1, 1, []), (233, .iadd, 1, []), (234, .istore 16, 2, []), (236, .iload 15, 2, []), (238, .iload 16, 2, []), (240, .if_icmp .eq 5, 3, [245]), (243, .iconst 0, 1, []), (244, .ireturn, 1, []), (245, .iload 16, 2, []), (247, .ifCond .le 25, 3, [272]), (250, .lload_n 2, 1, []), (251, .lconst 1, 1, []), (252, .bipush 8, 2, []), (254, .iload 11, 2, []), (256, .imul, 1, []), (257, .lshl, 1, []), (258, .ladd, 1, []), (259, .lstore_n 2, 1, []), (260, .lload 4, 2, []), (262, .lconst 1, 1, []), (263, .bipush 8, 2, []), (265, .iload 11, 2, []), (267, .imul, 1, []), (268, .lshl, 1, []), (269, .ladd, 1, []), (270, .lstore 4, 2, []), (272, .goto 351, 3, [623]), (275, .iload 8, 2, []), (277, .iconst 4, 1, []), (278, .if_icmp .ne 75, 3, [353]), (281, .iload 10, 2, []), (283, .iconst 3, 1, []), (284, .iand, 1, []), (285, .istore 15, 2, []), (287, .aload_n 1, 1, []), (288, .iload 11, 2, []), (290, .iload 15, 2, []), (292, .invokevirtual 43, 3, []), (295, .istore 16, 2, []), (297, .iload 11, 2, []), (299, .iconst 4, 1, []), (300, .if_icmp .eq 10, 3, [310]), (303, .iload 11, 2, []), (305, .iload 15, 2, []), (307, .if_icmp .ne 11, 3, [318]), (310, .iload 16, 2, []), (312, .iconst (-1), 1, []), (313, .if_icmp .eq 37, 3, [350]), (316, .iconst 0, 1, []), (317, .ireturn, 1, []), (318, .iload 6, 2, []), (320, .bipush 6, 2, []), (322, .if_icmp .ne 12, 3, [334]), (325, .iload 16, 2, []), (327, .bipush (-5), 2, []), (329, .if_icmp .eq 21, 3, [350]), (332, .iconst 0, 1, []), (333, .ireturn, 1, []), (334, .iload 16, 2, []), (336, .ifCond .lt 9, 3, [345]), (339, .iload 16, 2, []), (341, .iconst 5, 1, []), (342, .if_icmp .le 5, 3, [347]), (345, .iconst 0, 1, []), (346, .ireturn, 1, []), (347, .iinc 6 1, 3, []), (350, .goto 273, 3, [623]), (353, .aload_n 1, 1, []), (354, .iload 14, 2, []), (356, .iconst 0, 1, []), (357, .invokevirtual 11, 3, []), (360, .istore 15, 2, []), (362, .iconst 0, 1, []), (363, .istore 16, 2, []), (365, .iconst 0, 1, []), (366, .istore 17, 2, []), (368, .iconst 0, 1, []), (369, .istore 18, 2, []), (371, .iload 15, 2, []), (373, .ifCond .le 30, 3, [403]), (376, .aload_n 1, 1, []), (377, .iload 14, 2, []), (379, .iconst 1, 1, []), (380, .invokevirtual 11, 3, []), (383, .istore 16, 2, []), (385, .aload_n 1, 1, []), (386, .iload 14, 2, []), (388, .iconst 2, 1, []), (389, .invokevirtual 11, 3, []), (392, .istore 17, 2, []), (394, .aload_n 1, 1, []), (395, .iload 14, 2, []), (397, .iconst 4, 1, []), (398, .invokevirtual 11, 3, []), (401, .istore 18, 2, []), (403, .iload 8, 2, []), (405, .iconst 5, 1, []), (406, .if_icmp .ne 120, 3, [526]), (409, .aload_n 1, 1, []), (410, .iload 14, 2, []), (412, .invokevirtual 46, 3, []), (415, .istore 19, 2, []), (417, .iload 15, 2, []), (419, .ifCond .gt 12, 3, [431]), (422, .iload 19, 2, []), (424, .bipush (-6), 2, []), (426, .if_icmp .eq 97, 3, [523]), (429, .iconst 0, 1, []), (430, .ireturn, 1, []), (431, .iload 15, 2, []), (433, .iconst 3, 1, []), (434, .if_icmp .ne 31, 3, [465]), (437, .iload 19, 2, []), (439, .iconst 3, 1, []), (440, .if_icmp .ne 17, 3, [457]), (443, .aload_n 1, 1, []), (444, .iload 17, 2, []), (446, .iconst 2, 1, []), (447, .iload 16, 2, []), (449, .invokevirtual 15, 3, []), (452, .iload 18, 2, []), (454, .if_icmp .ge 5, 3, [459]), (457, .iconst 0, 1, []), (458, .ireturn, 1, []), (459, .iinc 6 (-1), 3, []), (462, .goto 61, 3, [523]), (465, .iload 19, 2, []), (467, .iconst 1, 1, []), (468, .if_icmp .ne 31, 3, [499]), (471, .iload 17, 2, []), (473, .ifCond .lt 9, 3, [482]), (476, .iload 17, 2, []), (478, .iconst 3, 1, []), (479, .if_icmp .le 5, 3, [484]), (482, .iconst 0, 1, []), (483, .ireturn, 1, []), (484, .lload 4, 2, []), (486, .lconst 1, 1, []), (487, .bipush 8, 2, []), (489, .iload 17, 2, []), (491, .imul, 1, []), (492, .lshl, 1, []), (493, .ladd, 1, []), (494, .lstore 4, 2, []), (496, .goto 11, 3, [507]), (499, .iload 19, 2, []), (501, .iconst 2, 1, []), (502, .if_icmp .eq 5, 3, [507]), (505, .iconst 0, 1, []), (506, .ireturn, 1, []), (507, .aload_n 1, 1, []), (508, .iload 17, 2, []), (510, .iconst 3, 1, []), (511, .iload 16, 2, []), (513, .invokevirtual 15, 3, []), (516, .iload 18, 2, []), (518, .if_icmp .ge 5, 3, [523]), (521, .iconst 0, 1, []), (522, .ireturn, 1, []), (523, .goto 100, 3, [623]), (526, .iload 8, 2, []), (528, .bipush 6, 2, []), (530, .if_icmp .ne 39, 3, [569]), (533, .aload_n 1, 1, []), (534, .iload 14, 2, []), (536, .invokevirtual 50, 3, []), (539, .istore 19, 2, []), (541, .iload 19, 2, []), (543, .iload 15, 2, []), (545, .ifCond .le 7, 3, [552]), (548, .iconst 1, 1, []), (549, .goto 4, 3, [553]), (552, .iconst 0, 1, []), (553, .if_icmp .eq 5, 3, [558]), (556, .iconst 0, 1, []), (557, .ireturn, 1, []), (558, .iload 19, 2, []), (560, .ifCond .eq 6, 3, [566]), (563, .iinc 6 (-1), 3, []), (566, .goto 57, 3, [623]), (569, .aload_n 1, 1, []), (570, .iload 14, 2, []), (572, .invokevirtual 54, 3, []), (575, .istore 19, 2, []), (577, .iload 15, 2, []), (579, .ifCond .gt 12, 3, [591]), (582, .iload 19, 2, []), (584, .bipush (-6), 2, []), (586, .if_icmp .eq 37, 3, [623]), (589, .iconst 0, 1, []), (590, .ireturn, 1, []), (591, .iload 6, 2, []), (593, .bipush 6, 2, []), (595, .if_icmp .ne 12, 3, [607]), (598, .iload 19, 2, []), (600, .bipush (-5), 2, []), (602, .if_icmp .eq 21, 3, [623]), (605, .iconst 0, 1, []), (606, .ireturn, 1, []), (607, .iload 19, 2, []), (609, .ifCond .lt 9, 3, [618]), (612, .iload 19, 2, []), (614, .iconst 5, 1, []), (615, .if_icmp .le 5, 3, [620]), (618, .iconst 0, 1, []), (619, .ireturn, 1, []), (620, .iinc 6 1, 3, []), (623, .aload_n 1, 1, []), (624, .lload_n 2, 1, []), (625, .lload 4, 2, []), (627, .iload 6, 2, []), (629, .invokestatic 57, 3, []), (632, .ifCond .ne 5, 3, [637]), (635, .iconst 0, 1, []), (636, .ireturn, 1, []), (637, .iinc 7 4, 3, []), (640, .goto (-617), 3, [23]), (643, .iconst 1, 1, []), (644, .ireturn, 1, [])]
set_option maxRecDepth 65536 in
theorem l_law_cOk : codeOk code l_law_c = true := by decide +kernel
set_option maxRecDepth 65536 in
set_option maxHeartbeats 4000000 in
theorem l_law_623_ok (l : Launch) {Z : State} {a0 : Array Value} (hw : ∀ d ∈ tables_1, d.before a0 Z = true) (hi : (Jvm.Cond.initialized "DeltaCausalMapL6").before a0 Z = true) (N : Nat) (len : Int) (sc : Int → Int) {k23 : Int → Int → Int → Int → St → RS St} (h23 : Blk l Z "DeltaCausalMapL6" code maxLocals ret false room_1 (AL 1 23) nL zL (fun q => szL 23 q) (fun q => slL 26 (sumTo (lenAt asT) 23) q) (fun i q S h => HL Z "DeltaCausalMap" fsT asT 23 gtT true true len sc i q S h ∧ q ≤ 2 * 1) [0, 0, 1, 2, 1, 2, 0, 0, 0, 0, 0, 0, 0, 0, 0, 0, 0, 0, 0, 0] 3 2 (23, 2, l_law_23_P (k23))) : Blk l Z "DeltaCausalMapL6" code maxLocals ret false room_1 (AL 1 23) nL zL (fun q => szL 23 q) (fun q => slL 26 (sumTo (lenAt asT) 23) q) (fun i q S h => HL Z "DeltaCausalMap" fsT asT 23 gtT true true len sc i q S h ∧ q ≤ 2 * 1) [0, 0, 1, 2, 1, 2, 0, 0, 0, 0, 0, 0, 0, 0, 0, 0, 0, 0, 0, 0] 3 2 (623, 2, l_law_623_P (l_law_623 N len sc k23)) :=
  blk_of_den (jl := [(23, 2, l_law_23_P (k23))]) (lst := l_law_c) (l_law_hop l hw hi N len sc) (Or.inr (Or.inr (Or.inr ⟨rfl, rfl⟩))) rfl (by decide) (by decide) l_law_cOk (fc h23 fn) (fun L st S r ok h => by unfold l_law_623_P at h; split at h; exact h; cases h)
set_option maxRecDepth 65536 in
set_option maxHeartbeats 4000000 in
theorem l_law_566_ok (l : Launch) {Z : State} {a0 : Array Value} (hw : ∀ d ∈ tables_1, d.before a0 Z = true) (hi : (Jvm.Cond.initialized "DeltaCausalMapL6").before a0 Z = true) (N : Nat) (len : Int) (sc : Int → Int) {k23 : Int → Int → Int → Int → St → RS St} (h23 : Blk l Z "DeltaCausalMapL6" code maxLocals ret false room_1 (AL 1 23) nL zL (fun q => szL 23 q) (fun q => slL 26 (sumTo (lenAt asT) 23) q) (fun i q S h => HL Z "DeltaCausalMap" fsT asT 23 gtT true true len sc i q S h ∧ q ≤ 2 * 1) [0, 0, 1, 2, 1, 2, 0, 0, 0, 0, 0, 0, 0, 0, 0, 0, 0, 0, 0, 0] 3 2 (23, 2, l_law_23_P (k23))) : Blk l Z "DeltaCausalMapL6" code maxLocals ret false room_1 (AL 1 23) nL zL (fun q => szL 23 q) (fun q => slL 26 (sumTo (lenAt asT) 23) q) (fun i q S h => HL Z "DeltaCausalMap" fsT asT 23 gtT true true len sc i q S h ∧ q ≤ 2 * 1) [0, 0, 1, 2, 1, 2, 0, 0, 0, 0, 0, 0, 0, 0, 0, 0, 0, 0, 0, 0] 3 2 (566, 2, l_law_566_P (l_law_566 N len sc k23)) :=
  blk_of_den (jl := [(623, 2, l_law_623_P (l_law_623 N len sc k23))]) (lst := l_law_c) (l_law_hop l hw hi N len sc) (Or.inr (Or.inr (Or.inr ⟨rfl, rfl⟩))) rfl (by decide) (by decide) l_law_cOk (fc (l_law_623_ok l hw hi N len sc h23) fn) (fun L st S r ok h => by unfold l_law_566_P at h; split at h; exact h; cases h)
set_option maxRecDepth 65536 in
set_option maxHeartbeats 4000000 in
theorem l_law_553_ok (l : Launch) {Z : State} {a0 : Array Value} (hw : ∀ d ∈ tables_1, d.before a0 Z = true) (hi : (Jvm.Cond.initialized "DeltaCausalMapL6").before a0 Z = true) (N : Nat) (len : Int) (sc : Int → Int) {k23 : Int → Int → Int → Int → St → RS St} (h23 : Blk l Z "DeltaCausalMapL6" code maxLocals ret false room_1 (AL 1 23) nL zL (fun q => szL 23 q) (fun q => slL 26 (sumTo (lenAt asT) 23) q) (fun i q S h => HL Z "DeltaCausalMap" fsT asT 23 gtT true true len sc i q S h ∧ q ≤ 2 * 1) [0, 0, 1, 2, 1, 2, 0, 0, 0, 0, 0, 0, 0, 0, 0, 0, 0, 0, 0, 0] 3 2 (23, 2, l_law_23_P (k23))) : Blk l Z "DeltaCausalMapL6" code maxLocals ret false room_1 (AL 1 23) nL zL (fun q => szL 23 q) (fun q => slL 26 (sumTo (lenAt asT) 23) q) (fun i q S h => HL Z "DeltaCausalMap" fsT asT 23 gtT true true len sc i q S h ∧ q ≤ 2 * 1) [0, 0, 1, 2, 1, 2, 0, 0, 0, 0, 0, 0, 0, 0, 0, 0, 0, 0, 0, 0] 3 2 (553, 2, l_law_553_P (l_law_553 N len sc k23)) :=
  blk_of_den (jl := [(566, 2, l_law_566_P (l_law_566 N len sc k23))]) (lst := l_law_c) (l_law_hop l hw hi N len sc) (Or.inr (Or.inr (Or.inr ⟨rfl, rfl⟩))) rfl (by decide) (by decide) l_law_cOk (fc (l_law_566_ok l hw hi N len sc h23) fn) (fun L st S r ok h => by unfold l_law_553_P at h; split at h; exact h; cases h)
set_option maxRecDepth 65536 in
set_option maxHeartbeats 4000000 in
theorem l_law_523_ok (l : Launch) {Z : State} {a0 : Array Value} (hw : ∀ d ∈ tables_1, d.before a0 Z = true) (hi : (Jvm.Cond.initialized "DeltaCausalMapL6").before a0 Z = true) (N : Nat) (len : Int) (sc : Int → Int) {k23 : Int → Int → Int → Int → St → RS St} (h23 : Blk l Z "DeltaCausalMapL6" code maxLocals ret false room_1 (AL 1 23) nL zL (fun q => szL 23 q) (fun q => slL 26 (sumTo (lenAt asT) 23) q) (fun i q S h => HL Z "DeltaCausalMap" fsT asT 23 gtT true true len sc i q S h ∧ q ≤ 2 * 1) [0, 0, 1, 2, 1, 2, 0, 0, 0, 0, 0, 0, 0, 0, 0, 0, 0, 0, 0, 0] 3 2 (23, 2, l_law_23_P (k23))) : Blk l Z "DeltaCausalMapL6" code maxLocals ret false room_1 (AL 1 23) nL zL (fun q => szL 23 q) (fun q => slL 26 (sumTo (lenAt asT) 23) q) (fun i q S h => HL Z "DeltaCausalMap" fsT asT 23 gtT true true len sc i q S h ∧ q ≤ 2 * 1) [0, 0, 1, 2, 1, 2, 0, 0, 0, 0, 0, 0, 0, 0, 0, 0, 0, 0, 0, 0] 3 2 (523, 2, l_law_523_P (l_law_523 N len sc k23)) :=
  blk_of_den (jl := [(623, 2, l_law_623_P (l_law_623 N len sc k23))]) (lst := l_law_c) (l_law_hop l hw hi N len sc) (Or.inr (Or.inr (Or.inr ⟨rfl, rfl⟩))) rfl (by decide) (by decide) l_law_cOk (fc (l_law_623_ok l hw hi N len sc h23) fn) (fun L st S r ok h => by unfold l_law_523_P at h; split at h; exact h; cases h)
set_option maxRecDepth 65536 in
set_option maxHeartbeats 4000000 in
theorem l_law_507_ok (l : Launch) {Z : State} {a0 : Array Value} (hw : ∀ d ∈ tables_1, d.before a0 Z = true) (hi : (Jvm.Cond.initialized "DeltaCausalMapL6").before a0 Z = true) (N : Nat) (len : Int) (sc : Int → Int) {k23 : Int → Int → Int → Int → St → RS St} (h23 : Blk l Z "DeltaCausalMapL6" code maxLocals ret false room_1 (AL 1 23) nL zL (fun q => szL 23 q) (fun q => slL 26 (sumTo (lenAt asT) 23) q) (fun i q S h => HL Z "DeltaCausalMap" fsT asT 23 gtT true true len sc i q S h ∧ q ≤ 2 * 1) [0, 0, 1, 2, 1, 2, 0, 0, 0, 0, 0, 0, 0, 0, 0, 0, 0, 0, 0, 0] 3 2 (23, 2, l_law_23_P (k23))) : Blk l Z "DeltaCausalMapL6" code maxLocals ret false room_1 (AL 1 23) nL zL (fun q => szL 23 q) (fun q => slL 26 (sumTo (lenAt asT) 23) q) (fun i q S h => HL Z "DeltaCausalMap" fsT asT 23 gtT true true len sc i q S h ∧ q ≤ 2 * 1) [0, 0, 1, 2, 1, 2, 0, 0, 0, 0, 0, 0, 0, 0, 0, 0, 0, 0, 0, 0] 3 2 (507, 2, l_law_507_P (l_law_507 N len sc k23)) :=
  blk_of_den (jl := [(523, 2, l_law_523_P (l_law_523 N len sc k23))]) (lst := l_law_c) (l_law_hop l hw hi N len sc) (Or.inr (Or.inr (Or.inr ⟨rfl, rfl⟩))) rfl (by decide) (by decide) l_law_cOk (fc (l_law_523_ok l hw hi N len sc h23) fn) (fun L st S r ok h => by unfold l_law_507_P at h; split at h; exact h; cases h)
set_option maxRecDepth 65536 in
set_option maxHeartbeats 4000000 in
theorem l_law_403_ok (l : Launch) {Z : State} {a0 : Array Value} (hw : ∀ d ∈ tables_1, d.before a0 Z = true) (hi : (Jvm.Cond.initialized "DeltaCausalMapL6").before a0 Z = true) (N : Nat) (len : Int) (sc : Int → Int) {k23 : Int → Int → Int → Int → St → RS St} (h23 : Blk l Z "DeltaCausalMapL6" code maxLocals ret false room_1 (AL 1 23) nL zL (fun q => szL 23 q) (fun q => slL 26 (sumTo (lenAt asT) 23) q) (fun i q S h => HL Z "DeltaCausalMap" fsT asT 23 gtT true true len sc i q S h ∧ q ≤ 2 * 1) [0, 0, 1, 2, 1, 2, 0, 0, 0, 0, 0, 0, 0, 0, 0, 0, 0, 0, 0, 0] 3 2 (23, 2, l_law_23_P (k23))) : Blk l Z "DeltaCausalMapL6" code maxLocals ret false room_1 (AL 1 23) nL zL (fun q => szL 23 q) (fun q => slL 26 (sumTo (lenAt asT) 23) q) (fun i q S h => HL Z "DeltaCausalMap" fsT asT 23 gtT true true len sc i q S h ∧ q ≤ 2 * 1) [0, 0, 1, 2, 1, 2, 0, 0, 0, 0, 0, 0, 0, 0, 0, 0, 0, 0, 0, 0] 3 2 (403, 2, l_law_403_P (l_law_403 N len sc k23)) :=
  blk_of_den (jl := [(623, 2, l_law_623_P (l_law_623 N len sc k23)), (553, 2, l_law_553_P (l_law_553 N len sc k23)), (507, 2, l_law_507_P (l_law_507 N len sc k23)), (523, 2, l_law_523_P (l_law_523 N len sc k23))]) (lst := l_law_c) (l_law_hop l hw hi N len sc) (Or.inr (Or.inr (Or.inr ⟨rfl, rfl⟩))) rfl (by decide) (by decide) l_law_cOk (fc (l_law_623_ok l hw hi N len sc h23) (fc (l_law_553_ok l hw hi N len sc h23) (fc (l_law_507_ok l hw hi N len sc h23) (fc (l_law_523_ok l hw hi N len sc h23) fn)))) (fun L st S r ok h => by unfold l_law_403_P at h; split at h; exact h; cases h)
set_option maxRecDepth 65536 in
set_option maxHeartbeats 4000000 in
theorem l_law_350_ok (l : Launch) {Z : State} {a0 : Array Value} (hw : ∀ d ∈ tables_1, d.before a0 Z = true) (hi : (Jvm.Cond.initialized "DeltaCausalMapL6").before a0 Z = true) (N : Nat) (len : Int) (sc : Int → Int) {k23 : Int → Int → Int → Int → St → RS St} (h23 : Blk l Z "DeltaCausalMapL6" code maxLocals ret false room_1 (AL 1 23) nL zL (fun q => szL 23 q) (fun q => slL 26 (sumTo (lenAt asT) 23) q) (fun i q S h => HL Z "DeltaCausalMap" fsT asT 23 gtT true true len sc i q S h ∧ q ≤ 2 * 1) [0, 0, 1, 2, 1, 2, 0, 0, 0, 0, 0, 0, 0, 0, 0, 0, 0, 0, 0, 0] 3 2 (23, 2, l_law_23_P (k23))) : Blk l Z "DeltaCausalMapL6" code maxLocals ret false room_1 (AL 1 23) nL zL (fun q => szL 23 q) (fun q => slL 26 (sumTo (lenAt asT) 23) q) (fun i q S h => HL Z "DeltaCausalMap" fsT asT 23 gtT true true len sc i q S h ∧ q ≤ 2 * 1) [0, 0, 1, 2, 1, 2, 0, 0, 0, 0, 0, 0, 0, 0, 0, 0, 0, 0, 0, 0] 3 2 (350, 2, l_law_350_P (l_law_350 N len sc k23)) :=
  blk_of_den (jl := [(623, 2, l_law_623_P (l_law_623 N len sc k23))]) (lst := l_law_c) (l_law_hop l hw hi N len sc) (Or.inr (Or.inr (Or.inr ⟨rfl, rfl⟩))) rfl (by decide) (by decide) l_law_cOk (fc (l_law_623_ok l hw hi N len sc h23) fn) (fun L st S r ok h => by unfold l_law_350_P at h; split at h; exact h; cases h)
set_option maxRecDepth 65536 in
set_option maxHeartbeats 4000000 in
theorem l_law_310_ok (l : Launch) {Z : State} {a0 : Array Value} (hw : ∀ d ∈ tables_1, d.before a0 Z = true) (hi : (Jvm.Cond.initialized "DeltaCausalMapL6").before a0 Z = true) (N : Nat) (len : Int) (sc : Int → Int) {k23 : Int → Int → Int → Int → St → RS St} (h23 : Blk l Z "DeltaCausalMapL6" code maxLocals ret false room_1 (AL 1 23) nL zL (fun q => szL 23 q) (fun q => slL 26 (sumTo (lenAt asT) 23) q) (fun i q S h => HL Z "DeltaCausalMap" fsT asT 23 gtT true true len sc i q S h ∧ q ≤ 2 * 1) [0, 0, 1, 2, 1, 2, 0, 0, 0, 0, 0, 0, 0, 0, 0, 0, 0, 0, 0, 0] 3 2 (23, 2, l_law_23_P (k23))) : Blk l Z "DeltaCausalMapL6" code maxLocals ret false room_1 (AL 1 23) nL zL (fun q => szL 23 q) (fun q => slL 26 (sumTo (lenAt asT) 23) q) (fun i q S h => HL Z "DeltaCausalMap" fsT asT 23 gtT true true len sc i q S h ∧ q ≤ 2 * 1) [0, 0, 1, 2, 1, 2, 0, 0, 0, 0, 0, 0, 0, 0, 0, 0, 0, 0, 0, 0] 3 2 (310, 2, l_law_310_P (l_law_310 N len sc k23)) :=
  blk_of_den (jl := [(350, 2, l_law_350_P (l_law_350 N len sc k23))]) (lst := l_law_c) (l_law_hop l hw hi N len sc) (Or.inr (Or.inr (Or.inr ⟨rfl, rfl⟩))) rfl (by decide) (by decide) l_law_cOk (fc (l_law_350_ok l hw hi N len sc h23) fn) (fun L st S r ok h => by unfold l_law_310_P at h; split at h; exact h; cases h)
set_option maxRecDepth 65536 in
set_option maxHeartbeats 4000000 in
theorem l_law_272_ok (l : Launch) {Z : State} {a0 : Array Value} (hw : ∀ d ∈ tables_1, d.before a0 Z = true) (hi : (Jvm.Cond.initialized "DeltaCausalMapL6").before a0 Z = true) (N : Nat) (len : Int) (sc : Int → Int) {k23 : Int → Int → Int → Int → St → RS St} (h23 : Blk l Z "DeltaCausalMapL6" code maxLocals ret false room_1 (AL 1 23) nL zL (fun q => szL 23 q) (fun q => slL 26 (sumTo (lenAt asT) 23) q) (fun i q S h => HL Z "DeltaCausalMap" fsT asT 23 gtT true true len sc i q S h ∧ q ≤ 2 * 1) [0, 0, 1, 2, 1, 2, 0, 0, 0, 0, 0, 0, 0, 0, 0, 0, 0, 0, 0, 0] 3 2 (23, 2, l_law_23_P (k23))) : Blk l Z "DeltaCausalMapL6" code maxLocals ret false room_1 (AL 1 23) nL zL (fun q => szL 23 q) (fun q => slL 26 (sumTo (lenAt asT) 23) q) (fun i q S h => HL Z "DeltaCausalMap" fsT asT 23 gtT true true len sc i q S h ∧ q ≤ 2 * 1) [0, 0, 1, 2, 1, 2, 0, 0, 0, 0, 0, 0, 0, 0, 0, 0, 0, 0, 0, 0] 3 2 (272, 2, l_law_272_P (l_law_272 N len sc k23)) :=
  blk_of_den (jl := [(623, 2, l_law_623_P (l_law_623 N len sc k23))]) (lst := l_law_c) (l_law_hop l hw hi N len sc) (Or.inr (Or.inr (Or.inr ⟨rfl, rfl⟩))) rfl (by decide) (by decide) l_law_cOk (fc (l_law_623_ok l hw hi N len sc h23) fn) (fun L st S r ok h => by unfold l_law_272_P at h; split at h; exact h; cases h)
set_option maxRecDepth 65536 in
set_option maxHeartbeats 4000000 in
theorem l_law_236_ok (l : Launch) {Z : State} {a0 : Array Value} (hw : ∀ d ∈ tables_1, d.before a0 Z = true) (hi : (Jvm.Cond.initialized "DeltaCausalMapL6").before a0 Z = true) (N : Nat) (len : Int) (sc : Int → Int) {k23 : Int → Int → Int → Int → St → RS St} (h23 : Blk l Z "DeltaCausalMapL6" code maxLocals ret false room_1 (AL 1 23) nL zL (fun q => szL 23 q) (fun q => slL 26 (sumTo (lenAt asT) 23) q) (fun i q S h => HL Z "DeltaCausalMap" fsT asT 23 gtT true true len sc i q S h ∧ q ≤ 2 * 1) [0, 0, 1, 2, 1, 2, 0, 0, 0, 0, 0, 0, 0, 0, 0, 0, 0, 0, 0, 0] 3 2 (23, 2, l_law_23_P (k23))) : Blk l Z "DeltaCausalMapL6" code maxLocals ret false room_1 (AL 1 23) nL zL (fun q => szL 23 q) (fun q => slL 26 (sumTo (lenAt asT) 23) q) (fun i q S h => HL Z "DeltaCausalMap" fsT asT 23 gtT true true len sc i q S h ∧ q ≤ 2 * 1) [0, 0, 1, 2, 1, 2, 0, 0, 0, 0, 0, 0, 0, 0, 0, 0, 0, 0, 0, 0] 3 2 (236, 2, l_law_236_P (l_law_236 N len sc k23)) :=
  blk_of_den (jl := [(272, 2, l_law_272_P (l_law_272 N len sc k23))]) (lst := l_law_c) (l_law_hop l hw hi N len sc) (Or.inr (Or.inr (Or.inr ⟨rfl, rfl⟩))) rfl (by decide) (by decide) l_law_cOk (fc (l_law_272_ok l hw hi N len sc h23) fn) (fun L st S r ok h => by unfold l_law_236_P at h; split at h; exact h; cases h)
set_option maxRecDepth 65536 in
set_option maxHeartbeats 4000000 in
theorem l_law_208_ok (l : Launch) {Z : State} {a0 : Array Value} (hw : ∀ d ∈ tables_1, d.before a0 Z = true) (hi : (Jvm.Cond.initialized "DeltaCausalMapL6").before a0 Z = true) (N : Nat) (len : Int) (sc : Int → Int) {k23 : Int → Int → Int → Int → St → RS St} (h23 : Blk l Z "DeltaCausalMapL6" code maxLocals ret false room_1 (AL 1 23) nL zL (fun q => szL 23 q) (fun q => slL 26 (sumTo (lenAt asT) 23) q) (fun i q S h => HL Z "DeltaCausalMap" fsT asT 23 gtT true true len sc i q S h ∧ q ≤ 2 * 1) [0, 0, 1, 2, 1, 2, 0, 0, 0, 0, 0, 0, 0, 0, 0, 0, 0, 0, 0, 0] 3 2 (23, 2, l_law_23_P (k23))) : Blk l Z "DeltaCausalMapL6" code maxLocals ret false room_1 (AL 1 23) nL zL (fun q => szL 23 q) (fun q => slL 26 (sumTo (lenAt asT) 23) q) (fun i q S h => HL Z "DeltaCausalMap" fsT asT 23 gtT true true len sc i q S h ∧ q ≤ 2 * 1) [0, 0, 1, 2, 1, 2, 0, 0, 0, 0, 0, 0, 0, 0, 0, 0, 0, 0, 0, 0] 3 2 (208, 2, l_law_208_P (l_law_208 N len sc k23)) :=
  blk_of_den (jl := [(236, 2, l_law_236_P (l_law_236 N len sc k23))]) (lst := l_law_c) (l_law_hop l hw hi N len sc) (Or.inr (Or.inr (Or.inr ⟨rfl, rfl⟩))) rfl (by decide) (by decide) l_law_cOk (fc (l_law_236_ok l hw hi N len sc h23) fn) (fun L st S r ok h => by unfold l_law_208_P at h; split at h; exact h; cases h)
set_option maxRecDepth 65536 in
set_option maxHeartbeats 4000000 in
theorem l_law_166_ok (l : Launch) {Z : State} {a0 : Array Value} (hw : ∀ d ∈ tables_1, d.before a0 Z = true) (hi : (Jvm.Cond.initialized "DeltaCausalMapL6").before a0 Z = true) (N : Nat) (len : Int) (sc : Int → Int) {k23 : Int → Int → Int → Int → St → RS St} (h23 : Blk l Z "DeltaCausalMapL6" code maxLocals ret false room_1 (AL 1 23) nL zL (fun q => szL 23 q) (fun q => slL 26 (sumTo (lenAt asT) 23) q) (fun i q S h => HL Z "DeltaCausalMap" fsT asT 23 gtT true true len sc i q S h ∧ q ≤ 2 * 1) [0, 0, 1, 2, 1, 2, 0, 0, 0, 0, 0, 0, 0, 0, 0, 0, 0, 0, 0, 0] 3 2 (23, 2, l_law_23_P (k23))) : Blk l Z "DeltaCausalMapL6" code maxLocals ret false room_1 (AL 1 23) nL zL (fun q => szL 23 q) (fun q => slL 26 (sumTo (lenAt asT) 23) q) (fun i q S h => HL Z "DeltaCausalMap" fsT asT 23 gtT true true len sc i q S h ∧ q ≤ 2 * 1) [0, 0, 1, 2, 1, 2, 0, 0, 0, 0, 0, 0, 0, 0, 0, 0, 0, 0, 0, 0] 3 2 (166, 2, l_law_166_P (l_law_166 N len sc k23)) :=
  blk_of_den (jl := [(208, 2, l_law_208_P (l_law_208 N len sc k23)), (236, 2, l_law_236_P (l_law_236 N len sc k23))]) (lst := l_law_c) (l_law_hop l hw hi N len sc) (Or.inr (Or.inr (Or.inr ⟨rfl, rfl⟩))) rfl (by decide) (by decide) l_law_cOk (fc (l_law_208_ok l hw hi N len sc h23) (fc (l_law_236_ok l hw hi N len sc h23) fn)) (fun L st S r ok h => by unfold l_law_166_P at h; split at h; exact h; cases h)
set_option maxRecDepth 65536 in
set_option maxHeartbeats 4000000 in
theorem l_law_23_ok (l : Launch) {Z : State} {a0 : Array Value} (hw : ∀ d ∈ tables_1, d.before a0 Z = true) (hi : (Jvm.Cond.initialized "DeltaCausalMapL6").before a0 Z = true) (N : Nat) (len : Int) (sc : Int → Int) : ∀ n, Blk l Z "DeltaCausalMapL6" code maxLocals ret false room_1 (AL 1 23) nL zL (fun q => szL 23 q) (fun q => slL 26 (sumTo (lenAt asT) 23) q) (fun i q S h => HL Z "DeltaCausalMap" fsT asT 23 gtT true true len sc i q S h ∧ q ≤ 2 * 1) [0, 0, 1, 2, 1, 2, 0, 0, 0, 0, 0, 0, 0, 0, 0, 0, 0, 0, 0, 0] 3 2 (23, 2, l_law_23_P (l_law_23 N len sc n))
  | 0 => blk_none (fun L st S => by unfold l_law_23_P; split <;> rfl)
  | n + 1 => have ih := l_law_23_ok l hw hi N len sc n
    blk_of_den (jl := [(403, 2, l_law_403_P (l_law_403 N len sc (l_law_23 N len sc n))), (310, 2, l_law_310_P (l_law_310 N len sc (l_law_23 N len sc n))), (350, 2, l_law_350_P (l_law_350 N len sc (l_law_23 N len sc n))), (166, 2, l_law_166_P (l_law_166 N len sc (l_law_23 N len sc n)))]) (lst := l_law_c) (l_law_hop l hw hi N len sc) (Or.inr (Or.inr (Or.inr ⟨rfl, rfl⟩))) rfl (by decide) (by decide) l_law_cOk (fc (l_law_403_ok l hw hi N len sc ih) (fc (l_law_310_ok l hw hi N len sc ih) (fc (l_law_350_ok l hw hi N len sc ih) (fc (l_law_166_ok l hw hi N len sc ih) fn)))) (fun L st S r ok h => by unfold l_law_23_P at h; split at h; exact h; cases h)
set_option maxRecDepth 65536 in
set_option maxHeartbeats 4000000 in
theorem l_law_0_ok (l : Launch) {Z : State} {a0 : Array Value} (hw : ∀ d ∈ tables_1, d.before a0 Z = true) (hi : (Jvm.Cond.initialized "DeltaCausalMapL6").before a0 Z = true) (N : Nat) (len : Int) (sc : Int → Int) : Blk l Z "DeltaCausalMapL6" code maxLocals ret false room_1 (AL 1 23) nL zL (fun q => szL 23 q) (fun q => slL 26 (sumTo (lenAt asT) 23) q) (fun i q S h => HL Z "DeltaCausalMap" fsT asT 23 gtT true true len sc i q S h ∧ q ≤ 2 * 1) [0, 0, 1, 2, 1, 2, 0, 0, 0, 0, 0, 0, 0, 0, 0, 0, 0, 0, 0, 0] 3 2 (0, 0, l_law_0_P (l_law N len sc)) :=
  blk_of_den (jl := [(23, 2, l_law_23_P (l_law_23 N len sc N))]) (lst := l_law_c) (l_law_hop l hw hi N len sc) (Or.inr (Or.inr (Or.inr ⟨rfl, rfl⟩))) rfl (by decide) (by decide) l_law_cOk (fc (l_law_23_ok l hw hi N len sc N) fn) (fun L st S r ok h => by unfold l_law_0_P at h; split at h; exact h; cases h)
set_option maxRecDepth 65536 in
set_option maxHeartbeats 40000000 in
theorem comes_1 (own : ∀ (len : Int) (sc : Int → Int), 0 ≤ len → len ≤ 260 → (∀ i, 0 ≤ i → i < len → R32 (sc i)) → ∃ N S', l_law N len sc zS = some (1, S')) {Post : Tables → Env → Array Value → State → Outcome → State → Prop} (hpost : ∀ tb e args s v u, (limb_1_1.after args s (.returned v) u = true ∧ limb_1_2.after args s (.returned v) u = true ∧ True) → FrameEnd s (.returned v) u (Jvm.fieldLocs frame_1_writes args s ++ Jvm.arrayLocs frame_1_arrays args s ++ Jvm.staticLocs frame_1_statics s) 56 1408 → Post tb e args s (.returned v) u) :
    ArmFor flags0 classFile x code maxLocals ret World_1 tables_1 room_1 Calls_1 rest_1 Pre_1 Post := by
  intro l hfl _ _ p e ha hc hk s m args below hf hA hF happ hP
  obtain ⟨hcalls, hrest, hpre⟩ := hP
  obtain ⟨-, -, -, hnamed, -, hripe, -, hat⟩ := (Spec.applies_iff hf).mp happ
  have hi : (Jvm.Cond.initialized "DeltaCausalMapL6").before args s = true := init_own hnamed hripe
  obtain ⟨hg, hn⟩ := and_e (Cond.before_iff.mp (show (Jvm.Cond.and given_1 narrow_1).before args s = true from hpre))
  obtain ⟨g0, g1⟩ := and_e hg
  obtain ⟨w0, rfl⟩ : ∃ w0 : Value, args = #[w0] := by
    have hs : args.size = 1 := by simpa [Cond.value, given_1] using g0
    obtain ⟨L⟩ := args
    match L, hs with
    | [w0], _ => exact ⟨w0, rfl⟩
  have hw := fun d (hd : d ∈ tables_1) => atoms_spec (ws := Jvm.Cond.code x code maxLocals ret :: tables_1) hat d (List.mem_cons_of_mem _ hd)
  have hfit : Fit s := fun {y c} hc i hi => by
    obtain ⟨ha, rfl⟩ := Array.getElem?_eq_some_iff.mp hc
    have q := List.all_eq_true.mp ((Array.all_eq_true_iff_forall_mem.mp hF) _ (Array.getElem_mem ha)) i (List.mem_range.mpr hi)
    simpa [Array.getElem?_eq_getElem hi] using q
  obtain ⟨n0, n1⟩ := and_e hn
  obtain ⟨v, e0, r0⟩ := isR_v g1
  obtain rfl : w0 = v := Option.some.inj e0
  obtain ⟨aS, rfl⟩ : ∃ a, w0 = .ref a := by
    rcases ref_cases r0 with rfl | ⟨a, rfl⟩
    · simp [Cond.value, Term.eval] at n0
    · exact ⟨a, rfl⟩
  obtain ⟨cl, Ar⟩ := Arr.start e0 n0
  have hlen : (cl.slots.size : Int) ≤ 260 := script_len e0 Ar n1
  obtain ⟨N, S', hlaw⟩ := own cl.slots.size (scOf cl) (Int.natCast_nonneg _) (by omega) (fun i h0 h1 => by
    obtain ⟨c', q1, q2, q3⟩ := script_of hfit Ar
    have q4 : c' = cl := by have := q1.1; rw [Ar.1] at this; exact (Option.some.inj this).symm
    subst q4
    have := (q3 i.toNat (by omega)).2
    rwa [show ((i.toNat : Nat) : Int) = i by omega] at this)
  have hM := met_of_blk (ws := tables_1) (y := x) (l_law_0_ok l hw hi N cl.slots.size (scOf cl)) pnL rfl (fun hh => nomatch hh) rfl rfl (i := (s.heap.size, s.heap.size, s.heap, aS)) (as := [vR 1]) (S := zS) (r := (1, S')) (h0 := s.heap) hlaw (okL_entry rfl ⟨trivial, trivial⟩ rfl)
    ⟨⟨fun _ _ => rfl, rfl, by simp [szL], (fun j hj => by omega), (fun j hj => by omega), (fun _ => ⟨Ar.lt, by unfold R32; omega, script_of hfit Ar⟩), (fun _ => rfl)⟩, by decide⟩ rfl
  obtain ⟨n, o, h1, h2, h3, _, L, rfl, ⟨⟨rfl, -⟩, N', -⟩, hq⟩ := hM p e ha hc hk s m _ below hf ((Spec.applies_iff_loose hf).mp happ).1 ⟨by simp [conc, AL], State.Warmed39.refl s, rfl⟩ trivial
  refine ⟨n, _, h1, h2, h3, hpost _ _ _ _ _ _ ⟨Cond.after_iff.mpr rfl, Cond.after_iff.mpr (eq_i res_at (Term.int_eval (1)) rfl), trivial⟩ ⟨hq.1, hq.2.1, (hq.2.2.sift fun y hy => Or.inr (N' y hy)).mono (by decide) (by decide)⟩⟩
/-! # numbers -/
theorem own_w {x : Int} (h1 : -2147483648 ≤ x) (h2 : x < 2147483648) : w32 x = x := w32_id ⟨h1, h2⟩
theorem own_toNat (x : Int) : (Int32.ofInt x).toBitVec.toNat = (x % 4294967296).toNat := by
  rw [Int32.toBitVec_ofInt, BitVec.toNat_ofInt]; rfl
theorem own_nn {a : Int32} {n : Nat} (h : a.toBitVec.toNat = n) (h2 : n < 2147483648) : a.toInt = (n : Int) := by
  have e : a.toInt = a.toBitVec.toInt := rfl
  rw [e, BitVec.toInt_eq_toNat_cond, h]
  split <;> omega
theorem own_msk {m : Int} (k : Nat) (hm : (Int32.ofInt m).toBitVec.toNat = 2 ^ k - 1) (hk : 2 ^ k ≤ 2147483648) (x : Int) : iand x m = (((x % 4294967296).toNat % 2 ^ k : Nat) : Int) := by
  refine own_nn ?_ (Nat.lt_of_lt_of_le (Nat.mod_lt _ (Nat.two_pow_pos k)) hk)
  rw [Int32.toBitVec_and, BitVec.toNat_and, own_toNat, hm, Nat.and_two_pow_sub_one_eq_mod]
theorem own_i1 (x : Int) : iand x 1 = x % 2 := by rw [own_msk 1 (by decide) (by decide) x]; omega
theorem own_i3 (x : Int) : iand x 3 = x % 4 := by rw [own_msk 2 (by decide) (by decide) x]; omega
theorem own_i7 (x : Int) : iand x 7 = x % 8 := by rw [own_msk 3 (by decide) (by decide) x]; omega
theorem own_i15 (x : Int) : iand x 15 = x % 16 := by rw [own_msk 4 (by decide) (by decide) x]; omega
theorem own_i31 (x : Int) : iand x 31 = x % 32 := by rw [own_msk 5 (by decide) (by decide) x]; omega
theorem own_i255 (x : Int) : iand x 255 = x % 256 := by rw [own_msk 8 (by decide) (by decide) x]; omega
theorem own_lcmp0 {x y : Int} : lcmp x y = 0 ↔ x = y := by
  unfold lcmp
  constructor
  · intro h
    by_cases h1 : y < x
    · rw [if_pos h1] at h; omega
    · rw [if_neg h1] at h
      by_cases h2 : x = y
      · exact h2
      · rw [if_neg h2] at h; omega
  · intro h
    rw [if_neg (by omega), if_pos h]
theorem stw_s (S : St) (h : Nat) (i v : Int) : stw S h i v h i = v := by unfold stw; rw [if_pos ⟨rfl, rfl⟩]
theorem stw_h (S : St) {h h' : Nat} (i v j : Int) (n : h' ≠ h) : stw S h i v h' j = S h' j := by unfold stw; rw [if_neg (fun q => n q.1)]
theorem stw_H (S : St) {h h' : Nat} (i v : Int) (n : h' ≠ h) : stw S h i v h' = S h' := funext fun j => stw_h S i v j n
theorem stw_i (S : St) (h : Nat) {i j : Int} (v : Int) (n : j ≠ i) : stw S h i v h j = S h j := by unfold stw; rw [if_neg (fun q => n q.2)]
theorem stw_e (S : St) (h : Nat) (i v j : Int) : stw S h i v h j = if j = i then v else S h j := by
  by_cases q : j = i
  · rw [if_pos q, q, stw_s]
  · rw [if_neg q, stw_i S h v q]
/-! # closed facts on longs -/
def xr (r : Nat) : Int := lor 0 (lshl 1 ((16 * r : Nat) : Int))
theorem bb_T : ∀ r : Fin 4, ∀ c : Fin 2, ∀ d : Fin 64, decide (lcmp (land (lushr (lshl 1 ((16 * r.val + c.val : Nat) : Int)) (d.val : Int)) 1) 0 = 0) = decide (d.val ≠ 16 * r.val + c.val) := by decide +kernel
theorem own_hb {r c : Nat} (hr : r < 4) (hc : c < 2) (d : Nat) (hd : d < 64) : (lcmp (land (lushr (lshl 1 ((16 * r + c : Nat) : Int)) (d : Int)) 1) 0 = 0 ↔ d ≠ 16 * r + c) :=
  decide_eq_decide.mp (bb_T ⟨r, hr⟩ ⟨c, hc⟩ ⟨d, hd⟩)
theorem b0_T : ∀ d : Fin 64, lcmp (land (lushr 0 (d.val : Int)) 1) 0 = 0 := by decide +kernel
theorem x_T : ∀ r : Fin 4, xr r.val ≠ 0 ∧ ¬ lcmp (land (lushr (xr r.val) ((16 * r.val : Nat) : Int)) 1) 0 = 0 ∧ land (xr r.val) (lxor (lor 0 (lor (xr r.val) 0)) (-1)) = 0 ∧ land 0 (lxor (lor 0 (lor (xr r.val) 0)) (-1)) = 0 ∧ ¬ lcmp (lor 0 (lor (xr r.val) 0)) 0 = 0 := by decide +kernel
theorem mkr_T : ∀ r : Fin 4, (∀ c : Fin 2, iand (iushr ((16 * r.val + c.val : Nat) : Int) 4) 3 = (r.val : Int)) ∧ ishl (r.val : Int) 4 = ((16 * r.val : Nat) : Int) := by decide +kernel
theorem hk_T : ∀ k : Fin 8, ¬ iand (iushr (ior 0 (ishl 1 (k.val : Int))) (k.val : Int)) 1 = 0 ∧ iand (iushr 0 (k.val : Int)) 1 = 0 := by decide +kernel
theorem lor00 : lor 0 0 = 0 := by decide +kernel
theorem lc0 : lcmp 0 0 = 0 := by decide
/-! # the parts -/
def vsK (g : Int → Int) (reg w : Int) : Nat → Int → Int
  | 0, _ => 0
  | n + 1, c => if lcmp (land (lushr reg (16 * w + c)) 1) 0 = 0 then vsK g reg w n (c + 1) else g (16 * w + c)
theorem own_vs3 (N : Nat) (reg : Int) {w : Nat} (hw : w < 4) (S : St) : ∀ (n f : Nat) (c : Int), n < f → 0 ≤ c → c + n = 16 → m_valueInSegment_3 N f reg (w : Int) c S = some (vsK (S 3) reg (w : Int) n c, S)
  | _, 0, _, h, _, _ => absurd h (Nat.not_lt_zero _)
  | 0, f + 1, c, _, h0, h1 => by rw [m_valueInSegment_3, if_neg (by omega)]; rfl
  | n + 1, f + 1, c, h, h0, h1 => by
    have e := (mkr_T ⟨w, hw⟩).2
    have e : ishl (w : Int) 4 = ((16 * w : Nat) : Int) := e
    rw [m_valueInSegment_3, if_pos (by omega), vsK, e, own_w (x := ((16 * w : Nat) : Int) + c) (by omega) (by omega), show ((16 * w : Nat) : Int) + c = 16 * (w : Int) + c by omega]
    by_cases q : lcmp (land (lushr reg (16 * (w : Int) + c)) 1) 0 = 0
    · rw [if_pos q, if_pos q, own_w (by omega) (by omega)]
      exact own_vs3 N reg hw S n f (c + 1) (by omega) (by omega) (by omega)
    · rw [if_neg q, if_neg q]
      unfold m_valueInSegment_29
      rw [if_pos (by omega)]
def vs (g : Int → Int) (reg w : Int) : Int := vsK g reg w 16 0
theorem own_vs {N : Nat} (hN : 5000 ≤ N) (reg : Int) {w : Nat} (hw : w < 4) (S : St) : m_valueInSegment N reg (w : Int) S = some (vs (S 3) reg (w : Int), S) := own_vs3 N reg hw S 16 N 0 (by omega) (by omega) (by omega)
theorem vsK_0 (g : Int → Int) {w : Nat} (hw : w < 4) : ∀ (n : Nat) (c : Int), 0 ≤ c → c + n ≤ 16 → vsK g 0 (w : Int) n c = 0
  | 0, _, _, _ => rfl
  | n + 1, c, h0, h1 => by
    obtain ⟨d, rfl⟩ := Int.eq_ofNat_of_zero_le h0
    have b := b0_T ⟨16 * w + d, by omega⟩
    have b : lcmp (land (lushr 0 ((16 * w + d : Nat) : Int)) 1) 0 = 0 := b
    rw [vsK, show 16 * (w : Int) + (d : Int) = ((16 * w + d : Nat) : Int) by omega, if_pos b]
    exact vsK_0 g hw n _ (by omega) (by omega)
theorem vs_x (g : Int → Int) {r : Nat} (hr : r < 4) : vs g (xr r) (r : Int) = g (16 * (r : Int)) := by
  have b := (x_T ⟨r, hr⟩).2.1
  have b : ¬ lcmp (land (lushr (xr r) ((16 * r : Nat) : Int)) 1) 0 = 0 := b
  unfold vs
  rw [vsK, Int.add_zero, show 16 * (r : Int) = ((16 * r : Nat) : Int) by omega, if_neg b]
theorem own_rr3 {N : Nat} (hN : 5000 ≤ N) {r : Int} (r0 : 0 ≤ r) (r1 : r < 4) {k : Int} (k0 : 0 ≤ k) (k1 : k < 8) (reg : Int) : ∀ (n f w : Nat) (S : St), n < f → w + n = 4 → ∃ S', m_refreshRegister_3 N f r k reg (w : Int) S = some (0, S') ∧ (∀ h, h ≠ 9 → S' h = S h) ∧ ∀ i, S' 9 i = if 32 * r + 4 * k + w ≤ i ∧ i < 32 * r + 4 * k + 4 then vs (S 3) reg (i - 32 * r - 4 * k) else S 9 i
  | _, 0, _, _, h, _ => absurd h (Nat.not_lt_zero _)
  | 0, f + 1, w, S, _, h1 => by
    rw [m_refreshRegister_3, if_neg (by omega)]
    exact ⟨S, rfl, fun _ _ => rfl, fun i => by rw [if_neg (by omega)]⟩
  | n + 1, f + 1, w, S, h, h1 => by
    rw [m_refreshRegister_3, if_pos (by omega), own_vs hN reg (by omega), Option.bind_some, own_w (x := r * 32) (by omega) (by omega), own_w (x := k * 4) (by omega) (by omega), own_w (x := r * 32 + k * 4) (by omega) (by omega), own_w (x := r * 32 + k * 4 + w) (by omega) (by omega), own_w (x := (w : Int) + 1) (by omega) (by omega), show (w : Int) + 1 = ((w + 1 : Nat) : Int) by omega]
    dsimp only
    rw [if_pos (by omega)]
    obtain ⟨S', e, a, b⟩ := own_rr3 hN r0 r1 k0 k1 reg n f (w + 1) (stw S 9 (r * 32 + k * 4 + w) (vs (S 3) reg (w : Int))) (by omega) (by omega)
    refine ⟨S', e, fun h hh => by rw [a h hh, stw_H _ _ _ hh], fun i => ?_⟩
    rw [b i, stw_e, stw_H _ _ _ (by decide)]
    by_cases c : 32 * r + 4 * k + ((w + 1 : Nat) : Int) ≤ i ∧ i < 32 * r + 4 * k + 4
    · rw [if_pos c, if_pos (by omega)]
    · rw [if_neg c]
      by_cases c2 : i = r * 32 + k * 4 + w
      · rw [if_pos c2, if_pos (by omega), show i - 32 * r - 4 * k = (w : Int) by omega]
      · rw [if_neg c2, if_neg (by omega)]
theorem own_rv7 {N : Nat} (hN : 5000 ≤ N) {r : Nat} (hr : r < 4) {key : Nat} (hk : key < 8) {X : Int} (hX : X = 0 ∨ X = xr r) : ∀ (n f k : Nat) (pr : Int) (S : St), n < f → (k : Int) + n = S 0 23 → S 0 23 ≤ 8 → (key : Int) < S 0 23 →
    (∀ j : Nat, j < 8 → S 8 (8 * (r : Int) + j) = 0 ∧ S 7 (8 * (r : Int) + j) = if j = key then X else 0) → (k ≤ key → pr = 0) →
    ∃ S', m_refreshView_7 N f (r : Int) 0 pr (k : Int) S = some (0, S') ∧ (∀ h, h ≠ 9 → h ≠ 10 → h ≠ 11 → S' h = S h) ∧ S' 11 (r : Int) = (if k ≤ key then (if X = 0 then 0 else ior 0 (ishl 1 (key : Int))) else pr) ∧ S' 9 (32 * (r : Int) + 4 * key + r) = (if k ≤ key then vs (S 3) X (r : Int) else S 9 (32 * (r : Int) + 4 * key + r))
  | _, 0, _, _, _, h, _, _, _, _, _ => absurd h (Nat.not_lt_zero _)
  | 0, f + 1, k, pr, S, _, h1, h8, hkc, reg, hp => by
    rw [m_refreshView_7, if_neg (by omega)]
    unfold m_refreshView_94
    rw [if_pos (by omega), if_pos (by omega)]
    refine ⟨_, rfl, fun h a b c => by rw [stw_H _ _ _ c, stw_H _ _ _ b], ?_, ?_⟩
    · rw [stw_s, if_neg (by omega)]
    · rw [stw_h _ _ _ _ (by decide), stw_h _ _ _ _ (by decide), if_neg (by omega)]
  | n + 1, f + 1, k, pr, S, h, h1, h8, hkc, reg, hp => by
    have rg := reg k (by omega)
    rw [m_refreshView_7, if_pos (by omega), own_w (x := (r : Int) * 8) (by omega) (by omega), own_w (x := (r : Int) * 8 + k) (by omega) (by omega), show (r : Int) * 8 + (k : Int) = 8 * (r : Int) + k by omega, if_pos (by omega), if_pos (by omega), rg.1, rg.2, if_pos lc0]
    have e79 : ∀ Y pr', Y = (if k = key then X else 0) → (k + 1 ≤ key → pr' = 0) → (pr' = if k ≤ key then (if k = key then (if X = 0 then 0 else ior 0 (ishl 1 (key : Int))) else 0) else pr) → ∃ S', m_refreshView_79 N (m_refreshView_7 N f) (r : Int) 0 pr' (k : Int) Y S = some (0, S') ∧ (∀ h, h ≠ 9 → h ≠ 10 → h ≠ 11 → S' h = S h) ∧ S' 11 (r : Int) = (if k ≤ key then (if X = 0 then 0 else ior 0 (ishl 1 (key : Int))) else pr) ∧ S' 9 (32 * (r : Int) + 4 * key + r) = (if k ≤ key then vs (S 3) X (r : Int) else S 9 (32 * (r : Int) + 4 * key + r)) := by
      intro Y pr' hY hp0 hp1
      rw [hY]
      obtain ⟨S1, e1, a1, b1⟩ := own_rr3 hN (r := (r : Int)) (by omega) (by omega) (k := (k : Int)) (by omega) (by omega) (if k = key then X else 0) 4 N 0 S (by omega) (by omega)
      have e1 : m_refreshRegister N (r : Int) (k : Int) (if k = key then X else 0) S = some (0, S1) := e1
      have s0 : S1 0 = S 0 := a1 0 (by decide)
      obtain ⟨S', e2, a2, b2, c2⟩ := own_rv7 hN hr hk hX n f (k + 1) pr' S1 (by omega) (by rw [s0]; omega) (by rw [s0]; exact h8) (by rw [s0]; exact hkc) (fun j hj => by rw [a1 8 (by decide), a1 7 (by decide)]; exact reg j hj) hp0
      unfold m_refreshView_79
      rw [e1, Option.bind_some, own_w (by omega) (by omega), show (k : Int) + 1 = ((k + 1 : Nat) : Int) by omega]
      refine ⟨S', e2, fun h x y z => by rw [a2 h x y z, a1 h x], ?_, ?_⟩
      · rw [b2]
        by_cases c : k + 1 ≤ key
        · rw [if_pos c, if_pos (show k ≤ key by omega)]
        · rw [if_neg c, hp1]
          by_cases c3 : k ≤ key
          · rw [if_pos c3, if_pos c3, if_pos (by omega)]
          · rw [if_neg c3, if_neg c3]
      · rw [c2, a1 3 (by decide), b1]
        by_cases c : k + 1 ≤ key
        · rw [if_pos c, if_pos (show k ≤ key by omega)]
        · rw [if_neg c]
          by_cases c3 : k ≤ key
          · have : k = key := by omega
            rw [if_pos c3, if_pos this, if_pos (by omega), show 32 * (r : Int) + 4 * (key : Int) + (r : Int) - 32 * (r : Int) - 4 * (k : Int) = (r : Int) by omega]
          · rw [if_neg c3, if_neg (by omega)]
    unfold m_refreshView_58 m_refreshView_72
    rw [if_pos lc0]
    by_cases ck : k = key
    · rw [if_pos ck]
      have p0 := hp (by omega)
      rcases hX with x0 | x1
      · rw [if_pos (own_lcmp0.mpr x0)]
        refine e79 X pr (by rw [if_pos ck]) (fun _ => by omega) ?_
        rw [if_pos (show k ≤ key by omega), if_pos ck, if_pos x0, p0]
      · have xn : X ≠ 0 := by rw [x1]; exact (x_T ⟨r, hr⟩).1
        rw [if_neg (fun q => xn (own_lcmp0.mp q))]
        refine e79 X _ (by rw [if_pos ck]) (fun _ => by omega) ?_
        rw [if_pos (show k ≤ key by omega), if_pos ck, if_neg xn, p0, ck]
    · rw [if_neg ck, if_pos lc0]
      refine e79 0 pr (by rw [if_neg ck]) (fun q => hp (by omega)) ?_
      by_cases c : k ≤ key
      · rw [if_pos c, if_neg ck, hp c]
      · rw [if_neg c]
theorem own_join6 (N : Nat) {r fresh : Int} {D : Nat} (hD : D < 64) (hb : ∀ d : Nat, d < 64 → (lcmp (land (lushr fresh (d : Int)) 1) 0 = 0 ↔ d ≠ D)) {S S1 : St} (ha : m_addDot N r (D : Int) S = some (0, S1)) : ∀ (n f d : Nat), n < f → d + n = 64 → (D < d → ∀ c, m_join_6 N f r fresh c (d : Int) S1 = m_join_49 N r fresh c S1) ∧ (d ≤ D → ∀ c, m_join_6 N f r fresh c (d : Int) S = m_join_49 N r fresh (lor c (S 4 (D : Int))) S1)
  | _, 0, _, h, _ => absurd h (Nat.not_lt_zero _)
  | 0, f + 1, d, _, h1 => ⟨fun _ c => by rw [m_join_6, if_neg (by omega)], fun q => by omega⟩
  | n + 1, f + 1, d, h, h1 => by
    have ih := own_join6 N hD hb ha n f (d + 1) (by omega) (by omega)
    have b := hb d (by omega)
    have e1 : w32 ((d : Int) + 1) = ((d + 1 : Nat) : Int) := by rw [own_w (by omega) (by omega)]; omega
    refine ⟨fun q c => ?_, fun q c => ?_⟩
    · rw [m_join_6, if_pos (by omega), if_pos (b.mpr (by omega))]
      unfold m_join_43
      rw [e1]; exact ih.1 (by omega) c
    · rw [m_join_6, if_pos (by omega)]
      unfold m_join_43
      rw [e1]
      by_cases e : d = D
      · rw [if_neg (fun z => b.mp z e), if_pos (by omega), e, ha, Option.bind_some]
        dsimp only
        rw [e] at ih
        exact ih.1 (by omega) _
      · rw [if_pos (b.mpr e)]
        exact ih.2 (by omega) c
theorem own_join {N : Nat} (hN : 5000 ≤ N) {r fresh : Int} {D : Nat} (hD : D < 64) (hb : ∀ d : Nat, d < 64 → (lcmp (land (lushr fresh (d : Int)) 1) 0 = 0 ↔ d ≠ D)) {S S1 : St} (ha : m_addDot N r (D : Int) S = some (0, S1)) : m_join N r fresh S = m_join_49 N r fresh (lor 0 (S 4 (D : Int))) S1 :=
  (own_join6 N hD hb ha 64 N 0 (by omega) (by omega)).2 (by omega) 0
theorem own_la {N : Nat} (hN : 5000 ≤ N) {r : Int} (r0 : 0 ≤ r) (r1 : r < 4) {S : St} (hz : ∀ i, S 14 i = 0) : m_leastAck N r S = some (0, S) := by
  have st : ∀ (n f : Nat) (j : Int), n < f → 0 ≤ j → j + n = 4 → m_leastAck_5 N f r 0 j S = some (0, S) := by
    intro n
    induction n with
    | zero =>
      intro f j h h0 h1
      obtain ⟨f, rfl⟩ : ∃ g, f = g + 1 := ⟨f - 1, by omega⟩
      rw [m_leastAck_5, if_neg (by omega)]
    | succ n ih =>
      intro f j h h0 h1
      obtain ⟨f, rfl⟩ : ∃ g, f = g + 1 := ⟨f - 1, by omega⟩
      rw [m_leastAck_5, if_pos (by omega)]
      unfold m_leastAck_40
      rw [own_w (x := j + 1) (by omega) (by omega)]
      by_cases c : j = r
      · rw [if_pos c]; exact ih f (j + 1) (by omega) (by omega) (by omega)
      · rw [if_neg c, own_w (x := r * 4) (by omega) (by omega), own_w (x := r * 4 + j) (by omega) (by omega), if_pos (by omega), hz, if_neg (by decide)]
        exact ih f (j + 1) (by omega) (by omega) (by omega)
  unfold m_leastAck
  obtain ⟨f, rfl⟩ : ∃ g, N = g + 2 := ⟨N - 2, by omega⟩
  rw [m_leastAck_5, if_pos (by decide)]
  unfold m_leastAck_40
  rw [show w32 (0 + 1) = 1 from rfl, own_w (x := r * 4) (by omega) (by omega), own_w (x := r * 4 + 0) (by omega) (by omega), if_pos (show 0 ≤ r * 4 + 0 ∧ r * 4 + 0 < 16 by omega), hz, if_pos (show (0 : Int) < 2147483647 by decide), if_pos (show 0 ≤ r * 4 + 0 ∧ r * 4 + 0 < 16 by omega)]
  by_cases c : (0 : Int) = r
  · rw [if_pos c, m_leastAck_5, if_pos (by decide), if_neg (by omega), own_w (x := r * 4) (by omega) (by omega), own_w (x := r * 4 + 1) (by omega) (by omega), if_pos (by omega), hz, if_pos (by decide), if_pos (by omega)]
    unfold m_leastAck_40
    rw [show w32 (1 + 1) = 2 from rfl]
    exact st 2 f 2 (by omega) (by omega) (by omega)
  · rw [if_neg c]
    exact st 3 (f + 1) 1 (by omega) (by omega) (by omega)
theorem own_trim {N : Nat} (hN : 5000 ≤ N) {r : Int} (r0 : 0 ≤ r) (r1 : r < 4) {S : St} (hz : ∀ i, S 14 i = 0) (h13 : S 13 r = 0) (s0 : 0 ≤ S 12 r) (s1 : S 12 r ≤ 2) (c0 : 1 ≤ S 0 25) (c1 : S 0 25 ≤ 8) : m_trim N r S = some (0, if S 0 25 < S 12 r then stw S 13 r (S 12 r - S 0 25) else S) := by
  have c : 0 ≤ r ∧ r < 4 := ⟨r0, r1⟩
  unfold m_trim m_trim_23
  rw [own_la hN r0 r1 hz, Option.bind_some]
  dsimp only
  simp only [if_pos c]
  rw [h13, if_neg (show ¬ (0 : Int) < 0 by decide), own_w (x := S 12 r - 0) (by omega) (by omega), own_w (x := S 12 r - S 0 25) (by omega) (by omega), show S 12 r - 0 = S 12 r by omega]
  by_cases q : S 0 25 < S 12 r
  · rw [if_pos q, if_pos q]
  · rw [if_neg q, if_neg q]
/-! # bits of longs -/
theorem own_toNat64 (x : Int) : (Int64.ofInt x).toBitVec.toNat = (x % 18446744073709551616).toNat := by
  rw [Int64.toBitVec_ofInt, BitVec.toNat_ofInt]; rfl
theorem own_nn64 {a : Int64} {n : Nat} (h : a.toBitVec.toNat = n) (h2 : n < 9223372036854775808) : a.toInt = (n : Int) := by
  have e : a.toInt = a.toBitVec.toInt := rfl
  rw [e, BitVec.toInt_eq_toNat_cond, h]
  split <;> omega
def lb (x : Int) (j : Nat) : Bool := (Int64.ofInt x).toBitVec.getLsbD j
theorem lb_and (x y : Int) (j : Nat) : lb (land x y) j = (lb x j && lb y j) := by
  unfold lb Jvm.OwnKit.land; rw [Int64.ofInt_toInt, Int64.toBitVec_and, BitVec.getLsbD_and]
theorem lb_or (x y : Int) (j : Nat) : lb (lor x y) j = (lb x j || lb y j) := by
  unfold lb Jvm.OwnKit.lor; rw [Int64.ofInt_toInt, Int64.toBitVec_or, BitVec.getLsbD_or]
theorem lb_xor (x y : Int) (j : Nat) : lb (lxor x y) j = (lb x j ^^ lb y j) := by
  unfold lb lxor; rw [Int64.ofInt_toInt, Int64.toBitVec_xor, BitVec.getLsbD_xor]
theorem lb_shlT : ∀ l : Fin 64, ∀ j : Fin 64, lb (lshl 1 (l.val : Int)) j.val = decide (j = l) := by decide +kernel
theorem lb_shl {l j : Nat} (hl : l < 64) (hj : j < 64) : lb (lshl 1 (l : Int)) j = decide (j = l) := by
  have h := lb_shlT ⟨l, hl⟩ ⟨j, hj⟩
  simpa [Fin.ext_iff] using h
theorem lb_m1T : ∀ j : Fin 64, lb (-1) j.val = true := by decide +kernel
theorem lb_on {x : Int} {l j : Nat} (hl : l < 64) (hj : j < 64) : lb (lor x (lshl 1 (l : Int))) j = (lb x j || decide (j = l)) := by rw [lb_or, lb_shl hl hj]
theorem lb_off {x : Int} {l j : Nat} (hl : l < 64) (hj : j < 64) : lb (land x (lxor (lshl 1 (l : Int)) (-1))) j = (lb x j && !decide (j = l)) := by
  rw [lb_and, lb_xor, lb_shl hl hj, lb_m1T ⟨j, hj⟩]; cases decide (j = l) <;> rfl
theorem ushrL_T : ∀ j : Fin 64, ((Int32.ofInt (j.val : Int)).toInt64.toUInt64 &&& Int64.toUInt64 63).toNat % 64 = j.val := by decide +kernel
theorem own_ushrL (x : Int) {j : Nat} (hj : j < 64) : (XT.ushrL (Int64.ofInt x) (Int32.ofInt (j : Int))).toBitVec.toNat = (x % 18446744073709551616).toNat / 2 ^ j := by
  have h1 : (XT.ushrL (Int64.ofInt x) (Int32.ofInt (j : Int))).toBitVec.toNat = (Int64.ofInt x).toBitVec.toNat >>> (((Int32.ofInt (j : Int)).toInt64.toUInt64 &&& Int64.toUInt64 63).toNat % 64) := by
    show ((Int64.ofInt x).toUInt64 >>> ((Int32.ofInt (j : Int)).toInt64.toUInt64 &&& Int64.toUInt64 63)).toNat = _
    rw [UInt64.toNat_shiftRight]; rfl
  have h2 : ((Int32.ofInt (j : Int)).toInt64.toUInt64 &&& Int64.toUInt64 63).toNat % 64 = j := ushrL_T ⟨j, hj⟩
  rw [h1, h2, own_toNat64, Nat.shiftRight_eq_div_pow]
theorem land_sh (x : Int) {j : Nat} (hj : j < 64) {m : Int} (k : Nat) (hm : (Int64.ofInt m).toBitVec.toNat = 2 ^ k - 1) (hk : 2 ^ k ≤ 9223372036854775808) : land (lushr x (j : Int)) m = (((x % 18446744073709551616).toNat / 2 ^ j % 2 ^ k : Nat) : Int) := by
  refine own_nn64 ?_ (Nat.lt_of_lt_of_le (Nat.mod_lt _ (Nat.two_pow_pos k)) hk)
  unfold lushr
  rw [Int64.ofInt_toInt, Int64.toBitVec_and, BitVec.toNat_and, own_ushrL x hj, hm, Nat.and_two_pow_sub_one_eq_mod]
theorem lb_n (x : Int) (j : Nat) : lb x j = decide ((x % 18446744073709551616).toNat / 2 ^ j % 2 = 1) := by
  unfold lb
  rw [← BitVec.testBit_toNat, own_toNat64, Nat.testBit_eq_decide_div_mod_eq]
theorem own_lbt (x : Int) {j : Nat} (hj : j < 64) : land (lushr x (j : Int)) 1 = if lb x j then 1 else 0 := by
  rw [land_sh x hj 1 (by decide) (by decide), lb_n]
  have := Nat.mod_two_eq_zero_or_one ((x % 18446744073709551616).toNat / 2 ^ j)
  rw [Nat.pow_one]
  rcases this with q | q <;> rw [q] <;> rfl
/-! # sums -/
def sumK (f : Int → Int) : Nat → Int
  | 0 => 0
  | n + 1 => sumK f n + f (n : Int)
theorem sumK_congr {f g : Int → Int} : ∀ (n : Nat), (∀ j : Int, 0 ≤ j → j < n → f j = g j) → sumK f n = sumK g n
  | 0, _ => rfl
  | n + 1, h => by rw [sumK, sumK, sumK_congr n (fun j a b => h j a (by omega)), h (n : Int) (by omega) (by omega)]
theorem sumK_upd {f g : Int → Int} {k : Int} (hk : 0 ≤ k) : ∀ (n : Nat), k < n → (∀ j : Int, 0 ≤ j → j < n → j ≠ k → f j = g j) → sumK f n = sumK g n + (f k - g k)
  | 0, h, _ => by omega
  | n + 1, h, e => by
    rw [sumK, sumK]
    by_cases q : k = (n : Int)
    · rw [sumK_congr n (fun j a b => e j a (by omega) (by omega)), q]; omega
    · rw [sumK_upd hk n (by omega) (fun j a b c => e j a (by omega) c), e (n : Int) (by omega) (by omega) (by omega)]; omega
theorem sumK_add (f g : Int → Int) : ∀ (n : Nat), sumK (fun j => f j + g j) n = sumK f n + sumK g n
  | 0 => rfl
  | n + 1 => by rw [sumK, sumK, sumK, sumK_add f g n]; omega
theorem sumK_0 {f : Int → Int} : ∀ (n : Nat), (∀ j : Int, 0 ≤ j → j < n → f j = 0) → sumK f n = 0
  | 0, _ => rfl
  | n + 1, h => by rw [sumK, sumK_0 n (fun j a b => h j a (by omega)), h (n : Int) (by omega) (by omega)]; rfl
theorem sumK_le {f g : Int → Int} : ∀ (n : Nat), (∀ j : Int, 0 ≤ j → j < n → f j ≤ g j) → sumK f n ≤ sumK g n
  | 0, _ => Int.le_refl _
  | n + 1, h => by
    have a := sumK_le n (fun j a b => h j a (by omega))
    have b := h (n : Int) (by omega) (by omega)
    rw [sumK, sumK]; omega
/-! # counting bits -/
def cbK (x : Int) (w : Nat) : Nat → Nat → Int
  | 0, _ => 0
  | n + 1, d => (if lb x d = true ∧ d / 16 = w then 1 else 0) + cbK x w n (d + 1)
def cw (x : Int) (w : Nat) : Int := cbK x w 64 0
theorem cbK_nn (x : Int) (w : Nat) : ∀ n d, 0 ≤ cbK x w n d
  | 0, _ => Int.le_refl _
  | n + 1, d => by
    have := cbK_nn x w n (d + 1)
    rw [cbK]; split <;> omega
theorem cbK_or {x y : Int} (w : Nat) : ∀ n d, (∀ e, d ≤ e → e < d + n → ¬ (lb x e = true ∧ lb y e = true)) → cbK (lor x y) w n d = cbK x w n d + cbK y w n d
  | 0, _, _ => rfl
  | n + 1, d, h => by
    have q := h d (by omega) (by omega)
    have e : (if (lb x d || lb y d) = true ∧ d / 16 = w then (1 : Int) else 0) = (if lb x d = true ∧ d / 16 = w then 1 else 0) + (if lb y d = true ∧ d / 16 = w then 1 else 0) := by
      cases hx : lb x d <;> cases hy : lb y d <;> by_cases z : d / 16 = w <;> simp_all
    rw [cbK, cbK, cbK, cbK_or w n (d + 1) (fun e a b => h e (by omega) (by omega)), lb_or, e]; omega
def ivK (m : Int) (w : Nat) : Nat → Nat → Int
  | 0, _ => 0
  | n + 1, d => (if ((d % 16 : Nat) : Int) < m ∧ d / 16 = w then 1 else 0) + ivK m w n (d + 1)
theorem iv_T : ∀ w : Fin 4, ∀ m : Fin 17, ivK (m.val : Int) w.val 64 0 = (m.val : Int) := by decide +kernel
theorem iv_e {w : Nat} (hw : w < 4) {m : Int} (m0 : 0 ≤ m) (m1 : m ≤ 16) : ivK m w 64 0 = m := by
  obtain ⟨k, rfl⟩ := Int.eq_ofNat_of_zero_le m0
  exact iv_T ⟨w, hw⟩ ⟨k, by omega⟩
theorem cbK_le {x m : Int} {w : Nat} (h : ∀ c : Nat, c < 16 → lb x (16 * w + c) = true → (c : Int) < m) : ∀ n d, cbK x w n d ≤ ivK m w n d
  | 0, _ => Int.le_refl _
  | n + 1, d => by
    have ih := cbK_le h n (d + 1)
    rw [cbK, ivK]
    by_cases a : lb x d = true ∧ d / 16 = w
    · have e : 16 * w + d % 16 = d := by omega
      have b := h (d % 16) (by omega) (by rw [e]; exact a.1)
      rw [if_pos a, if_pos ⟨b, a.2⟩]; omega
    · rw [if_neg a]; split <;> omega
theorem cbK_eq {x m : Int} {w : Nat} (h : ∀ c : Nat, c < 16 → lb x (16 * w + c) = decide ((c : Int) < m)) : ∀ n d, cbK x w n d = ivK m w n d
  | 0, _ => rfl
  | n + 1, d => by
    rw [cbK, ivK, cbK_eq h n (d + 1)]
    by_cases z : d / 16 = w
    · have e : 16 * w + d % 16 = d := by omega
      have b := h (d % 16) (by omega)
      rw [e] at b
      by_cases a : ((d % 16 : Nat) : Int) < m
      · rw [if_pos ⟨by rw [b]; exact decide_eq_true a, z⟩, if_pos ⟨a, z⟩]
      · rw [if_neg (fun q => a (by rw [b] at q; exact of_decide_eq_true q.1)), if_neg (fun q => a q.1)]
    · rw [if_neg (fun q => z q.2), if_neg (fun q => z q.2)]
theorem cbK_one {x : Int} {D w : Nat} : ∀ n d, (∀ e, d ≤ e → e < d + n → lb x e = decide (e = D)) → cbK x w n d = if (d ≤ D ∧ D < d + n) ∧ D / 16 = w then 1 else 0
  | 0, d, _ => by rw [if_neg (by omega)]; rfl
  | n + 1, d, h => by
    rw [cbK, cbK_one n (d + 1) (fun e a b => h e (by omega) (by omega)), h d (by omega) (by omega)]
    by_cases z : d = D
    · subst z
      rw [if_neg (show ¬ ((d + 1 ≤ d ∧ d < d + 1 + n) ∧ d / 16 = w) by omega)]
      by_cases y : d / 16 = w
      · rw [if_pos ⟨decide_eq_true rfl, y⟩, if_pos ⟨by omega, y⟩]; rfl
      · rw [if_neg (fun q => y q.2), if_neg (fun q => y q.2)]; rfl
    · rw [if_neg (fun q => z (of_decide_eq_true q.1))]
      by_cases y : (d + 1 ≤ D ∧ D < d + 1 + n) ∧ D / 16 = w
      · rw [if_pos y, if_pos ⟨by omega, y.2⟩]; rfl
      · rw [if_neg y, if_neg (fun q => y ⟨by omega, q.2⟩)]; rfl
theorem cw_1 {D w : Nat} (hD : D < 64) : cw (lshl 1 (D : Int)) w = if D / 16 = w then 1 else 0 := by
  have h := cbK_one (x := lshl 1 (D : Int)) (D := D) (w := w) 64 0 (fun e _ b => lb_shl hD (by omega))
  unfold cw
  rw [h]
  by_cases c : D / 16 = w
  · rw [if_pos c, if_pos ⟨by omega, c⟩]
  · rw [if_neg c, if_neg (fun q => c q.2)]
theorem lb_not {x : Int} {j : Nat} (hj : j < 64) : lb (lxor x (-1)) j = !lb x j := by
  rw [lb_xor, lb_m1T ⟨j, hj⟩]; cases lb x j <;> rfl
theorem bit_t {x : Int} {j : Nat} (hj : j < 64) : lcmp (land (lushr x (j : Int)) 1) 0 = 0 ↔ lb x j = false := by
  rw [own_lcmp0, own_lbt x hj]
  cases lb x j <;> simp
/-! # what the parts leave alone -/
theorem mak_T : ∀ d : Fin 64, iand (iushr (d.val : Int) 4) 3 = ((d.val / 16 : Nat) : Int) := by decide +kernel
section Parts
variable {N : Nat} {r : Nat}
theorem fr_prune17 (N : Nat) (hr : r < 4) (keep : Int) : ∀ (n f k : Nat) (S : St), n < f → k + n = 8 → ∃ S', m_pruneStores_17 N f (r : Int) keep (k : Int) S = some (0, S') ∧ ∀ h, h ≠ 7 → h ≠ 8 → S' h = S h
  | _, 0, _, _, h, _ => absurd h (Nat.not_lt_zero _)
  | 0, f + 1, k, S, _, h1 => by
    rw [m_pruneStores_17, if_neg (by omega)]
    exact ⟨S, rfl, fun _ _ _ => rfl⟩
  | n + 1, f + 1, k, S, h, h1 => by
    have ix : w32 (w32 ((r : Int) * 8) + (k : Int)) = 8 * (r : Int) + k := by
      rw [own_w (x := (r : Int) * 8) (by omega) (by omega), own_w (by omega) (by omega)]; omega
    have c32 : 0 ≤ 8 * (r : Int) + (k : Int) ∧ 8 * (r : Int) + (k : Int) < 32 := by omega
    rw [m_pruneStores_17, if_pos (by omega), ix, own_w (x := (k : Int) + 1) (by omega) (by omega), show (k : Int) + 1 = ((k + 1 : Nat) : Int) by omega]
    simp only [if_pos c32]
    obtain ⟨S', e, a⟩ := fr_prune17 N hr keep n f (k + 1) (stw (stw S 7 (8 * (r : Int) + k) (land (S 7 (8 * (r : Int) + k)) keep)) 8 (8 * (r : Int) + k) (land (stw S 7 (8 * (r : Int) + k) (land (S 7 (8 * (r : Int) + k)) keep) 8 (8 * (r : Int) + k)) keep)) (by omega) (by omega)
    exact ⟨S', e, fun h x y => by rw [a h x y, stw_H _ _ _ y, stw_H _ _ _ x]⟩
theorem fr_prune (hN : 5000 ≤ N) (hr : r < 4) (cover : Int) (S : St) : ∃ S', m_pruneStores N (r : Int) cover S = some (0, S') ∧ ∀ h, h ≠ 7 → h ≠ 8 → S' h = S h := by
  unfold m_pruneStores
  by_cases c : lcmp cover 0 = 0
  · rw [if_pos c]; exact ⟨S, rfl, fun _ _ _ => rfl⟩
  · rw [if_neg c]; exact fr_prune17 N hr _ 8 N 0 S (by omega) (by omega)
theorem fr_rv7 (hN : 5000 ≤ N) (hr : r < 4) : ∀ (n f k : Nat) (fl pr : Int) (S : St), n < f → (k : Int) + n = S 0 23 → S 0 23 ≤ 8 → ∃ S', m_refreshView_7 N f (r : Int) fl pr (k : Int) S = some (0, S') ∧ ∀ h, h ≠ 9 → h ≠ 10 → h ≠ 11 → S' h = S h
  | _, 0, _, _, _, _, h, _, _ => absurd h (Nat.not_lt_zero _)
  | 0, f + 1, k, fl, pr, S, _, h1, h8 => by
    rw [m_refreshView_7, if_neg (by omega)]
    unfold m_refreshView_94
    rw [if_pos (by omega), if_pos (by omega)]
    exact ⟨_, rfl, fun h a b c => by rw [stw_H _ _ _ c, stw_H _ _ _ b]⟩
  | n + 1, f + 1, k, fl, pr, S, h, h1, h8 => by
    have ix : w32 (w32 ((r : Int) * 8) + (k : Int)) = 8 * (r : Int) + k := by
      rw [own_w (x := (r : Int) * 8) (by omega) (by omega), own_w (by omega) (by omega)]; omega
    have c32 : 0 ≤ 8 * (r : Int) + (k : Int) ∧ 8 * (r : Int) + (k : Int) < 32 := by omega
    have e79 : ∀ fl' pr' Y, ∃ S', m_refreshView_79 N (m_refreshView_7 N f) (r : Int) fl' pr' (k : Int) Y S = some (0, S') ∧ ∀ h, h ≠ 9 → h ≠ 10 → h ≠ 11 → S' h = S h := by
      intro fl' pr' Y
      obtain ⟨S1, e1, a1, b1⟩ := own_rr3 hN (r := (r : Int)) (by omega) (by omega) (k := (k : Int)) (by omega) (by omega) Y 4 N 0 S (by omega) (by omega)
      have e1 : m_refreshRegister N (r : Int) (k : Int) Y S = some (0, S1) := e1
      have s0 : S1 0 = S 0 := a1 0 (by decide)
      obtain ⟨S', e2, a2⟩ := fr_rv7 hN hr n f (k + 1) fl' pr' S1 (by omega) (by rw [s0]; omega) (by rw [s0]; exact h8)
      unfold m_refreshView_79
      rw [e1, Option.bind_some, own_w (by omega) (by omega), show (k : Int) + 1 = ((k + 1 : Nat) : Int) by omega]
      exact ⟨S', e2, fun h x y z => by rw [a2 h x y z, a1 h x]⟩
    rw [m_refreshView_7, if_pos (by omega), ix, if_pos c32, if_pos c32]
    unfold m_refreshView_58 m_refreshView_72
    repeat' (first | exact e79 _ _ _ | split)
theorem j49 (hN : 5000 ≤ N) (hr : r < 4) {fresh cover : Int} {S : St} (k0 : 0 ≤ S 0 23) (k8 : S 0 23 ≤ 8) (q0 : 0 ≤ S 12 (r : Int)) (q1 : S 12 (r : Int) ≤ 1000) :
    ∃ S', m_join_49 N (r : Int) fresh cover S = some (0, S') ∧ (∀ i, S' 5 i = if i = (r : Int) then lor (S 5 (r : Int)) fresh else S 5 i) ∧ (∀ i, S' 12 i = if i = (r : Int) then S 12 (r : Int) + 1 else S 12 i) ∧ (∃ q : Int, ∀ i, S' 16 i = if i = q then fresh else S 16 i) ∧ (∀ h, h ≠ 5 → h ≠ 7 → h ≠ 8 → h ≠ 9 → h ≠ 10 → h ≠ 11 → h ≠ 12 → h ≠ 16 → S' h = S h) := by
  have c4 : 0 ≤ (r : Int) ∧ (r : Int) < 4 := by omega
  obtain ⟨S1, ep, fp⟩ := fr_prune hN hr cover S
  have p0 := fp 0 (by decide) (by decide)
  have p5 := fp 5 (by decide) (by decide)
  have p12 := fp 12 (by decide) (by decide)
  have p16 := fp 16 (by decide) (by decide)
  unfold m_join_49
  rw [ep, Option.bind_some]
  dsimp only
  unfold m_recordChange
  rw [stw_h (h' := 12) (h := 5) _ _ _ _ (by decide), p12, own_i7, own_w (x := (r : Int) * 8) (by omega) (by omega), own_w (x := (r : Int) * 8 + S 12 (r : Int) % 8) (by omega) (by omega), stw_h (h' := 12) (h := 16) _ _ _ _ (by decide), stw_h (h' := 12) (h := 5) _ _ _ _ (by decide), p12, own_w (x := S 12 (r : Int) + 1) (by omega) (by omega)]
  have c32 : 0 ≤ (r : Int) * 8 + S 12 (r : Int) % 8 ∧ (r : Int) * 8 + S 12 (r : Int) % 8 < 32 := by omega
  simp only [if_pos c4, if_pos c32, Option.bind_some]
  generalize hT : stw (stw (stw S1 5 (r : Int) (lor (S1 5 (r : Int)) fresh)) 16 ((r : Int) * 8 + S 12 (r : Int) % 8) fresh) 12 (r : Int) (S 12 (r : Int) + 1) = T
  have t0 : T 0 = S 0 := by rw [← hT, stw_H _ _ _ (by decide), stw_H _ _ _ (by decide), stw_H _ _ _ (by decide), p0]
  obtain ⟨S', e, fv⟩ := fr_rv7 hN hr (T 0 23).toNat N 0 0 0 T (by rw [t0]; omega) (by rw [t0]; omega) (by rw [t0]; exact k8)
  have e : m_refreshView N (r : Int) T = some (0, S') := e
  rw [e, Option.bind_some]
  refine ⟨S', rfl, fun i => ?_, fun i => ?_, ⟨(r : Int) * 8 + S 12 (r : Int) % 8, fun i => ?_⟩, fun h a b c d e' f g k => ?_⟩
  · rw [fv 5 (by decide) (by decide) (by decide), ← hT, stw_h _ _ _ _ (by decide), stw_h _ _ _ _ (by decide), stw_e, p5]
  · rw [fv 12 (by decide) (by decide) (by decide), ← hT, stw_e, stw_h _ _ _ _ (by decide), stw_h _ _ _ _ (by decide), p12]
  · rw [fv 16 (by decide) (by decide) (by decide), ← hT, stw_h _ _ _ _ (by decide), stw_e, stw_h _ _ _ _ (by decide), p16]
  · rw [fv h d e' f, ← hT, stw_H _ _ _ g, stw_H _ _ _ k, stw_H _ _ _ a, fp h b c]
theorem adot (N : Nat) (hr : r < 4) {d : Nat} (hd : d < 64) {S : St} (c0 : 0 ≤ S 6 (4 * (r : Int) + (d / 16 : Nat))) (c1 : S 6 (4 * (r : Int) + (d / 16 : Nat)) ≤ 1000) :
    ∃ S', m_addDot N (r : Int) (d : Int) S = some (0, S') ∧ (∀ i, S' 6 i = if i = 4 * (r : Int) + (d / 16 : Nat) then S 6 i + 1 else S 6 i) ∧ (∀ h, h ≠ 6 → h ≠ 7 → h ≠ 8 → S' h = S h) := by
  have hm : iand (iushr (d : Int) 4) 3 = ((d / 16 : Nat) : Int) := mak_T ⟨d, hd⟩
  have ix : w32 (w32 ((r : Int) * 4) + ((d / 16 : Nat) : Int)) = 4 * (r : Int) + (d / 16 : Nat) := by
    rw [own_w (x := (r : Int) * 4) (by omega) (by omega), own_w (by omega) (by omega)]; omega
  have cD : 0 ≤ (d : Int) ∧ (d : Int) < 64 := by omega
  have c16 : 0 ≤ 4 * (r : Int) + ((d / 16 : Nat) : Int) ∧ 4 * (r : Int) + ((d / 16 : Nat) : Int) < 16 := by omega
  unfold m_addDot m_storeIndex
  rw [hm, ix, own_w (x := S 6 (4 * (r : Int) + ((d / 16 : Nat) : Int)) + 1) (by omega) (by omega), own_i3, own_i7]
  generalize hT : stw S 6 (4 * (r : Int) + ((d / 16 : Nat) : Int)) (S 6 (4 * (r : Int) + ((d / 16 : Nat) : Int)) + 1) = T
  rw [own_w (x := (r : Int) % 4 * 8) (by omega) (by omega), own_w (x := (r : Int) % 4 * 8 + T 2 (d : Int) % 8) (by omega) (by omega)]
  have cs : 0 ≤ (r : Int) % 4 * 8 + T 2 (d : Int) % 8 ∧ (r : Int) % 4 * 8 + T 2 (d : Int) % 8 < 32 := by omega
  simp only [if_pos c16, if_pos cD, if_pos cs, Option.bind_some]
  have t6 : ∀ i, T 6 i = if i = 4 * (r : Int) + (d / 16 : Nat) then S 6 i + 1 else S 6 i := fun i => by
    rw [← hT, stw_e]
    by_cases c : i = 4 * (r : Int) + ((d / 16 : Nat) : Int)
    · rw [if_pos c, if_pos c, c]
    · rw [if_neg c, if_neg c]
  have th : ∀ h, h ≠ 6 → T h = S h := fun h hh => by rw [← hT, stw_H _ _ _ hh]
  by_cases k1 : T 1 (d : Int) = 1
  · rw [if_pos k1]
    exact ⟨_, rfl, fun i => by rw [stw_h _ _ _ _ (by decide)]; exact t6 i, fun h a b c => by rw [stw_H _ _ _ b]; exact th h a⟩
  · rw [if_neg k1]
    by_cases k2 : T 1 (d : Int) = 2
    · rw [if_pos k2]
      exact ⟨_, rfl, fun i => by rw [stw_h _ _ _ _ (by decide)]; exact t6 i, fun h a b c => by rw [stw_H _ _ _ c]; exact th h a⟩
    · rw [if_neg k2]
      exact ⟨_, rfl, t6, fun h a _ _ => th h a⟩
theorem j6 (N : Nat) (hr : r < 4) (fresh : Int) : ∀ (n f d : Nat) (cover : Int) (S : St), n < f → d + n = 64 → (∀ w : Nat, w < 4 → 0 ≤ S 6 (4 * (r : Int) + w) ∧ S 6 (4 * (r : Int) + w) ≤ 100 + d) →
    ∃ c' S', m_join_6 N f (r : Int) fresh cover (d : Int) S = m_join_49 N (r : Int) fresh c' S' ∧ (∀ h, h ≠ 6 → h ≠ 7 → h ≠ 8 → S' h = S h) ∧ (∀ w : Nat, w < 4 → S' 6 (4 * (r : Int) + w) = S 6 (4 * (r : Int) + w) + cbK fresh w n d) ∧ (∀ i, i < 4 * (r : Int) ∨ 4 * (r : Int) + 4 ≤ i → S' 6 i = S 6 i)
  | _, 0, _, _, _, h, _, _ => absurd h (Nat.not_lt_zero _)
  | 0, f + 1, d, cover, S, _, h1, _ => by
    rw [m_join_6, if_neg (by omega)]
    exact ⟨cover, S, rfl, fun _ _ _ _ => rfl, fun w _ => by rw [cbK, Int.add_zero], fun _ _ => rfl⟩
  | n + 1, f + 1, d, cover, S, h, h1, hc => by
    have b := bit_t (x := fresh) (j := d) (by omega)
    have e1 : w32 ((d : Int) + 1) = ((d + 1 : Nat) : Int) := by rw [own_w (by omega) (by omega)]; omega
    rw [m_join_6, if_pos (by omega)]
    unfold m_join_43
    rw [e1]
    cases hl : lb fresh d
    · rw [if_pos (b.mpr hl)]
      obtain ⟨c', S', e, fr, cl, co⟩ := j6 N hr fresh n f (d + 1) cover S (by omega) (by omega) (fun w hw => by have := hc w hw; omega)
      refine ⟨c', S', e, fr, fun w hw => ?_, co⟩
      rw [cl w hw, cbK, hl, if_neg (by intro q; cases q.1)]; omega
    · rw [if_neg (fun q => by rw [b.mp q] at hl; cases hl), if_pos (show 0 ≤ (d : Int) ∧ (d : Int) < 64 by omega)]
      have cd := hc (d / 16) (by omega)
      obtain ⟨S1, ea, ca, fa⟩ := adot N hr (d := d) (by omega) (S := S) cd.1 (by omega)
      rw [ea, Option.bind_some]
      dsimp only
      obtain ⟨c', S', e, fr, cl, co⟩ := j6 N hr fresh n f (d + 1) (lor cover (S 4 (d : Int))) S1 (by omega) (by omega) (fun w hw => by
        have := hc w hw
        rw [ca]; split <;> omega)
      refine ⟨c', S', e, fun h x y z => by rw [fr h x y z, fa h x y z], fun w hw => ?_, fun i hi => ?_⟩
      · rw [cl w hw, cbK, ca]
        by_cases q : d / 16 = w
        · rw [if_pos (by rw [q]), if_pos ⟨hl, q⟩]; omega
        · rw [if_neg (by omega), if_neg (fun z => q z.2)]; omega
      · rw [co i hi, ca, if_neg (by omega)]
/-- what joining leaves behind -/
def JE (S S' : St) (r : Nat) (fresh : Int) : Prop := (∀ i, S' 5 i = if i = (r : Int) then lor (S 5 (r : Int)) fresh else S 5 i) ∧ (∀ i, S' 12 i = if i = (r : Int) then S 12 (r : Int) + 1 else S 12 i) ∧ (∃ q : Int, ∀ i, S' 16 i = if i = q then fresh else S 16 i) ∧ (∀ w : Nat, w < 4 → S' 6 (4 * (r : Int) + w) = S 6 (4 * (r : Int) + w) + cw fresh w) ∧ (∀ i, i < 4 * (r : Int) ∨ 4 * (r : Int) + 4 ≤ i → S' 6 i = S 6 i) ∧ (∀ h, h = 0 ∨ (13 ≤ h ∧ h ≤ 15) ∨ 17 ≤ h → S' h = S h)
theorem own_jn (hN : 5000 ≤ N) (hr : r < 4) (fresh : Int) {S : St} (k0 : 0 ≤ S 0 23) (k8 : S 0 23 ≤ 8) (q0 : 0 ≤ S 12 (r : Int)) (q1 : S 12 (r : Int) ≤ 1000) (hc : ∀ w : Nat, w < 4 → 0 ≤ S 6 (4 * (r : Int) + w) ∧ S 6 (4 * (r : Int) + w) ≤ 100) : ∃ S', m_join N (r : Int) fresh S = some (0, S') ∧ JE S S' r fresh := by
  obtain ⟨c', S1, e, fr, cl, co⟩ := j6 N hr fresh 64 N 0 0 S (by omega) (by omega) (fun w hw => by have := hc w hw; omega)
  have f0 := fr 0 (by decide) (by decide) (by decide)
  have f5 := fr 5 (by decide) (by decide) (by decide)
  have f12 := fr 12 (by decide) (by decide) (by decide)
  have f16 := fr 16 (by decide) (by decide) (by decide)
  obtain ⟨S', e', a5, a12, ⟨q, a16⟩, af⟩ := j49 hN hr (fresh := fresh) (cover := c') (S := S1) (by rw [f0]; exact k0) (by rw [f0]; exact k8) (by rw [f12]; exact q0) (by rw [f12]; exact q1)
  have e : m_join N (r : Int) fresh S = m_join_49 N (r : Int) fresh c' S1 := e
  have a6 := af 6 (by decide) (by decide) (by decide) (by decide) (by decide) (by decide) (by decide) (by decide)
  refine ⟨S', by rw [e, e'], fun i => by rw [a5 i, f5], fun i => by rw [a12 i, f12], ⟨q, fun i => by rw [a16 i, f16]⟩, fun w hw => by rw [a6, cl w hw]; rfl, fun i hi => by rw [a6, co i hi], fun h hh => ?_⟩
  rw [af h (by omega) (by omega) (by omega) (by omega) (by omega) (by omega) (by omega) (by omega), fr h (by omega) (by omega) (by omega)]
/-! # trimming -/
theorem la5 (N : Nat) (hr : r < 4) {S : St} {M : Int} (hM : M ≤ 1000) (ha : ∀ j : Nat, j < 4 → 0 ≤ S 14 (4 * (r : Int) + j) ∧ S 14 (4 * (r : Int) + j) ≤ M) : ∀ (n f j : Nat) (x : Int), n < f → j + n = 4 → ((0 ≤ x ∧ x ≤ M) ∨ (x = 2147483647 ∧ ∃ j' : Nat, j ≤ j' ∧ j' < 4 ∧ j' ≠ r)) → ∃ L, m_leastAck_5 N f (r : Int) x (j : Int) S = some (L, S) ∧ 0 ≤ L ∧ L ≤ M
  | _, 0, _, _, h, _, _ => absurd h (Nat.not_lt_zero _)
  | 0, f + 1, j, x, _, h1, hx => by
    rw [m_leastAck_5, if_neg (by omega)]
    rcases hx with hx | ⟨_, j', a, b, _⟩
    · exact ⟨x, rfl, hx⟩
    · omega
  | n + 1, f + 1, j, x, h, h1, hx => by
    have aj := ha j (by omega)
    have ix : w32 (w32 ((r : Int) * 4) + (j : Int)) = 4 * (r : Int) + j := by
      rw [own_w (x := (r : Int) * 4) (by omega) (by omega), own_w (by omega) (by omega)]; omega
    have c16 : 0 ≤ 4 * (r : Int) + (j : Int) ∧ 4 * (r : Int) + (j : Int) < 16 := by omega
    rw [m_leastAck_5, if_pos (by omega), ix]
    unfold m_leastAck_40
    rw [own_w (x := (j : Int) + 1) (by omega) (by omega), show (j : Int) + 1 = ((j + 1 : Nat) : Int) by omega]
    by_cases c : (j : Int) = (r : Int)
    · rw [if_pos c]
      refine la5 N hr hM ha n f (j + 1) x (by omega) (by omega) ?_
      rcases hx with hx | ⟨e, j', a, b, d⟩
      · exact Or.inl hx
      · exact Or.inr ⟨e, j', by omega, b, d⟩
    · rw [if_neg c, if_pos c16]
      by_cases l : S 14 (4 * (r : Int) + (j : Int)) < x
      · rw [if_pos l, if_pos c16]; exact la5 N hr hM ha n f (j + 1) _ (by omega) (by omega) (Or.inl aj)
      · rw [if_neg l]
        refine la5 N hr hM ha n f (j + 1) x (by omega) (by omega) (Or.inl ?_)
        rcases hx with hx | ⟨e, _⟩
        · exact hx
        · omega
theorem own_trm (hN : 5000 ≤ N) (hr : r < 4) {S : St} (cap : S 0 25 = 2) (l0 : 0 ≤ S 13 (r : Int)) (l1 : S 13 (r : Int) ≤ S 12 (r : Int)) (q1 : S 12 (r : Int) ≤ 1000) (ha : ∀ j : Nat, j < 4 → 0 ≤ S 14 (4 * (r : Int) + j) ∧ S 14 (4 * (r : Int) + j) ≤ S 12 (r : Int)) :
    ∃ v S', m_trim N (r : Int) S = some (0, S') ∧ (∀ i, S' 13 i = if i = (r : Int) then v else S 13 i) ∧ (∀ h, h ≠ 13 → S' h = S h) ∧ 0 ≤ v ∧ v ≤ S 12 (r : Int) ∧ S 12 (r : Int) ≤ v + 2 := by
  have c : 0 ≤ (r : Int) ∧ (r : Int) < 4 := by omega
  obtain ⟨L, e, L0, L1⟩ := la5 N hr q1 ha 4 N 0 2147483647 (by omega) (by omega) (Or.inr ⟨rfl, if r = 0 then 1 else 0, by omega, by split <;> omega, by split <;> omega⟩)
  have e : m_leastAck N (r : Int) S = some (L, S) := e
  unfold m_trim
  rw [e, Option.bind_some]
  dsimp only
  have t23 : ∀ T : St, (∃ u, (∀ i, T 13 i = if i = (r : Int) then u else S 13 i) ∧ 0 ≤ u ∧ u ≤ S 12 (r : Int)) → (∀ h, h ≠ 13 → T h = S h) → ∃ v S', m_trim_23 N (r : Int) T = some (0, S') ∧ (∀ i, S' 13 i = if i = (r : Int) then v else S 13 i) ∧ (∀ h, h ≠ 13 → S' h = S h) ∧ 0 ≤ v ∧ v ≤ S 12 (r : Int) ∧ S 12 (r : Int) ≤ v + 2 := by
    rintro T ⟨u, tu, u0, u1⟩ tf
    have tr : T 13 (r : Int) = u := by rw [tu, if_pos rfl]
    unfold m_trim_23
    simp only [if_pos c]
    rw [tf 0 (by decide), tf 12 (by decide), tr, cap, own_w (x := S 12 (r : Int) - u) (by omega) (by omega), own_w (x := S 12 (r : Int) - 2) (by omega) (by omega)]
    by_cases q : 2 < S 12 (r : Int) - u
    · rw [if_pos q]
      refine ⟨S 12 (r : Int) - 2, _, rfl, fun i => ?_, fun h hh => by rw [stw_H _ _ _ hh, tf h hh], by omega, by omega, by omega⟩
      rw [stw_e, tu]
      by_cases z : i = (r : Int)
      · rw [if_pos z, if_pos z]
      · rw [if_neg z, if_neg z, if_neg z]
    · rw [if_neg q]
      exact ⟨u, T, rfl, tu, tf, u0, u1, by omega⟩
  rw [if_pos c]
  by_cases q : S 13 (r : Int) < L
  · rw [if_pos q, if_pos c]
    exact t23 _ ⟨L, fun i => by rw [stw_e], L0, L1⟩ (fun h hh => stw_H _ _ _ hh)
  · rw [if_neg q]
    refine t23 S ⟨S 13 (r : Int), fun i => ?_, l0, l1⟩ (fun _ _ => rfl)
    by_cases z : i = (r : Int)
    · rw [if_pos z, z]
    · rw [if_neg z]
end Parts
/-! # what stays true -/
def SubM (S : St) (x : Int) : Prop := ∀ w c : Nat, w < 4 → c < 16 → lb x (16 * w + c) = true → (c : Int) < S 6 (5 * (w : Int))
def PI (S : St) : Prop :=
  (∀ r w : Nat, r < 4 → w < 4 → S 6 (4 * (r : Int) + w) = cw (S 5 (r : Int)) w) ∧
  (∀ r c : Nat, r < 4 → c < 16 → lb (S 5 (r : Int)) (16 * r + c) = decide ((c : Int) < S 6 (5 * (r : Int)))) ∧
  (∀ r : Nat, r < 4 → SubM S (S 5 (r : Int)) ∧ 0 ≤ S 6 (5 * (r : Int)) ∧ S 6 (5 * (r : Int)) ≤ 16) ∧
  (∀ i : Int, SubM S (S 16 i))
def MO (S : St) (s : Int) : Prop := S 17 s = 0 ∨ (1 ≤ S 17 s ∧ S 17 s ≤ 3 ∧ ∃ f t : Nat, f < 4 ∧ t < 4 ∧ f ≠ t ∧ S 18 s = f ∧ S 19 s = t ∧ 0 ≤ S 21 s ∧ (S 17 s = 3 → S 21 s ≤ S 12 (t : Int)) ∧ (S 17 s ≠ 3 → S 21 s ≤ S 12 (f : Int)) ∧ SubM S (S 23 s))
def QI (S : St) : Prop := ∀ r : Nat, r < 4 → 0 ≤ S 13 (r : Int) ∧ S 13 (r : Int) ≤ S 12 (r : Int) ∧ S 12 (r : Int) ≤ S 13 (r : Int) + 2
def AI (S : St) : Prop := ∀ r j : Nat, r < 4 → j < 4 → 0 ≤ S 14 (4 * (r : Int) + j) ∧ S 14 (4 * (r : Int) + j) ≤ S 12 (r : Int)
def CF (S : St) : Prop := S 0 23 = 3 ∧ S 0 24 = 6 ∧ S 0 25 = 2
def DI (S : St) (b : Int) : Prop := CF S ∧ PI S ∧ QI S ∧ AI S ∧ (∀ s : Int, 0 ≤ s → s < 6 → MO S s) ∧ ∀ r : Nat, r < 4 → S 12 (r : Int) ≤ b
theorem sub_mono {S S' : St} {x : Int} (h : SubM S x) (m : ∀ w : Nat, w < 4 → S 6 (5 * (w : Int)) ≤ S' 6 (5 * (w : Int))) : SubM S' x := fun w c hw hc hl => by
  have := h w c hw hc hl
  have := m w hw
  omega
theorem sub_or {S : St} {x y : Int} (hx : SubM S x) (hy : SubM S y) : SubM S (lor x y) := fun w c hw hc hl => by
  rw [lb_or, Bool.or_eq_true] at hl
  rcases hl with hl | hl
  · exact hx w c hw hc hl
  · exact hy w c hw hc hl
theorem lb_z : ∀ j : Fin 64, lb 0 j.val = false := by decide +kernel
theorem sub_0 (S : St) : SubM S 0 := fun w c hw hc hl => by
  have : lb 0 (16 * w + c) = false := lb_z ⟨16 * w + c, by omega⟩
  rw [this] at hl; cases hl
theorem pi_clock {S : St} (P : PI S) {r w : Nat} (hr : r < 4) (hw : w < 4) : 0 ≤ S 6 (4 * (r : Int) + w) ∧ S 6 (4 * (r : Int) + w) ≤ S 6 (5 * (w : Int)) ∧ S 6 (5 * (w : Int)) ≤ 16 := by
  have b := P.2.2.1 w hw
  have s := (P.2.2.1 r hr).1
  have l := cbK_le (x := S 5 (r : Int)) (m := S 6 (5 * (w : Int))) (w := w) (fun c hc h => s w c hw hc h) 64 0
  rw [iv_e hw b.2.1 b.2.2] at l
  rw [P.1 r w hr hw]
  exact ⟨cbK_nn _ _ _ _, l, b.2.2⟩
theorem pi_join {S S' : St} {r : Nat} {fresh : Int} (hr : r < 4) (P : PI S) (J : JE S S' r fresh) (dj : ∀ d, d < 64 → ¬ (lb (S 5 (r : Int)) d = true ∧ lb fresh d = true)) (hM : ∀ w : Nat, w < 4 → S 6 (5 * (w : Int)) ≤ S' 6 (5 * (w : Int))) (hs : SubM S' fresh)
    (ho : ∀ c : Nat, c < 16 → lb (lor (S 5 (r : Int)) fresh) (16 * r + c) = decide ((c : Int) < S' 6 (5 * (r : Int)))) (hb : S' 6 (5 * (r : Int)) ≤ 16) : PI S' := by
  obtain ⟨j5, j12, ⟨q, j16⟩, j6, j6o, jf⟩ := J
  have e5 : S' 5 (r : Int) = lor (S 5 (r : Int)) fresh := by rw [j5, if_pos rfl]
  have n5 : ∀ r' : Nat, r' ≠ r → S' 5 (r' : Int) = S 5 (r' : Int) := fun r' n => by rw [j5, if_neg (by omega)]
  have n6 : ∀ r' w : Nat, w < 4 → r' ≠ r → S' 6 (4 * (r' : Int) + w) = S 6 (4 * (r' : Int) + w) := fun r' w hw n => j6o _ (by omega)
  have n6' : ∀ r' : Nat, r' < 4 → r' ≠ r → S' 6 (5 * (r' : Int)) = S 6 (5 * (r' : Int)) := fun r' hr' n => j6o _ (by omega)
  refine ⟨fun r' w hr' hw => ?_, fun r' c hr' hc => ?_, fun r' hr' => ?_, fun i => ?_⟩
  · by_cases z : r' = r
    · subst z
      rw [j6 w hw, e5, P.1 r' w hr' hw]
      exact (cbK_or w 64 0 (fun e _ b => dj e (by omega))).symm
    · rw [n6 r' w hw z, n5 r' z]; exact P.1 r' w hr' hw
  · by_cases z : r' = r
    · subst z; rw [e5]; exact ho c hc
    · rw [n5 r' z, n6' r' hr' z]; exact P.2.1 r' c hr' hc
  · have p := P.2.2.1 r' hr'
    by_cases z : r' = r
    · subst z
      refine ⟨?_, by have := hM r' hr'; omega, hb⟩
      rw [e5]; exact sub_or (sub_mono p.1 hM) hs
    · rw [n5 r' z, n6' r' hr' z]; exact ⟨sub_mono p.1 hM, p.2⟩
  · rw [j16]
    split
    · exact hs
    · exact sub_mono (P.2.2.2 i) hM
theorem pi_same {S S' : St} (e5 : S' 5 = S 5) (e6 : S' 6 = S 6) (e16 : S' 16 = S 16) (P : PI S) : PI S' := by
  unfold PI SubM at *
  rw [e5, e6, e16]; exact P
theorem mo_mono {S S' : St} {s : Int} (h : MO S s) (e : ∀ h, 17 ≤ h → h ≤ 23 → S' h s = S h s) (q : ∀ r : Nat, r < 4 → S 12 (r : Int) ≤ S' 12 (r : Int)) (m : ∀ w : Nat, w < 4 → S 6 (5 * (w : Int)) ≤ S' 6 (5 * (w : Int))) : MO S' s := by
  unfold MO
  rw [e 17 (by decide) (by decide), e 18 (by decide) (by decide), e 19 (by decide) (by decide), e 21 (by decide) (by decide), e 23 (by decide) (by decide)]
  rcases h with h | ⟨a, b, f, t, hf, ht, ne, e1, e2, e3, e4, e5, e6⟩
  · exact Or.inl h
  · refine Or.inr ⟨a, b, f, t, hf, ht, ne, e1, e2, e3, fun z => ?_, fun z => ?_, sub_mono e6 m⟩
    · have := e4 z; have := q t ht; omega
    · have := e5 z; have := q f hf; omega
theorem di_same {S S' : St} {b : Int} (e0 : S' 0 = S 0) (e5 : S' 5 = S 5) (e6 : S' 6 = S 6) (e12 : S' 12 = S 12) (e13 : S' 13 = S 13) (e14 : S' 14 = S 14) (e16 : S' 16 = S 16) (e17 : ∀ h, 17 ≤ h → h ≤ 23 → S' h = S h) (D : DI S b) : DI S' b := by
  obtain ⟨c, p, q, a, m, k⟩ := D
  refine ⟨?_, pi_same e5 e6 e16 p, ?_, ?_, fun s s0 s6 => mo_mono (m s s0 s6) (fun h x y => by rw [e17 h x y]) (fun r _ => by rw [e12]; exact Int.le_refl _) (fun w _ => by rw [e6]; exact Int.le_refl _), ?_⟩
  · unfold CF; rw [e0]; exact c
  · unfold QI; rw [e12, e13]; exact q
  · unfold AI; rw [e12, e14]; exact a
  · rw [e12]; exact k
section Ops
variable {N : Nat} {r : Nat} {S : St} {b : Int}
/-- trimming -/
theorem di_trim (hN : 5000 ≤ N) (hr : r < 4) (b9 : b ≤ 900) (D : DI S b) : ∃ S', m_trim N (r : Int) S = some (0, S') ∧ DI S' b ∧ ∀ h, h ≠ 13 → S' h = S h := by
  obtain ⟨c, p, q, a, m, k⟩ := D
  have qr := q r hr
  have kr := k r hr
  obtain ⟨v, S', e, e13, ef, v0, v1, v2⟩ := own_trm hN hr c.2.2 qr.1 qr.2.1 (by omega) (fun j hj => a r j hr hj)
  refine ⟨S', e, ⟨?_, pi_same (ef 5 (by decide)) (ef 6 (by decide)) (ef 16 (by decide)) p, fun r' hr' => ?_, ?_, fun s s0 s6 => mo_mono (m s s0 s6) (fun h x y => by rw [ef h (by omega)]) (fun r _ => by rw [ef 12 (by decide)]; exact Int.le_refl _) (fun w _ => by rw [ef 6 (by decide)]; exact Int.le_refl _), ?_⟩, ef⟩
  · unfold CF; rw [ef 0 (by decide)]; exact c
  · rw [e13, ef 12 (by decide)]
    by_cases z : (r' : Int) = (r : Int)
    · rw [if_pos z, z]; exact ⟨v0, v1, v2⟩
    · rw [if_neg z]; exact q r' hr'
  · unfold AI; rw [ef 12 (by decide), ef 14 (by decide)]; exact a
  · rw [ef 12 (by decide)]; exact k
/-- joining, then trimming -/
theorem di_jt (hN : 5000 ≤ N) (hr : r < 4) (b9 : b ≤ 900) {fresh : Int} (D : DI S b) (dj : ∀ d, d < 64 → ¬ (lb (S 5 (r : Int)) d = true ∧ lb fresh d = true)) (hM : ∀ w : Nat, w < 4 → S 6 (5 * (w : Int)) ≤ (if w = r then S 6 (5 * (w : Int)) + cw fresh r else S 6 (5 * (w : Int)))) (hs : ∀ w c : Nat, w < 4 → c < 16 → lb fresh (16 * w + c) = true → (c : Int) < (if w = r then S 6 (5 * (w : Int)) + cw fresh r else S 6 (5 * (w : Int))))
    (ho : ∀ c : Nat, c < 16 → lb (lor (S 5 (r : Int)) fresh) (16 * r + c) = decide ((c : Int) < S 6 (5 * (r : Int)) + cw fresh r)) (hb : S 6 (5 * (r : Int)) + cw fresh r ≤ 16) :
    ∃ S1 S', m_join N (r : Int) fresh S = some (0, S1) ∧ m_trim N (r : Int) S1 = some (0, S') ∧ DI S' (b + 1) ∧ (∀ i, S' 12 i = if i = (r : Int) then S 12 (r : Int) + 1 else S 12 i) ∧ (∀ w : Nat, w < 4 → S' 6 (5 * (w : Int)) = if w = r then S 6 (5 * (w : Int)) + cw fresh r else S 6 (5 * (w : Int))) ∧ (∀ h, h = 15 ∨ (17 ≤ h ∧ h ≤ 23) → S' h = S h) := by
  obtain ⟨c, p, q, a, m, k⟩ := D
  have qr := q r hr
  have kr := k r hr
  obtain ⟨S1, e1, J⟩ := own_jn hN hr fresh (S := S) (by rw [c.1]; decide) (by rw [c.1]; decide) (by omega) (by omega) (fun w hw => by have := pi_clock p hr hw; omega)
  have J' := J
  obtain ⟨j5, j12, ⟨qq, j16⟩, j6, j6o, jf⟩ := J'
  have m6 : ∀ w : Nat, w < 4 → S1 6 (5 * (w : Int)) = if w = r then S 6 (5 * (w : Int)) + cw fresh r else S 6 (5 * (w : Int)) := fun w hw => by
    by_cases z : w = r
    · subst z
      rw [if_pos rfl, show 5 * (w : Int) = 4 * (w : Int) + (w : Nat) by omega]; exact j6 w hw
    · rw [if_neg z]; exact j6o _ (by omega)
  have hM' : ∀ w : Nat, w < 4 → S 6 (5 * (w : Int)) ≤ S1 6 (5 * (w : Int)) := fun w hw => by rw [m6 w hw]; exact hM w hw
  have hs' : SubM S1 fresh := fun w c hw hc hl => by rw [m6 w hw]; exact hs w c hw hc hl
  have er : S1 6 (5 * (r : Int)) = S 6 (5 * (r : Int)) + cw fresh r := by rw [m6 r hr, if_pos rfl]
  have p1 : PI S1 := pi_join hr p J dj hM' hs' (fun c hc => by rw [er]; exact ho c hc) (by rw [er]; exact hb)
  have q12 : ∀ r' : Nat, r' < 4 → S 12 (r' : Int) ≤ S1 12 (r' : Int) := fun r' _ => by
    rw [j12]
    by_cases z : (r' : Int) = (r : Int)
    · rw [if_pos z, z]; omega
    · rw [if_neg z]; exact Int.le_refl _
  have f13 := jf 13 (Or.inr (Or.inl (by decide)))
  have f14 := jf 14 (Or.inr (Or.inl (by decide)))
  have f0 := jf 0 (Or.inl rfl)
  have s12 : S1 12 (r : Int) = S 12 (r : Int) + 1 := by rw [j12, if_pos rfl]
  obtain ⟨v, S', e, e13, ef, v0, v1, v2⟩ := own_trm hN hr (S := S1) (by rw [f0]; exact c.2.2) (by rw [f13]; exact qr.1) (by rw [f13, s12]; omega) (by rw [s12]; omega) (fun j hj => by rw [f14, s12]; have := a r j hr hj; omega)
  refine ⟨S1, S', e1, e, ⟨?_, pi_same (ef 5 (by decide)) (ef 6 (by decide)) (ef 16 (by decide)) p1, fun r' hr' => ?_, fun r' j hr' hj => ?_, fun s s0 s6 => mo_mono (m s s0 s6) (fun h x y => by rw [ef h (by omega), jf h (Or.inr (Or.inr x))]) (fun r' hr' => by rw [ef 12 (by decide)]; exact q12 r' hr') (fun w hw => by rw [ef 6 (by decide)]; exact hM' w hw), fun r' hr' => ?_⟩, fun i => by rw [ef 12 (by decide), j12], fun w hw => by rw [ef 6 (by decide), m6 w hw], fun h hh => by rw [ef h (by omega), jf h (by omega)]⟩
  · unfold CF; rw [ef 0 (by decide), f0]; exact c
  · rw [e13, ef 12 (by decide)]
    by_cases z : (r' : Int) = (r : Int)
    · rw [if_pos z, z]; exact ⟨v0, v1, v2⟩
    · rw [if_neg z, f13, j12, if_neg z]; exact q r' hr'
  · rw [ef 12 (by decide), ef 14 (by decide), f14]
    have := a r' j hr' hj
    have := q12 r' hr'
    omega
  · rw [ef 12 (by decide), j12]
    have := k r' hr'
    split <;> omega
theorem cov_any (N : Nat) (hr : r < 4) {key : Nat} (hk : key < 8) (kind : Int) (S : St) : ∃ c, m_coverFor N (r : Int) (key : Int) kind S = some (c, S) := by
  have c32 : 0 ≤ 8 * (r : Int) + (key : Int) ∧ 8 * (r : Int) + (key : Int) < 32 := by omega
  have si : m_storeIndex N (r : Int) (key : Int) S = some (8 * (r : Int) + key, S) := by
    unfold m_storeIndex
    rw [own_i3, own_i7, Int.emod_eq_of_lt (show (0 : Int) ≤ (r : Int) by omega) (by omega), Int.emod_eq_of_lt (show (0 : Int) ≤ (key : Int) by omega) (by omega), own_w (x := (r : Int) * 8) (by omega) (by omega), own_w (by omega) (by omega), Int.mul_comm]
  unfold m_coverFor
  rw [si, Option.bind_some]
  simp only [if_pos c32]
  split
  · exact ⟨_, rfl⟩
  · split
    · exact ⟨_, rfl⟩
    · exact ⟨_, rfl⟩
theorem own_mo (hN : 5000 ≤ N) (hr : r < 4) {key : Nat} (hk : key < 8) (kind val : Int) (D : DI S b) (b9 : b ≤ 900) (m16 : S 6 (5 * (r : Int)) < 16) :
    ∃ S', m_makeOperation N (r : Int) (key : Int) kind val S = some (S 6 (5 * (r : Int)) + 1, S') ∧ DI S' (b + 1) ∧ (∀ i, S' 12 i = if i = (r : Int) then S 12 (r : Int) + 1 else S 12 i) ∧ (∀ w : Nat, w < 4 → S' 6 (5 * (w : Int)) = if w = r then S 6 (5 * (w : Int)) + 1 else S 6 (5 * (w : Int))) ∧ S' 17 = S 17 := by
  have pr := D.2.1.2.2.1 r hr
  obtain ⟨m, hm⟩ := Int.eq_ofNat_of_zero_le pr.2.1
  have hm : S 6 (5 * (r : Int)) = (m : Int) := hm
  have hm16 : m < 16 := by omega
  obtain ⟨cv, ec⟩ := cov_any N hr hk kind S
  have ix : w32 (w32 ((r : Int) * 4) + (r : Int)) = 5 * (r : Int) := by
    rw [own_w (x := (r : Int) * 4) (by omega) (by omega), own_w (by omega) (by omega)]; omega
  have dd : w32 (w32 (((16 * r : Nat) : Int) + ((m : Int) + 1)) - 1) = ((16 * r + m : Nat) : Int) := by
    rw [own_w (x := ((16 * r : Nat) : Int) + ((m : Int) + 1)) (by omega) (by omega), own_w (by omega) (by omega)]; omega
  have cD : 0 ≤ ((16 * r + m : Nat) : Int) ∧ ((16 * r + m : Nat) : Int) < 64 := by omega
  have c5 : 0 ≤ 5 * (r : Int) ∧ 5 * (r : Int) < 16 := by omega
  have wc : w32 ((m : Int) + 1) = (m : Int) + 1 := own_w (by omega) (by omega)
  have D64 : 16 * r + m < 64 := by omega
  have e4 : ishl (r : Int) 4 = ((16 * r : Nat) : Int) := (mkr_T ⟨r, hr⟩).2
  generalize hT : stw (stw (stw (stw S 1 ((16 * r + m : Nat) : Int) kind) 2 ((16 * r + m : Nat) : Int) (key : Int)) 3 ((16 * r + m : Nat) : Int) val) 4 ((16 * r + m : Nat) : Int) cv = T
  have th : ∀ h, h ≠ 1 → h ≠ 2 → h ≠ 3 → h ≠ 4 → T h = S h := fun h x1 x2 x3 x4 => by rw [← hT, stw_H _ _ _ x4, stw_H _ _ _ x3, stw_H _ _ _ x2, stw_H _ _ _ x1]
  have DT : DI T b := di_same (th 0 (by decide) (by decide) (by decide) (by decide)) (th 5 (by decide) (by decide) (by decide) (by decide)) (th 6 (by decide) (by decide) (by decide) (by decide)) (th 12 (by decide) (by decide) (by decide) (by decide)) (th 13 (by decide) (by decide) (by decide) (by decide)) (th 14 (by decide) (by decide) (by decide) (by decide)) (th 16 (by decide) (by decide) (by decide) (by decide)) (fun h x y => th h (by omega) (by omega) (by omega) (by omega)) D
  have t6 := th 6 (by decide) (by decide) (by decide) (by decide)
  have t5 := th 5 (by decide) (by decide) (by decide) (by decide)
  have t12 := th 12 (by decide) (by decide) (by decide) (by decide)
  have c1 : cw (lshl 1 ((16 * r + m : Nat) : Int)) r = 1 := by rw [cw_1 D64, if_pos (by omega)]
  have ls : ∀ d, d < 64 → lb (lshl 1 ((16 * r + m : Nat) : Int)) d = decide (d = 16 * r + m) := fun d hd => lb_shl D64 hd
  have ow := D.2.1.2.1 r
  obtain ⟨S1, S', j, t, D', s12, s6, sf⟩ := di_jt hN hr b9 (fresh := lshl 1 ((16 * r + m : Nat) : Int)) DT (fun d hd => by
      rw [ls d hd, t5]
      rintro ⟨x, y⟩
      have y := of_decide_eq_true y
      subst y
      rw [ow m hr hm16, hm] at x
      have := of_decide_eq_true x
      omega) (fun w hw => by rw [c1]; split <;> omega) (fun w c hw hc hl => by
      rw [ls _ (by omega)] at hl
      have hl := of_decide_eq_true hl
      have e1 : w = r := by omega
      have e2 : c = m := by omega
      subst e1; subst e2
      rw [if_pos rfl, c1, t6, hm]; omega) (fun c hc => by
      rw [lb_or, ls _ (by omega), c1, t5, t6, ow c hr hc, hm]
      by_cases z : (c : Int) < (m : Int)
      · rw [decide_eq_true z, decide_eq_true (show (c : Int) < (m : Int) + 1 by omega), Bool.true_or]
      · rw [decide_eq_false z, Bool.false_or]
        by_cases y : c = m
        · rw [decide_eq_true (show 16 * r + c = 16 * r + m by omega), decide_eq_true (show (c : Int) < (m : Int) + 1 by omega)]
        · rw [decide_eq_false (show ¬ 16 * r + c = 16 * r + m by omega), decide_eq_false (show ¬ (c : Int) < (m : Int) + 1 by omega)]) (by rw [c1, t6, hm]; omega)
  rw [c1, t6] at s6
  rw [t12] at s12
  refine ⟨S', ?_, D', s12, s6, by rw [sf 17 (by omega), th 17 (by decide) (by decide) (by decide) (by decide)]⟩
  unfold m_makeOperation
  rw [ec, Option.bind_some]
  simp only [ix, hm, wc, e4, dd, if_pos cD, if_pos c5]
  rw [hT, j, Option.bind_some]
  dsimp only
  rw [t, Option.bind_some]
/-! # the wire -/
def putS (S : St) (s k f t st e c d : Int) : St := stw (stw (stw (stw (stw (stw (stw S 17 s k) 18 s f) 19 s t) 20 s st) 21 s e) 22 s c) 23 s d
def hdS (S : St) (s k f t st e : Int) : St := stw (stw (stw (stw (stw S 17 s k) 18 s f) 19 s t) 20 s st) 21 s e
theorem put_h (S : St) (s k f t st e c d : Int) {h : Nat} (hh : h < 17) : putS S s k f t st e c d h = S h := by
  unfold putS; rw [stw_H _ _ _ (by omega), stw_H _ _ _ (by omega), stw_H _ _ _ (by omega), stw_H _ _ _ (by omega), stw_H _ _ _ (by omega), stw_H _ _ _ (by omega), stw_H _ _ _ (by omega)]
theorem put_o (S : St) (s k f t st e c d : Int) (h : Nat) {s' : Int} (n : s' ≠ s) : putS S s k f t st e c d h s' = S h s' := by
  unfold putS stw
  rw [if_neg (fun q => n q.2), if_neg (fun q => n q.2), if_neg (fun q => n q.2), if_neg (fun q => n q.2), if_neg (fun q => n q.2), if_neg (fun q => n q.2), if_neg (fun q => n q.2)]
theorem put_v (S : St) (s k f t st e c d : Int) : putS S s k f t st e c d 17 s = k ∧ putS S s k f t st e c d 18 s = f ∧ putS S s k f t st e c d 19 s = t ∧ putS S s k f t st e c d 21 s = e ∧ putS S s k f t st e c d 23 s = d := by
  unfold putS
  refine ⟨?_, ?_, ?_, ?_, stw_s _ _ _ _⟩
  · rw [stw_h _ _ _ _ (by decide), stw_h _ _ _ _ (by decide), stw_h _ _ _ _ (by decide), stw_h _ _ _ _ (by decide), stw_h _ _ _ _ (by decide), stw_h _ _ _ _ (by decide), stw_s]
  · rw [stw_h _ _ _ _ (by decide), stw_h _ _ _ _ (by decide), stw_h _ _ _ _ (by decide), stw_h _ _ _ _ (by decide), stw_h _ _ _ _ (by decide), stw_s]
  · rw [stw_h _ _ _ _ (by decide), stw_h _ _ _ _ (by decide), stw_h _ _ _ _ (by decide), stw_h _ _ _ _ (by decide), stw_s]
  · rw [stw_h _ _ _ _ (by decide), stw_h _ _ _ _ (by decide), stw_s]
theorem own_hd (N : Nat) {s : Int} (s0 : 0 ≤ s) (s6 : s < 12) (k f t st e : Int) (S : St) : m_setHeader N s k f t st e S = some (0, hdS S s k f t st e) := by
  have c : 0 ≤ s ∧ s < 12 := ⟨s0, s6⟩
  unfold m_setHeader
  simp only [if_pos c]; rfl
theorem own_pl (N : Nat) {s : Int} (s0 : 0 ≤ s) (s6 : s < 12) (k f t st e c d : Int) (S : St) : m_setPayload N s c d (hdS S s k f t st e) = some (0, putS S s k f t st e c d) := by
  have cc : 0 ≤ s ∧ s < 12 := ⟨s0, s6⟩
  unfold m_setPayload
  simp only [if_pos cc]; rfl
theorem hd_h (S : St) (s k f t st e : Int) {h : Nat} (hh : h < 17 ∨ 22 ≤ h) : hdS S s k f t st e h = S h := by
  unfold hdS; rw [stw_H _ _ _ (by omega), stw_H _ _ _ (by omega), stw_H _ _ _ (by omega), stw_H _ _ _ (by omega), stw_H _ _ _ (by omega)]
theorem own_clear (N : Nat) {s : Int} (s0 : 0 ≤ s) (s6 : s < 12) (S : St) : m_clearSlot N s S = some (0, putS S s 0 0 0 0 0 0 0) := by
  unfold m_clearSlot
  rw [own_hd N s0 s6, Option.bind_some]
  dsimp only
  rw [own_pl N s0 s6, Option.bind_some]
theorem di_put (D : DI S b) {s k f t st e c d : Int} (hm : k = 0 ∨ (1 ≤ k ∧ k ≤ 3 ∧ ∃ f' t' : Nat, f' < 4 ∧ t' < 4 ∧ f' ≠ t' ∧ f = f' ∧ t = t' ∧ 0 ≤ e ∧ (k = 3 → e ≤ S 12 (t' : Int)) ∧ (k ≠ 3 → e ≤ S 12 (f' : Int)) ∧ SubM S d)) : DI (putS S s k f t st e c d) b := by
  obtain ⟨cf, p, q, a, m, kk⟩ := D
  have h := fun h (hh : h < 17) => put_h S s k f t st e c d hh
  have v := put_v S s k f t st e c d
  have o := fun h s' (n : s' ≠ s) => put_o S s k f t st e c d h n
  generalize putS S s k f t st e c d = S' at *
  have e12 := h 12 (by decide)
  have e6 := h 6 (by decide)
  refine ⟨?_, pi_same (h 5 (by decide)) e6 (h 16 (by decide)) p, ?_, ?_, fun s' s0 s6 => ?_, ?_⟩
  · unfold CF; rw [h 0 (by decide)]; exact cf
  · unfold QI; rw [e12, h 13 (by decide)]; exact q
  · unfold AI; rw [e12, h 14 (by decide)]; exact a
  · by_cases z : s' = s
    · rw [z]
      unfold MO SubM
      rw [v.1, v.2.1, v.2.2.1, v.2.2.2.1, v.2.2.2.2, e12, e6]
      exact hm
    · exact mo_mono (m s' s0 s6) (fun h _ _ => o h s' z) (fun r _ => by rw [e12]; exact Int.le_refl _) (fun w _ => by rw [e6]; exact Int.le_refl _)
  · rw [e12]; exact kk
def occ (S : St) : Int := sumK (fun s => if S 17 s = 0 then 0 else 1) 6
theorem occ_put (S : St) {s : Int} (s0 : 0 ≤ s) (s6 : s < 6) (k f t st e c d : Int) : occ (putS S s k f t st e c d) = occ S + ((if k = 0 then 0 else 1) - (if S 17 s = 0 then 0 else 1)) := by
  have v := (put_v S s k f t st e c d).1
  have o := fun s' (n : s' ≠ s) => put_o S s k f t st e c d 17 n
  generalize putS S s k f t st e c d = S' at *
  unfold occ
  rw [sumK_upd (f := fun x => if S' 17 x = 0 then 0 else 1) (g := fun x => if S 17 x = 0 then 0 else 1) s0 6 (by omega) (fun x _ _ n => by rw [o x n]), v]
theorem occ_same {S S' : St} (e : S' 17 = S 17) : occ S' = occ S := by unfold occ; rw [e]
theorem fs2 (N : Nat) (c24 : S 0 24 = 6) : ∀ (n f s : Nat), n < f → s + n = 6 → (∀ x : Int, 0 ≤ x → x < s → S 17 x ≠ 0) → ∃ v, m_freeSlot_2 N f (s : Int) S = some (v, S) ∧ ((v = -1 ∧ ∀ x : Int, 0 ≤ x → x < 6 → S 17 x ≠ 0) ∨ (0 ≤ v ∧ v < 6 ∧ S 17 v = 0))
  | _, 0, _, h, _, _ => absurd h (Nat.not_lt_zero _)
  | 0, f + 1, s, _, h1, hx => by
    rw [m_freeSlot_2, c24, if_neg (by omega)]
    exact ⟨-1, rfl, Or.inl ⟨rfl, fun x a b => hx x a (by omega)⟩⟩
  | n + 1, f + 1, s, h, h1, hx => by
    rw [m_freeSlot_2, c24, if_pos (by omega), if_pos (by omega)]
    by_cases z : S 17 (s : Int) = 0
    · rw [if_pos z]; exact ⟨s, rfl, Or.inr ⟨by omega, by omega, z⟩⟩
    · rw [if_neg z, own_w (by omega) (by omega), show (s : Int) + 1 = ((s + 1 : Nat) : Int) by omega]
      exact fs2 N c24 n f (s + 1) (by omega) (by omega) (fun x a b => by
        by_cases y : x = (s : Int)
        · rw [y]; exact z
        · exact hx x a (by omega))
theorem own_fs (hN : 5000 ≤ N) (c24 : S 0 24 = 6) : ∃ v, m_freeSlot N S = some (v, S) ∧ ((v = -1 ∧ occ S = 6) ∨ (0 ≤ v ∧ v < 6 ∧ S 17 v = 0 ∧ occ S < 6)) := by
  obtain ⟨v, e, h⟩ := fs2 (S := S) N c24 6 N 0 (by omega) (by omega) (fun x a b => by omega)
  refine ⟨v, e, ?_⟩
  have o1 : sumK (fun _ => (1 : Int)) 6 = 6 := rfl
  rcases h with ⟨a, h⟩ | ⟨a, h, z⟩
  · refine Or.inl ⟨a, ?_⟩
    unfold occ
    rw [← o1]
    exact sumK_congr 6 (fun x x0 x1 => if_neg (h x x0 (by omega)))
  · refine Or.inr ⟨a, h, z, ?_⟩
    have u := sumK_upd (f := fun x => if x = v then 0 else 1) (g := fun _ => (1 : Int)) a 6 (by omega) (fun x _ _ n => if_neg n)
    have l : occ S ≤ sumK (fun x => if x = v then 0 else 1) 6 := sumK_le 6 fun x _ _ => by
      by_cases y : x = v
      · rw [y, if_pos z, if_pos rfl]; exact Int.le_refl _
      · rw [if_neg y]; split <;> decide
    rw [u, o1, if_pos rfl] at l
    omega
theorem ds13 (N : Nat) (hr : r < 4) (P : PI S) {start e : Int} (s0 : 0 ≤ start) (s1 : start ≤ 1000) : ∀ (n f j : Nat) (x : Int), n < f → j + n = 8 → SubM S x → ∃ y, m_deltaSince_13 N f (r : Int) start x e (j : Int) S = some (y, S) ∧ SubM S y
  | _, 0, _, _, h, _, _ => absurd h (Nat.not_lt_zero _)
  | 0, f + 1, j, x, _, h1, hx => by
    rw [m_deltaSince_13, if_neg (by omega)]; exact ⟨x, rfl, hx⟩
  | n + 1, f + 1, j, x, h, h1, hx => by
    rw [m_deltaSince_13, if_pos (by omega), own_w (x := start + (j : Int)) (by omega) (by omega)]
    by_cases c : start + (j : Int) < e
    · rw [if_pos c, own_i7, own_w (x := (r : Int) * 8) (by omega) (by omega), own_w (x := (r : Int) * 8 + (start + (j : Int)) % 8) (by omega) (by omega), if_pos (by omega), own_w (x := (j : Int) + 1) (by omega) (by omega), show (j : Int) + 1 = ((j + 1 : Nat) : Int) by omega]
      exact ds13 N hr P s0 s1 n f (j + 1) _ (by omega) (by omega) (sub_or hx (P.2.2.2 _))
    · rw [if_neg c]; exact ⟨x, rfl, hx⟩
theorem own_ds (hN : 5000 ≤ N) (hr : r < 4) (P : PI S) {start : Int} (s0 : 0 ≤ start) (s1 : start ≤ 1000) : ∃ y, m_deltaSince N (r : Int) start S = some (y, S) ∧ SubM S y := by
  unfold m_deltaSince
  rw [if_pos (by omega)]
  exact ds13 N hr P s0 s1 8 N 0 0 (by omega) (by omega) (sub_0 S)
theorem vr_1 (N : Nat) (hr : r < 4) (S : St) : m_validReplica N (r : Int) S = some (1, S) := by
  unfold m_validReplica; rw [if_neg (by omega), if_pos (by omega)]
/-- sending -/
theorem own_send (hN : 5000 ≤ N) (b9 : b ≤ 900) (D : DI S b) {f t : Nat} (hf : f < 4) (ht : t < 4) (ne : f ≠ t) : ∃ v S', m_send N (f : Int) (t : Int) S = some (v, S') ∧ ((occ S = 6 ∧ v = -5 ∧ S' = S) ∨ (occ S < 6 ∧ 0 ≤ v ∧ v ≤ 5 ∧ DI S' b ∧ occ S' = occ S + 1 ∧ S' 12 = S 12 ∧ S' 6 = S 6)) := by
  obtain ⟨v, ev, hv⟩ := own_fs (S := S) hN D.1.2.1
  have q := D.2.2.1 f hf
  have k := D.2.2.2.2.2 f hf
  have ak := D.2.2.2.1 f t hf ht
  have ix : w32 (w32 ((f : Int) * 4) + (t : Int)) = 4 * (f : Int) + t := by
    rw [own_w (x := (f : Int) * 4) (by omega) (by omega), own_w (by omega) (by omega)]; omega
  have c16 : 0 ≤ 4 * (f : Int) + (t : Int) ∧ 4 * (f : Int) + (t : Int) < 16 := by omega
  have c4 : 0 ≤ (f : Int) ∧ (f : Int) < 4 := by omega
  unfold m_send
  rw [vr_1 N hf, Option.bind_some, if_neg (show ¬ (1 : Int) = 0 by decide)]; dsimp only
  rw [vr_1 N ht, Option.bind_some, if_neg (show ¬ (1 : Int) = 0 by decide)]; dsimp only
  rw [if_neg (show ¬ (f : Int) = (t : Int) by omega), ev, Option.bind_some]; dsimp only
  rcases hv with ⟨v1, o6⟩ | ⟨v0, v6, vz, o6⟩
  · rw [if_pos (show v < 0 by omega)]
    exact ⟨-5, S, rfl, Or.inl ⟨o6, rfl, rfl⟩⟩
  · have fin : ∀ kk st d, (kk = 1 ∨ kk = 2) → SubM S d → (occ S < 6 ∧ 0 ≤ v ∧ v ≤ 5 ∧ DI (putS S v kk (f : Int) (t : Int) st (S 12 (f : Int)) (S 5 (f : Int)) d) b ∧ occ (putS S v kk (f : Int) (t : Int) st (S 12 (f : Int)) (S 5 (f : Int)) d) = occ S + 1 ∧ putS S v kk (f : Int) (t : Int) st (S 12 (f : Int)) (S 5 (f : Int)) d 12 = S 12 ∧ putS S v kk (f : Int) (t : Int) st (S 12 (f : Int)) (S 5 (f : Int)) d 6 = S 6) := fun kk st d hk hd => by
      refine ⟨o6, v0, by omega, di_put D (Or.inr ⟨by omega, by omega, f, t, hf, ht, ne, rfl, rfl, by omega, fun z => by omega, fun _ => Int.le_refl _, hd⟩), ?_, put_h _ _ _ _ _ _ _ _ _ (by decide), put_h _ _ _ _ _ _ _ _ _ (by decide)⟩
      rw [occ_put S v0 v6, if_pos vz, if_neg (by omega)]; omega
    rw [if_neg (show ¬ v < 0 by omega), ix, if_pos c16, if_pos c4]
    by_cases c : S 14 (4 * (f : Int) + (t : Int)) < S 13 (f : Int)
    · rw [if_pos c, if_pos c4, own_hd N v0 (by omega), Option.bind_some]; dsimp only
      rw [if_pos c4, if_pos c4, hd_h _ _ _ _ _ _ _ (Or.inl (by decide)), own_pl N v0 (by omega), Option.bind_some]
      exact ⟨v, _, rfl, Or.inr (fin 2 0 _ (Or.inr rfl) (D.2.1.2.2.1 f hf).1)⟩
    · obtain ⟨y, ey, sy⟩ := own_ds hN hf D.2.1 ak.1 (show S 14 (4 * (f : Int) + (t : Int)) ≤ 1000 by omega)
      rw [if_neg c, ey, Option.bind_some]; dsimp only
      rw [if_pos c4, own_hd N v0 (by omega), Option.bind_some]; dsimp only
      rw [if_pos c4, hd_h _ _ _ _ _ _ _ (Or.inl (by decide)), own_pl N v0 (by omega), Option.bind_some]
      exact ⟨v, _, rfl, Or.inr (fin 1 _ _ (Or.inl rfl) sy)⟩
theorem oc_1 (N : Nat) (c24 : S 0 24 = 6) {s : Int} (s0 : 0 ≤ s) : m_occupied N s S = some (if s < 6 ∧ S 17 s ≠ 0 then 1 else 0, S) := by
  unfold m_occupied m_validSlot
  rw [if_neg (show ¬ s < 0 by omega), c24]
  by_cases c : s < 6
  · rw [if_pos c, Option.bind_some, if_neg (show ¬ (1 : Int) = 0 by decide)]; dsimp only
    rw [if_pos (show 0 ≤ s ∧ s < 12 by omega)]
    by_cases z : S 17 s = 0
    · rw [if_pos z, if_neg (fun q => q.2 z)]
    · rw [if_neg z, if_pos ⟨c, z⟩]
  · rw [if_neg c, Option.bind_some, if_pos rfl, if_neg (fun q => c q.1)]
/-- taking an acknowledgement -/
theorem own_tack (hN : 5000 ≤ N) (b9 : b ≤ 900) (D : DI S b) {s : Int} (s0 : 0 ≤ s) (s6 : s < 6) {f t : Nat} (hf : f < 4) (ht : t < 4) (e18 : S 18 s = f) (e19 : S 19 s = t) (e21 : 0 ≤ S 21 s) (le : S 21 s ≤ S 12 (t : Int)) (nz : S 17 s ≠ 0) : ∃ S', m_takeAck N s S = some (3, S') ∧ DI S' b ∧ occ S' = occ S - 1 ∧ S' 12 = S 12 ∧ S' 6 = S 6 ∧ S 21 s ≤ S' 14 (4 * (t : Int) + f) := by
  have ix : w32 (w32 ((t : Int) * 4) + (f : Int)) = 4 * (t : Int) + f := by
    rw [own_w (x := (t : Int) * 4) (by omega) (by omega), own_w (by omega) (by omega)]; omega
  have c16 : 0 ≤ 4 * (t : Int) + (f : Int) ∧ 4 * (t : Int) + (f : Int) < 16 := by omega
  have c12 : 0 ≤ s ∧ s < 12 := by omega
  have D1 : DI (putS S s 0 0 0 0 0 0 0) b := di_put D (Or.inl rfl)
  have o1 := occ_put S s0 s6 0 0 0 0 0 0 0
  have h1 := fun h (hh : h < 17) => put_h S s 0 0 0 0 0 0 0 hh
  rw [if_pos rfl, if_neg nz] at o1
  unfold m_takeAck
  simp only [if_pos c12]
  rw [own_clear N s0 (by omega), Option.bind_some, e18, e19, ix]
  dsimp only
  simp only [if_pos c16]
  generalize putS S s 0 0 0 0 0 0 0 = T at *
  have fin : ∀ U : St, (∀ h, h ≠ 14 → U h = T h) → (∀ i, U 14 i = T 14 i ∨ (i = 4 * (t : Int) + f ∧ U 14 i = S 21 s)) → S 21 s ≤ U 14 (4 * (t : Int) + f) → ∃ S', m_takeAck_55 N (t : Int) U = some (3, S') ∧ DI S' b ∧ occ S' = occ S - 1 ∧ S' 12 = S 12 ∧ S' 6 = S 6 ∧ S 21 s ≤ S' 14 (4 * (t : Int) + f) := fun U uf u14 ul => by
    have DU : DI U b := by
      obtain ⟨c, p, q, a, m, k⟩ := D1
      refine ⟨?_, pi_same (uf 5 (by decide)) (uf 6 (by decide)) (uf 16 (by decide)) p, ?_, fun r j hr hj => ?_, fun s s0 s6 => mo_mono (m s s0 s6) (fun h x y => by rw [uf h (by omega)]) (fun r _ => by rw [uf 12 (by decide)]; exact Int.le_refl _) (fun w _ => by rw [uf 6 (by decide)]; exact Int.le_refl _), ?_⟩
      · unfold CF; rw [uf 0 (by decide)]; exact c
      · unfold QI; rw [uf 12 (by decide), uf 13 (by decide)]; exact q
      · rw [uf 12 (by decide)]
        rcases u14 (4 * (r : Int) + j) with z | ⟨z, y⟩
        · rw [z]; exact a r j hr hj
        · have : r = t := by omega
          subst this
          rw [y, h1 12 (by decide)]; exact ⟨e21, le⟩
      · rw [uf 12 (by decide)]; exact k
    obtain ⟨S', e, D', ef⟩ := di_trim hN ht b9 DU
    unfold m_takeAck_55
    rw [e, Option.bind_some]
    refine ⟨S', rfl, D', ?_, by rw [ef 12 (by decide), uf 12 (by decide), h1 12 (by decide)], by rw [ef 6 (by decide), uf 6 (by decide), h1 6 (by decide)], by rw [ef 14 (by decide)]; exact ul⟩
    rw [occ_same (S := T) (by rw [ef 17 (by decide), uf 17 (by decide)]), o1]; omega
  by_cases c : T 14 (4 * (t : Int) + (f : Int)) < S 21 s
  · rw [if_pos c]
    refine fin _ (fun h hh => stw_H _ _ _ hh) (fun i => ?_) (by rw [stw_s]; exact Int.le_refl _)
    rw [stw_e]
    by_cases z : i = 4 * (t : Int) + (f : Int)
    · rw [if_pos z]; exact Or.inr ⟨z, rfl⟩
    · rw [if_neg z]; exact Or.inl rfl
  · rw [if_neg c]
    exact fin T (fun _ _ => rfl) (fun _ => Or.inl rfl) (by omega)
/-- placing an acknowledgement -/
theorem own_pack (hN : 5000 ≤ N) (D : DI S b) {f t : Nat} (hf : f < 4) (ht : t < 4) (ne : f ≠ t) {e : Int} (e0 : 0 ≤ e) (le : e ≤ S 12 (t : Int)) (o6 : occ S < 6) : ∃ S', m_placeAck N (f : Int) (t : Int) e S = some (0, S') ∧ DI S' b ∧ occ S' = occ S + 1 ∧ ∀ h, h < 17 → S' h = S h := by
  obtain ⟨v, ev, hv⟩ := own_fs (S := S) hN D.1.2.1
  obtain ⟨v0, v6, vz, _⟩ := hv.resolve_left (fun z => by omega)
  unfold m_placeAck
  rw [ev, Option.bind_some]; dsimp only
  rw [if_neg (show ¬ v < 0 by omega), own_hd N v0 (by omega), Option.bind_some]; dsimp only
  rw [own_pl N v0 (by omega), Option.bind_some]
  refine ⟨_, rfl, di_put D (Or.inr ⟨by decide, by decide, f, t, hf, ht, ne, rfl, rfl, e0, fun _ => le, fun z => absurd rfl z, sub_0 S⟩), ?_, fun h hh => put_h _ _ _ _ _ _ _ _ _ hh⟩
  rw [occ_put S v0 v6, if_pos vz, if_neg (by decide)]; omega
/-- taking a state -/
theorem own_tst (hN : 5000 ≤ N) (b9 : b ≤ 900) (D : DI S b) {s : Int} (s0 : 0 ≤ s) (s6 : s < 6) {f t : Nat} (hf : f < 4) (ht : t < 4) (ne : f ≠ t) (e18 : S 18 s = f) (e19 : S 19 s = t) (e21 : 0 ≤ S 21 s) (le : S 21 s ≤ S 12 (f : Int)) (sd : SubM S (S 23 s)) (nz : S 17 s ≠ 0) :
    ∃ a S', m_takeState N s S = some (a, S') ∧ DI S' (b + 1) ∧ occ S' = occ S ∧ (∀ w : Nat, w < 4 → S' 6 (5 * (w : Int)) = S 6 (5 * (w : Int))) ∧ S 21 s ≤ S' 15 (4 * (t : Int) + f) ∧ ((a = 1 ∧ ∀ i, S' 12 i = if i = (t : Int) then S 12 (t : Int) + 1 else S 12 i) ∨ (a = 2 ∧ S' 12 = S 12)) := by
  have ix : w32 (w32 ((t : Int) * 4) + (f : Int)) = 4 * (t : Int) + f := by
    rw [own_w (x := (t : Int) * 4) (by omega) (by omega), own_w (by omega) (by omega)]; omega
  have c16 : 0 ≤ 4 * (t : Int) + (f : Int) ∧ 4 * (t : Int) + (f : Int) < 16 := by omega
  have c12 : 0 ≤ s ∧ s < 12 := by omega
  have c4 : 0 ≤ (t : Int) ∧ (t : Int) < 4 := by omega
  have D1 : DI (putS S s 0 0 0 0 0 0 0) b := di_put D (Or.inl rfl)
  have o1 := occ_put S s0 s6 0 0 0 0 0 0 0
  have h1 := fun h (hh : h < 17) => put_h S s 0 0 0 0 0 0 0 hh
  rw [if_pos rfl, if_neg nz] at o1
  have om : occ S ≤ 6 := by
    have o6 : sumK (fun _ => (1 : Int)) 6 = 6 := rfl
    unfold occ; rw [← o6]; exact sumK_le 6 fun x _ _ => by split <;> decide
  unfold m_takeState
  simp only [if_pos c12]
  rw [own_clear N s0 (by omega), Option.bind_some, e18, e19, ix]
  dsimp only
  simp only [if_pos c16]
  generalize putS S s 0 0 0 0 0 0 0 = T at *
  have fin : ∀ U : St, (∀ h, h ≠ 15 → U h = T h) → S 21 s ≤ U 15 (4 * (t : Int) + f) → ∃ a S', m_takeState_63 N (f : Int) (t : Int) (S 21 s) (S 23 s) U = some (a, S') ∧ DI S' (b + 1) ∧ occ S' = occ S ∧ (∀ w : Nat, w < 4 → S' 6 (5 * (w : Int)) = S 6 (5 * (w : Int))) ∧ S 21 s ≤ S' 15 (4 * (t : Int) + f) ∧ ((a = 1 ∧ ∀ i, S' 12 i = if i = (t : Int) then S 12 (t : Int) + 1 else S 12 i) ∨ (a = 2 ∧ S' 12 = S 12)) := fun U uf ul => by
    have DU : DI U b := di_same (uf 0 (by decide)) (uf 5 (by decide)) (uf 6 (by decide)) (uf 12 (by decide)) (uf 13 (by decide)) (uf 14 (by decide)) (uf 16 (by decide)) (fun h x y => uf h (by omega)) D1
    have u6 : U 6 = S 6 := by rw [uf 6 (by decide), h1 6 (by decide)]
    have u12 : U 12 = S 12 := by rw [uf 12 (by decide), h1 12 (by decide)]
    have uo : occ U = occ S - 1 := by rw [occ_same (S := T) (uf 17 (by decide)), o1]; omega
    have sdU : SubM U (S 23 s) := by unfold SubM at *; rw [u6]; exact sd
    unfold m_takeState_63
    rw [if_pos c4]
    by_cases z : lcmp (land (S 23 s) (lxor (U 5 (t : Int)) (-1))) 0 = 0
    · rw [if_pos z]
      obtain ⟨V, e, DV, vf⟩ := di_trim hN ht b9 DU
      obtain ⟨S', e', D', o', hf'⟩ := own_pack hN DV ht hf (fun q => ne q.symm) e21 (by rw [vf 12 (by decide), u12]; exact le) (by rw [occ_same (S := U) (vf 17 (by decide)), uo]; omega)
      unfold m_takeState_98
      rw [e, Option.bind_some]; dsimp only
      rw [e', Option.bind_some]
      refine ⟨2, S', rfl, ⟨D'.1, D'.2.1, D'.2.2.1, D'.2.2.2.1, D'.2.2.2.2.1, fun r hr => by have := D'.2.2.2.2.2 r hr; omega⟩, by rw [o', occ_same (S := U) (vf 17 (by decide)), uo]; omega, fun w hw => by rw [hf' 6 (by decide), vf 6 (by decide), u6], by rw [hf' 15 (by decide), vf 15 (by decide)]; exact ul, Or.inr ⟨rfl, by rw [hf' 12 (by decide), vf 12 (by decide), u12]⟩⟩
    · rw [if_neg z]
      have lf : ∀ d, d < 64 → lb (land (S 23 s) (lxor (U 5 (t : Int)) (-1))) d = (lb (S 23 s) d && !lb (U 5 (t : Int)) d) := fun d hd => by rw [lb_and, lb_not hd]
      generalize land (S 23 s) (lxor (U 5 (t : Int)) (-1)) = fresh at *
      have ow := DU.2.1.2.1 t
      have of : ∀ c : Nat, c < 16 → lb fresh (16 * t + c) = false := fun c hc => by
        rw [lf _ (by omega)]
        cases hx : lb (S 23 s) (16 * t + c)
        · rfl
        · have := sdU t c ht hc hx
          rw [ow c ht hc, decide_eq_true this]; rfl
      have c0 : cw fresh t = 0 := by
        have l := cbK_le (x := fresh) (m := 0) (w := t) (fun c hc hl => by rw [of c hc] at hl; cases hl) 64 0
        rw [iv_e ht (by decide) (by decide)] at l
        have := cbK_nn fresh t 64 0
        unfold cw; omega
      have pb := DU.2.1.2.2.1 t ht
      obtain ⟨V1, V, j, e, DV, v12, v6, vf⟩ := di_jt hN ht b9 (fresh := fresh) DU (fun d hd => by
          rw [lf d hd]
          rintro ⟨x, y⟩
          rw [x] at y; simp at y) (fun w hw => by rw [c0]; split <;> omega) (fun w c hw hc hl => by
          rw [lf _ (by omega), Bool.and_eq_true] at hl
          have := sdU w c hw hc hl.1
          rw [c0]; split <;> omega) (fun c hc => by rw [lb_or, of c hc, Bool.or_false, c0, Int.add_zero]; exact ow c ht hc) (by rw [c0]; omega)
      have v6' : ∀ w : Nat, w < 4 → V 6 (5 * (w : Int)) = S 6 (5 * (w : Int)) := fun w hw => by
        rw [v6 w hw, c0, u6]; split <;> omega
      obtain ⟨S', e', D', o', hf'⟩ := own_pack hN DV ht hf (fun q => ne q.symm) e21 (by rw [v12, u12]; split <;> omega) (by rw [occ_same (S := U) (vf 17 (by omega)), uo]; omega)
      unfold m_takeState_98
      rw [j, Option.bind_some]; dsimp only
      rw [e, Option.bind_some]; dsimp only
      rw [e', Option.bind_some]
      refine ⟨1, S', rfl, D', by rw [o', occ_same (S := U) (vf 17 (by omega)), uo]; omega, fun w hw => by rw [hf' 6 (by decide), v6' w hw], by rw [hf' 15 (by decide), vf 15 (by omega)]; exact ul, Or.inl ⟨rfl, fun i => by rw [hf' 12 (by decide), v12, u12]⟩⟩
  by_cases c : T 15 (4 * (t : Int) + (f : Int)) < S 21 s
  · rw [if_pos c]
    exact fin _ (fun h hh => stw_H _ _ _ hh) (by rw [stw_s]; exact Int.le_refl _)
  · rw [if_neg c]
    exact fin T (fun _ _ => rfl) (by omega)
end Ops
/-! # the law -/
def pk4 (a b c d : Int) : Int := a + 256 * b + 65536 * c + 16777216 * d
def mdS (S : St) : Int := pk4 (S 6 0) (S 6 5) (S 6 10) (S 6 15)
def sqS (S : St) : Int := pk4 (S 12 0) (S 12 1) (S 12 2) (S 12 3)
theorem shl_T : ∀ r : Fin 4, lshl 1 ((8 * r.val : Nat) : Int) = ((256 ^ r.val : Nat) : Int) := by decide +kernel
section Law
variable {N : Nat} {len : Int} {sc : Int → Int} {S : St} {b : Int}
theorem own_get {a0 a1 a2 a3 : Int} (h0 : 0 ≤ a0 ∧ a0 < 256) (h1 : 0 ≤ a1 ∧ a1 < 256) (h2 : 0 ≤ a2 ∧ a2 < 256) (h3 : 0 ≤ a3 ∧ a3 < 256) {r : Nat} (hr : r < 4) (S : St) : l_get_q2 N len sc (pk4 a0 a1 a2 a3) (r : Int) S = some (if r = 0 then a0 else if r = 1 then a1 else if r = 2 then a2 else a3, S) := by
  have e8 : w32 (8 * (r : Int)) = ((8 * r : Nat) : Int) := by rw [own_w (by omega) (by omega)]; omega
  unfold l_get_q2
  rw [e8, land_sh _ (j := 8 * r) (by omega) 8 (by decide) (by decide)]
  have hx : pk4 a0 a1 a2 a3 % 18446744073709551616 = pk4 a0 a1 a2 a3 := by unfold pk4; omega
  rw [hx]
  have key : (((pk4 a0 a1 a2 a3).toNat / 2 ^ (8 * r) % 2 ^ 8 : Nat) : Int) = if r = 0 then a0 else if r = 1 then a1 else if r = 2 then a2 else a3 := by
    have hh : r = 0 ∨ r = 1 ∨ r = 2 ∨ r = 3 := by omega
    unfold pk4
    rcases hh with rfl | rfl | rfl | rfl
    · rw [if_pos rfl]; simp only [Nat.reduceMul, Nat.reducePow]; omega
    · rw [if_neg (by decide), if_pos rfl]; simp only [Nat.reduceMul, Nat.reducePow]; omega
    · rw [if_neg (by decide), if_neg (by decide), if_pos rfl]; simp only [Nat.reduceMul, Nat.reducePow]; omega
    · rw [if_neg (by decide), if_neg (by decide), if_neg (by decide)]; simp only [Nat.reduceMul, Nat.reducePow]; omega
  rw [key, own_w]
  · split <;> (try split) <;> (try split) <;> omega
  · split <;> (try split) <;> (try split) <;> omega
theorem md_r (D : DI S b) {w : Nat} (hw : w < 4) : 0 ≤ S 6 (5 * (w : Int)) ∧ S 6 (5 * (w : Int)) ≤ 16 := (D.2.1.2.2.1 w hw).2
theorem sq_r (D : DI S b) (hb : b ≤ 100) {w : Nat} (hw : w < 4) : 0 ≤ S 12 (w : Int) ∧ S 12 (w : Int) ≤ 100 := by
  have := D.2.2.1 w hw
  have := D.2.2.2.2.2 w hw
  omega
theorem own_gm (D : DI S b) {r : Nat} (hr : r < 4) (T : St) : l_get_q2 N len sc (mdS S) (r : Int) T = some (S 6 (5 * (r : Int)), T) := by
  have m0 := md_r D (w := 0) (by decide)
  have m1 := md_r D (w := 1) (by decide)
  have m2 := md_r D (w := 2) (by decide)
  have m3 := md_r D (w := 3) (by decide)
  have m0 : 0 ≤ S 6 0 ∧ S 6 0 ≤ 16 := m0
  have m1 : 0 ≤ S 6 5 ∧ S 6 5 ≤ 16 := m1
  have m2 : 0 ≤ S 6 10 ∧ S 6 10 ≤ 16 := m2
  have m3 : 0 ≤ S 6 15 ∧ S 6 15 ≤ 16 := m3
  unfold mdS
  rw [own_get (by omega) (by omega) (by omega) (by omega) hr]
  have hh : r = 0 ∨ r = 1 ∨ r = 2 ∨ r = 3 := by omega
  rcases hh with rfl | rfl | rfl | rfl <;> rfl
theorem own_gs (D : DI S b) (hb : b ≤ 100) {r : Nat} (hr : r < 4) (T : St) : l_get_q2 N len sc (sqS S) (r : Int) T = some (S 12 (r : Int), T) := by
  have m0 := sq_r D hb (w := 0) (by decide)
  have m1 := sq_r D hb (w := 1) (by decide)
  have m2 := sq_r D hb (w := 2) (by decide)
  have m3 := sq_r D hb (w := 3) (by decide)
  have m0 : 0 ≤ S 12 0 ∧ S 12 0 ≤ 100 := m0
  have m1 : 0 ≤ S 12 1 ∧ S 12 1 ≤ 100 := m1
  have m2 : 0 ≤ S 12 2 ∧ S 12 2 ≤ 100 := m2
  have m3 : 0 ≤ S 12 3 ∧ S 12 3 ≤ 100 := m3
  unfold sqS
  rw [own_get (by omega) (by omega) (by omega) (by omega) hr]
  have hh : r = 0 ∨ r = 1 ∨ r = 2 ∨ r = 3 := by omega
  rcases hh with rfl | rfl | rfl | rfl <;> rfl
theorem own_shl {r : Nat} (hr : r < 4) : lshl 1 (w32 (8 * (r : Int))) = ((256 ^ r : Nat) : Int) := by
  rw [own_w (by omega) (by omega), show 8 * (r : Int) = ((8 * r : Nat) : Int) by omega]; exact shl_T ⟨r, hr⟩
theorem pk4_add {a0 a1 a2 a3 : Int} (h0 : 0 ≤ a0 ∧ a0 < 256) (h1 : 0 ≤ a1 ∧ a1 < 256) (h2 : 0 ≤ a2 ∧ a2 < 256) (h3 : 0 ≤ a3 ∧ a3 < 256) {r : Nat} (hr : r < 4) : w64 (pk4 a0 a1 a2 a3 + lshl 1 (w32 (8 * (r : Int)))) = pk4 (if r = 0 then a0 + 1 else a0) (if r = 1 then a1 + 1 else a1) (if r = 2 then a2 + 1 else a2) (if r = 3 then a3 + 1 else a3) := by
  rw [own_shl hr]
  have hh : r = 0 ∨ r = 1 ∨ r = 2 ∨ r = 3 := by omega
  unfold pk4
  rcases hh with rfl | rfl | rfl | rfl
  · rw [if_pos rfl, if_neg (by decide), if_neg (by decide), if_neg (by decide), w64_of (by simp only [Nat.reducePow]; omega) (by simp only [Nat.reducePow]; omega)]; simp only [Nat.reducePow]; omega
  · rw [if_neg (by decide), if_pos rfl, if_neg (by decide), if_neg (by decide), w64_of (by simp only [Nat.reducePow]; omega) (by simp only [Nat.reducePow]; omega)]; simp only [Nat.reducePow]; omega
  · rw [if_neg (by decide), if_neg (by decide), if_pos rfl, if_neg (by decide), w64_of (by simp only [Nat.reducePow]; omega) (by simp only [Nat.reducePow]; omega)]; simp only [Nat.reducePow]; omega
  · rw [if_neg (by decide), if_neg (by decide), if_neg (by decide), if_pos rfl, w64_of (by simp only [Nat.reducePow]; omega) (by simp only [Nat.reducePow]; omega)]; simp only [Nat.reducePow]; omega
theorem md_add (D : DI S b) {S' : St} {r : Nat} (hr : r < 4) (s6 : ∀ w : Nat, w < 4 → S' 6 (5 * (w : Int)) = if w = r then S 6 (5 * (w : Int)) + 1 else S 6 (5 * (w : Int))) : w64 (mdS S + lshl 1 (w32 (8 * (r : Int)))) = mdS S' := by
  have m0 : 0 ≤ S 6 0 ∧ S 6 0 ≤ 16 := md_r D (w := 0) (by decide)
  have m1 : 0 ≤ S 6 5 ∧ S 6 5 ≤ 16 := md_r D (w := 1) (by decide)
  have m2 : 0 ≤ S 6 10 ∧ S 6 10 ≤ 16 := md_r D (w := 2) (by decide)
  have m3 : 0 ≤ S 6 15 ∧ S 6 15 ≤ 16 := md_r D (w := 3) (by decide)
  have e0 : S' 6 0 = if 0 = r then S 6 0 + 1 else S 6 0 := s6 0 (by decide)
  have e1 : S' 6 5 = if 1 = r then S 6 5 + 1 else S 6 5 := s6 1 (by decide)
  have e2 : S' 6 10 = if 2 = r then S 6 10 + 1 else S 6 10 := s6 2 (by decide)
  have e3 : S' 6 15 = if 3 = r then S 6 15 + 1 else S 6 15 := s6 3 (by decide)
  unfold mdS
  rw [pk4_add (by omega) (by omega) (by omega) (by omega) hr, e0, e1, e2, e3]
  simp only [eq_comm]
theorem md_same {S' : St} (s6 : ∀ w : Nat, w < 4 → S' 6 (5 * (w : Int)) = S 6 (5 * (w : Int))) : mdS S' = mdS S := by
  have e0 : S' 6 0 = S 6 0 := s6 0 (by decide)
  have e1 : S' 6 5 = S 6 5 := s6 1 (by decide)
  have e2 : S' 6 10 = S 6 10 := s6 2 (by decide)
  have e3 : S' 6 15 = S 6 15 := s6 3 (by decide)
  unfold mdS; rw [e0, e1, e2, e3]
theorem sq_add (D : DI S b) (hb : b ≤ 100) {S' : St} {r : Nat} (hr : r < 4) (s12 : ∀ i, S' 12 i = if i = (r : Int) then S 12 (r : Int) + 1 else S 12 i) : w64 (sqS S + lshl 1 (w32 (8 * (r : Int)))) = sqS S' := by
  have m0 : 0 ≤ S 12 0 ∧ S 12 0 ≤ 100 := sq_r D hb (w := 0) (by decide)
  have m1 : 0 ≤ S 12 1 ∧ S 12 1 ≤ 100 := sq_r D hb (w := 1) (by decide)
  have m2 : 0 ≤ S 12 2 ∧ S 12 2 ≤ 100 := sq_r D hb (w := 2) (by decide)
  have m3 : 0 ≤ S 12 3 ∧ S 12 3 ≤ 100 := sq_r D hb (w := 3) (by decide)
  unfold sqS
  rw [pk4_add (by omega) (by omega) (by omega) (by omega) hr, s12 0, s12 1, s12 2, s12 3]
  have hh : r = 0 ∨ r = 1 ∨ r = 2 ∨ r = 3 := by omega
  rcases hh with rfl | rfl | rfl | rfl <;> rfl
theorem sq_same {S' : St} (s12 : S' 12 = S 12) : sqS S' = sqS S := by unfold sqS; rw [s12]
theorem occ_r (S : St) : 0 ≤ occ S ∧ occ S ≤ 6 := by
  have o6 : sumK (fun _ => (1 : Int)) 6 = 6 := rfl
  have o0 : sumK (fun _ => (0 : Int)) 6 = 0 := rfl
  unfold occ
  refine ⟨?_, ?_⟩
  · rw [← o0]; exact sumK_le 6 fun x _ _ => by split <;> decide
  · rw [← o6]; exact sumK_le 6 fun x _ _ => by split <;> decide
/-! the queries -/
theorem mf_0 (N : Nat) (c24 : S 0 24 = 6) {s : Int} (s0 : 0 ≤ s) (s6 : s < 6) : m_messageField N s 0 S = some (S 17 s, S) := by
  have c12 : 0 ≤ s ∧ s < 12 := by omega
  unfold m_messageField m_validSlot
  rw [if_neg (show ¬ s < 0 by omega), c24, if_pos s6, Option.bind_some, if_neg (show ¬ (1 : Int) = 0 by decide)]; dsimp only
  rw [if_neg (by decide), if_neg (by decide), if_pos c12]
  by_cases z : S 17 s = 0
  · rw [if_pos z, if_pos rfl, z]
  · rw [if_neg z]
    unfold m_headerOrCount
    rw [if_pos rfl, if_pos c12, Option.bind_some]
theorem mf_out (N : Nat) (c24 : S 0 24 = 6) {s : Int} (s0 : 0 ≤ s) (s6 : ¬ s < 6) : m_messageField N s 0 S = some (-7, S) := by
  unfold m_messageField m_validSlot
  rw [if_neg (show ¬ s < 0 by omega), c24, if_neg s6, Option.bind_some, if_pos rfl]
theorem mf_k (N : Nat) (c24 : S 0 24 = 6) {s : Int} (s0 : 0 ≤ s) (s6 : s < 6) (nz : S 17 s ≠ 0) : m_messageField N s 1 S = some (S 18 s, S) ∧ m_messageField N s 2 S = some (S 19 s, S) ∧ m_messageField N s 4 S = some (S 21 s, S) := by
  have c12 : 0 ≤ s ∧ s < 12 := by omega
  refine ⟨?_, ?_, ?_⟩
  · unfold m_messageField m_validSlot
    rw [if_neg (show ¬ s < 0 by omega), c24, if_pos s6, Option.bind_some, if_neg (show ¬ (1 : Int) = 0 by decide)]; dsimp only
    rw [if_neg (by decide), if_neg (by decide), if_pos c12, if_neg nz]
    unfold m_headerOrCount
    rw [if_neg (by decide), if_pos rfl, if_pos c12, Option.bind_some]
  · unfold m_messageField m_validSlot
    rw [if_neg (show ¬ s < 0 by omega), c24, if_pos s6, Option.bind_some, if_neg (show ¬ (1 : Int) = 0 by decide)]; dsimp only
    rw [if_neg (by decide), if_neg (by decide), if_pos c12, if_neg nz]
    unfold m_headerOrCount
    rw [if_neg (by decide), if_neg (by decide), if_pos rfl, if_pos c12, Option.bind_some]
  · unfold m_messageField m_validSlot
    rw [if_neg (show ¬ s < 0 by omega), c24, if_pos s6, Option.bind_some, if_neg (show ¬ (1 : Int) = 0 by decide)]; dsimp only
    rw [if_neg (by decide), if_neg (by decide), if_pos c12, if_neg nz]
    unfold m_headerOrCount
    rw [if_neg (by decide), if_neg (by decide), if_neg (by decide), if_neg (by decide), if_pos rfl, if_pos c12, Option.bind_some]
theorem pr_0 (N : Nat) {x : Nat} (hx : x < 4) (S : St) : m_protocol N (x : Int) 0 0 S = some (S 12 (x : Int), S) := by
  unfold m_protocol
  rw [vr_1 N hx, Option.bind_some, if_neg (show ¬ (1 : Int) = 0 by decide), if_neg (show ¬ (0 : Int) < 0 by decide), if_neg (show ¬ (3 : Int) < 0 by decide), if_pos rfl, if_pos (show 0 ≤ (x : Int) ∧ (x : Int) < 4 by omega)]
theorem pr_1 (N : Nat) {x : Nat} (hx : x < 4) (S : St) : m_protocol N (x : Int) 1 0 S = some (S 13 (x : Int), S) := by
  unfold m_protocol
  rw [vr_1 N hx, Option.bind_some, if_neg (show ¬ (1 : Int) = 0 by decide), if_neg (show ¬ (1 : Int) < 0 by decide), if_neg (show ¬ (3 : Int) < 1 by decide), if_neg (show ¬ (1 : Int) = 0 by decide), if_pos rfl, if_pos (show 0 ≤ (x : Int) ∧ (x : Int) < 4 by omega)]
theorem pr_23 (N : Nat) {x j : Nat} (hx : x < 4) (hj : j < 4) (ne : j ≠ x) (S : St) : m_protocol N (x : Int) 2 (j : Int) S = some (S 14 (4 * (x : Int) + j), S) ∧ m_protocol N (x : Int) 3 (j : Int) S = some (S 15 (4 * (x : Int) + j), S) := by
  have ix : w32 (w32 ((x : Int) * 4) + (j : Int)) = 4 * (x : Int) + j := by
    rw [own_w (x := (x : Int) * 4) (by omega) (by omega), own_w (by omega) (by omega)]; omega
  have c16 : 0 ≤ 4 * (x : Int) + (j : Int) ∧ 4 * (x : Int) + (j : Int) < 16 := by omega
  refine ⟨?_, ?_⟩
  · unfold m_protocol
    rw [vr_1 N hx, Option.bind_some, if_neg (show ¬ (1 : Int) = 0 by decide), if_neg (show ¬ (2 : Int) < 0 by decide), if_neg (show ¬ (3 : Int) < 2 by decide), if_neg (show ¬ (2 : Int) = 0 by decide), if_neg (show ¬ (2 : Int) = 1 by decide)]; dsimp only
    rw [vr_1 N hj, Option.bind_some, if_neg (show ¬ (1 : Int) = 0 by decide), if_neg (show ¬ (j : Int) = (x : Int) by omega), if_pos rfl, ix, if_pos c16]
  · unfold m_protocol
    rw [vr_1 N hx, Option.bind_some, if_neg (show ¬ (1 : Int) = 0 by decide), if_neg (show ¬ (3 : Int) < 0 by decide), if_neg (show ¬ (3 : Int) < 3 by decide), if_neg (show ¬ (3 : Int) = 0 by decide), if_neg (show ¬ (3 : Int) = 1 by decide)]; dsimp only
    rw [vr_1 N hj, Option.bind_some, if_neg (show ¬ (1 : Int) = 0 by decide), if_neg (show ¬ (j : Int) = (x : Int) by omega), if_neg (show ¬ (3 : Int) = 2 by decide), ix, if_pos c16]
theorem kn (N : Nat) {x w : Nat} (hx : x < 4) (hw : w < 4) (S : St) : m_known N (x : Int) (w : Int) S = some (S 6 (4 * (x : Int) + w), S) := by
  have ix : w32 (w32 ((x : Int) * 4) + (w : Int)) = 4 * (x : Int) + w := by
    rw [own_w (x := (x : Int) * 4) (by omega) (by omega), own_w (by omega) (by omega)]; omega
  unfold m_known
  rw [vr_1 N hx, Option.bind_some, if_neg (show ¬ (1 : Int) = 0 by decide)]; dsimp only
  rw [vr_1 N hw, Option.bind_some, if_neg (show ¬ (1 : Int) = 0 by decide), ix, if_pos (show 0 ≤ 4 * (x : Int) + (w : Int) ∧ 4 * (x : Int) + (w : Int) < 16 by omega)]
/-! the check behind each step -/
theorem q_T : ∀ q : Fin 16, ishr (q.val : Int) 2 = ((q.val / 4 : Nat) : Int) ∧ iand (q.val : Int) 3 = ((q.val % 4 : Nat) : Int) := by decide +kernel
theorem own_44 (D : DI S b) (hb : b ≤ 100) : ∀ (n f q : Nat), n < f → q + n = 16 → l_ok_0_q2_44 N len sc f (mdS S) (sqS S) (q : Int) S = some (1, S)
  | _, 0, _, h, _ => absurd h (Nat.not_lt_zero _)
  | 0, f + 1, q, _, h1 => by rw [l_ok_0_q2_44, if_neg (by omega)]
  | n + 1, f + 1, q, h, h1 => by
    have ih := own_44 D hb n f (q + 1) (by omega) (by omega)
    have t := q_T ⟨q, by omega⟩
    have t1 : ishr (q : Int) 2 = ((q / 4 : Nat) : Int) := t.1
    have t2 : iand (q : Int) 3 = ((q % 4 : Nat) : Int) := t.2
    clear t
    have hx : q / 4 < 4 := by omega
    have hw : q % 4 < 4 := by omega
    have w1 : w32 ((q : Int) + 1) = ((q + 1 : Nat) : Int) := by rw [own_w (by omega) (by omega)]; omega
    have qi := D.2.2.1 (q / 4) hx
    have pc := pi_clock D.2.1 hx hw
    have wd : w32 (S 12 ((q / 4 : Nat) : Int) - S 13 ((q / 4 : Nat) : Int)) = S 12 ((q / 4 : Nat) : Int) - S 13 ((q / 4 : Nat) : Int) := own_w (by omega) (by omega)
    have l147 : l_ok_0_q2_147 N len sc (l_ok_0_q2_44 N len sc f) (mdS S) (sqS S) (q : Int) ((q % 4 : Nat) : Int) (S 6 (4 * ((q / 4 : Nat) : Int) + ((q % 4 : Nat) : Int))) S = some (1, S) := by
      unfold l_ok_0_q2_147
      rw [if_neg (by omega), own_gm D hw, Option.bind_some]; dsimp only
      rw [if_neg (by omega), w1]; exact ih
    rw [l_ok_0_q2_44, if_pos (by omega), t1, t2, pr_0 N hx, Option.bind_some]; dsimp only
    rw [pr_1 N hx, Option.bind_some]; dsimp only
    rw [own_gs D hb hx, Option.bind_some, if_pos rfl]; dsimp only
    rw [if_neg (show ¬ S 13 ((q / 4 : Nat) : Int) < 0 by omega), if_neg (show ¬ S 12 ((q / 4 : Nat) : Int) < S 13 ((q / 4 : Nat) : Int) by omega), wd, if_neg (show ¬ 2 < S 12 ((q / 4 : Nat) : Int) - S 13 ((q / 4 : Nat) : Int) by omega), kn N hx hw, Option.bind_some]; dsimp only
    by_cases c : ((q % 4 : Nat) : Int) = ((q / 4 : Nat) : Int)
    · rw [if_pos c, own_gm D hx, Option.bind_some]; dsimp only
      rw [if_pos (show S 6 (4 * ((q / 4 : Nat) : Int) + ((q % 4 : Nat) : Int)) = S 6 (5 * ((q / 4 : Nat) : Int)) by rw [c]; exact congrArg _ (by omega))]
      exact l147
    · rw [if_neg c]; exact l147
theorem own_6 (hN : 5000 ≤ N) (D : DI S b) (hb : b ≤ 100) : ∀ (n f s : Nat), n < f → s + n = 6 → l_ok_0_q2_6 N len sc f (mdS S) (sqS S) (occ S) (sumK (fun s => if S 17 s = 0 then 0 else 1) s) (s : Int) S = some (1, S)
  | _, 0, _, h, _ => absurd h (Nat.not_lt_zero _)
  | 0, f + 1, s, _, h1 => by
    have e : s = 6 := by omega
    subst e
    rw [l_ok_0_q2_6, if_neg (by decide)]
    unfold l_ok_0_q2_32
    rw [if_pos (show sumK (fun s => if S 17 s = 0 then (0 : Int) else 1) 6 = occ S from rfl)]
    exact own_44 D hb 16 N 0 (by omega) (by omega)
  | n + 1, f + 1, s, h, h1 => by
    have ih := own_6 hN D hb n f (s + 1) (by omega) (by omega)
    have sr : 0 ≤ sumK (fun s => if S 17 s = 0 then (0 : Int) else 1) s ∧ sumK (fun s => if S 17 s = 0 then (0 : Int) else 1) s ≤ s := by
      have g : ∀ n : Nat, 0 ≤ sumK (fun s => if S 17 s = 0 then (0 : Int) else 1) n ∧ sumK (fun s => if S 17 s = 0 then (0 : Int) else 1) n ≤ n := by
        intro n
        induction n with
        | zero => exact ⟨Int.le_refl _, Int.le_refl _⟩
        | succ n ih => rw [sumK]; split <;> omega
      exact g s
    rw [l_ok_0_q2_6, if_pos (by omega), mf_0 N D.1.2.1 (by omega) (by omega), Option.bind_some]
    unfold l_ok_0_q2_26
    dsimp only
    rw [own_w (x := (s : Int) + 1) (by omega) (by omega), show (s : Int) + 1 = ((s + 1 : Nat) : Int) by omega, own_w (x := sumK (fun s => if S 17 s = 0 then (0 : Int) else 1) s + 1) (by omega) (by omega)]
    rw [sumK] at ih
    by_cases z : S 17 (s : Int) = 0
    · rw [if_pos z, Int.add_zero] at ih
      rw [if_pos z]; exact ih
    · rw [if_neg z] at ih
      rw [if_neg z]; exact ih
theorem own_ok (hN : 5000 ≤ N) (D : DI S b) (hb : b ≤ 100) : l_ok_0_q2 N len sc (mdS S) (sqS S) (occ S) S = some (1, S) :=
  own_6 hN D hb 6 N 0 (by omega) (by omega)
variable {k23 : Int → Int → Int → Int → St → RS St} {x7 : Int}
theorem own_623 (hN : 5000 ≤ N) (D : DI S b) (hb : b ≤ 100) {x2 x4 x6 : Int} (h2 : x2 = mdS S) (h4 : x4 = sqS S) (h6 : x6 = occ S) : l_law_623 N len sc k23 x2 x4 x6 x7 S = k23 (mdS S) (sqS S) (occ S) (w32 (x7 + 4)) S := by
  unfold l_law_623
  rw [h2, h4, h6, own_ok hN D hb, Option.bind_some, if_neg (show ¬ (1 : Int) = 0 by decide)]
/-- what a mutator answers -/
def OpR (S S' : St) (b : Int) (r key : Nat) (bad : Prop) (a : Int) : Prop :=
  (r = 4 ∧ a = -1 ∧ S' = S) ∨ (r < 4 ∧ key = 3 ∧ a = -2 ∧ S' = S) ∨ (r < 4 ∧ key < 3 ∧ bad ∧ a = -3 ∧ S' = S) ∨ (r < 4 ∧ key < 3 ∧ ¬ bad ∧ S 6 (5 * (r : Int)) = 16 ∧ a = -4 ∧ S' = S) ∨
  (r < 4 ∧ key < 3 ∧ ¬ bad ∧ S 6 (5 * (r : Int)) < 16 ∧ a = S 6 (5 * (r : Int)) + 1 ∧ DI S' (b + 1) ∧ (∀ i, S' 12 i = if i = (r : Int) then S 12 (r : Int) + 1 else S 12 i) ∧ (∀ w : Nat, w < 4 → S' 6 (5 * (w : Int)) = if w = r then S 6 (5 * (w : Int)) + 1 else S 6 (5 * (w : Int))) ∧ S' 17 = S 17)
theorem rt_c (N : Nat) (c23 : S 0 23 = 3) {r key : Nat} (hr : r ≤ 4) (hk : key ≤ 3) : m_refuseTarget N (r : Int) (key : Int) S = some (if r = 4 then -1 else if key = 3 then -2 else 0, S) := by
  unfold m_refuseTarget m_validReplica
  rw [if_neg (show ¬ (r : Int) < 0 by omega)]
  by_cases c : r = 4
  · rw [if_neg (show ¬ (r : Int) < 4 by omega), Option.bind_some, if_pos rfl, if_pos c]
  · rw [if_pos (show (r : Int) < 4 by omega), Option.bind_some, if_neg (show ¬ (1 : Int) = 0 by decide), if_neg c]
    unfold m_validKey
    dsimp only
    rw [if_neg (show ¬ (key : Int) < 0 by omega)]
    simp only [c23]
    by_cases k : key = 3
    · rw [if_neg (show ¬ (key : Int) < 3 by omega), Option.bind_some, if_pos rfl, if_pos k]
    · rw [if_pos (show (key : Int) < 3 by omega), Option.bind_some, if_neg (show ¬ (1 : Int) = 0 by decide), if_neg k]
theorem ex_c (N : Nat) {r : Nat} (hr : r < 4) (S : St) : m_exhausted N (r : Int) S = some (if S 6 (5 * (r : Int)) < 16 then 0 else 1, S) := by
  have ix : w32 (w32 ((r : Int) * 4) + (r : Int)) = 5 * (r : Int) := by
    rw [own_w (x := (r : Int) * 4) (by omega) (by omega), own_w (by omega) (by omega)]; omega
  unfold m_exhausted
  rw [ix, if_pos (show 0 ≤ 5 * (r : Int) ∧ 5 * (r : Int) < 16 by omega)]
  by_cases c : S 6 (5 * (r : Int)) < 16
  · rw [if_pos c, if_pos c]
  · rw [if_neg c, if_neg c]
theorem own_mut (hN : 5000 ≤ N) (D : DI S b) (hb : b ≤ 100) {r key : Nat} (hr : r ≤ 4) (hk : key ≤ 3) (kind : Int) : ∃ a S', m_mutate N (r : Int) (key : Int) kind S = some (a, S') ∧ OpR S S' b r key False a := by
  unfold m_mutate
  rw [rt_c N D.1.1 hr hk, Option.bind_some]
  dsimp only
  by_cases c : r = 4
  · rw [if_pos c, if_neg (by decide)]; exact ⟨_, _, rfl, Or.inl ⟨c, rfl, rfl⟩⟩
  · rw [if_neg c]
    by_cases k : key = 3
    · rw [if_pos k, if_neg (by decide)]; exact ⟨_, _, rfl, Or.inr (Or.inl ⟨by omega, k, rfl, rfl⟩)⟩
    · rw [if_neg k, if_pos rfl, ex_c N (by omega), Option.bind_some]
      dsimp only
      by_cases m : S 6 (5 * (r : Int)) < 16
      · obtain ⟨S', e, D', s12, s6, s17⟩ := own_mo hN (r := r) (by omega) (key := key) (by omega) kind 0 D (by omega) m
        rw [if_pos m, if_pos rfl, e, Option.bind_some]
        exact ⟨_, S', rfl, Or.inr (Or.inr (Or.inr (Or.inr ⟨by omega, by omega, id, m, rfl, D', s12, s6, s17⟩)))⟩
      · have := (md_r D (w := r) (by omega)).2
        rw [if_neg m, if_neg (by decide)]
        exact ⟨_, _, rfl, Or.inr (Or.inr (Or.inr (Or.inl ⟨by omega, by omega, id, by omega, rfl, rfl⟩)))⟩
theorem own_wr (hN : 5000 ≤ N) (D : DI S b) (hb : b ≤ 100) {r key : Nat} (hr : r ≤ 4) (hk : key ≤ 3) {v : Int} (v0 : 0 ≤ v) (v1 : v ≤ 255) : ∃ a S', m_write N (r : Int) (key : Int) v S = some (a, S') ∧ OpR S S' b r key (v = 0) a := by
  unfold m_write
  rw [rt_c N D.1.1 hr hk, Option.bind_some]
  dsimp only
  by_cases c : r = 4
  · rw [if_pos c, if_neg (by decide)]; exact ⟨_, _, rfl, Or.inl ⟨c, rfl, rfl⟩⟩
  · rw [if_neg c]
    by_cases k : key = 3
    · rw [if_pos k, if_neg (by decide)]; exact ⟨_, _, rfl, Or.inr (Or.inl ⟨by omega, k, rfl, rfl⟩)⟩
    · rw [if_neg k, if_pos rfl]
      by_cases z : v < 1
      · rw [if_pos z]; exact ⟨_, _, rfl, Or.inr (Or.inr (Or.inl ⟨by omega, by omega, by omega, rfl, rfl⟩))⟩
      · rw [if_neg z, if_neg (show ¬ 255 < v by omega), ex_c N (by omega), Option.bind_some]
        dsimp only
        by_cases m : S 6 (5 * (r : Int)) < 16
        · obtain ⟨S', e, D', s12, s6, s17⟩ := own_mo hN (r := r) (by omega) (key := key) (by omega) 1 v D (by omega) m
          rw [if_pos m, if_pos rfl, e, Option.bind_some]
          exact ⟨_, S', rfl, Or.inr (Or.inr (Or.inr (Or.inr ⟨by omega, by omega, by omega, m, rfl, D', s12, s6, s17⟩)))⟩
        · have := (md_r D (w := r) (by omega)).2
          rw [if_neg m, if_neg (by decide)]
          exact ⟨_, _, rfl, Or.inr (Or.inr (Or.inr (Or.inl ⟨by omega, by omega, by omega, by omega, rfl, rfl⟩)))⟩
theorem di_le {b' : Int} (D : DI S b) (h : b ≤ b') : DI S b' := ⟨D.1, D.2.1, D.2.2.1, D.2.2.2.1, D.2.2.2.2.1, fun r hr => Int.le_trans (D.2.2.2.2.2 r hr) h⟩
theorem own_166 (hN : 5000 ≤ N) (D : DI S b) (hb : b ≤ 99) {S' : St} {r key : Nat} (hr : r ≤ 4) (hk : key ≤ 3) {x8 x13 a : Int} {bad : Prop} (hbad : bad ↔ (x8 = 0 ∧ x13 = 0)) (o : OpR S S' b r key bad a)
    (go : ∀ S', DI S' (b + 1) → ∃ T, k23 (mdS S') (sqS S') (occ S') (w32 (x7 + 4)) S' = some (1, T)) : ∃ T, l_law_166 N len sc k23 (mdS S) (sqS S) (occ S) x7 x8 (r : Int) (key : Int) x13 a S' = some (1, T) := by
  have same : S' = S → ∀ e, e = a → ¬ 0 < e → ∃ T, l_law_236 N len sc k23 (mdS S) (sqS S) (occ S) x7 (r : Int) a e S' = some (1, T) := fun h e he ne => by
    unfold l_law_236 l_law_272
    rw [if_pos he.symm, if_neg ne, h, own_623 hN D (by omega) rfl rfl rfl]
    exact go S (di_le D (by omega))
  unfold l_law_166 l_law_208
  by_cases c4 : r = 4
  · rw [if_pos (show (r : Int) = 4 by omega)]
    rcases o with ⟨_, e, h⟩ | ⟨q, _⟩ | ⟨q, _⟩ | ⟨q, _⟩ | ⟨q, _⟩
    · exact same h _ e.symm (by decide)
    all_goals omega
  · rw [if_neg (show ¬ (r : Int) = 4 by omega)]
    have hr4 : r < 4 := by omega
    by_cases k3 : key = 3
    · rw [if_pos (show (key : Int) = 3 by omega)]
      rcases o with ⟨q, _⟩ | ⟨_, _, e, h⟩ | ⟨_, q, _⟩ | ⟨_, q, _⟩ | ⟨_, q, _⟩
      · omega
      · exact same h _ e.symm (by decide)
      all_goals omega
    · rw [if_neg (show ¬ (key : Int) = 3 by omega)]
      have l208 : ¬ bad → ∃ T, ((l_get_q2 N len sc (mdS S) (r : Int) S').bind fun r1 => (if r1.1 = 16 then l_law_236 N len sc k23 (mdS S) (sqS S) (occ S) x7 (r : Int) a (-4) r1.2 else ((l_get_q2 N len sc (mdS S) (r : Int) r1.2).bind fun r2 => l_law_236 N len sc k23 (mdS S) (sqS S) (occ S) x7 (r : Int) a (w32 (r2.1 + 1)) r2.2))) = some (1, T) := fun nb => by
        have mr := md_r D hr4
        rw [own_gm D hr4, Option.bind_some]; dsimp only
        rcases o with ⟨q, _⟩ | ⟨_, q, _⟩ | ⟨_, _, q, _⟩ | ⟨_, _, _, m, e, h⟩ | ⟨_, _, _, m, e, D', s12, s6, s17⟩
        · omega
        · omega
        · exact absurd q nb
        · rw [if_pos m]; exact same h _ e.symm (by decide)
        · rw [if_neg (by omega), own_gm D hr4, Option.bind_some]; dsimp only
          rw [own_w (x := S 6 (5 * (r : Int)) + 1) (by omega) (by omega)]
          unfold l_law_236 l_law_272
          rw [if_pos e, if_pos (by omega), own_623 hN D' (by omega) (md_add D hr4 s6) (sq_add D (by omega) hr4 s12) (occ_same s17).symm]
          exact go S' D'
      by_cases z8 : x8 = 0
      · rw [if_pos z8]
        by_cases z13 : x13 = 0
        · rw [if_pos z13]
          have bd : bad := hbad.mpr ⟨z8, z13⟩
          rcases o with ⟨q, _⟩ | ⟨_, q, _⟩ | ⟨_, _, _, e, h⟩ | ⟨_, _, q, _⟩ | ⟨_, _, q, _⟩
          · omega
          · omega
          · exact same h _ e.symm (by decide)
          · exact absurd bd q
          · exact absurd bd q
        · rw [if_neg z13]; exact l208 (fun q => z13 (hbad.mp q).2)
      · rw [if_neg z8]; exact l208 (fun q => z8 (hbad.mp q).1)
/-- an empty slot -/
theorem own_403n (hN : 5000 ≤ N) (D : DI S b) (hb : b ≤ 99) {s x8 x15 : Int} (s0 : 0 ≤ s) (nk : ¬ 0 < x15) (oc : m_occupied N s S = some (0, S))
    (go : ∀ S', DI S' (b + 1) → ∃ T, k23 (mdS S') (sqS S') (occ S') (w32 (x7 + 4)) S' = some (1, T)) : ∃ T, l_law_403 N len sc k23 (mdS S) (sqS S) (occ S) x7 x8 s x15 0 0 0 S = some (1, T) := by
  have fin : ∃ T, l_law_623 N len sc k23 (mdS S) (sqS S) (occ S) x7 S = some (1, T) := by
    rw [own_623 hN D (by omega) rfl rfl rfl]; exact go S (di_le D (by omega))
  unfold l_law_403
  by_cases c5 : x8 = 5
  · have e : m_deliver N s S = some (-6, S) := by
      unfold m_deliver; rw [oc, Option.bind_some, if_pos rfl]
    rw [if_pos c5, e, Option.bind_some, if_neg nk, if_pos rfl]; exact fin
  · rw [if_neg c5]
    by_cases c6 : x8 = 6
    · have e : m_drop N s S = some (0, S) := by
        unfold m_drop; rw [oc, Option.bind_some, if_pos rfl]
      rw [if_pos c6, e, Option.bind_some, if_neg nk]
      unfold l_law_553
      rw [if_pos rfl, if_pos rfl]; exact fin
    · have e : m_duplicate N s S = some (-6, S) := by
        unfold m_duplicate; rw [oc, Option.bind_some, if_pos rfl]
      rw [if_neg c6, e, Option.bind_some, if_neg nk, if_pos rfl]; exact fin
theorem own_403 (hN : 5000 ≤ N) (D : DI S b) (hb : b ≤ 99) {s x8 : Int} (s0 : 0 ≤ s) (s6 : s < 6) (nz : S 17 s ≠ 0)
    (go : ∀ S', DI S' (b + 1) → ∃ T, k23 (mdS S') (sqS S') (occ S') (w32 (x7 + 4)) S' = some (1, T)) : ∃ T, l_law_403 N len sc k23 (mdS S) (sqS S) (occ S) x7 x8 s (S 17 s) (S 18 s) (S 19 s) (S 21 s) S = some (1, T) := by
  obtain ⟨k1, k3, f, t, hf, ht, ne, e18, e19, e21, l3, l12, sd⟩ := (D.2.2.2.2.1 s s0 s6).resolve_left nz
  have om := occ_r S
  have oc := oc_1 (S := S) N D.1.2.1 s0
  rw [if_pos ⟨s6, nz⟩] at oc
  have c12 : 0 ≤ s ∧ s < 12 := by omega
  unfold l_law_403
  by_cases c5 : x8 = 5
  · rw [if_pos c5]
    by_cases k : S 17 s = 3
    · obtain ⟨S', e, D', o', s12, s6', ak⟩ := own_tack hN (by omega) D s0 s6 hf ht e18 e19 e21 (l3 k) nz
      have ed : m_deliver N s S = some (3, S') := by
        unfold m_deliver
        rw [oc, Option.bind_some, if_neg (show ¬ (1 : Int) = 0 by decide)]; dsimp only
        rw [if_pos c12, if_pos k, e, Option.bind_some]
      rw [ed, Option.bind_some, if_pos (show 0 < S 17 s by omega), if_pos k, if_pos rfl]; dsimp only
      rw [e19, e18, (pr_23 N ht hf ne S').1, Option.bind_some]; dsimp only
      rw [if_neg (by omega), own_w (x := occ S + -1) (by omega) (by omega)]
      unfold l_law_523
      rw [own_623 hN D' (by omega) (md_same (fun w hw => by rw [s6'])).symm (sq_same s12).symm (by omega)]
      exact go S' (di_le D' (by omega))
    · obtain ⟨a, S', e, D', o', m6, rc, ha⟩ := own_tst hN (by omega) D s0 s6 hf ht ne e18 e19 e21 (l12 k) sd nz
      have ed : m_deliver N s S = some (a, S') := by
        unfold m_deliver
        rw [oc, Option.bind_some, if_neg (show ¬ (1 : Int) = 0 by decide)]; dsimp only
        rw [if_pos c12, if_neg k, e, Option.bind_some]
      have fin : ∀ x4, x4 = sqS S' → ∃ T, l_law_507 N len sc k23 (mdS S) x4 (occ S) x7 (f : Int) (t : Int) (S 21 s) S' = some (1, T) := fun x4 h4 => by
        unfold l_law_507 l_law_523
        rw [(pr_23 N ht hf ne S').2, Option.bind_some]; dsimp only
        rw [if_neg (by omega), own_623 hN D' (by omega) (md_same m6).symm h4 o'.symm]
        exact go S' D'
      rw [ed, Option.bind_some, if_pos (show 0 < S 17 s by omega), if_neg k]; dsimp only
      rw [e19, e18]
      rcases ha with ⟨a1, s12⟩ | ⟨a2, s12⟩
      · rw [if_pos a1, if_neg (show ¬ (t : Int) < 0 by omega), if_neg (show ¬ 3 < (t : Int) by omega)]
        exact fin _ (sq_add D (by omega) ht s12)
      · rw [if_neg (show ¬ a = 1 by omega), if_pos a2]
        exact fin _ (sq_same s12).symm
  · rw [if_neg c5]
    by_cases c6 : x8 = 6
    · have D' : DI (putS S s 0 0 0 0 0 0 0) b := di_put D (Or.inl rfl)
      have o' := occ_put S s0 s6 0 0 0 0 0 0 0
      have h12 := put_h S s 0 0 0 0 0 0 0 (h := 12) (by decide)
      have h6 := put_h S s 0 0 0 0 0 0 0 (h := 6) (by decide)
      rw [if_pos rfl, if_neg nz] at o'
      have e : m_drop N s S = some (1, putS S s 0 0 0 0 0 0 0) := by
        unfold m_drop
        rw [oc, Option.bind_some, if_neg (show ¬ (1 : Int) = 0 by decide)]; dsimp only
        rw [own_clear N s0 (by omega), Option.bind_some]
      rw [if_pos c6, e, Option.bind_some, if_pos (show 0 < S 17 s by omega)]
      unfold l_law_553 l_law_566
      dsimp only
      rw [if_pos rfl, if_neg (show ¬ (1 : Int) = 0 by decide), own_w (x := occ S + -1) (by omega) (by omega), own_623 hN D' (by omega) (md_same (fun w hw => by rw [h6])).symm (sq_same h12).symm (by omega)]
      exact go _ (di_le D' (by omega))
    · obtain ⟨v, ev, hv⟩ := own_fs (S := S) hN D.1.2.1
      rw [if_neg c6]
      rcases hv with ⟨v1, o6⟩ | ⟨v0, v6, vz, o6⟩
      · have e : m_duplicate N s S = some (-5, S) := by
          unfold m_duplicate
          rw [oc, Option.bind_some, if_neg (show ¬ (1 : Int) = 0 by decide)]; dsimp only
          rw [ev, Option.bind_some, if_pos (show v < 0 by omega)]
        rw [e, Option.bind_some, if_pos (show 0 < S 17 s by omega), if_pos o6, if_pos rfl]; dsimp only
        rw [own_623 hN D (by omega) rfl rfl rfl]; exact go S (di_le D (by omega))
      · have D' : DI (putS S v (S 17 s) (S 18 s) (S 19 s) (S 20 s) (S 21 s) (S 22 s) (S 23 s)) b := di_put D (Or.inr ⟨k1, k3, f, t, hf, ht, ne, e18, e19, e21, l3, l12, sd⟩)
        have o' := occ_put S v0 v6 (S 17 s) (S 18 s) (S 19 s) (S 20 s) (S 21 s) (S 22 s) (S 23 s)
        have h12 := put_h S v (S 17 s) (S 18 s) (S 19 s) (S 20 s) (S 21 s) (S 22 s) (S 23 s) (h := 12) (by decide)
        have h6 := put_h S v (S 17 s) (S 18 s) (S 19 s) (S 20 s) (S 21 s) (S 22 s) (S 23 s) (h := 6) (by decide)
        rw [if_neg nz, if_pos vz] at o'
        have e : m_duplicate N s S = some (v, putS S v (S 17 s) (S 18 s) (S 19 s) (S 20 s) (S 21 s) (S 22 s) (S 23 s)) := by
          unfold m_duplicate
          rw [oc, Option.bind_some, if_neg (show ¬ (1 : Int) = 0 by decide)]; dsimp only
          rw [ev, Option.bind_some]; dsimp only
          rw [if_neg (show ¬ v < 0 by omega)]
          simp only [if_pos c12]
          rw [own_hd N v0 (by omega), Option.bind_some]; dsimp only
          rw [hd_h _ _ _ _ _ _ _ (Or.inr (by decide)), hd_h _ _ _ _ _ _ _ (Or.inr (by decide)), own_pl N v0 (by omega), Option.bind_some]
        rw [e, Option.bind_some, if_pos (show 0 < S 17 s by omega), if_neg (show ¬ occ S = 6 by omega)]; dsimp only
        rw [if_neg (show ¬ v < 0 by omega), if_neg (show ¬ 5 < v by omega), own_w (x := occ S + 1) (by omega) (by omega), own_623 hN D' (by omega) (md_same (fun w hw => by rw [h6])).symm (sq_same h12).symm (by omega)]
        exact go _ (di_le D' (by omega))
theorem own_loop (hN : 5000 ≤ N) (hlen : len ≤ 260) : ∀ (f k : Nat) (S : St), k ≤ 66 → len ≤ 4 * (k : Int) + 3 + 4 * (f : Int) → DI S (k : Int) → ∃ T, l_law_23 N len sc (f + 1) (mdS S) (sqS S) (occ S) (4 * (k : Int)) S = some (1, T) := by
  intro f
  induction f with
  | zero =>
    intro k S hk h D
    rw [l_law_23, own_w (x := 4 * (k : Int) + 3) (by omega) (by omega), if_neg (by omega)]; exact ⟨_, rfl⟩
  | succ f ih =>
    intro k S hk h D
    rw [l_law_23, own_w (x := 4 * (k : Int) + 3) (by omega) (by omega)]
    by_cases q : 4 * (k : Int) + 3 < len
    · have go : ∀ S', DI S' ((k : Int) + 1) → ∃ T, l_law_23 N len sc (f + 1) (mdS S') (sqS S') (occ S') (w32 (4 * (k : Int) + 4)) S' = some (1, T) := fun S' D' => by
        rw [own_w (x := 4 * (k : Int) + 4) (by omega) (by omega), show 4 * (k : Int) + 4 = 4 * ((k + 1 : Nat) : Int) by omega]
        exact ih (k + 1) S' (by omega) (by omega) (by rw [show ((k + 1 : Nat) : Int) = (k : Int) + 1 by omega]; exact D')
      rw [if_pos q, own_w (x := 4 * (k : Int) + 1) (by omega) (by omega), own_w (x := 4 * (k : Int) + 2) (by omega) (by omega)]
      rw [if_pos (show 0 ≤ 4 * (k : Int) ∧ 4 * (k : Int) < len by omega), if_pos (show 0 ≤ 4 * (k : Int) + 1 ∧ 4 * (k : Int) + 1 < len by omega), if_pos (show 0 ≤ 4 * (k : Int) + 2 ∧ 4 * (k : Int) + 2 < len by omega), if_neg (by decide), if_pos (show 0 ≤ 4 * (k : Int) + 3 ∧ 4 * (k : Int) + 3 < len by omega)]
      rw [own_i255, own_i255, own_i3, own_i7, own_i7]
      generalize sc (4 * (k : Int)) = c0
      generalize sc (4 * (k : Int) + 1) = c1
      generalize sc (4 * (k : Int) + 2) = c2
      generalize sc (4 * (k : Int) + 3) = c3
      obtain ⟨r, er, hr⟩ : ∃ r : Nat, Int.tmod (c1 % 256) 5 = (r : Int) ∧ r ≤ 4 := by
        rw [Int.tmod_eq_emod_of_nonneg (by omega)]
        exact ⟨(c1 % 256 % 5).toNat, by omega, by omega⟩
      obtain ⟨key, ek, hkey⟩ : ∃ key : Nat, c2 % 4 = (key : Int) ∧ key ≤ 3 := ⟨(c2 % 4).toNat, by omega, by omega⟩
      rw [er, ek]
      by_cases o3 : 3 < c0 % 8
      · rw [if_pos o3]
        by_cases o4 : c0 % 8 = 4
        · rw [if_pos o4]
          have fin : ∃ T, l_law_623 N len sc (l_law_23 N len sc (f + 1)) (mdS S) (sqS S) (occ S) (4 * (k : Int)) S = some (1, T) := by
            rw [own_623 hN D (by omega) rfl rfl rfl]; exact go S (di_le D (by omega))
          by_cases r4 : r = 4
          · have e : m_send N (r : Int) (key : Int) S = some (-1, S) := by
              unfold m_send m_validReplica
              rw [if_neg (show ¬ (r : Int) < 0 by omega), if_neg (show ¬ (r : Int) < 4 by omega), Option.bind_some, if_pos rfl]
            rw [e, Option.bind_some, if_pos (show (r : Int) = 4 by omega)]
            unfold l_law_310 l_law_350
            rw [if_pos rfl]; exact fin
          · by_cases rk : r = key
            · have e : m_send N (r : Int) (key : Int) S = some (-1, S) := by
                unfold m_send
                rw [vr_1 N (by omega), Option.bind_some, if_neg (show ¬ (1 : Int) = 0 by decide)]; dsimp only
                rw [vr_1 N (by omega), Option.bind_some, if_neg (show ¬ (1 : Int) = 0 by decide), if_pos (by omega)]
              rw [e, Option.bind_some, if_neg (show ¬ (r : Int) = 4 by omega), if_pos (show (r : Int) = (key : Int) by omega)]
              unfold l_law_310 l_law_350
              rw [if_pos rfl]; exact fin
            · obtain ⟨v, S', e, hv⟩ := own_send hN (by omega) D (f := r) (t := key) (by omega) (by omega) rk
              rw [e, Option.bind_some, if_neg (show ¬ (r : Int) = 4 by omega), if_neg (show ¬ (r : Int) = (key : Int) by omega)]; dsimp only
              unfold l_law_350
              have om := occ_r S
              rcases hv with ⟨o6, v5, hs⟩ | ⟨o6, v0, v5, D', o', s12, s6⟩
              · rw [if_pos o6, if_pos v5, hs]; exact fin
              · rw [if_neg (show ¬ occ S = 6 by omega), if_neg (show ¬ v < 0 by omega), if_neg (show ¬ 5 < v by omega), own_w (x := occ S + 1) (by omega) (by omega), own_623 hN D' (by omega) (md_same (fun w hw => by rw [s6])).symm (sq_same s12).symm o'.symm]
                exact go S' (di_le D' (by omega))
        · rw [if_neg o4]
          by_cases s6 : c1 % 8 < 6
          · rw [mf_0 N D.1.2.1 (by omega) s6, Option.bind_some]; dsimp only
            by_cases z : S 17 (c1 % 8) = 0
            · rw [if_neg (by omega)]
              have oc := oc_1 (S := S) N D.1.2.1 (s := c1 % 8) (by omega)
              rw [if_neg (fun q => q.2 z)] at oc
              exact own_403n hN D (by omega) (by omega) (by omega) oc go
            · have m := (D.2.2.2.2.1 (c1 % 8) (by omega) s6).resolve_left z
              have mk := mf_k N D.1.2.1 (s := c1 % 8) (by omega) s6 z
              rw [if_pos (show 0 < S 17 (c1 % 8) by have := m.1; omega), mk.1, Option.bind_some]; dsimp only
              rw [mk.2.1, Option.bind_some]; dsimp only
              rw [mk.2.2, Option.bind_some]; dsimp only
              exact own_403 hN D (by omega) (by omega) s6 z go
          · rw [mf_out N D.1.2.1 (by omega) s6, Option.bind_some]; dsimp only
            rw [if_neg (by decide)]
            have oc := oc_1 (S := S) N D.1.2.1 (s := c1 % 8) (by omega)
            rw [if_neg (fun q => s6 q.1)] at oc
            exact own_403n hN D (by omega) (by omega) (by decide) oc go
      · rw [if_neg o3]
        have muta : ∀ kind (x8 : Int), x8 ≠ 0 → ∃ a S', m_mutate N (r : Int) (key : Int) kind S = some (a, S') ∧ ∃ T, l_law_166 N len sc (l_law_23 N len sc (f + 1)) (mdS S) (sqS S) (occ S) (4 * (k : Int)) x8 (r : Int) (key : Int) (c3 % 256) a S' = some (1, T) := fun kind x8 n8 => by
          obtain ⟨a, S', e, o⟩ := own_mut hN D (by omega) hr hkey kind
          exact ⟨a, S', e, own_166 hN D (by omega) hr hkey ⟨fun q => q.elim, fun q => absurd q.1 n8⟩ o go⟩
        by_cases o0 : c0 % 8 = 0
        · obtain ⟨a, S', e, o⟩ := own_wr hN D (by omega) hr hkey (v := c3 % 256) (by omega) (by omega)
          rw [if_pos o0, e, Option.bind_some]
          exact own_166 hN D (by omega) hr hkey ⟨fun q => ⟨o0, q⟩, fun q => q.2⟩ o go
        · rw [if_neg o0]
          by_cases o1 : c0 % 8 = 1
          · obtain ⟨a, S', e, h⟩ := muta 2 (c0 % 8) o0
            have e' : m_enable N (r : Int) (key : Int) S = some (a, S') := by unfold m_enable; rw [e, Option.bind_some]
            rw [if_pos o1, e', Option.bind_some]; exact h
          · rw [if_neg o1]
            by_cases o2 : c0 % 8 = 2
            · obtain ⟨a, S', e, h⟩ := muta 3 (c0 % 8) o0
              have e' : m_disable N (r : Int) (key : Int) S = some (a, S') := by unfold m_disable; rw [e, Option.bind_some]
              rw [if_pos o2, e', Option.bind_some]; exact h
            · obtain ⟨a, S', e, h⟩ := muta 4 (c0 % 8) o0
              have e' : m_removeKey N (r : Int) (key : Int) S = some (a, S') := by unfold m_removeKey; rw [e, Option.bind_some]
              rw [if_neg o2, e', Option.bind_some]; exact h
    · rw [if_neg q]; exact ⟨_, rfl⟩
end Law
theorem cw_0 : ∀ w : Fin 4, cw 0 w.val = 0 := by decide +kernel
theorem own_plain : ∀ (len : Int) (sc : Int → Int), 0 ≤ len → len ≤ 260 → (∀ i, 0 ≤ i → i < len → R32 (sc i)) → ∃ N S', l_law N len sc zS = some (1, S') := by
  intro len sc h0 h1 _
  refine ⟨4999 + 1, ?_⟩
  unfold l_law
  have e : m_init (4999 + 1) 3 6 2 zS = some (0, stw (stw (stw zS 0 23 3) 0 24 6) 0 25 2) := rfl
  rw [e, Option.bind_some]
  dsimp only
  generalize hT : stw (stw (stw zS 0 23 3) 0 24 6) 0 25 2 = T
  have z : ∀ h i, h ≠ 0 → T h i = 0 := fun h i hh => by rw [← hT, stw_h _ _ _ _ hh, stw_h _ _ _ _ hh, stw_h _ _ _ _ hh]; rfl
  have D : DI T ((0 : Nat) : Int) := by
    refine ⟨⟨?_, ?_, ?_⟩, ⟨fun r w hr hw => ?_, fun r c hr hc => ?_, fun r hr => ?_, fun i => ?_⟩, fun r hr => ?_, fun r j hr hj => ?_, fun s s0 s6 => Or.inl (z 17 s (by decide)), fun r hr => ?_⟩
    · rw [← hT, stw_i _ _ _ (by decide), stw_i _ _ _ (by decide), stw_s]
    · rw [← hT, stw_i _ _ _ (by decide), stw_s]
    · rw [← hT, stw_s]
    · rw [z 6 _ (by decide), z 5 _ (by decide)]; exact (cw_0 ⟨w, hw⟩).symm
    · rw [z 6 _ (by decide), z 5 _ (by decide), decide_eq_false (show ¬ (c : Int) < 0 by omega)]
      exact lb_z ⟨16 * r + c, by omega⟩
    · rw [z 6 _ (by decide), z 5 _ (by decide)]; exact ⟨sub_0 T, by decide, by decide⟩
    · rw [z 16 _ (by decide)]; exact sub_0 T
    · rw [z 12 _ (by decide), z 13 _ (by decide)]; decide
    · rw [z 12 _ (by decide), z 14 _ (by decide)]; decide
    · rw [z 12 _ (by decide)]; decide
  have w := own_loop (N := 4999 + 1) (len := len) (sc := sc) (by omega) h1 4999 0 T (by omega) (by omega) D
  have em : mdS T = 0 := by unfold mdS; rw [z 6 _ (by decide), z 6 _ (by decide), z 6 _ (by decide), z 6 _ (by decide)]; rfl
  have es : sqS T = 0 := by unfold sqS; rw [z 12 _ (by decide), z 12 _ (by decide), z 12 _ (by decide), z 12 _ (by decide)]; rfl
  have eo : occ T = 0 := by
    have o0 : sumK (fun _ => (0 : Int)) 6 = 0 := rfl
    unfold occ; rw [← o0]; exact sumK_congr 6 (fun s _ _ => if_pos (z 17 s (by decide)))
  rw [em, es, eo] at w
  exact w
theorem main_1_1 : Claimed_1_1 := comes_1 own_plain fun _ _ _ _ _ _ h hF => ⟨h.1, hF⟩
theorem main_1_2 : Claimed_1_2 := comes_1 own_plain fun _ _ _ _ _ _ h hF => ⟨h.2.1, hF⟩
end Jvm.Pilot.@@N@@
namespace Jvm.Pilot.@@N@@
open Jvm Jvm.ClassFile Sem Op Lib Jvm.Free Jvm.Stand Jvm.Pilot.@@N@@.Jvm.D
/-! MADE BY PROGRAM (witnessworld.py) out of the Statement's table words and the real class files: 11 classes; the members and pool entries that the words name. The judged class is class 1, her method 3. -/
namespace start1
open Jvm.ClassFile
def u (s : String) : CpInfo := .utf8 (stringToUtf16 s)
/-- a pool by its gaps: so many unusable entries, then the entry; so many at the end -/
def gap : Nat → List CpInfo → List CpInfo
  | 0, r => r
  | n + 1, r => .unusable :: gap n r
def poolList (es : List (Nat × CpInfo)) (last : Nat) : List CpInfo := es.foldr (fun e r => gap e.1 (e.2 :: r)) (gap last [])
def pool (es : List (Nat × CpInfo)) (last : Nat) : Array CpInfo := ⟨poolList es last⟩
def fileOf (pool : Array CpInfo) (this : Nat) (attrs : Array Attribute := #[]) (ms : Array MethodInfo := #[]) (fl : Nat := 33) (sup : Nat := 0) (ifs : Array Nat := #[]) (fds : Array FieldInfo := #[]) : ClassFile where
  minorVersion := 0
  majorVersion := 65
  constantPool := pool
  accessFlags := fl
  thisClass := this
  superClass := sup
  interfaces := ifs
  fields := fds
  methods := ms
  attributes := attrs
def plain (name : String) (sup : Option ClassId) : Class where
  name := name
  kind := .ordinary
  loader := none
  accessFlags := 33
  super := sup
  interfaces := #[]
  cf := none
  fields := #[]
  methods := #[]
  instanceTypes := #[]
  staticTypes := #[]
  resolved := #[]
  callSites := []
  init := .initialized
  statics := none
  mirror := none

def pool0 : Array CpInfo := pool [(5, u "<init>"), (0, u "()V"), (1, .class_ 10), (1, u "java/lang/Object")] 113

def k0c0 : Code := { maxStack := 0, maxLocals := 1, code := object_method_1_code, exceptionTable := #[], attributes := #[] }
def k0m0 : Method := { name := "<init>", desc := "()V", sig := { parameters := [], returnType := none }, accessFlags := 1, code := some k0c0 }
/-- java/lang/Object -/
def k0 : Class := { plain "java/lang/Object" none with
  accessFlags := 33
  interfaces := #[]
  cf := some (fileOf pool0 8 #[] #[{ accessFlags := 1, nameIndex := 5, descriptorIndex := 6, attributes := #[] }] 33 0 #[] #[])
  fields := #[]
  methods := #[k0m0]
  instanceTypes := #[]
  staticTypes := #[]
  resolved := Array.replicate 124 none
  statics := none }

def pool1 : Array CpInfo := pool [(2, .class_ 4), (1, u "java/lang/Object"), (0, u "<init>"), (0, u "()V"), (0, .long 255), (1, .class_ 10), (0, u "DeltaCausalMap"), (0, .methodref 9 12), (0, .nameAndType 13 14), (0, u "messageField"), (0, u "(II)I"), (0, .methodref 9 16), (0, .nameAndType 17 18), (0, u "protocol"), (0, u "(III)I"), (0, .methodref 20 21), (0, .class_ 22), (0, .nameAndType 23 24), (0, u "DeltaCausalMapL6"), (0, u "get"), (0, u "(JI)I"), (0, .methodref 9 26), (0, .nameAndType 27 14), (0, u "known"), (0, .methodref 9 29), (0, .nameAndType 5 30), (0, u "(III)V"), (0, .methodref 9 32), (0, .nameAndType 33 18), (0, u "write"), (0, .methodref 9 35), (0, .nameAndType 36 14), (0, u "enable"), (0, .methodref 9 38), (0, .nameAndType 39 14), (0, u "disable"), (0, .methodref 9 41), (0, .nameAndType 42 14), (0, u "removeKey"), (0, .methodref 9 44), (0, .nameAndType 45 14), (0, u "send"), (0, .methodref 9 47), (0, .nameAndType 48 49), (0, u "deliver"), (0, u "(I)I"), (0, .methodref 9 51), (0, .nameAndType 52 53), (0, u "drop"), (0, u "(I)Z"), (0, .methodref 9 55), (0, .nameAndType 56 49), (0, u "duplicate"), (0, .methodref 20 58), (0, .nameAndType 59 60), (0, u "ok"), (0, u "(LDeltaCausalMap;JJI)Z"), (3, u "law"), (0, u "([I)Z")] 4

def k1m0 : Method := { name := "<init>", desc := "()V", sig := { parameters := [], returnType := none }, accessFlags := 1, code := none }
def k1c1 : Code := { maxStack := 4, maxLocals := 3, code := method_2_code, exceptionTable := #[], attributes := #[] }
def k1m1 : Method := { name := "get", desc := "(JI)I", sig := { parameters := [.long, .int], returnType := some .int }, accessFlags := 10, code := some k1c1 }
def k1c2 : Code := { maxStack := 4, maxLocals := 13, code := method_3_code, exceptionTable := #[], attributes := #[] }
def k1m2 : Method := { name := "ok", desc := "(LDeltaCausalMap;JJI)Z", sig := { parameters := [(.object "DeltaCausalMap"), .long, .long, .int], returnType := some .boolean }, accessFlags := 10, code := some k1c2 }
def k1c3 : Code := { maxStack := 6, maxLocals := 20, code := code, exceptionTable := #[], attributes := #[] }
def k1m3 : Method := { name := "law", desc := "([I)Z", sig := { parameters := [(.array .int)], returnType := some .boolean }, accessFlags := 9, code := some k1c3 }
/-- DeltaCausalMapL6 -/
def k1 : Class := { plain "DeltaCausalMapL6" (some 0) with
  accessFlags := 33
  interfaces := #[]
  cf := some (fileOf pool1 20 #[] #[{ accessFlags := 1, nameIndex := 5, descriptorIndex := 6, attributes := #[] }, { accessFlags := 10, nameIndex := 23, descriptorIndex := 24, attributes := #[] }, { accessFlags := 10, nameIndex := 59, descriptorIndex := 60, attributes := #[] }, { accessFlags := 9, nameIndex := 64, descriptorIndex := 65, attributes := #[] }] 33 2 #[] #[])
  fields := #[]
  methods := #[k1m0, k1m1, k1m2, k1m3]
  instanceTypes := #[]
  staticTypes := #[]
  resolved := Array.replicate 70 none
  statics := none }

def pool2 : Array CpInfo := pool [(1, .methodref 2 3), (0, .class_ 4), (0, .nameAndType 5 6), (0, u "java/lang/Object"), (0, u "<init>"), (0, u "()V"), (0, .fieldref 8 9), (0, .class_ 10), (0, .nameAndType 11 12), (0, u "DeltaCausalMap"), (0, u "opKind"), (0, u "[I"), (0, .fieldref 8 14), (0, .nameAndType 15 12), (0, u "opKey"), (0, .fieldref 8 17), (0, .nameAndType 18 12), (0, u "opValue"), (0, .fieldref 8 20), (0, .nameAndType 21 22), (0, u "opCover"), (0, u "[J"), (0, .fieldref 8 24), (0, .nameAndType 25 22), (0, u "context"), (0, .fieldref 8 27), (0, .nameAndType 28 12), (0, u "clock"), (0, .fieldref 8 30), (0, .nameAndType 31 22), (0, u "regStore"), (0, .fieldref 8 33), (0, .nameAndType 34 22), (0, u "flagStore"), (0, .fieldref 8 36), (0, .nameAndType 37 12), (0, u "viewValue"), (0, .fieldref 8 39), (0, .nameAndType 40 12), (0, u "viewFlags"), (0, .fieldref 8 42), (0, .nameAndType 43 12), (0, u "viewKeys"), (0, .fieldref 8 45), (0, .nameAndType 46 12), (0, u "seq"), (0, .fieldref 8 48), (0, .nameAndType 49 12), (0, u "low"), (0, .fieldref 8 51), (0, .nameAndType 52 12), (0, u "acked"), (0, .fieldref 8 54), (0, .nameAndType 55 12), (0, u "received"), (0, .fieldref 8 57), (0, .nameAndType 58 22), (0, u "ring"), (0, .fieldref 8 60), (0, .nameAndType 61 12), (0, u "msgKind"), (0, .fieldref 8 63), (0, .nameAndType 64 12), (0, u "msgFrom"), (0, .fieldref 8 66), (0, .nameAndType 67 12), (0, u "msgTo"), (0, .fieldref 8 69), (0, .nameAndType 70 12), (0, u "msgStart"), (0, .fieldref 8 72), (0, .nameAndType 73 12), (0, u "msgEnd"), (0, .fieldref 8 75), (0, .nameAndType 76 22), (0, u "msgContext"), (0, .fieldref 8 78), (0, .nameAndType 79 22), (0, u "msgDelta"), (0, .methodref 8 81), (0, .nameAndType 82 83), (0, u "clamp"), (0, u "(III)I"), (0, .fieldref 8 85), (0, .nameAndType 86 87), (0, u "keyCount"), (0, u "I"), (0, .fieldref 8 89), (0, .nameAndType 90 87), (0, u "slotCount"), (0, .fieldref 8 92), (0, .nameAndType 93 87), (0, u "capacity"), (0, .methodref 8 95), (0, .nameAndType 96 97), (0, u "refuseTarget"), (0, u "(II)I"), (0, .methodref 8 99), (0, .nameAndType 100 101), (0, u "exhausted"), (0, u "(I)Z"), (0, .methodref 8 103), (0, .nameAndType 104 105), (0, u "makeOperation"), (0, u "(IIII)I"), (0, .methodref 8 107), (0, .nameAndType 108 83), (0, u "mutate"), (0, .methodref 8 110), (0, .nameAndType 111 101), (0, u "validReplica"), (0, .methodref 8 113), (0, .nameAndType 114 101), (0, u "validKey"), (0, .methodref 8 116), (0, .nameAndType 117 118), (0, u "coverFor"), (0, u "(III)J"), (0, .methodref 8 120), (0, .nameAndType 121 122), (0, u "join"), (0, u "(IJ)V"), (0, .methodref 8 124), (0, .nameAndType 125 126), (0, u "trim"), (0, u "(I)V"), (0, .methodref 8 128), (0, .nameAndType 129 97), (0, u "storeIndex"), (0, .methodref 8 131), (0, .nameAndType 132 133), (0, u "addDot"), (0, u "(II)V"), (0, .methodref 8 135), (0, .nameAndType 136 122), (0, u "pruneStores"), (0, .methodref 8 138), (0, .nameAndType 139 122), (0, u "recordChange"), (0, .methodref 8 141), (0, .nameAndType 142 126), (0, u "refreshView"), (0, .long 18446744073709551615), (1, .methodref 8 146), (0, .nameAndType 147 148), (0, u "refreshRegister"), (0, u "(IIJ)V"), (0, .methodref 8 150), (0, .nameAndType 151 152), (0, u "valueInSegment"), (0, u "(JI)I"), (0, .methodref 8 154), (0, .nameAndType 155 156), (0, u "leastAck"), (0, u "(I)I"), (0, .integer 2147483647), (0, .methodref 8 159), (0, .nameAndType 160 161), (0, u "freeSlot"), (0, u "()I"), (0, .methodref 8 163), (0, .nameAndType 164 165), (0, u "deltaSince"), (0, u "(II)J"), (0, .methodref 8 167), (0, .nameAndType 168 169), (0, u "setHeader"), (0, u "(IIIIII)V"), (0, .methodref 8 171), (0, .nameAndType 172 173), (0, u "setPayload"), (0, u "(IJJ)V"), (0, .methodref 8 175), (0, .nameAndType 176 101), (0, u "occupied"), (0, .methodref 8 178), (0, .nameAndType 179 156), (0, u "takeAck"), (0, .methodref 8 181), (0, .nameAndType 182 156), (0, u "takeState"), (0, .methodref 8 184), (0, .nameAndType 185 126), (0, u "clearSlot"), (0, .methodref 8 187), (0, .nameAndType 188 189), (0, u "placeAck"), (0, u "(III)V"), (0, .methodref 8 191), (0, .nameAndType 192 101), (0, u "validSlot"), (0, .methodref 8 194), (0, .nameAndType 195 97), (0, u "headerOrCount"), (5, u "REPLICAS"), (2, u "MAX_OPS"), (1, u "MIN_VALUE"), (1, u "MAX_VALUE"), (1, u "BAD_REPLICA"), (1, u "BAD_KEY"), (1, u "BAD_VALUE"), (1, u "EXHAUSTED"), (1, u "WIRE_FULL"), (1, u "NO_MESSAGE"), (1, u "BAD_ARGUMENT"), (1, u "NONE"), (1, u "EMPTY"), (0, u "INTERVAL"), (0, u "FULL"), (1, u "ACK"), (1, u "ACCEPTED"), (0, u "STALE"), (0, u "ACK_TAKEN"), (0, u "SEQ"), (0, u "LOW"), (0, u "ACKED"), (0, u "RECEIVED"), (0, u "F_KIND"), (0, u "F_FROM"), (0, u "F_TO"), (0, u "F_START"), (0, u "F_END"), (0, u "F_KNOWN"), (3, u "write"), (1, u "enable"), (0, u "disable"), (0, u "removeKey"), (0, u "send"), (0, u "deliver"), (0, u "drop"), (0, u "duplicate"), (4, u "known"), (0, u "protocol"), (0, u "messageField")] 2

def k2c0 : Code := { maxStack := 5, maxLocals := 4, code := prog_1_method_1_code, exceptionTable := #[], attributes := #[] }
def k2m0 : Method := { name := "<init>", desc := "(III)V", sig := { parameters := [.int, .int, .int], returnType := none }, accessFlags := 1, code := some k2c0 }
def k2c1 : Code := { maxStack := 5, maxLocals := 5, code := prog_1_method_2_code, exceptionTable := #[], attributes := #[] }
def k2m1 : Method := { name := "write", desc := "(III)I", sig := { parameters := [.int, .int, .int], returnType := some .int }, accessFlags := 1, code := some k2c1 }
def k2c2 : Code := { maxStack := 4, maxLocals := 3, code := prog_1_method_3_code, exceptionTable := #[], attributes := #[] }
def k2m2 : Method := { name := "enable", desc := "(II)I", sig := { parameters := [.int, .int], returnType := some .int }, accessFlags := 1, code := some k2c2 }
def k2c3 : Code := { maxStack := 4, maxLocals := 3, code := prog_1_method_4_code, exceptionTable := #[], attributes := #[] }
def k2m3 : Method := { name := "disable", desc := "(II)I", sig := { parameters := [.int, .int], returnType := some .int }, accessFlags := 1, code := some k2c3 }
def k2c4 : Code := { maxStack := 4, maxLocals := 3, code := prog_1_method_5_code, exceptionTable := #[], attributes := #[] }
def k2m4 : Method := { name := "removeKey", desc := "(II)I", sig := { parameters := [.int, .int], returnType := some .int }, accessFlags := 1, code := some k2c4 }
def k2c5 : Code := { maxStack := 5, maxLocals := 5, code := prog_1_method_6_code, exceptionTable := #[], attributes := #[] }
def k2m5 : Method := { name := "mutate", desc := "(III)I", sig := { parameters := [.int, .int, .int], returnType := some .int }, accessFlags := 2, code := some k2c5 }
def k2c6 : Code := { maxStack := 2, maxLocals := 3, code := prog_1_method_7_code, exceptionTable := #[], attributes := #[] }
def k2m6 : Method := { name := "refuseTarget", desc := "(II)I", sig := { parameters := [.int, .int], returnType := some .int }, accessFlags := 2, code := some k2c6 }
def k2c7 : Code := { maxStack := 3, maxLocals := 2, code := prog_1_method_8_code, exceptionTable := #[], attributes := #[] }
def k2m7 : Method := { name := "exhausted", desc := "(I)Z", sig := { parameters := [.int], returnType := some .boolean }, accessFlags := 2, code := some k2c7 }
def k2c8 : Code := { maxStack := 4, maxLocals := 11, code := prog_1_method_9_code, exceptionTable := #[], attributes := #[] }
def k2m8 : Method := { name := "makeOperation", desc := "(IIII)I", sig := { parameters := [.int, .int, .int, .int], returnType := some .int }, accessFlags := 2, code := some k2c8 }
def k2c9 : Code := { maxStack := 4, maxLocals := 5, code := prog_1_method_10_code, exceptionTable := #[], attributes := #[] }
def k2m9 : Method := { name := "coverFor", desc := "(III)J", sig := { parameters := [.int, .int, .int], returnType := some .long }, accessFlags := 2, code := some k2c9 }
def k2c10 : Code := { maxStack := 6, maxLocals := 7, code := prog_1_method_11_code, exceptionTable := #[], attributes := #[] }
def k2m10 : Method := { name := "join", desc := "(IJ)V", sig := { parameters := [.int, .long], returnType := none }, accessFlags := 2, code := some k2c10 }
def k2c11 : Code := { maxStack := 6, maxLocals := 7, code := prog_1_method_12_code, exceptionTable := #[], attributes := #[] }
def k2m11 : Method := { name := "addDot", desc := "(II)V", sig := { parameters := [.int, .int], returnType := none }, accessFlags := 2, code := some k2c11 }
def k2c12 : Code := { maxStack := 6, maxLocals := 7, code := prog_1_method_13_code, exceptionTable := #[], attributes := #[] }
def k2m12 : Method := { name := "pruneStores", desc := "(IJ)V", sig := { parameters := [.int, .long], returnType := none }, accessFlags := 2, code := some k2c12 }
def k2c13 : Code := { maxStack := 4, maxLocals := 4, code := prog_1_method_14_code, exceptionTable := #[], attributes := #[] }
def k2m13 : Method := { name := "recordChange", desc := "(IJ)V", sig := { parameters := [.int, .long], returnType := none }, accessFlags := 2, code := some k2c13 }
def k2c14 : Code := { maxStack := 3, maxLocals := 3, code := prog_1_method_15_code, exceptionTable := #[], attributes := #[] }
def k2m14 : Method := { name := "storeIndex", desc := "(II)I", sig := { parameters := [.int, .int], returnType := some .int }, accessFlags := 2, code := some k2c14 }
def k2c15 : Code := { maxStack := 5, maxLocals := 9, code := prog_1_method_16_code, exceptionTable := #[], attributes := #[] }
def k2m15 : Method := { name := "refreshView", desc := "(I)V", sig := { parameters := [.int], returnType := none }, accessFlags := 2, code := some k2c15 }
def k2c16 : Code := { maxStack := 6, maxLocals := 6, code := prog_1_method_17_code, exceptionTable := #[], attributes := #[] }
def k2m16 : Method := { name := "refreshRegister", desc := "(IIJ)V", sig := { parameters := [.int, .int, .long], returnType := none }, accessFlags := 2, code := some k2c16 }
def k2c17 : Code := { maxStack := 4, maxLocals := 6, code := prog_1_method_18_code, exceptionTable := #[], attributes := #[] }
def k2m17 : Method := { name := "valueInSegment", desc := "(JI)I", sig := { parameters := [.long, .int], returnType := some .int }, accessFlags := 2, code := some k2c17 }
def k2c18 : Code := { maxStack := 4, maxLocals := 3, code := prog_1_method_19_code, exceptionTable := #[], attributes := #[] }
def k2m18 : Method := { name := "trim", desc := "(I)V", sig := { parameters := [.int], returnType := none }, accessFlags := 2, code := some k2c18 }
def k2c19 : Code := { maxStack := 3, maxLocals := 4, code := prog_1_method_20_code, exceptionTable := #[], attributes := #[] }
def k2m19 : Method := { name := "leastAck", desc := "(I)I", sig := { parameters := [.int], returnType := some .int }, accessFlags := 2, code := some k2c19 }
def k2c20 : Code := { maxStack := 6, maxLocals := 7, code := prog_1_method_21_code, exceptionTable := #[], attributes := #[] }
def k2m20 : Method := { name := "deltaSince", desc := "(II)J", sig := { parameters := [.int, .int], returnType := some .long }, accessFlags := 2, code := some k2c20 }
def k2c21 : Code := { maxStack := 8, maxLocals := 7, code := prog_1_method_22_code, exceptionTable := #[], attributes := #[] }
def k2m21 : Method := { name := "send", desc := "(II)I", sig := { parameters := [.int, .int], returnType := some .int }, accessFlags := 1, code := some k2c21 }
def k2c22 : Code := { maxStack := 2, maxLocals := 2, code := prog_1_method_23_code, exceptionTable := #[], attributes := #[] }
def k2m22 : Method := { name := "deliver", desc := "(I)I", sig := { parameters := [.int], returnType := some .int }, accessFlags := 1, code := some k2c22 }
def k2c23 : Code := { maxStack := 6, maxLocals := 11, code := prog_1_method_24_code, exceptionTable := #[], attributes := #[] }
def k2m23 : Method := { name := "takeState", desc := "(I)I", sig := { parameters := [.int], returnType := some .int }, accessFlags := 2, code := some k2c23 }
def k2c24 : Code := { maxStack := 7, maxLocals := 5, code := prog_1_method_25_code, exceptionTable := #[], attributes := #[] }
def k2m24 : Method := { name := "placeAck", desc := "(III)V", sig := { parameters := [.int, .int, .int], returnType := none }, accessFlags := 2, code := some k2c24 }
def k2c25 : Code := { maxStack := 3, maxLocals := 6, code := prog_1_method_26_code, exceptionTable := #[], attributes := #[] }
def k2m25 : Method := { name := "takeAck", desc := "(I)I", sig := { parameters := [.int], returnType := some .int }, accessFlags := 2, code := some k2c25 }
def k2c26 : Code := { maxStack := 2, maxLocals := 2, code := prog_1_method_27_code, exceptionTable := #[], attributes := #[] }
def k2m26 : Method := { name := "drop", desc := "(I)Z", sig := { parameters := [.int], returnType := some .boolean }, accessFlags := 1, code := some k2c26 }
def k2c27 : Code := { maxStack := 8, maxLocals := 3, code := prog_1_method_28_code, exceptionTable := #[], attributes := #[] }
def k2m27 : Method := { name := "duplicate", desc := "(I)I", sig := { parameters := [.int], returnType := some .int }, accessFlags := 1, code := some k2c27 }
def k2c28 : Code := { maxStack := 3, maxLocals := 7, code := prog_1_method_29_code, exceptionTable := #[], attributes := #[] }
def k2m28 : Method := { name := "setHeader", desc := "(IIIIII)V", sig := { parameters := [.int, .int, .int, .int, .int, .int], returnType := none }, accessFlags := 2, code := some k2c28 }
def k2c29 : Code := { maxStack := 4, maxLocals := 6, code := prog_1_method_30_code, exceptionTable := #[], attributes := #[] }
def k2m29 : Method := { name := "setPayload", desc := "(IJJ)V", sig := { parameters := [.int, .long, .long], returnType := none }, accessFlags := 2, code := some k2c29 }
def k2c30 : Code := { maxStack := 7, maxLocals := 2, code := prog_1_method_31_code, exceptionTable := #[], attributes := #[] }
def k2m30 : Method := { name := "clearSlot", desc := "(I)V", sig := { parameters := [.int], returnType := none }, accessFlags := 2, code := some k2c30 }
def k2c31 : Code := { maxStack := 2, maxLocals := 2, code := prog_1_method_32_code, exceptionTable := #[], attributes := #[] }
def k2m31 : Method := { name := "freeSlot", desc := "()I", sig := { parameters := [], returnType := some .int }, accessFlags := 2, code := some k2c31 }
def k2c32 : Code := { maxStack := 2, maxLocals := 2, code := prog_1_method_33_code, exceptionTable := #[], attributes := #[] }
def k2m32 : Method := { name := "occupied", desc := "(I)Z", sig := { parameters := [.int], returnType := some .boolean }, accessFlags := 2, code := some k2c32 }
def k2c33 : Code := { maxStack := 3, maxLocals := 3, code := prog_1_method_37_code, exceptionTable := #[], attributes := #[] }
def k2m33 : Method := { name := "known", desc := "(II)I", sig := { parameters := [.int, .int], returnType := some .int }, accessFlags := 1, code := some k2c33 }
def k2c34 : Code := { maxStack := 3, maxLocals := 4, code := prog_1_method_38_code, exceptionTable := #[], attributes := #[] }
def k2m34 : Method := { name := "protocol", desc := "(III)I", sig := { parameters := [.int, .int, .int], returnType := some .int }, accessFlags := 1, code := some k2c34 }
def k2c35 : Code := { maxStack := 3, maxLocals := 4, code := prog_1_method_39_code, exceptionTable := #[], attributes := #[] }
def k2m35 : Method := { name := "messageField", desc := "(II)I", sig := { parameters := [.int, .int], returnType := some .int }, accessFlags := 1, code := some k2c35 }
def k2c36 : Code := { maxStack := 5, maxLocals := 3, code := prog_1_method_40_code, exceptionTable := #[], attributes := #[] }
def k2m36 : Method := { name := "headerOrCount", desc := "(II)I", sig := { parameters := [.int, .int], returnType := some .int }, accessFlags := 2, code := some k2c36 }
def k2c37 : Code := { maxStack := 2, maxLocals := 2, code := prog_1_method_42_code, exceptionTable := #[], attributes := #[] }
def k2m37 : Method := { name := "validReplica", desc := "(I)Z", sig := { parameters := [.int], returnType := some .boolean }, accessFlags := 2, code := some k2c37 }
def k2c38 : Code := { maxStack := 2, maxLocals := 2, code := prog_1_method_43_code, exceptionTable := #[], attributes := #[] }
def k2m38 : Method := { name := "validKey", desc := "(I)Z", sig := { parameters := [.int], returnType := some .boolean }, accessFlags := 2, code := some k2c38 }
def k2c39 : Code := { maxStack := 2, maxLocals := 2, code := prog_1_method_44_code, exceptionTable := #[], attributes := #[] }
def k2m39 : Method := { name := "validSlot", desc := "(I)Z", sig := { parameters := [.int], returnType := some .boolean }, accessFlags := 2, code := some k2c39 }
def k2c40 : Code := { maxStack := 2, maxLocals := 4, code := prog_1_method_45_code, exceptionTable := #[], attributes := #[] }
def k2m40 : Method := { name := "clamp", desc := "(III)I", sig := { parameters := [.int, .int, .int], returnType := some .int }, accessFlags := 2, code := some k2c40 }
/-- DeltaCausalMap -/
def k2 : Class := { plain "DeltaCausalMap" (some 0) with
  accessFlags := 49
  interfaces := #[]
  cf := some (fileOf pool2 8 #[] #[{ accessFlags := 1, nameIndex := 5, descriptorIndex := 189, attributes := #[] }, { accessFlags := 1, nameIndex := 248, descriptorIndex := 83, attributes := #[] }, { accessFlags := 1, nameIndex := 250, descriptorIndex := 97, attributes := #[] }, { accessFlags := 1, nameIndex := 251, descriptorIndex := 97, attributes := #[] }, { accessFlags := 1, nameIndex := 252, descriptorIndex := 97, attributes := #[] }, { accessFlags := 2, nameIndex := 108, descriptorIndex := 83, attributes := #[] }, { accessFlags := 2, nameIndex := 96, descriptorIndex := 97, attributes := #[] }, { accessFlags := 2, nameIndex := 100, descriptorIndex := 101, attributes := #[] }, { accessFlags := 2, nameIndex := 104, descriptorIndex := 105, attributes := #[] }, { accessFlags := 2, nameIndex := 117, descriptorIndex := 118, attributes := #[] }, { accessFlags := 2, nameIndex := 121, descriptorIndex := 122, attributes := #[] }, { accessFlags := 2, nameIndex := 132, descriptorIndex := 133, attributes := #[] }, { accessFlags := 2, nameIndex := 136, descriptorIndex := 122, attributes := #[] }, { accessFlags := 2, nameIndex := 139, descriptorIndex := 122, attributes := #[] }, { accessFlags := 2, nameIndex := 129, descriptorIndex := 97, attributes := #[] }, { accessFlags := 2, nameIndex := 142, descriptorIndex := 126, attributes := #[] }, { accessFlags := 2, nameIndex := 147, descriptorIndex := 148, attributes := #[] }, { accessFlags := 2, nameIndex := 151, descriptorIndex := 152, attributes := #[] }, { accessFlags := 2, nameIndex := 125, descriptorIndex := 126, attributes := #[] }, { accessFlags := 2, nameIndex := 155, descriptorIndex := 156, attributes := #[] }, { accessFlags := 2, nameIndex := 164, descriptorIndex := 165, attributes := #[] }, { accessFlags := 1, nameIndex := 253, descriptorIndex := 97, attributes := #[] }, { accessFlags := 1, nameIndex := 254, descriptorIndex := 156, attributes := #[] }, { accessFlags := 2, nameIndex := 182, descriptorIndex := 156, attributes := #[] }, { accessFlags := 2, nameIndex := 188, descriptorIndex := 189, attributes := #[] }, { accessFlags := 2, nameIndex := 179, descriptorIndex := 156, attributes := #[] }, { accessFlags := 1, nameIndex := 255, descriptorIndex := 101, attributes := #[] }, { accessFlags := 1, nameIndex := 256, descriptorIndex := 156, attributes := #[] }, { accessFlags := 2, nameIndex := 168, descriptorIndex := 169, attributes := #[] }, { accessFlags := 2, nameIndex := 172, descriptorIndex := 173, attributes := #[] }, { accessFlags := 2, nameIndex := 185, descriptorIndex := 126, attributes := #[] }, { accessFlags := 2, nameIndex := 160, descriptorIndex := 161, attributes := #[] }, { accessFlags := 2, nameIndex := 176, descriptorIndex := 101, attributes := #[] }, { accessFlags := 1, nameIndex := 261, descriptorIndex := 97, attributes := #[] }, { accessFlags := 1, nameIndex := 262, descriptorIndex := 83, attributes := #[] }, { accessFlags := 1, nameIndex := 263, descriptorIndex := 97, attributes := #[] }, { accessFlags := 2, nameIndex := 195, descriptorIndex := 97, attributes := #[] }, { accessFlags := 2, nameIndex := 111, descriptorIndex := 101, attributes := #[] }, { accessFlags := 2, nameIndex := 114, descriptorIndex := 101, attributes := #[] }, { accessFlags := 2, nameIndex := 192, descriptorIndex := 101, attributes := #[] }, { accessFlags := 2, nameIndex := 82, descriptorIndex := 83, attributes := #[] }] 49 2 #[] #[{ accessFlags := 25, nameIndex := 201, descriptorIndex := 87, attributes := #[] }, { accessFlags := 25, nameIndex := 204, descriptorIndex := 87, attributes := #[] }, { accessFlags := 25, nameIndex := 206, descriptorIndex := 87, attributes := #[] }, { accessFlags := 25, nameIndex := 208, descriptorIndex := 87, attributes := #[] }, { accessFlags := 25, nameIndex := 210, descriptorIndex := 87, attributes := #[] }, { accessFlags := 25, nameIndex := 212, descriptorIndex := 87, attributes := #[] }, { accessFlags := 25, nameIndex := 214, descriptorIndex := 87, attributes := #[] }, { accessFlags := 25, nameIndex := 216, descriptorIndex := 87, attributes := #[] }, { accessFlags := 25, nameIndex := 218, descriptorIndex := 87, attributes := #[] }, { accessFlags := 25, nameIndex := 220, descriptorIndex := 87, attributes := #[] }, { accessFlags := 25, nameIndex := 222, descriptorIndex := 87, attributes := #[] }, { accessFlags := 25, nameIndex := 224, descriptorIndex := 87, attributes := #[] }, { accessFlags := 25, nameIndex := 226, descriptorIndex := 87, attributes := #[] }, { accessFlags := 25, nameIndex := 227, descriptorIndex := 87, attributes := #[] }, { accessFlags := 25, nameIndex := 228, descriptorIndex := 87, attributes := #[] }, { accessFlags := 25, nameIndex := 230, descriptorIndex := 87, attributes := #[] }, { accessFlags := 25, nameIndex := 232, descriptorIndex := 87, attributes := #[] }, { accessFlags := 25, nameIndex := 233, descriptorIndex := 87, attributes := #[] }, { accessFlags := 25, nameIndex := 234, descriptorIndex := 87, attributes := #[] }, { accessFlags := 25, nameIndex := 235, descriptorIndex := 87, attributes := #[] }, { accessFlags := 25, nameIndex := 236, descriptorIndex := 87, attributes := #[] }, { accessFlags := 25, nameIndex := 237, descriptorIndex := 87, attributes := #[] }, { accessFlags := 25, nameIndex := 238, descriptorIndex := 87, attributes := #[] }, { accessFlags := 25, nameIndex := 239, descriptorIndex := 87, attributes := #[] }, { accessFlags := 25, nameIndex := 240, descriptorIndex := 87, attributes := #[] }, { accessFlags := 25, nameIndex := 241, descriptorIndex := 87, attributes := #[] }, { accessFlags := 25, nameIndex := 242, descriptorIndex := 87, attributes := #[] }, { accessFlags := 25, nameIndex := 243, descriptorIndex := 87, attributes := #[] }, { accessFlags := 25, nameIndex := 244, descriptorIndex := 87, attributes := #[] }, { accessFlags := 2, nameIndex := 86, descriptorIndex := 87, attributes := #[] }, { accessFlags := 2, nameIndex := 90, descriptorIndex := 87, attributes := #[] }, { accessFlags := 2, nameIndex := 93, descriptorIndex := 87, attributes := #[] }, { accessFlags := 18, nameIndex := 11, descriptorIndex := 12, attributes := #[] }, { accessFlags := 18, nameIndex := 15, descriptorIndex := 12, attributes := #[] }, { accessFlags := 18, nameIndex := 18, descriptorIndex := 12, attributes := #[] }, { accessFlags := 18, nameIndex := 21, descriptorIndex := 22, attributes := #[] }, { accessFlags := 18, nameIndex := 25, descriptorIndex := 22, attributes := #[] }, { accessFlags := 18, nameIndex := 28, descriptorIndex := 12, attributes := #[] }, { accessFlags := 18, nameIndex := 31, descriptorIndex := 22, attributes := #[] }, { accessFlags := 18, nameIndex := 34, descriptorIndex := 22, attributes := #[] }, { accessFlags := 18, nameIndex := 37, descriptorIndex := 12, attributes := #[] }, { accessFlags := 18, nameIndex := 40, descriptorIndex := 12, attributes := #[] }, { accessFlags := 18, nameIndex := 43, descriptorIndex := 12, attributes := #[] }, { accessFlags := 18, nameIndex := 46, descriptorIndex := 12, attributes := #[] }, { accessFlags := 18, nameIndex := 49, descriptorIndex := 12, attributes := #[] }, { accessFlags := 18, nameIndex := 52, descriptorIndex := 12, attributes := #[] }, { accessFlags := 18, nameIndex := 55, descriptorIndex := 12, attributes := #[] }, { accessFlags := 18, nameIndex := 58, descriptorIndex := 22, attributes := #[] }, { accessFlags := 18, nameIndex := 61, descriptorIndex := 12, attributes := #[] }, { accessFlags := 18, nameIndex := 64, descriptorIndex := 12, attributes := #[] }, { accessFlags := 18, nameIndex := 67, descriptorIndex := 12, attributes := #[] }, { accessFlags := 18, nameIndex := 70, descriptorIndex := 12, attributes := #[] }, { accessFlags := 18, nameIndex := 73, descriptorIndex := 12, attributes := #[] }, { accessFlags := 18, nameIndex := 76, descriptorIndex := 22, attributes := #[] }, { accessFlags := 18, nameIndex := 79, descriptorIndex := 22, attributes := #[] }])
  fields := #[{ name := "REPLICAS", type := .int, accessFlags := 25, slot := 0, constantValue := 0 }, { name := "MAX_OPS", type := .int, accessFlags := 25, slot := 1, constantValue := 0 }, { name := "MIN_VALUE", type := .int, accessFlags := 25, slot := 2, constantValue := 0 }, { name := "MAX_VALUE", type := .int, accessFlags := 25, slot := 3, constantValue := 0 }, { name := "BAD_REPLICA", type := .int, accessFlags := 25, slot := 4, constantValue := 0 }, { name := "BAD_KEY", type := .int, accessFlags := 25, slot := 5, constantValue := 0 }, { name := "BAD_VALUE", type := .int, accessFlags := 25, slot := 6, constantValue := 0 }, { name := "EXHAUSTED", type := .int, accessFlags := 25, slot := 7, constantValue := 0 }, { name := "WIRE_FULL", type := .int, accessFlags := 25, slot := 8, constantValue := 0 }, { name := "NO_MESSAGE", type := .int, accessFlags := 25, slot := 9, constantValue := 0 }, { name := "BAD_ARGUMENT", type := .int, accessFlags := 25, slot := 10, constantValue := 0 }, { name := "NONE", type := .int, accessFlags := 25, slot := 11, constantValue := 0 }, { name := "EMPTY", type := .int, accessFlags := 25, slot := 12, constantValue := 0 }, { name := "INTERVAL", type := .int, accessFlags := 25, slot := 13, constantValue := 0 }, { name := "FULL", type := .int, accessFlags := 25, slot := 14, constantValue := 0 }, { name := "ACK", type := .int, accessFlags := 25, slot := 15, constantValue := 0 }, { name := "ACCEPTED", type := .int, accessFlags := 25, slot := 16, constantValue := 0 }, { name := "STALE", type := .int, accessFlags := 25, slot := 17, constantValue := 0 }, { name := "ACK_TAKEN", type := .int, accessFlags := 25, slot := 18, constantValue := 0 }, { name := "SEQ", type := .int, accessFlags := 25, slot := 19, constantValue := 0 }, { name := "LOW", type := .int, accessFlags := 25, slot := 20, constantValue := 0 }, { name := "ACKED", type := .int, accessFlags := 25, slot := 21, constantValue := 0 }, { name := "RECEIVED", type := .int, accessFlags := 25, slot := 22, constantValue := 0 }, { name := "F_KIND", type := .int, accessFlags := 25, slot := 23, constantValue := 0 }, { name := "F_FROM", type := .int, accessFlags := 25, slot := 24, constantValue := 0 }, { name := "F_TO", type := .int, accessFlags := 25, slot := 25, constantValue := 0 }, { name := "F_START", type := .int, accessFlags := 25, slot := 26, constantValue := 0 }, { name := "F_END", type := .int, accessFlags := 25, slot := 27, constantValue := 0 }, { name := "F_KNOWN", type := .int, accessFlags := 25, slot := 28, constantValue := 0 }, { name := "keyCount", type := .int, accessFlags := 2, slot := 0, constantValue := 0 }, { name := "slotCount", type := .int, accessFlags := 2, slot := 1, constantValue := 0 }, { name := "capacity", type := .int, accessFlags := 2, slot := 2, constantValue := 0 }, { name := "opKind", type := (.array .int), accessFlags := 18, slot := 3, constantValue := 0 }, { name := "opKey", type := (.array .int), accessFlags := 18, slot := 4, constantValue := 0 }, { name := "opValue", type := (.array .int), accessFlags := 18, slot := 5, constantValue := 0 }, { name := "opCover", type := (.array .long), accessFlags := 18, slot := 6, constantValue := 0 }, { name := "context", type := (.array .long), accessFlags := 18, slot := 7, constantValue := 0 }, { name := "clock", type := (.array .int), accessFlags := 18, slot := 8, constantValue := 0 }, { name := "regStore", type := (.array .long), accessFlags := 18, slot := 9, constantValue := 0 }, { name := "flagStore", type := (.array .long), accessFlags := 18, slot := 10, constantValue := 0 }, { name := "viewValue", type := (.array .int), accessFlags := 18, slot := 11, constantValue := 0 }, { name := "viewFlags", type := (.array .int), accessFlags := 18, slot := 12, constantValue := 0 }, { name := "viewKeys", type := (.array .int), accessFlags := 18, slot := 13, constantValue := 0 }, { name := "seq", type := (.array .int), accessFlags := 18, slot := 14, constantValue := 0 }, { name := "low", type := (.array .int), accessFlags := 18, slot := 15, constantValue := 0 }, { name := "acked", type := (.array .int), accessFlags := 18, slot := 16, constantValue := 0 }, { name := "received", type := (.array .int), accessFlags := 18, slot := 17, constantValue := 0 }, { name := "ring", type := (.array .long), accessFlags := 18, slot := 18, constantValue := 0 }, { name := "msgKind", type := (.array .int), accessFlags := 18, slot := 19, constantValue := 0 }, { name := "msgFrom", type := (.array .int), accessFlags := 18, slot := 20, constantValue := 0 }, { name := "msgTo", type := (.array .int), accessFlags := 18, slot := 21, constantValue := 0 }, { name := "msgStart", type := (.array .int), accessFlags := 18, slot := 22, constantValue := 0 }, { name := "msgEnd", type := (.array .int), accessFlags := 18, slot := 23, constantValue := 0 }, { name := "msgContext", type := (.array .long), accessFlags := 18, slot := 24, constantValue := 0 }, { name := "msgDelta", type := (.array .long), accessFlags := 18, slot := 25, constantValue := 0 }]
  methods := #[k2m0, k2m1, k2m2, k2m3, k2m4, k2m5, k2m6, k2m7, k2m8, k2m9, k2m10, k2m11, k2m12, k2m13, k2m14, k2m15, k2m16, k2m17, k2m18, k2m19, k2m20, k2m21, k2m22, k2m23, k2m24, k2m25, k2m26, k2m27, k2m28, k2m29, k2m30, k2m31, k2m32, k2m33, k2m34, k2m35, k2m36, k2m37, k2m38, k2m39, k2m40]
  instanceTypes := #[.int, .int, .int, (.array .int), (.array .int), (.array .int), (.array .long), (.array .long), (.array .int), (.array .long), (.array .long), (.array .int), (.array .int), (.array .int), (.array .int), (.array .int), (.array .int), (.array .int), (.array .long), (.array .int), (.array .int), (.array .int), (.array .int), (.array .int), (.array .long), (.array .long)]
  staticTypes := #[.int, .int, .int, .int, .int, .int, .int, .int, .int, .int, .int, .int, .int, .int, .int, .int, .int, .int, .int, .int, .int, .int, .int, .int, .int, .int, .int, .int, .int]
  resolved := Array.replicate 266 none
  statics := none }

def pool3 : Array CpInfo := pool [(1, u "java/lang/Cloneable"), (0, .class_ 1), (0, u "java/lang/Object"), (0, .class_ 3)] 3

/-- java/lang/Cloneable -/
def k3 : Class := { plain "java/lang/Cloneable" (some 0) with
  accessFlags := 1537
  interfaces := #[]
  cf := some (fileOf pool3 2 #[] #[] 1537 4 #[] #[])
  fields := #[]
  methods := #[]
  instanceTypes := #[]
  staticTypes := #[]
  resolved := Array.replicate 8 none
  statics := none }

def pool4 : Array CpInfo := pool [(1, u "java/io/Serializable"), (0, .class_ 1), (0, u "java/lang/Object"), (0, .class_ 3)] 3

/-- java/io/Serializable -/
def k4 : Class := { plain "java/io/Serializable" (some 0) with
  accessFlags := 1537
  interfaces := #[]
  cf := some (fileOf pool4 2 #[] #[] 1537 4 #[] #[])
  fields := #[]
  methods := #[]
  instanceTypes := #[]
  staticTypes := #[]
  resolved := Array.replicate 8 none
  statics := none }

/-- the primitive byte -/
def k5 : Class := { plain "byte" none with kind := .primitive 'B', accessFlags := 0x411 }
/-- [B -/
def k6 : Class := { plain "[B" (some 0) with kind := .array 5 .byte, interfaces := #[3, 4], accessFlags := 1041 }

/-- the primitive int -/
def k7 : Class := { plain "int" none with kind := .primitive 'I', accessFlags := 0x411 }
/-- [I -/
def k8 : Class := { plain "[I" (some 0) with kind := .array 7 .int, interfaces := #[3, 4], accessFlags := 1041 }

/-- the primitive long -/
def k9 : Class := { plain "long" none with kind := .primitive 'J', accessFlags := 0x411 }
/-- [J -/
def k10 : Class := { plain "[J" (some 0) with kind := .array 9 .long, interfaces := #[3, 4], accessFlags := 1041 }

def heap : Heap := #[{ cls := 8, slots := #[.int 0, .int 3, .int 5, .int 7, .int 1, .int 2], vm := .none }]
def classes : Array Class := #[k0, k1, k2, k3, k4, k5, k6, k7, k8, k9, k10]
def interned : List (Array UInt16 × Addr) := []
def slotsUsed : Nat := 6
def theMethod : MethodId := ⟨1, 3⟩
def args0 : Array Value := #[.ref 0]
def aboutOver (below : List Frame) : State where
  vm := { classes := classes, interned := interned.toArray }
  heap := heap
  slotsUsed := slotsUsed
  threads := #[{ frames := .invoking theMethod args0 :: below }]
def below0 : List Frame := [.native { method := ⟨0, 0⟩, args := #[] }]
def about1 : State := aboutOver below0
def p0 : Program := .bare "" "" ""
def e0 : Env := launch0.env 0 0 0
theorem w_frames : about1.frames = Frame.invoking theMethod args0 :: below0 := rfl
set_option maxRecDepth 65536 in
theorem w_args : argsFit about1.vm theMethod args0 = true := by decide +kernel
set_option maxRecDepth 65536 in
theorem w_heap : heapFits about1 = true := by decide +kernel
set_option maxRecDepth 65536 in
theorem w_runnable : about1.curStatus? = some .runnable := by decide +kernel
set_option maxRecDepth 65536 in
theorem w_alone : about1.alone = true := by decide +kernel
set_option maxRecDepth 65536 in
theorem w_named : about1.methodNamed? x = some theMethod := by decide +kernel
set_option maxRecDepth 65536 in
theorem w_hears : about1.hears theMethod below0 = true := by decide +kernel
set_option maxRecDepth 65536 in
theorem w_ripe : about1.ripe theMethod args0 below0 = true := by decide +kernel
theorem w_running : about1.status = .running := rfl
set_option maxRecDepth 65536 in
theorem w_room : about1.hasRoom e0.platform room_1 = true :=
  launch0.hasRoom_least _ room_1 (by decide +kernel) (by decide +kernel) (by decide +kernel) (by decide +kernel) (by decide +kernel) (by decide +kernel)
theorem allAtoms_all (ts : List Jvm.Cond) (a : Array Jvm.Value) (st : Jvm.State) : (allAtoms ts).before a st = ts.all (fun c => c.before a st) := by
  induction ts with
  | nil => rfl
  | cons c t ih =>
    show (Jvm.Cond.and c (allAtoms t)).before a st = _
    rw [Jvm.Cond.before_and, ih, List.all_cons]
def words1 : List Jvm.Cond := Jvm.Cond.code x code maxLocals ret :: tables_1
/-- a 'code' word, met by the world's own term for the bytes: nothing is compared byte by byte -/
theorem code_word {y : MethodName} {bytes : ByteArray} {mx : Nat} {rt : Option FieldType} {a : Array Value} {s : State} {m : MethodId} {meth : Method} {c : Code} (h1 : s.methodNamed? y = some m) (h2 : s.vm.method? m = some meth) (h3 : meth.code = some c) (h4 : c.code = bytes)
    (h5 : (c.maxLocals == mx && c.exceptionTable.isEmpty && decide (c.maxStack ≤ mostOperands) && decide (meth.sig.returnType = rt) && !meth.locks && decide (parseMethodDescriptor y.desc = some meth.sig)) = true) : (Jvm.Cond.code y bytes mx rt).before a s = true := by
  simp only [Bool.and_eq_true, beq_iff_eq, Bool.not_eq_true', decide_eq_true_eq] at h5
  obtain ⟨⟨⟨⟨⟨g1, g2⟩, g3⟩, g4⟩, g5⟩, g6⟩ := h5
  simp [Cond.before, Cond.holds, Cond.value, h1, h2, h3, h4, g1, g2, g3, g4, g5, g6]
def isCode : Jvm.Cond → Bool
  | .code _ _ _ _ => true
  | _ => false
theorem all_split {L : List Jvm.Cond} {P : Jvm.Cond → Bool} (h1 : L.all (fun c => isCode c || P c) = true) (h2 : ∀ c ∈ L.filter isCode, P c = true) : L.all P = true := by
  refine List.all_eq_true.mpr fun c hc => ?_
  have h := List.all_eq_true.mp h1 c hc
  rcases Bool.eq_false_or_eq_true (isCode c) with hi | hi
  · exact h2 c (List.mem_filter.mpr ⟨hc, hi⟩)
  · simpa [hi] using h
set_option maxRecDepth 65536 in
theorem w_c0 : (Jvm.Cond.code x code maxLocals ret).before args0 about1 = true := code_word (m := ⟨1, 3⟩) (meth := k1m3) (c := k1c3) (by decide +kernel) rfl rfl rfl (by decide +kernel)
set_option maxRecDepth 65536 in
theorem w_c1 : (Jvm.Cond.code ({ cls := "DeltaCausalMap", name := "<init>", desc := "(III)V" } : Jvm.MethodName) prog_1_method_1_code (4 : Nat) (Option.none : Option Jvm.ClassFile.FieldType)).before args0 about1 = true := code_word (m := ⟨2, 0⟩) (meth := k2m0) (c := k2c0) (by decide +kernel) rfl rfl rfl (by decide +kernel)
set_option maxRecDepth 65536 in
theorem w_c2 : (Jvm.Cond.code ({ cls := "java/lang/Object", name := "<init>", desc := "()V" } : Jvm.MethodName) object_method_1_code (1 : Nat) (Option.none : Option Jvm.ClassFile.FieldType)).before args0 about1 = true := code_word (m := ⟨0, 0⟩) (meth := k0m0) (c := k0c0) (by decide +kernel) rfl rfl rfl (by decide +kernel)
set_option maxRecDepth 65536 in
theorem w_c3 : (Jvm.Cond.code ({ cls := "DeltaCausalMap", name := "clamp", desc := "(III)I" } : Jvm.MethodName) prog_1_method_45_code (4 : Nat) (Option.some Jvm.ClassFile.FieldType.int)).before args0 about1 = true := code_word (m := ⟨2, 40⟩) (meth := k2m40) (c := k2c40) (by decide +kernel) rfl rfl rfl (by decide +kernel)
set_option maxRecDepth 65536 in
theorem w_c4 : (Jvm.Cond.code ({ cls := "DeltaCausalMap", name := "removeKey", desc := "(II)I" } : Jvm.MethodName) prog_1_method_5_code (3 : Nat) (Option.some Jvm.ClassFile.FieldType.int)).before args0 about1 = true := code_word (m := ⟨2, 4⟩) (meth := k2m4) (c := k2c4) (by decide +kernel) rfl rfl rfl (by decide +kernel)
set_option maxRecDepth 65536 in
theorem w_c5 : (Jvm.Cond.code ({ cls := "DeltaCausalMap", name := "mutate", desc := "(III)I" } : Jvm.MethodName) prog_1_method_6_code (5 : Nat) (Option.some Jvm.ClassFile.FieldType.int)).before args0 about1 = true := code_word (m := ⟨2, 5⟩) (meth := k2m5) (c := k2c5) (by decide +kernel) rfl rfl rfl (by decide +kernel)
set_option maxRecDepth 65536 in
theorem w_c6 : (Jvm.Cond.code ({ cls := "DeltaCausalMap", name := "refuseTarget", desc := "(II)I" } : Jvm.MethodName) prog_1_method_7_code (3 : Nat) (Option.some Jvm.ClassFile.FieldType.int)).before args0 about1 = true := code_word (m := ⟨2, 6⟩) (meth := k2m6) (c := k2c6) (by decide +kernel) rfl rfl rfl (by decide +kernel)
set_option maxRecDepth 65536 in
theorem w_c7 : (Jvm.Cond.code ({ cls := "DeltaCausalMap", name := "validReplica", desc := "(I)Z" } : Jvm.MethodName) prog_1_method_42_code (2 : Nat) (Option.some Jvm.ClassFile.FieldType.boolean)).before args0 about1 = true := code_word (m := ⟨2, 37⟩) (meth := k2m37) (c := k2c37) (by decide +kernel) rfl rfl rfl (by decide +kernel)
set_option maxRecDepth 65536 in
theorem w_c8 : (Jvm.Cond.code ({ cls := "DeltaCausalMap", name := "validKey", desc := "(I)Z" } : Jvm.MethodName) prog_1_method_43_code (2 : Nat) (Option.some Jvm.ClassFile.FieldType.boolean)).before args0 about1 = true := code_word (m := ⟨2, 38⟩) (meth := k2m38) (c := k2c38) (by decide +kernel) rfl rfl rfl (by decide +kernel)
set_option maxRecDepth 65536 in
theorem w_c9 : (Jvm.Cond.code ({ cls := "DeltaCausalMap", name := "exhausted", desc := "(I)Z" } : Jvm.MethodName) prog_1_method_8_code (2 : Nat) (Option.some Jvm.ClassFile.FieldType.boolean)).before args0 about1 = true := code_word (m := ⟨2, 7⟩) (meth := k2m7) (c := k2c7) (by decide +kernel) rfl rfl rfl (by decide +kernel)
set_option maxRecDepth 65536 in
theorem w_c10 : (Jvm.Cond.code ({ cls := "DeltaCausalMap", name := "makeOperation", desc := "(IIII)I" } : Jvm.MethodName) prog_1_method_9_code (11 : Nat) (Option.some Jvm.ClassFile.FieldType.int)).before args0 about1 = true := code_word (m := ⟨2, 8⟩) (meth := k2m8) (c := k2c8) (by decide +kernel) rfl rfl rfl (by decide +kernel)
set_option maxRecDepth 65536 in
theorem w_c11 : (Jvm.Cond.code ({ cls := "DeltaCausalMap", name := "coverFor", desc := "(III)J" } : Jvm.MethodName) prog_1_method_10_code (5 : Nat) (Option.some Jvm.ClassFile.FieldType.long)).before args0 about1 = true := code_word (m := ⟨2, 9⟩) (meth := k2m9) (c := k2c9) (by decide +kernel) rfl rfl rfl (by decide +kernel)
set_option maxRecDepth 65536 in
theorem w_c12 : (Jvm.Cond.code ({ cls := "DeltaCausalMap", name := "storeIndex", desc := "(II)I" } : Jvm.MethodName) prog_1_method_15_code (3 : Nat) (Option.some Jvm.ClassFile.FieldType.int)).before args0 about1 = true := code_word (m := ⟨2, 14⟩) (meth := k2m14) (c := k2c14) (by decide +kernel) rfl rfl rfl (by decide +kernel)
set_option maxRecDepth 65536 in
theorem w_c13 : (Jvm.Cond.code ({ cls := "DeltaCausalMap", name := "join", desc := "(IJ)V" } : Jvm.MethodName) prog_1_method_11_code (7 : Nat) (Option.none : Option Jvm.ClassFile.FieldType)).before args0 about1 = true := code_word (m := ⟨2, 10⟩) (meth := k2m10) (c := k2c10) (by decide +kernel) rfl rfl rfl (by decide +kernel)
set_option maxRecDepth 65536 in
theorem w_c14 : (Jvm.Cond.code ({ cls := "DeltaCausalMap", name := "addDot", desc := "(II)V" } : Jvm.MethodName) prog_1_method_12_code (7 : Nat) (Option.none : Option Jvm.ClassFile.FieldType)).before args0 about1 = true := code_word (m := ⟨2, 11⟩) (meth := k2m11) (c := k2c11) (by decide +kernel) rfl rfl rfl (by decide +kernel)
set_option maxRecDepth 65536 in
theorem w_c15 : (Jvm.Cond.code ({ cls := "DeltaCausalMap", name := "pruneStores", desc := "(IJ)V" } : Jvm.MethodName) prog_1_method_13_code (7 : Nat) (Option.none : Option Jvm.ClassFile.FieldType)).before args0 about1 = true := code_word (m := ⟨2, 12⟩) (meth := k2m12) (c := k2c12) (by decide +kernel) rfl rfl rfl (by decide +kernel)
set_option maxRecDepth 65536 in
theorem w_c16 : (Jvm.Cond.code ({ cls := "DeltaCausalMap", name := "recordChange", desc := "(IJ)V" } : Jvm.MethodName) prog_1_method_14_code (4 : Nat) (Option.none : Option Jvm.ClassFile.FieldType)).before args0 about1 = true := code_word (m := ⟨2, 13⟩) (meth := k2m13) (c := k2c13) (by decide +kernel) rfl rfl rfl (by decide +kernel)
set_option maxRecDepth 65536 in
theorem w_c17 : (Jvm.Cond.code ({ cls := "DeltaCausalMap", name := "refreshView", desc := "(I)V" } : Jvm.MethodName) prog_1_method_16_code (9 : Nat) (Option.none : Option Jvm.ClassFile.FieldType)).before args0 about1 = true := code_word (m := ⟨2, 15⟩) (meth := k2m15) (c := k2c15) (by decide +kernel) rfl rfl rfl (by decide +kernel)
set_option maxRecDepth 65536 in
theorem w_c18 : (Jvm.Cond.code ({ cls := "DeltaCausalMap", name := "refreshRegister", desc := "(IIJ)V" } : Jvm.MethodName) prog_1_method_17_code (6 : Nat) (Option.none : Option Jvm.ClassFile.FieldType)).before args0 about1 = true := code_word (m := ⟨2, 16⟩) (meth := k2m16) (c := k2c16) (by decide +kernel) rfl rfl rfl (by decide +kernel)
set_option maxRecDepth 65536 in
theorem w_c19 : (Jvm.Cond.code ({ cls := "DeltaCausalMap", name := "valueInSegment", desc := "(JI)I" } : Jvm.MethodName) prog_1_method_18_code (6 : Nat) (Option.some Jvm.ClassFile.FieldType.int)).before args0 about1 = true := code_word (m := ⟨2, 17⟩) (meth := k2m17) (c := k2c17) (by decide +kernel) rfl rfl rfl (by decide +kernel)
set_option maxRecDepth 65536 in
theorem w_c20 : (Jvm.Cond.code ({ cls := "DeltaCausalMap", name := "trim", desc := "(I)V" } : Jvm.MethodName) prog_1_method_19_code (3 : Nat) (Option.none : Option Jvm.ClassFile.FieldType)).before args0 about1 = true := code_word (m := ⟨2, 18⟩) (meth := k2m18) (c := k2c18) (by decide +kernel) rfl rfl rfl (by decide +kernel)
set_option maxRecDepth 65536 in
theorem w_c21 : (Jvm.Cond.code ({ cls := "DeltaCausalMap", name := "leastAck", desc := "(I)I" } : Jvm.MethodName) prog_1_method_20_code (4 : Nat) (Option.some Jvm.ClassFile.FieldType.int)).before args0 about1 = true := code_word (m := ⟨2, 19⟩) (meth := k2m19) (c := k2c19) (by decide +kernel) rfl rfl rfl (by decide +kernel)
set_option maxRecDepth 65536 in
theorem w_c22 : (Jvm.Cond.code ({ cls := "DeltaCausalMapL6", name := "get", desc := "(JI)I" } : Jvm.MethodName) method_2_code (3 : Nat) (Option.some Jvm.ClassFile.FieldType.int)).before args0 about1 = true := code_word (m := ⟨1, 1⟩) (meth := k1m1) (c := k1c1) (by decide +kernel) rfl rfl rfl (by decide +kernel)
set_option maxRecDepth 65536 in
theorem w_c23 : (Jvm.Cond.code ({ cls := "DeltaCausalMapL6", name := "ok", desc := "(LDeltaCausalMap;JJI)Z" } : Jvm.MethodName) method_3_code (13 : Nat) (Option.some Jvm.ClassFile.FieldType.boolean)).before args0 about1 = true := code_word (m := ⟨1, 2⟩) (meth := k1m2) (c := k1c2) (by decide +kernel) rfl rfl rfl (by decide +kernel)
set_option maxRecDepth 65536 in
theorem w_c24 : (Jvm.Cond.code ({ cls := "DeltaCausalMap", name := "messageField", desc := "(II)I" } : Jvm.MethodName) prog_1_method_39_code (4 : Nat) (Option.some Jvm.ClassFile.FieldType.int)).before args0 about1 = true := code_word (m := ⟨2, 35⟩) (meth := k2m35) (c := k2c35) (by decide +kernel) rfl rfl rfl (by decide +kernel)
set_option maxRecDepth 65536 in
theorem w_c25 : (Jvm.Cond.code ({ cls := "DeltaCausalMap", name := "validSlot", desc := "(I)Z" } : Jvm.MethodName) prog_1_method_44_code (2 : Nat) (Option.some Jvm.ClassFile.FieldType.boolean)).before args0 about1 = true := code_word (m := ⟨2, 39⟩) (meth := k2m39) (c := k2c39) (by decide +kernel) rfl rfl rfl (by decide +kernel)
set_option maxRecDepth 65536 in
theorem w_c26 : (Jvm.Cond.code ({ cls := "DeltaCausalMap", name := "protocol", desc := "(III)I" } : Jvm.MethodName) prog_1_method_38_code (4 : Nat) (Option.some Jvm.ClassFile.FieldType.int)).before args0 about1 = true := code_word (m := ⟨2, 34⟩) (meth := k2m34) (c := k2c34) (by decide +kernel) rfl rfl rfl (by decide +kernel)
set_option maxRecDepth 65536 in
theorem w_c27 : (Jvm.Cond.code ({ cls := "DeltaCausalMap", name := "known", desc := "(II)I" } : Jvm.MethodName) prog_1_method_37_code (3 : Nat) (Option.some Jvm.ClassFile.FieldType.int)).before args0 about1 = true := code_word (m := ⟨2, 33⟩) (meth := k2m33) (c := k2c33) (by decide +kernel) rfl rfl rfl (by decide +kernel)
set_option maxRecDepth 65536 in
theorem w_c28 : (Jvm.Cond.code ({ cls := "DeltaCausalMap", name := "enable", desc := "(II)I" } : Jvm.MethodName) prog_1_method_3_code (3 : Nat) (Option.some Jvm.ClassFile.FieldType.int)).before args0 about1 = true := code_word (m := ⟨2, 2⟩) (meth := k2m2) (c := k2c2) (by decide +kernel) rfl rfl rfl (by decide +kernel)
set_option maxRecDepth 65536 in
theorem w_c29 : (Jvm.Cond.code ({ cls := "DeltaCausalMap", name := "write", desc := "(III)I" } : Jvm.MethodName) prog_1_method_2_code (5 : Nat) (Option.some Jvm.ClassFile.FieldType.int)).before args0 about1 = true := code_word (m := ⟨2, 1⟩) (meth := k2m1) (c := k2c1) (by decide +kernel) rfl rfl rfl (by decide +kernel)
set_option maxRecDepth 65536 in
theorem w_c30 : (Jvm.Cond.code ({ cls := "DeltaCausalMap", name := "disable", desc := "(II)I" } : Jvm.MethodName) prog_1_method_4_code (3 : Nat) (Option.some Jvm.ClassFile.FieldType.int)).before args0 about1 = true := code_word (m := ⟨2, 3⟩) (meth := k2m3) (c := k2c3) (by decide +kernel) rfl rfl rfl (by decide +kernel)
set_option maxRecDepth 65536 in
theorem w_c31 : (Jvm.Cond.code ({ cls := "DeltaCausalMap", name := "drop", desc := "(I)Z" } : Jvm.MethodName) prog_1_method_27_code (2 : Nat) (Option.some Jvm.ClassFile.FieldType.boolean)).before args0 about1 = true := code_word (m := ⟨2, 26⟩) (meth := k2m26) (c := k2c26) (by decide +kernel) rfl rfl rfl (by decide +kernel)
set_option maxRecDepth 65536 in
theorem w_c32 : (Jvm.Cond.code ({ cls := "DeltaCausalMap", name := "occupied", desc := "(I)Z" } : Jvm.MethodName) prog_1_method_33_code (2 : Nat) (Option.some Jvm.ClassFile.FieldType.boolean)).before args0 about1 = true := code_word (m := ⟨2, 32⟩) (meth := k2m32) (c := k2c32) (by decide +kernel) rfl rfl rfl (by decide +kernel)
set_option maxRecDepth 65536 in
theorem w_c33 : (Jvm.Cond.code ({ cls := "DeltaCausalMap", name := "duplicate", desc := "(I)I" } : Jvm.MethodName) prog_1_method_28_code (3 : Nat) (Option.some Jvm.ClassFile.FieldType.int)).before args0 about1 = true := code_word (m := ⟨2, 27⟩) (meth := k2m27) (c := k2c27) (by decide +kernel) rfl rfl rfl (by decide +kernel)
set_option maxRecDepth 65536 in
theorem w_c34 : (Jvm.Cond.code ({ cls := "DeltaCausalMap", name := "deliver", desc := "(I)I" } : Jvm.MethodName) prog_1_method_23_code (2 : Nat) (Option.some Jvm.ClassFile.FieldType.int)).before args0 about1 = true := code_word (m := ⟨2, 22⟩) (meth := k2m22) (c := k2c22) (by decide +kernel) rfl rfl rfl (by decide +kernel)
set_option maxRecDepth 65536 in
theorem w_c35 : (Jvm.Cond.code ({ cls := "DeltaCausalMap", name := "send", desc := "(II)I" } : Jvm.MethodName) prog_1_method_22_code (7 : Nat) (Option.some Jvm.ClassFile.FieldType.int)).before args0 about1 = true := code_word (m := ⟨2, 21⟩) (meth := k2m21) (c := k2c21) (by decide +kernel) rfl rfl rfl (by decide +kernel)
set_option maxRecDepth 65536 in
theorem w_c36 : (Jvm.Cond.code ({ cls := "DeltaCausalMap", name := "freeSlot", desc := "()I" } : Jvm.MethodName) prog_1_method_32_code (2 : Nat) (Option.some Jvm.ClassFile.FieldType.int)).before args0 about1 = true := code_word (m := ⟨2, 31⟩) (meth := k2m31) (c := k2c31) (by decide +kernel) rfl rfl rfl (by decide +kernel)
set_option maxRecDepth 65536 in
theorem w_c37 : (Jvm.Cond.code ({ cls := "DeltaCausalMap", name := "deltaSince", desc := "(II)J" } : Jvm.MethodName) prog_1_method_21_code (7 : Nat) (Option.some Jvm.ClassFile.FieldType.long)).before args0 about1 = true := code_word (m := ⟨2, 20⟩) (meth := k2m20) (c := k2c20) (by decide +kernel) rfl rfl rfl (by decide +kernel)
set_option maxRecDepth 65536 in
theorem w_c38 : (Jvm.Cond.code ({ cls := "DeltaCausalMap", name := "setHeader", desc := "(IIIIII)V" } : Jvm.MethodName) prog_1_method_29_code (7 : Nat) (Option.none : Option Jvm.ClassFile.FieldType)).before args0 about1 = true := code_word (m := ⟨2, 28⟩) (meth := k2m28) (c := k2c28) (by decide +kernel) rfl rfl rfl (by decide +kernel)
set_option maxRecDepth 65536 in
theorem w_c39 : (Jvm.Cond.code ({ cls := "DeltaCausalMap", name := "setPayload", desc := "(IJJ)V" } : Jvm.MethodName) prog_1_method_30_code (6 : Nat) (Option.none : Option Jvm.ClassFile.FieldType)).before args0 about1 = true := code_word (m := ⟨2, 29⟩) (meth := k2m29) (c := k2c29) (by decide +kernel) rfl rfl rfl (by decide +kernel)
set_option maxRecDepth 65536 in
theorem w_c40 : (Jvm.Cond.code ({ cls := "DeltaCausalMap", name := "headerOrCount", desc := "(II)I" } : Jvm.MethodName) prog_1_method_40_code (3 : Nat) (Option.some Jvm.ClassFile.FieldType.int)).before args0 about1 = true := code_word (m := ⟨2, 36⟩) (meth := k2m36) (c := k2c36) (by decide +kernel) rfl rfl rfl (by decide +kernel)
set_option maxRecDepth 65536 in
theorem w_c41 : (Jvm.Cond.code ({ cls := "DeltaCausalMap", name := "clearSlot", desc := "(I)V" } : Jvm.MethodName) prog_1_method_31_code (2 : Nat) (Option.none : Option Jvm.ClassFile.FieldType)).before args0 about1 = true := code_word (m := ⟨2, 30⟩) (meth := k2m30) (c := k2c30) (by decide +kernel) rfl rfl rfl (by decide +kernel)
set_option maxRecDepth 65536 in
theorem w_c42 : (Jvm.Cond.code ({ cls := "DeltaCausalMap", name := "takeState", desc := "(I)I" } : Jvm.MethodName) prog_1_method_24_code (11 : Nat) (Option.some Jvm.ClassFile.FieldType.int)).before args0 about1 = true := code_word (m := ⟨2, 23⟩) (meth := k2m23) (c := k2c23) (by decide +kernel) rfl rfl rfl (by decide +kernel)
set_option maxRecDepth 65536 in
theorem w_c43 : (Jvm.Cond.code ({ cls := "DeltaCausalMap", name := "placeAck", desc := "(III)V" } : Jvm.MethodName) prog_1_method_25_code (5 : Nat) (Option.none : Option Jvm.ClassFile.FieldType)).before args0 about1 = true := code_word (m := ⟨2, 24⟩) (meth := k2m24) (c := k2c24) (by decide +kernel) rfl rfl rfl (by decide +kernel)
set_option maxRecDepth 65536 in
theorem w_c44 : (Jvm.Cond.code ({ cls := "DeltaCausalMap", name := "takeAck", desc := "(I)I" } : Jvm.MethodName) prog_1_method_26_code (6 : Nat) (Option.some Jvm.ClassFile.FieldType.int)).before args0 about1 = true := code_word (m := ⟨2, 25⟩) (meth := k2m25) (c := k2c25) (by decide +kernel) rfl rfl rfl (by decide +kernel)
def codes1 : List Jvm.Cond := [Jvm.Cond.code x code maxLocals ret, Jvm.Cond.code ({ cls := "DeltaCausalMap", name := "<init>", desc := "(III)V" } : Jvm.MethodName) prog_1_method_1_code (4 : Nat) (Option.none : Option Jvm.ClassFile.FieldType), Jvm.Cond.code ({ cls := "java/lang/Object", name := "<init>", desc := "()V" } : Jvm.MethodName) object_method_1_code (1 : Nat) (Option.none : Option Jvm.ClassFile.FieldType), Jvm.Cond.code ({ cls := "DeltaCausalMap", name := "clamp", desc := "(III)I" } : Jvm.MethodName) prog_1_method_45_code (4 : Nat) (Option.some Jvm.ClassFile.FieldType.int), Jvm.Cond.code ({ cls := "DeltaCausalMap", name := "removeKey", desc := "(II)I" } : Jvm.MethodName) prog_1_method_5_code (3 : Nat) (Option.some Jvm.ClassFile.FieldType.int), Jvm.Cond.code ({ cls := "DeltaCausalMap", name := "mutate", desc := "(III)I" } : Jvm.MethodName) prog_1_method_6_code (5 : Nat) (Option.some Jvm.ClassFile.FieldType.int), Jvm.Cond.code ({ cls := "DeltaCausalMap", name := "refuseTarget", desc := "(II)I" } : Jvm.MethodName) prog_1_method_7_code (3 : Nat) (Option.some Jvm.ClassFile.FieldType.int), Jvm.Cond.code ({ cls := "DeltaCausalMap", name := "validReplica", desc := "(I)Z" } : Jvm.MethodName) prog_1_method_42_code (2 : Nat) (Option.some Jvm.ClassFile.FieldType.boolean), Jvm.Cond.code ({ cls := "DeltaCausalMap", name := "validKey", desc := "(I)Z" } : Jvm.MethodName) prog_1_method_43_code (2 : Nat) (Option.some Jvm.ClassFile.FieldType.boolean), Jvm.Cond.code ({ cls := "DeltaCausalMap", name := "exhausted", desc := "(I)Z" } : Jvm.MethodName) prog_1_method_8_code (2 : Nat) (Option.some Jvm.ClassFile.FieldType.boolean), Jvm.Cond.code ({ cls := "DeltaCausalMap", name := "makeOperation", desc := "(IIII)I" } : Jvm.MethodName) prog_1_method_9_code (11 : Nat) (Option.some Jvm.ClassFile.FieldType.int), Jvm.Cond.code ({ cls := "DeltaCausalMap", name := "coverFor", desc := "(III)J" } : Jvm.MethodName) prog_1_method_10_code (5 : Nat) (Option.some Jvm.ClassFile.FieldType.long), Jvm.Cond.code ({ cls := "DeltaCausalMap", name := "storeIndex", desc := "(II)I" } : Jvm.MethodName) prog_1_method_15_code (3 : Nat) (Option.some Jvm.ClassFile.FieldType.int), Jvm.Cond.code ({ cls := "DeltaCausalMap", name := "join", desc := "(IJ)V" } : Jvm.MethodName) prog_1_method_11_code (7 : Nat) (Option.none : Option Jvm.ClassFile.FieldType), Jvm.Cond.code ({ cls := "DeltaCausalMap", name := "addDot", desc := "(II)V" } : Jvm.MethodName) prog_1_method_12_code (7 : Nat) (Option.none : Option Jvm.ClassFile.FieldType), Jvm.Cond.code ({ cls := "DeltaCausalMap", name := "pruneStores", desc := "(IJ)V" } : Jvm.MethodName) prog_1_method_13_code (7 : Nat) (Option.none : Option Jvm.ClassFile.FieldType), Jvm.Cond.code ({ cls := "DeltaCausalMap", name := "recordChange", desc := "(IJ)V" } : Jvm.MethodName) prog_1_method_14_code (4 : Nat) (Option.none : Option Jvm.ClassFile.FieldType), Jvm.Cond.code ({ cls := "DeltaCausalMap", name := "refreshView", desc := "(I)V" } : Jvm.MethodName) prog_1_method_16_code (9 : Nat) (Option.none : Option Jvm.ClassFile.FieldType), Jvm.Cond.code ({ cls := "DeltaCausalMap", name := "refreshRegister", desc := "(IIJ)V" } : Jvm.MethodName) prog_1_method_17_code (6 : Nat) (Option.none : Option Jvm.ClassFile.FieldType), Jvm.Cond.code ({ cls := "DeltaCausalMap", name := "valueInSegment", desc := "(JI)I" } : Jvm.MethodName) prog_1_method_18_code (6 : Nat) (Option.some Jvm.ClassFile.FieldType.int), Jvm.Cond.code ({ cls := "DeltaCausalMap", name := "trim", desc := "(I)V" } : Jvm.MethodName) prog_1_method_19_code (3 : Nat) (Option.none : Option Jvm.ClassFile.FieldType), Jvm.Cond.code ({ cls := "DeltaCausalMap", name := "leastAck", desc := "(I)I" } : Jvm.MethodName) prog_1_method_20_code (4 : Nat) (Option.some Jvm.ClassFile.FieldType.int), Jvm.Cond.code ({ cls := "DeltaCausalMapL6", name := "get", desc := "(JI)I" } : Jvm.MethodName) method_2_code (3 : Nat) (Option.some Jvm.ClassFile.FieldType.int), Jvm.Cond.code ({ cls := "DeltaCausalMapL6", name := "ok", desc := "(LDeltaCausalMap;JJI)Z" } : Jvm.MethodName) method_3_code (13 : Nat) (Option.some Jvm.ClassFile.FieldType.boolean), Jvm.Cond.code ({ cls := "DeltaCausalMap", name := "messageField", desc := "(II)I" } : Jvm.MethodName) prog_1_method_39_code (4 : Nat) (Option.some Jvm.ClassFile.FieldType.int), Jvm.Cond.code ({ cls := "DeltaCausalMap", name := "validSlot", desc := "(I)Z" } : Jvm.MethodName) prog_1_method_44_code (2 : Nat) (Option.some Jvm.ClassFile.FieldType.boolean), Jvm.Cond.code ({ cls := "DeltaCausalMap", name := "protocol", desc := "(III)I" } : Jvm.MethodName) prog_1_method_38_code (4 : Nat) (Option.some Jvm.ClassFile.FieldType.int), Jvm.Cond.code ({ cls := "DeltaCausalMap", name := "known", desc := "(II)I" } : Jvm.MethodName) prog_1_method_37_code (3 : Nat) (Option.some Jvm.ClassFile.FieldType.int), Jvm.Cond.code ({ cls := "DeltaCausalMap", name := "enable", desc := "(II)I" } : Jvm.MethodName) prog_1_method_3_code (3 : Nat) (Option.some Jvm.ClassFile.FieldType.int), Jvm.Cond.code ({ cls := "DeltaCausalMap", name := "write", desc := "(III)I" } : Jvm.MethodName) prog_1_method_2_code (5 : Nat) (Option.some Jvm.ClassFile.FieldType.int), Jvm.Cond.code ({ cls := "DeltaCausalMap", name := "disable", desc := "(II)I" } : Jvm.MethodName) prog_1_method_4_code (3 : Nat) (Option.some Jvm.ClassFile.FieldType.int), Jvm.Cond.code ({ cls := "DeltaCausalMap", name := "drop", desc := "(I)Z" } : Jvm.MethodName) prog_1_method_27_code (2 : Nat) (Option.some Jvm.ClassFile.FieldType.boolean), Jvm.Cond.code ({ cls := "DeltaCausalMap", name := "occupied", desc := "(I)Z" } : Jvm.MethodName) prog_1_method_33_code (2 : Nat) (Option.some Jvm.ClassFile.FieldType.boolean), Jvm.Cond.code ({ cls := "DeltaCausalMap", name := "duplicate", desc := "(I)I" } : Jvm.MethodName) prog_1_method_28_code (3 : Nat) (Option.some Jvm.ClassFile.FieldType.int), Jvm.Cond.code ({ cls := "DeltaCausalMap", name := "deliver", desc := "(I)I" } : Jvm.MethodName) prog_1_method_23_code (2 : Nat) (Option.some Jvm.ClassFile.FieldType.int), Jvm.Cond.code ({ cls := "DeltaCausalMap", name := "send", desc := "(II)I" } : Jvm.MethodName) prog_1_method_22_code (7 : Nat) (Option.some Jvm.ClassFile.FieldType.int), Jvm.Cond.code ({ cls := "DeltaCausalMap", name := "freeSlot", desc := "()I" } : Jvm.MethodName) prog_1_method_32_code (2 : Nat) (Option.some Jvm.ClassFile.FieldType.int), Jvm.Cond.code ({ cls := "DeltaCausalMap", name := "deltaSince", desc := "(II)J" } : Jvm.MethodName) prog_1_method_21_code (7 : Nat) (Option.some Jvm.ClassFile.FieldType.long), Jvm.Cond.code ({ cls := "DeltaCausalMap", name := "setHeader", desc := "(IIIIII)V" } : Jvm.MethodName) prog_1_method_29_code (7 : Nat) (Option.none : Option Jvm.ClassFile.FieldType), Jvm.Cond.code ({ cls := "DeltaCausalMap", name := "setPayload", desc := "(IJJ)V" } : Jvm.MethodName) prog_1_method_30_code (6 : Nat) (Option.none : Option Jvm.ClassFile.FieldType), Jvm.Cond.code ({ cls := "DeltaCausalMap", name := "headerOrCount", desc := "(II)I" } : Jvm.MethodName) prog_1_method_40_code (3 : Nat) (Option.some Jvm.ClassFile.FieldType.int), Jvm.Cond.code ({ cls := "DeltaCausalMap", name := "clearSlot", desc := "(I)V" } : Jvm.MethodName) prog_1_method_31_code (2 : Nat) (Option.none : Option Jvm.ClassFile.FieldType), Jvm.Cond.code ({ cls := "DeltaCausalMap", name := "takeState", desc := "(I)I" } : Jvm.MethodName) prog_1_method_24_code (11 : Nat) (Option.some Jvm.ClassFile.FieldType.int), Jvm.Cond.code ({ cls := "DeltaCausalMap", name := "placeAck", desc := "(III)V" } : Jvm.MethodName) prog_1_method_25_code (5 : Nat) (Option.none : Option Jvm.ClassFile.FieldType), Jvm.Cond.code ({ cls := "DeltaCausalMap", name := "takeAck", desc := "(I)I" } : Jvm.MethodName) prog_1_method_26_code (6 : Nat) (Option.some Jvm.ClassFile.FieldType.int)]
set_option maxRecDepth 65536 in
theorem codes_eq : words1.filter isCode = codes1 := rfl
theorem w_codes : ∀ c ∈ words1.filter isCode, c.before args0 about1 = true := by
  rw [codes_eq]
  intro c hc
  simp only [codes1, List.mem_cons, List.not_mem_nil, or_false] at hc
  rcases hc with rfl | rfl | rfl | rfl | rfl | rfl | rfl | rfl | rfl | rfl | rfl | rfl | rfl | rfl | rfl | rfl | rfl | rfl | rfl | rfl | rfl | rfl | rfl | rfl | rfl | rfl | rfl | rfl | rfl | rfl | rfl | rfl | rfl | rfl | rfl | rfl | rfl | rfl | rfl | rfl | rfl | rfl | rfl | rfl | rfl
  · exact w_c0
  · exact w_c1
  · exact w_c2
  · exact w_c3
  · exact w_c4
  · exact w_c5
  · exact w_c6
  · exact w_c7
  · exact w_c8
  · exact w_c9
  · exact w_c10
  · exact w_c11
  · exact w_c12
  · exact w_c13
  · exact w_c14
  · exact w_c15
  · exact w_c16
  · exact w_c17
  · exact w_c18
  · exact w_c19
  · exact w_c20
  · exact w_c21
  · exact w_c22
  · exact w_c23
  · exact w_c24
  · exact w_c25
  · exact w_c26
  · exact w_c27
  · exact w_c28
  · exact w_c29
  · exact w_c30
  · exact w_c31
  · exact w_c32
  · exact w_c33
  · exact w_c34
  · exact w_c35
  · exact w_c36
  · exact w_c37
  · exact w_c38
  · exact w_c39
  · exact w_c40
  · exact w_c41
  · exact w_c42
  · exact w_c43
  · exact w_c44
set_option maxRecDepth 65536 in
theorem w_t1 : (words1.take 24).all (fun c => isCode c || c.before args0 about1) = true := by decide +kernel
set_option maxRecDepth 65536 in
theorem w_t2 : ((words1.drop 24).take 24).all (fun c => isCode c || c.before args0 about1) = true := by decide +kernel
set_option maxRecDepth 65536 in
theorem w_t3 : (((words1.drop 24).drop 24).take 24).all (fun c => isCode c || c.before args0 about1) = true := by decide +kernel
set_option maxRecDepth 65536 in
theorem w_t4 : ((((words1.drop 24).drop 24).drop 24).take 24).all (fun c => isCode c || c.before args0 about1) = true := by decide +kernel
set_option maxRecDepth 65536 in
theorem w_t5 : (((((words1.drop 24).drop 24).drop 24).drop 24).take 24).all (fun c => isCode c || c.before args0 about1) = true := by decide +kernel
set_option maxRecDepth 65536 in
theorem w_t6 : ((((((words1.drop 24).drop 24).drop 24).drop 24).drop 24).take 24).all (fun c => isCode c || c.before args0 about1) = true := by decide +kernel
set_option maxRecDepth 65536 in
theorem w_t7 : (((((((words1.drop 24).drop 24).drop 24).drop 24).drop 24).drop 24).take 24).all (fun c => isCode c || c.before args0 about1) = true := by decide +kernel
set_option maxRecDepth 65536 in
theorem w_t8 : ((((((((words1.drop 24).drop 24).drop 24).drop 24).drop 24).drop 24).drop 24).take 24).all (fun c => isCode c || c.before args0 about1) = true := by decide +kernel
set_option maxRecDepth 65536 in
theorem w_t9 : (((((((((words1.drop 24).drop 24).drop 24).drop 24).drop 24).drop 24).drop 24).drop 24).take 24).all (fun c => isCode c || c.before args0 about1) = true := by decide +kernel
set_option maxRecDepth 65536 in
theorem w_t10 : ((((((((((words1.drop 24).drop 24).drop 24).drop 24).drop 24).drop 24).drop 24).drop 24).drop 24).take 24).all (fun c => isCode c || c.before args0 about1) = true := by decide +kernel
set_option maxRecDepth 65536 in
theorem w_t11 : ((((((((((words1.drop 24).drop 24).drop 24).drop 24).drop 24).drop 24).drop 24).drop 24).drop 24).drop 24).all (fun c => isCode c || c.before args0 about1) = true := by decide +kernel
theorem w_tables : (allAtoms (Jvm.Cond.code x code maxLocals ret :: tables_1)).before args0 about1 = true := by
  rw [allAtoms_all]
  show words1.all (fun c => c.before args0 about1) = true
  refine all_split ?_ w_codes
  rw [← List.take_append_drop 24 words1, List.all_append, w_t1, ← List.take_append_drop 24 (words1.drop 24), List.all_append, w_t2, ← List.take_append_drop 24 ((words1.drop 24).drop 24), List.all_append, w_t3, ← List.take_append_drop 24 (((words1.drop 24).drop 24).drop 24), List.all_append, w_t4, ← List.take_append_drop 24 ((((words1.drop 24).drop 24).drop 24).drop 24), List.all_append, w_t5, ← List.take_append_drop 24 (((((words1.drop 24).drop 24).drop 24).drop 24).drop 24), List.all_append, w_t6, ← List.take_append_drop 24 ((((((words1.drop 24).drop 24).drop 24).drop 24).drop 24).drop 24), List.all_append, w_t7, ← List.take_append_drop 24 (((((((words1.drop 24).drop 24).drop 24).drop 24).drop 24).drop 24).drop 24), List.all_append, w_t8, ← List.take_append_drop 24 ((((((((words1.drop 24).drop 24).drop 24).drop 24).drop 24).drop 24).drop 24).drop 24), List.all_append, w_t9, ← List.take_append_drop 24 (((((((((words1.drop 24).drop 24).drop 24).drop 24).drop 24).drop 24).drop 24).drop 24).drop 24), List.all_append, w_t10, w_t11]
  rfl
set_option maxRecDepth 65536 in
theorem w_rest : rest_1_c.before args0 about1 = true := by decide +kernel
set_option maxRecDepth 65536 in
theorem w_case : (Jvm.Cond.and given_1 narrow_1).before args0 about1 = true := by decide +kernel
theorem w_applies : (headSpec (Jvm.Cond.code x code maxLocals ret :: tables_1) room_1).applies x e0.platform about1 = true :=
  (Spec.applies_iff w_frames).mpr ⟨w_running, w_runnable, w_alone, w_named, w_hears, w_ripe, w_room, w_tables⟩
theorem atStart : AtStart classFile x code maxLocals ret World_1 tables_1 room_1 Calls_1 rest_1 Pre_1 launch0 p0 e0 about1 theMethod args0 below0 :=
  ⟨lists_1, trivial, launch0.admits_env _ _ _, launch0.least_env, fairChoices_fair.cas, fairChoices_fair.clock, w_frames, w_args, w_heap, w_applies, trivial, w_rest, w_case⟩
end start1
theorem witness_1 : WitnessClaimed_1 := ⟨start1.p0, start1.e0, start1.about1, start1.theMethod, start1.args0, start1.below0, start1.atStart⟩
end Jvm.Pilot.@@N@@
