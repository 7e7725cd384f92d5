/- What the law rests on: part 4 of 4. -/
import Derived.Test.YtbgkgnhlfmidhaaGreatRows
import Derived.Test.YtbgkgnhlfmidhaaGreatV2
set_option linter.unusedVariables false
set_option linter.unusedSimpArgs false
set_option linter.unusedSectionVars false
/- Plain laws: hashes, keys, message codes: program and reference reckon the same. -/
set_option linter.unusedVariables false
set_option linter.unusedSimpArgs false
set_option linter.unusedSectionVars false
set_option maxRecDepth 4000
namespace Go.Proofs.XF
open Go Go.Proofs.XTv

def modF (x m : Int) : Int := if 1 ≤ m ∧ m ≤ 1000000000000 then x % m else 0
theorem modF_bd {x m : Int} (h : 1 ≤ m) (h2 : m ≤ 1000000000000) : 0 ≤ modF x m ∧ modF x m < m := by
  unfold modF
  rw [if_pos ⟨h, h2⟩]
  exact ⟨Int.emod_nonneg x (by omega), Int.emod_lt_of_pos x (by omega)⟩
theorem tmod_bd (x : Int) {m : Int} (h : 0 < m) : -m < x.tmod m ∧ x.tmod m < m := by
  constructor
  · have := Int.lt_tmod_of_pos x h; omega
  · exact Int.tmod_lt_of_pos x h
theorem tmod_emod (x : Int) {m : Int} (h : 0 < m) : x % m = if x.tmod m < 0 then x.tmod m + m else x.tmod m := by
  have hb := tmod_bd x h
  have h1 : x = m * x.tdiv m + x.tmod m := (Int.mul_tdiv_add_tmod x m).symm
  split
  · have : x = (x.tmod m + m) + m * (x.tdiv m - 1) := by rw [Int.mul_sub]; omega
    rw [this, Int.add_mul_emod_self_left]
    have e : x.tmod m + m + m * (x.tdiv m - 1) = x := this.symm
    rw [e]
    exact Int.emod_eq_of_lt (by omega) (by omega)
  · conv => lhs; rw [h1, Int.add_comm, Int.add_mul_emod_self_left]
    exact Int.emod_eq_of_lt (by omega) (by omega)
def hstep (h x : Int) : Int := irem .i64 (iadd .i64 (iadd .i64 (imul .i64 h 1000003) (modF x 2147483647)) 13) 2147483647
theorem hstep_bd {h x : Int} (h0 : 0 ≤ h) (h1 : h < 2147483647) : 0 ≤ hstep h x ∧ hstep h x < 2147483647 := by
  have hb := modF_bd (x := x) (m := 2147483647) (by omega) (by omega)
  unfold hstep
  rw [imul_eq (by omega) (by omega), iadd_eq (x := h * 1000003) (y := modF x 2147483647) (by omega) (by omega), iadd_eq (by omega) (by omega)]
  unfold irem
  have := tmod_bd (h * 1000003 + modF x 2147483647 + 13) (m := 2147483647) (by omega)
  exact ⟨Int.tmod_nonneg _ (by omega), this.2⟩
def hfold (h : Int) (l : List Int) : Int := l.foldl hstep h
theorem hfold_bd : ∀ (l : List Int) {h : Int}, 0 ≤ h → h < 2147483647 → 0 ≤ hfold h l ∧ hfold h l < 2147483647
  | [], h, h0, h1 => ⟨h0, h1⟩
  | x :: l, h, h0, h1 => by
    have := hstep_bd (x := x) h0 h1
    exact hfold_bd l this.1 this.2
theorem hfold_snoc (h : Int) (l : List Int) (x : Int) : hfold h (l ++ [x]) = hstep (hfold h l) x := by simp [hfold]
def khash (key : Int) (l : List Int) : Int := hfold 11 (key :: l ++ [key])
theorem khash_bd (key : Int) (l : List Int) : 0 ≤ khash key l ∧ khash key l < 2147483647 := hfold_bd _ (by omega) (by omega)
def derive (key x : Int) : Int := if khash key [9, x] = 0 then 1 else khash key [9, x]
theorem derive_bd (key x : Int) : 1 ≤ derive key x ∧ derive key x < 2147483647 := by
  have := khash_bd key [9, x]
  unfold derive
  split <;> omega
def pathKey (key : Int) (l : List Int) : Int := l.foldl derive key
theorem pathKey_snoc (key : Int) (l : List Int) (x : Int) : pathKey key (l ++ [x]) = derive (pathKey key l) x := by simp [pathKey]
def macF (key : Int) (m : DSignal) : Int := khash (pathKey key [1, 2]) [23, m.1, m.2.1, m.2.2.1, m.2.2.2.1, m.2.2.2.2.1]

section
variable {k : Nat} (hk : FU ≤ k)
theorem s_max (hk : FU ≤ k) (a b : Int) : spec_Max.f k (a, b) = some (if a ≤ b then b else a) := by
  unfold spec_Max.f
  by_cases h : a ≤ b
  · rw [if_pos h]
    first
      | (rw [ilt_f (by omega)]; rfl)
      | (by_cases h2 : a < b
         · rw [ilt_t h2]; rfl
         · have : a = b := by omega
           subst this; rw [ilt_f h2]; rfl)
      | (rw [ile_t h]; rfl)
  · rw [if_neg h]
    first
      | (rw [ilt_t (by omega)]; rfl)
      | (rw [ilt_f (by omega)]; rfl)
      | (rw [ile_f h]; rfl)
end
end Go.Proofs.XF
/- Plain laws: what is drawn out of bytes. -/
set_option linter.unusedVariables false
set_option linter.unusedSimpArgs false
set_option linter.unusedSectionVars false
set_option maxRecDepth 4000
namespace Go.Proofs.XF
open Go Go.Proofs.XTv

/-- A cursor over bytes. -/
def CurOk (c : Dl1Cur) : Prop := c.1.length ≤ 281474976710656 ∧ 0 ≤ c.2.1 ∧ c.2.1 ≤ (c.1.length : Int)
theorem iand_bd (x : Int) : 0 ≤ iand .i64 x 255 ∧ iand .i64 x 255 ≤ 255 := by
  have h : (BitVec.ofInt 64 x &&& BitVec.ofInt 64 255).toNat ≤ 255 := by
    rw [BitVec.toNat_and]
    exact Nat.le_trans Nat.and_le_right (by decide)
  have e : iand .i64 x 255 = ((BitVec.ofInt 64 x &&& BitVec.ofInt 64 255).toNat : Int) := by
    unfold iand
    exact wrap_i64 (by show _ ≤ (((BitVec.ofInt 64 x &&& BitVec.ofInt 64 255).toNat : Nat) : Int); omega) (by show (((BitVec.ofInt 64 x &&& BitVec.ofInt 64 255).toNat : Nat) : Int) ≤ _; omega)
  rw [e]
  omega
section
variable {k : Nat} (hk : FU ≤ k)
end
end Go.Proofs.XF
/- Plain laws: drawn subscribers, plans, windows, sessions. -/
set_option linter.unusedVariables false
set_option linter.unusedSimpArgs false
set_option linter.unusedSectionVars false
set_option maxRecDepth 4000
namespace Go.Proofs.XF
open Go Go.Proofs.XTv

theorem ok_wrap (x : Int) : Ok (.int .i64) (IntKind.i64.wrap x) := by
  show -9223372036854775808 ≤ IntKind.i64.wrap x ∧ IntKind.i64.wrap x ≤ 9223372036854775807
  simp [IntKind.wrap, IntKind.signed, IntKind.bits]
  omega
theorem ok_add (x y : Int) : Ok (.int .i64) (iadd .i64 x y) := ok_wrap _
theorem ok_sub (x y : Int) : Ok (.int .i64) (isub .i64 x y) := ok_wrap _
theorem ok_mul (x y : Int) : Ok (.int .i64) (imul .i64 x y) := ok_wrap _
theorem ok_nil (e : Ty) : Ok (.sl e) ([] : List e.den) := ⟨by show (0 : Nat) ≤ _; omega, fun x hx => by cases hx⟩
theorem ok_app {e : Ty} {l m : List e.den} (h1 : Ok (.sl e) l) (h2 : Ok (.sl e) m) (hl : (l ++ m).length ≤ 4294967296) : Ok (.sl e) (l ++ m) :=
  ⟨hl, fun x hx => (List.mem_append.1 hx).elim (h1.2 x) (h2.2 x)⟩
theorem ok_one {e : Ty} {x : e.den} (h : Ok e x) : Ok (.sl e) [x] := ⟨by show (1 : Nat) ≤ _; omega, fun y hy => by simp only [List.mem_singleton] at hy; subst hy; exact h⟩
theorem ok_mem {l : List Int} {v : Int} (h : v ∈ l) (hl : ∀ x ∈ l, -1000000000000 ≤ x ∧ x ≤ 1000000000000) : Ok (.int .i64) v := by
  have := hl v h
  show -9223372036854775808 ≤ v ∧ v ≤ 9223372036854775807
  omega
theorem ok_bytes {l : List Int} (hl : l.length ≤ 1000000) (h : ∀ b ∈ l, 0 ≤ b ∧ b ≤ 255) : Ok (.sl (.int .u8)) l := ⟨by show l.length ≤ _; omega, h⟩

/-- A window that can be used. -/
def WOk (w : DSendWindow) : Prop := Ok TSendWindow w ∧ w.2.length ≤ 8 ∧ 1 ≤ w.1 ∧ w.1 ≤ 100000
/-- A session whose streams are in bounds. -/
def SOk (s : DSession) : Prop := Ok TSession s ∧ s.2.2.2.2.2.2.2.2.2.2.2.1.length ≤ 24 ∧ WOk s.2.2.2.2.2.2.2.2.2.2.2.2.1

section
variable {k : Nat} (hk : FU ≤ k)
end
end Go.Proofs.XF
/- Plain laws: drawn sessions, signals. -/
set_option linter.unusedVariables false
set_option linter.unusedSimpArgs false
set_option linter.unusedSectionVars false
set_option maxRecDepth 4000
namespace Go.Proofs.XF
open Go Go.Proofs.XTv

def maskF (key r : Int) : Int := modF (khash key [1, r]) 1000000
def vecF (key r seq : Int) : DAuthVector :=
  bif inB seq 0 999999 then (r, modF (iadd .i64 seq (maskF key r)) 1000000, khash key [2, r, seq], khash key [3, r], if 1 ≤ khash key [4, r, seq] then khash key [4, r, seq] else 1) else (0, 0, 0, 0, 0)
def recOk (r : DUSIM) : Bool := inB r.1.1 0 3 && inB r.1.2 0 99 && inB r.2.1 1 2147483646 && inB r.2.2 0 999999
theorem ok_khash (key : Int) (l : List Int) : Ok (.int .i64) (khash key l) := by
  have := khash_bd key l
  exact okn (by omega)
theorem ok_mod (x : Int) : Ok (.int .i64) (modF x 1000000) := by
  have := modF_bd (x := x) (m := 1000000) (by omega) (by omega)
  exact okn (by omega)
theorem ok_vec {key r seq : Int} (h : Ok (.int .i64) r) : Ok TAuthVector (vecF key r seq) := by
  unfold vecF
  cases inB seq 0 999999
  · exact ⟨okn (n := 0) (by omega), okn (n := 0) (by omega), okn (n := 0) (by omega), okn (n := 0) (by omega), okn (n := 0) (by omega)⟩
  · refine ⟨h, ok_mod _, ok_khash _ _, ok_khash _ _, ?_⟩
    show Ok (.int .i64) (if 1 ≤ khash key [4, r, seq] then khash key [4, r, seq] else 1)
    split
    · exact ok_khash _ _
    · exact okn (by omega)
section
variable {k : Nat} (hk : FU ≤ k)
def nextF (r : DUSIM) (q : Int) : DUSIM × DAuthVector := bif (dnot (recOk r) || ieq r.2.2 999999) then (r, 0, 0, 0, 0, 0) else ((r.1, r.2.1, iadd .i64 r.2.2 1), vecF r.2.1 q (iadd .i64 r.2.2 1))
theorem ok_next {r : DUSIM} {q : Int} (h : Ok TUSIM r) (hq : Ok (.int .i64) q) : Ok TUSIM (nextF r q).1 ∧ Ok TAuthVector (nextF r q).2 := by
  unfold nextF
  cases (dnot (recOk r) || ieq r.2.2 999999)
  · exact ⟨⟨h.1, h.2.1, ok_add _ _⟩, ok_vec hq⟩
  · exact ⟨h, okn (n := 0) (by omega), okn (n := 0) (by omega), okn (n := 0) (by omega), okn (n := 0) (by omega), okn (n := 0) (by omega)⟩
end
end Go.Proofs.XF
/- Plain laws: drawn sessions, whole. -/
set_option linter.unusedVariables false
set_option linter.unusedSimpArgs false
set_option linter.unusedSectionVars false
set_option maxRecDepth 4000
namespace Go.Proofs.XF
open Go Go.Proofs.XTv

/-- A session out of the parts that a loop carries. -/
def unp (P : DUSIM × Int × Int × Int × Int × DAuthVector × Int × Int × Int × Int × Int × Int × DQuota × DAuthVector) (roam : List Int) (sub : List (List Int)) (una : List DNumberedPacket) : DSession :=
  (P.1, (P.2.1, P.2.2.1, P.2.2.2.1, roam), P.2.2.2.2.1, P.2.2.2.2.2.1, P.2.2.2.2.2.2.1, P.2.2.2.2.2.2.2.1, P.2.2.2.2.2.2.2.2.1, P.2.2.2.2.2.2.2.2.2.1, P.2.2.2.2.2.2.2.2.2.2.1, P.2.2.2.2.2.2.2.2.2.2.2.1,
    P.2.2.2.2.2.2.2.2.2.2.2.2.1, sub, (P.2.2.2.2.2.2.2.2.2.2.2.2.2.1, una), P.2.2.2.2.2.2.2.2.2.2.2.2.2.2)
theorem lget_ok {e : Ty} {l : List e.den} {i : Int} (h : Ok (.sl e) l) (hi : idxOk i (llen l) = true) : Ok e (lget e l i) := by
  have hi := of_decide_eq_true hi
  obtain ⟨j, rfl⟩ := Int.eq_ofNat_of_zero_le hi.1
  have hj : j < l.length := by have h2 : (j : Int) < (l.length : Int) := hi.2; omega
  show Ok e (lget e l (j : Int))
  rw [lget_nat l hj]
  exact ok_get h hj
section
variable {k : Nat} (hk : FU ≤ k)
theorem s_quotaOk (q : DQuota) : spec_IsValidQuota.f k q = some (ile 0 q.1 && inB q.2.1 0 100000 && inB q.2.2 0 q.2.1) := by
  unfold spec_IsValidQuota.f
  simp only [s_in, ob_some, ob_pick]
  generalize ile 0 q.1 = a
  generalize inB q.2.1 0 100000 = b
  generalize inB q.2.2 0 q.2.1 = c
  revert a b c
  decide
def remF (q : DQuota) : Int := bif (ile 0 q.1 && inB q.2.1 0 100000 && inB q.2.2 0 q.2.1) then isub .i64 q.2.1 q.2.2 else 0
theorem s_remaining (q : DQuota) : spec_RemainingQuota.f k q = some (remF q) := by
  unfold spec_RemainingQuota.f remF
  rw [s_quotaOk, ob_some]
  cases (ile 0 q.1 && inB q.2.1 0 100000 && inB q.2.2 0 q.2.1) <;> rfl
end
end Go.Proofs.XF
/- Plain laws: what is the same as itself; submissions. -/
set_option linter.unusedVariables false
set_option linter.unusedSimpArgs false
set_option linter.unusedSectionVars false
set_option maxRecDepth 4000
namespace Go.Proofs.XF
open Go Go.Proofs.XTv
section
variable {k : Nat} (hk : FU ≤ k)
def subF (s : DSession) (l : List Int) : DSession :=
  (s.1, s.2.1, s.2.2.1, s.2.2.2.1, s.2.2.2.2.1, s.2.2.2.2.2.1, s.2.2.2.2.2.2.1, s.2.2.2.2.2.2.2.1, s.2.2.2.2.2.2.2.2.1, s.2.2.2.2.2.2.2.2.2.1, s.2.2.2.2.2.2.2.2.2.2.1, s.2.2.2.2.2.2.2.2.2.2.2.1 ++ [l], s.2.2.2.2.2.2.2.2.2.2.2.2)
def subC (s : DSession) (l : List Int) : Bool := bif ile 24 (llen s.2.2.2.2.2.2.2.2.2.2.2.1) then true else ilt 60 (llen l)
theorem subC_len {s : DSession} {l : List Int} (h : subC s l = false) : s.2.2.2.2.2.2.2.2.2.2.2.1.length < 24 ∧ l.length ≤ 60 := by
  unfold subC at h
  by_cases h1 : (24 : Int) ≤ llen s.2.2.2.2.2.2.2.2.2.2.2.1
  · rw [ile_t h1] at h; cases h
  · rw [ile_f h1, cond_false] at h
    by_cases h2 : (60 : Int) < llen l
    · rw [ilt_t h2] at h; cases h
    · have h1 : ¬ (24 : Int) ≤ (s.2.2.2.2.2.2.2.2.2.2.2.1.length : Int) := h1
      have h2 : ¬ (60 : Int) < (l.length : Int) := h2
      omega
end
end Go.Proofs.XF
/- Plain laws: path updates, responses. -/
set_option linter.unusedVariables false
set_option linter.unusedSimpArgs false
set_option linter.unusedSectionVars false
set_option maxRecDepth 4000
namespace Go.Proofs.XF
open Go Go.Proofs.XTv
section
variable {k : Nat} (hk : FU ≤ k)
def signedF (s : DSession) (kd : Int) : DSignal :=
  (kd, s.2.2.2.2.2.2.2.2.1, s.2.2.2.2.2.1, s.2.2.2.2.2.2.2.1, 0, (0, 0, 0, 0, 0), macF s.2.2.2.2.2.2.1 (kd, s.2.2.2.2.2.2.2.2.1, s.2.2.2.2.2.1, s.2.2.2.2.2.2.2.1, 0, (0, 0, 0, 0, 0), 0))
def pathS (s : DSession) (m : DSignal) : DSession :=
  (s.1, s.2.1, s.2.2.1, s.2.2.2.1, s.2.2.2.2.1, s.2.2.2.2.2.1, s.2.2.2.2.2.2.1, m.2.2.2.1, m.2.1, 0, (0, 0, 0), s.2.2.2.2.2.2.2.2.2.2.2.1, s.2.2.2.2.2.2.2.2.2.2.2.2.1, 0, s.2.2.2.2.2.2.2.2.2.2.2.2.2.2)
def pathC (s : DSession) (m : DSignal) : Bool :=
  ieq s.2.2.1 1 && ieq m.2.2.1 s.2.2.2.2.2.1 && ieq m.2.2.2.2.2.2 (macF s.2.2.2.2.2.2.1 m) && dnot (ilt m.2.2.2.1 s.2.2.2.2.2.2.2.1) && dnot (ieq m.2.2.2.1 s.2.2.2.2.2.2.2.1 && ine m.2.1 s.2.2.2.2.2.2.2.2.1)
theorem ok_path {s : DSession} {m : DSignal} (h : Ok TSession s) (hm : Ok TSignal m) : Ok TSession (pathS s m) := by
  have z : Ok (.int .i64) (0 : Int) := okn (by omega)
  exact ⟨h.1, h.2.1, h.2.2.1, h.2.2.2.1, h.2.2.2.2.1, h.2.2.2.2.2.1, h.2.2.2.2.2.2.1, hm.2.2.2.1, hm.2.1, z, ⟨z, z, z⟩, h.2.2.2.2.2.2.2.2.2.2.2.1, h.2.2.2.2.2.2.2.2.2.2.2.2.1, z, h.2.2.2.2.2.2.2.2.2.2.2.2.2.2⟩
theorem ilt_trich (x y : Int) : dnot (ilt x y) = (bif ilt y x then true else ieq x y) := by
  by_cases h : x < y
  · rw [ilt_t h, ilt_f (by omega), ieq_f (by omega)]; rfl
  · rw [ilt_f h]
    by_cases h2 : y < x
    · rw [ilt_t h2]; rfl
    · rw [ilt_f h2, ieq_t (by omega)]; rfl
def respC (s : DSession) (m : DSignal) : Bool :=
  bif bif bif ile s.2.2.2.2.1 0 then true else ine m.2.2.1 s.2.2.2.2.1 then true else ine m.2.2.2.2.1 s.2.2.2.1.2.2.2.1 then true else ile 999999 s.2.2.2.2.2.2.2.1
def respS (s : DSession) (m : DSignal) : DSession :=
  (s.1, s.2.1, 1, (0, 0, 0, 0, 0), 0, s.2.2.2.2.1, s.2.2.2.1.2.2.2.2, iadd .i64 s.2.2.2.2.2.2.2.1 1, m.2.1, 0, (0, 0, 0), s.2.2.2.2.2.2.2.2.2.2.2)
theorem ok_resp {s : DSession} {m : DSignal} (h : Ok TSession s) (hm : Ok TSignal m) : Ok TSession (respS s m) := by
  have z : Ok (.int .i64) (0 : Int) := okn (by omega)
  exact ⟨h.1, h.2.1, okn (n := 1) (by omega), ⟨z, z, z, z, z⟩, z, h.2.2.2.2.1, h.2.2.2.1.2.2.2.2, ok_add _ _, hm.2.1, z, ⟨z, z, z⟩, h.2.2.2.2.2.2.2.2.2.2.2⟩
end
end Go.Proofs.XF
/- Plain laws: devices: power on, tick, move; sessions: submit, failover. -/
set_option linter.unusedVariables false
set_option linter.unusedSimpArgs false
set_option linter.unusedSectionVars false
set_option maxRecDepth 4000
namespace Go.Proofs.XF
open Go Go.Proofs.XTv
section
variable {k : Nat} (hk : FU ≤ k)
theorem cnt_dres (d : DDevice) (l : List DSignal) : cnt TDeviceResult (d, l) = cnt TDevice d + l.length := by
  show cnt TDevice d + (l.length + (l.map fun _ => 0).sum) = _
  rw [sum_zero]; omega
theorem ok_dres0 {d : DDevice} (h : Ok TDevice d) : Ok TDeviceResult (d, []) := ⟨h, ok_nil _⟩
theorem ok_dres1 {d : DDevice} {s : DSignal} (h : Ok TDevice d) (hs : Ok TSignal s) : Ok TDeviceResult (d, [s]) := ⟨h, ok_one hs⟩
def attG (n : Int) : DSignal := (1, n, 0, 0, 0, (0, 0, 0, 0, 0), 0)
theorem ok_att {n : Int} (h : Ok (.int .i64) n) : Ok TSignal (attG n) :=
  have z : Ok (.int .i64) (0 : Int) := okn (by omega)
  ⟨okn (n := 1) (by omega), h, z, z, z, ⟨z, z, z, z, z⟩, z⟩
def pathG (x : DDevice) : DSignal := (5, x.2.2.1, x.2.2.2.1, x.2.2.2.2.2.1, 0, (0, 0, 0, 0, 0), macF x.2.2.2.2.1 (5, x.2.2.1, x.2.2.2.1, x.2.2.2.2.2.1, 0, (0, 0, 0, 0, 0), 0))
theorem ok_pathG {x : DDevice} (h : Ok TDevice x) : Ok TSignal (pathG x) :=
  have z : Ok (.int .i64) (0 : Int) := okn (by omega)
  ⟨okn (n := 5) (by omega), h.2.2.1, h.2.2.2.1, h.2.2.2.2.2.1, z, ⟨z, z, z, z, z⟩, ok_khash _ _⟩
theorem ok_wait {x : DDevice} (h : Ok TDevice x) {n : Int} (hn : Ok (.int .i64) n) : Ok TDevice (x.1, x.2.1, x.2.2.1, x.2.2.2.1, x.2.2.2.2.1, x.2.2.2.2.2.1, x.2.2.2.2.2.2.1, n, x.2.2.2.2.2.2.2.2) :=
  ⟨h.1, h.2.1, h.2.2.1, h.2.2.2.1, h.2.2.2.2.1, h.2.2.2.2.2.1, h.2.2.2.2.2.2.1, hn, h.2.2.2.2.2.2.2.2⟩
theorem ok_three : Ok (.int .i64) (3 : Int) := okn (by omega)
theorem move_cond (a b : Int) : (bif bif ine a 2 then true else ile 999999 b then true else false) = dnot (bif ieq a 2 then ilt b 999999 else false) := by
  by_cases h1 : a = 2
  · subst h1
    by_cases h2 : b < 999999
    · have h3 : ¬ 999999 ≤ b := by omega
      simp [ine, ieq, ile, ilt, dnot, h2, h3]
    · have h3 : 999999 ≤ b := by omega
      simp [ine, ieq, ile, ilt, dnot, h2, h3]
  · have e1 : (a != 2) = true := by simp [h1]
    have e2 : (a == 2) = false := by simp [h1]
    simp [ine, ieq, ile, ilt, dnot, e1, e2]
theorem cnt_payl {s : DSession} (P : List (List Int)) : cnt TSession (s.1, s.2.1, s.2.2.1, s.2.2.2.1, s.2.2.2.2.1, s.2.2.2.2.2.1, s.2.2.2.2.2.2.1, s.2.2.2.2.2.2.2.1, s.2.2.2.2.2.2.2.2.1, s.2.2.2.2.2.2.2.2.2.1, s.2.2.2.2.2.2.2.2.2.2.1, P, s.2.2.2.2.2.2.2.2.2.2.2.2) = cnt TSession (s.1, s.2.1, s.2.2.1, s.2.2.2.1, s.2.2.2.2.1, s.2.2.2.2.2.1, s.2.2.2.2.2.2.1, s.2.2.2.2.2.2.2.1, s.2.2.2.2.2.2.2.2.1, s.2.2.2.2.2.2.2.2.2.1, s.2.2.2.2.2.2.2.2.2.2.1, [], s.2.2.2.2.2.2.2.2.2.2.2.2) + cnt (.sl (.sl (.int .u8))) P := by
  simp only [cnt, List.length_nil, List.map_nil, List.sum_nil]
  omega
end
theorem law_ln {α : Type} {xs : List α} {L : Int} {e : Option Bool} (h : (xs.length : Int) ≤ L → e = some true) : (bif ilt L (llen xs) then some true else e) = some true := by
  by_cases hc : (xs.length : Int) ≤ L
  · rw [ilt_f (by show ¬ L < (xs.length : Int); omega), cond_false]; exact h hc
  · rw [ilt_t (by show L < (xs.length : Int); omega), cond_true]
end Go.Proofs.XF
/- Plain laws: encryption, sealing, retransmission. -/
set_option linter.unusedVariables false
set_option linter.unusedSimpArgs false
set_option linter.unusedSectionVars false
set_option maxRecDepth 4000
namespace Go.Proofs.XF
open Go Go.Proofs.XTv
/-! ### Mixed lists: the first of one, the rest of the other -/
theorem mix_get {α : Type} (a b : List α) (h : a.length = b.length) {i : Nat} (hi : i < b.length) (hm : i < (a.take i ++ b.drop i).length) : (a.take i ++ b.drop i)[i] = b[i] := by
  rw [List.getElem_append_right (by simp; omega)]
  simp
  congr 1
  omega
theorem mix_set {α : Type} (a b : List α) (h : a.length = b.length) {i : Nat} (hi : i < a.length) : (a.take i ++ b.drop i).set i a[i] = a.take (i + 1) ++ b.drop (i + 1) := by
  refine List.ext_getElem (by simp; omega) fun n h1 h2 => ?_
  simp only [List.getElem_set, List.getElem_append, List.getElem_take, List.getElem_drop, List.length_take]
  simp at h1 h2
  by_cases h3 : i = n
  · subst h3
    rw [if_pos rfl, dif_pos (by omega)]
  · rw [if_neg h3]
    by_cases h4 : n < i
    · rw [dif_pos (by omega), dif_pos (by omega)]
    · rw [dif_neg (by omega), dif_neg (by omega)]
      congr 1
      omega
theorem mem_cnt {e : Ty} : ∀ {xs : List e.den} {x : e.den}, x ∈ xs → cnt e x ≤ (xs.map (cnt e)).sum
  | [], x, h => by cases h
  | y :: ys, x, h => by
    rw [List.map_cons, List.sum_cons]
    rcases List.mem_cons.1 h with rfl | h
    · omega
    · have := mem_cnt h; omega
theorem cnt_u8 (l : List Int) : cnt (.sl (.int .u8)) l = l.length := by
  show l.length + (l.map fun _ => 0).sum = _
  rw [sum_zero]; rfl
/-! ### Encryption -/
def encB (key : Int) (i : Nat) (b : Int) : Int := icast .u8 (irem .i64 (iadd .i64 (icast .i64 b) (irem .i64 (khash key [(i : Int)]) 256)) 256)
def encL (key : Int) (l : List Int) : List Int := l.mapIdx (encB key)
theorem encL_len (key : Int) (l : List Int) : (encL key l).length = l.length := by simp [encL]
theorem encL_get (key : Int) (l : List Int) {i : Nat} (h : i < (encL key l).length) (h2 : i < l.length) : (encL key l)[i] = encB key i l[i] := by simp [encL]
theorem u8_wrap (x : Int) : IntKind.u8.wrap x = x % 256 := rfl
theorem encB_i (key : Int) (i : Nat) {b : Int} (h0 : 0 ≤ b) (h1 : b ≤ 255) : iadd .u8 b (icast .u8 (irem .i64 (khash key [(i : Int)]) 256)) = encB key i b := by
  have hk := khash_bd key [(i : Int)]
  have e1 : irem .i64 (khash key [(i : Int)]) 256 = khash key [(i : Int)] % 256 := Int.tmod_eq_emod_of_nonneg hk.1
  have e3 : icast .i64 b = b := by
    have := iadd_eq (x := b) (y := 0) (by omega) (by omega)
    unfold iadd at this
    rw [Int.add_zero] at this; exact this
  unfold encB
  rw [e1, e3, iadd_eq (by omega) (by omega)]
  unfold icast iadd irem
  rw [u8_wrap, u8_wrap, u8_wrap, Int.tmod_eq_emod_of_nonneg (by omega)]
  omega
theorem encB_bd (key : Int) (i : Nat) (b : Int) : 0 ≤ encB key i b ∧ encB key i b ≤ 255 := by
  unfold encB icast
  rw [u8_wrap]
  omega
theorem ok_enc (key : Int) {l : List Int} (hl : l.length ≤ 4294967296) : Ok (.sl (.int .u8)) (encL key l) :=
  ⟨by rw [encL_len]; exact hl, fun x hx => by
    obtain ⟨i, hi, rfl⟩ := List.getElem_of_mem hx
    rw [encL_get key l hi (by rw [encL_len] at hi; exact hi)]
    exact encB_bd _ _ _⟩
def b2i (l : List Int) : List Int := (l.length : Int) :: l.map (icast .i64)
def sealK (key d n : Int) (l : List Int) : Int := khash key ([d, n] ++ b2i l)
def protF (key d n : Int) (l : List Int) : DSecuredMessage :=
  (d, n, encL (derive key (iadd .i64 (imul .i64 2 n) d)) l, sealK key d n (encL (derive key (iadd .i64 (imul .i64 2 n) d)) l))
def sealF (key a b : Int) (p : DNumberedPacket) : DRadioPacket := (a, b, protF (pathKey key [1, 3, b]) 1 p.1 p.2)
section
variable {k : Nat} (hk : FU ≤ k)
theorem b2i_len (l : List Int) : (b2i l).length = l.length + 1 := by simp [b2i]
theorem ok_sealK (key d n : Int) (l : List Int) : Ok (.int .i64) (sealK key d n l) := ok_khash _ _
theorem ok_seal {key a b : Int} {p : DNumberedPacket} (h : Ok TNumberedPacket p) (ha : Ok (.int .i64) a) (hb : Ok (.int .i64) b) : Ok TRadioPacket (sealF key a b p) := by
  have e1 : Ok (.int .i64) (1 : Int) := okn (by omega)
  have h2 : p.2.length ≤ 4294967296 := ok_len h.2
  have h1 : Ok (.int .i64) p.1 := h.1
  unfold sealF protF
  generalize derive (pathKey key [1, 3, b]) (iadd .i64 (imul .i64 2 p.1) 1) = dk
  have e2 := ok_enc dk h2
  have e3 := ok_sealK (pathKey key [1, 3, b]) 1 p.1 (encL dk p.2)
  generalize sealK (pathKey key [1, 3, b]) 1 p.1 (encL dk p.2) = sk at e3
  generalize encL dk p.2 = el at e2
  exact ⟨ha, hb, e1, h1, e2, e3⟩
theorem cnt_seal (key a b : Int) (p : DNumberedPacket) : cnt TRadioPacket (sealF key a b p) = p.2.length := by
  show 0 + (0 + (0 + (0 + (cnt (.sl (.int .u8)) (encL _ p.2) + 0)))) = _
  rw [cnt_u8, encL_len]; omega
def sealS (s : DSession) (p : DNumberedPacket) : DRadioPacket := sealF s.2.2.2.2.2.2.1 s.2.2.2.2.2.1 s.2.2.2.2.2.2.2.1 p
def retrF (s : DSession) : List DRadioPacket := bif ieq s.2.2.1 1 then (s.2.2.2.2.2.2.2.2.2.2.2.2.1.2.take 2).map (sealS s) else []
end
end Go.Proofs.XF
/- Plain laws: which sessions are valid. -/
set_option linter.unusedVariables false
set_option linter.unusedSimpArgs false
set_option linter.unusedSectionVars false
set_option maxRecDepth 4000
namespace Go.Proofs.XF
open Go Go.Proofs.XTv
def recB (x : DUSIM) : Bool := inB x.1.1 0 3 && inB x.1.2 0 99 && inB x.2.1 1 2147483646 && inB x.2.2 0 999999
def pagB (x : DQuota) : Bool := inB x.1 0 2 && inB x.2.1 0 4 && inB x.2.2 0 3
def quoB (q : DQuota) : Bool := ile 0 q.1 && inB q.2.1 0 100000 && inB q.2.2 0 q.2.1
def subEl (l : List Int) (i : Nat) : Bool := inB (lget (.int .i64) l (i : Int)) 0 3
def ascEl (l : List Int) (i : Nat) : Bool := dnot (ile (lget (.int .i64) l ((i + 1 : Nat) : Int)) (lget (.int .i64) l (i : Int)))
def subB (x : DSubscription) : Bool :=
  decide ((inB x.1 1 1000 && inB x.2.1 1 4 && inB x.2.2.1 1 100000) = true ∧ (∀ i, i < x.2.2.2.length → subEl x.2.2.2 i = true) ∧ ∀ i, i < x.2.2.2.length - 1 → ascEl x.2.2.2 i = true)
def sndEl (x : DSendWindow) (i : Nat) : Bool := dnot (bif ine (lget TNumberedPacket x.2 (i : Int)).1 (iadd .i64 (isub .i64 x.1 (llen x.2)) (i : Int)) then true else ilt 60 (llen (lget TNumberedPacket x.2 (i : Int)).2))
def sndB (x : DSendWindow) : Bool :=
  decide (inB x.1 1 100000 = true ∧ ile (llen x.2) 8 = true ∧ ile 1 (isub .i64 x.1 (llen x.2)) = true ∧ ∀ i, i < x.2.length → sndEl x i = true)
def fitAll (l : List (List Int)) : Bool := decide (∀ j, j < l.length → fitB l j = true)
def pktEl (w : List DNumberedPacket) (l : List (List Int)) (i : Nat) : Bool := seq' (sofbytes (lget TNumberedPacket w (i : Int)).2) (sofbytes (lget (.sl (.int .u8)) l (isub .i64 (lget TNumberedPacket w (i : Int)).1 1)))
def pktB (w : List DNumberedPacket) (l : List (List Int)) : Bool := decide (∀ i, i < w.length → pktEl w l i = true)
theorem idx_pkt {s : DSendWindow} {l : List (List Int)} (h1 : sndB s = true) (hw : s.2.length ≤ 4294967296) (hl : l.length ≤ 4294967296) (h2 : ilt (iadd .i64 (llen l) 1) s.1 = false) {i : Nat} (hi : i < s.2.length) :
    idxOk (isub .i64 (lget TNumberedPacket s.2 (i : Int)).1 1) (llen l) = true := by
  obtain ⟨a, b, c, d⟩ := of_decide_eq_true h1
  have d := d i hi
  have a1 : 1 ≤ s.1 ∧ s.1 ≤ 100000 := by
    unfold inB at a
    cases h : ile 1 s.1
    · rw [h] at a; cases a
    · rw [h] at a; exact ⟨of_decide_eq_true h, of_decide_eq_true a⟩
  have b1 : (s.2.length : Int) ≤ 8 := of_decide_eq_true b
  rw [llen_eq, isub_eq (by omega) (by omega)] at c
  have c1 : 1 ≤ s.1 - (s.2.length : Int) := of_decide_eq_true c
  rw [llen_eq, iadd_nat (by omega)] at h2
  have h3 : ¬ ((l.length + 1 : Nat) : Int) < s.1 := of_decide_eq_false h2
  have e : (lget TNumberedPacket s.2 (i : Int)).1 = s.1 - (s.2.length : Int) + i := by
    unfold sndEl at d
    cases hh : ine (lget TNumberedPacket s.2 (i : Int)).1 (iadd .i64 (isub .i64 s.1 (llen s.2)) (i : Int))
    · have : (lget TNumberedPacket s.2 (i : Int)).1 = iadd .i64 (isub .i64 s.1 (llen s.2)) (i : Int) := by
        unfold ine at hh
        simpa using hh
      rw [this, llen_eq, isub_eq (by omega) (by omega), iadd_eq (by omega) (by omega)]
    · rw [hh] at d; cases d
  rw [e, isub_eq (by omega) (by omega)]
  exact decide_eq_true ⟨by omega, by rw [llen_eq]; omega⟩
section
variable {k : Nat} (hk : FU ≤ k)
theorem i_quo (q : DQuota) : impl_IsValidQuota.f k q = some (quoB q) := by
  unfold impl_IsValidQuota.f quoB inB
  simp only [bif_and, ile]
  congr 1
  rw [Bool.eq_iff_iff]
  simp only [Bool.and_eq_true, decide_eq_true_eq]
  omega
theorem i_rem (q : DQuota) : impl_RemainingQuota.f k q = some (remF q) := by
  unfold impl_RemainingQuota.f
  rw [i_quo, ob_some]
  unfold remF quoB
  cases (ile 0 q.1 && inB q.2.1 0 100000 && inB q.2.2 0 q.2.1) <;> rfl
def strB (x : DSession) : Bool :=
  fitAll x.2.2.2.2.2.2.2.2.2.2.2.1 && (dnot (ilt 24 (llen x.2.2.2.2.2.2.2.2.2.2.2.1)) && (sndB x.2.2.2.2.2.2.2.2.2.2.2.2.1 && (dnot (ilt (iadd .i64 (llen x.2.2.2.2.2.2.2.2.2.2.2.1) 1) x.2.2.2.2.2.2.2.2.2.2.2.2.1.1) && (pktB x.2.2.2.2.2.2.2.2.2.2.2.2.1.2 x.2.2.2.2.2.2.2.2.2.2.2.1 && ile (bytesFrom x.2.2.2.2.2.2.2.2.2.2.2.2.1.2 0) (remF x.2.2.2.2.2.2.2.2.2.2.2.2.2.2)))))
end
end Go.Proofs.XF
/- Plain laws: accounts, reservations, quotas. -/
set_option linter.unusedVariables false
set_option linter.unusedSimpArgs false
set_option linter.unusedSectionVars false
set_option maxRecDepth 4000
namespace Go.Proofs.XF
open Go Go.Proofs.XTv
/-! ### The first place where something holds -/
def firstI {α : Type} (q : α → Bool) : List α → Nat
  | [] => 0
  | a :: l => bif q a then 0 else firstI q l + 1
theorem firstI_le {α : Type} (q : α → Bool) : ∀ l : List α, firstI q l ≤ l.length
  | [] => Nat.le_refl _
  | a :: l => by
    have := firstI_le q l
    unfold firstI
    cases q a
    · show firstI q l + 1 ≤ l.length + 1
      omega
    · exact Nat.zero_le _
theorem firstI_no {α : Type} (q : α → Bool) : ∀ (l : List α) (i : Nat) (h : i < l.length), i < firstI q l → q l[i] = false
  | [], i, h, _ => absurd h (Nat.not_lt_zero _)
  | a :: l, i, h, hi => by
    unfold firstI at hi
    cases hq : q a
    · rw [hq] at hi
      cases i with
      | zero => exact hq
      | succ i =>
        have hi' : i + 1 < firstI q l + 1 := hi
        exact firstI_no q l i (by simpa using h) (by omega)
    · rw [hq] at hi
      exact absurd hi (Nat.not_lt_zero _)
theorem firstI_yes {α : Type} (q : α → Bool) : ∀ (l : List α) (h : firstI q l < l.length), q l[firstI q l] = true
  | [], h => absurd h (Nat.not_lt_zero _)
  | a :: l, h => by
    cases hq : q a
    · have e : firstI q (a :: l) = firstI q l + 1 := by
        show (bif q a then 0 else firstI q l + 1) = _
        rw [hq]; rfl
      have h2 : firstI q l < l.length := by
        rw [e] at h
        simpa using h
      have := firstI_yes q l h2
      simp only [e, List.getElem_cons_succ]
      exact this
    · have e : firstI q (a :: l) = 0 := by
        show (bif q a then 0 else firstI q l + 1) = _
        rw [hq]; rfl
      simp only [e, List.getElem_cons_zero]
      exact hq
def findN (l : List DSubscriberID) (s : Int) : Nat := firstI (fun e : DSubscriberID => ieq e.1 s) l
def findF (l : List DSubscriberID) (s : Int) : Int := if findN l s < l.length then (findN l s : Int) else -1
def posN (l : List DSubscriberID) (s : Int) : Nat := firstI (fun e : DSubscriberID => dnot (ilt e.1 s)) l
def resEl (l : List DSubscriberID) (i : Nat) : Bool :=
  dnot (ilt (lget TSubscriberID l (i : Int)).1 0) && (inB (lget TSubscriberID l (i : Int)).2 1 100000 && dnot (ilt 0 (i : Int) && ile (lget TSubscriberID l (i : Int)).1 (lget TSubscriberID l (isub .i64 (i : Int) 1)).1))
def sumF (l : List DSubscriberID) (n : Int) : Int := l.foldl (fun a e => iadd .i64 a e.2) n
theorem sumF_snoc (l : List DSubscriberID) (e : DSubscriberID) (n : Int) : sumF (l ++ [e]) n = iadd .i64 (sumF l n) e.2 := by simp [sumF]
def accB (x : DAccount) : Bool :=
  decide (inB x.1 0 100000 = true ∧ inB x.2.1 0 x.1 = true ∧ inB x.2.2.1 0 x.1 = true ∧ ile (llen x.2.2.2) 8 = true ∧ (∀ i, i < x.2.2.2.length → resEl x.2.2.2 i = true) ∧ ieq (iadd .i64 (iadd .i64 x.2.1 x.2.2.1) (sumF x.2.2.2 0)) x.1 = true)
def forF (l : List DSubscriberID) (s : Int) : Int := bif ilt (findF l s) 0 then 0 else (lget TSubscriberID l (findF l s)).2
def matB (a : DAccount) (q : DQuota) : Bool := accB a && (quoB q && ieq (forF a.2.2.2 q.1) q.2.1)
theorem inB_t2 {x l h : Int} (e : inB x l h = true) : l ≤ x ∧ x ≤ h := by
  unfold inB at e
  cases hh : ile l x
  · rw [hh] at e; cases e
  · rw [hh] at e; exact ⟨of_decide_eq_true hh, of_decide_eq_true e⟩
/-- Sorted: each comes before the next. -/
theorem sorted {l : List DSubscriberID} (hl : l.length ≤ 4294967296) (h : ∀ i, i < l.length → resEl l i = true) : ∀ (d i : Nat) (hi : i + d + 1 < l.length), (l[i]'(by omega)).1 < (l[i + d + 1]'hi).1 := by
  have st : ∀ (i : Nat) (hi : i + 1 < l.length), (l[i]'(by omega)).1 < (l[i + 1]'hi).1 := by
    intro i hi
    have h1 := h (i + 1) hi
    unfold resEl at h1
    rw [Bool.and_eq_true, Bool.and_eq_true] at h1
    have h2 := h1.2.2
    rw [ilt_t (show (0 : Int) < ((i + 1 : Nat) : Int) by omega), Bool.true_and, isub_eq (by omega) (by omega), show ((i + 1 : Nat) : Int) - 1 = (i : Int) by omega, lget_nat (e := TSubscriberID) _ hi, lget_nat (e := TSubscriberID) _ (show i < l.length by omega)] at h2
    exact Int.not_le.1 fun hc => by
      rw [ile_t hc] at h2; cases h2
  intro d
  induction d with
  | zero => intro i hi; exact st i hi
  | succ d ih =>
    intro i hi
    have h1 := ih i (by omega)
    have h2 := st (i + d + 1) (by omega)
    exact Int.lt_trans h1 h2
theorem sorted2 {l : List DSubscriberID} (hl : l.length ≤ 4294967296) (h : ∀ i, i < l.length → resEl l i = true) {i j : Nat} (hij : i < j) (hj : j < l.length) : (l[i]'(by omega)).1 < (l[j]'hj).1 := by
  have := sorted hl h (j - i - 1) i (by omega)
  have e : i + (j - i - 1) + 1 = j := by omega
  simp only [e] at this
  exact this
/-- Where it is found is where it would be put in. -/
theorem find_pos {l : List DSubscriberID} (hl : l.length ≤ 4294967296) (h : ∀ i, i < l.length → resEl l i = true) {s : Int} (hf : findN l s < l.length) : posN l s = findN l s := by
  have e1 : ieq (l[findN l s]'hf).1 s = true := firstI_yes (fun e : DSubscriberID => ieq e.1 s) l hf
  have e1' : (l[findN l s]'hf).1 = s := by
    unfold ieq at e1
    exact eq_of_beq e1
  have hp := firstI_le (fun e : DSubscriberID => dnot (ilt e.1 s)) l
  rcases Nat.lt_trichotomy (posN l s) (findN l s) with hlt | heq | hgt
  · have hpl : posN l s < l.length := by omega
    have e2 : dnot (ilt (l[posN l s]'hpl).1 s) = true := firstI_yes (fun e : DSubscriberID => dnot (ilt e.1 s)) l hpl
    have e3 := sorted2 hl h hlt hf
    rw [e1'] at e3
    rw [ilt_t e3] at e2
    cases e2
  · exact heq
  · have e2 : dnot (ilt (l[findN l s]'hf).1 s) = false := firstI_no (fun e : DSubscriberID => dnot (ilt e.1 s)) l _ hf hgt
    rw [e1', ilt_f (Int.lt_irrefl s)] at e2
    cases e2
theorem pos_ne {l : List DSubscriberID} {s : Int} (hf : ¬ findN l s < l.length) (hp : posN l s < l.length) : ieq (l[posN l s]'hp).1 s = false := by
  have hle := firstI_le (fun e : DSubscriberID => ieq e.1 s) l
  exact firstI_no (fun e : DSubscriberID => ieq e.1 s) l _ hp (by
    have : findN l s = l.length := Nat.le_antisymm hle (Nat.not_lt.1 hf)
    show posN l s < findN l s
    omega)
/-- The list with an amount added for s: as the reference has it. -/
def addF (l : List DSubscriberID) (s v : Int) : List DSubscriberID :=
  if findN l s < l.length then l.set (findN l s) ((lget TSubscriberID l (findN l s : Int)).1, iadd .i64 (lget TSubscriberID l (findN l s : Int)).2 v)
  else l.take (posN l s) ++ [(s, v)] ++ l.drop (posN l s)
def minF (a b : Int) : Int := bif ilt b a then b else a
/-- Reserve: what is refused, and the account afterwards with the amount. -/
def refB (a : DAccount) (s n : Int) : Bool := dnot (accB a) || (ilt s 0 || (dnot (inB n 1 100000) || (ieq a.2.1 0 || (ile 8 (llen a.2.2.2) && decide (¬ findN a.2.2.2 s < a.2.2.2.length)))))
def rsvF (a : DAccount) (s n : Int) : DAccount × Int :=
  bif refB a s n then (a, 0) else ((a.1, isub .i64 a.2.1 (minF n a.2.1), a.2.2.1, addF a.2.2.2 s (minF n a.2.1)), minF n a.2.1)
def rqF (a : DAccount) (q : DQuota) (n : Int) : DAccount × DQuota :=
  bif dnot (matB a q) then (a, q)
  else bif ilt 100000 (iadd .i64 q.2.1 (rsvF a q.1 n).2) then (a, q) else ((rsvF a q.1 n).1, q.1, iadd .i64 q.2.1 (rsvF a q.1 n).2, q.2.2)
section
variable {k : Nat} (hk : FU ≤ k)
theorem i_copyRes {x : List DSubscriberID} (h : x.length ≤ 4294967296) : impl_copyItems_impl_Reservation.f k x = some x := by
  unfold impl_copyItems_impl_Reservation.f
  rw [make_len (by omega), cond_true, lcopy_all (e := TSubscriberID)]
theorem i_copyAcc {x : DAccount} (h : Ok TAccount x) : impl_copyAccount.f k x = some x := by
  unfold impl_copyAccount.f
  rw [i_copyRes (ok_len h.2.2.2), ob_some]
theorem s_copyAcc {x : DAccount} (h : Ok TAccount x) : spec_l16Copy.f k x = some x := by
  unfold spec_l16Copy.f
  rw [app0 (ok_len h.2.2.2) (show 16 ≤ 16384 by omega), cond_true, lcat_nil]
theorem i_total (hk : FU ≤ k) {x : DAccount} (h : Ok TAccount x) : impl_TotalReserved.f k x = some (sumF x.2.2.2 0) := by
  have hl := ok_len h.2.2.2
  have := loop_up (step := impl_TotalReserved.s0) (e := sumF x.2.2.2 0) x.2.2.2.length k (fun i => (sumF (x.2.2.2.take i) 0, x.2.2.2, (x.2.2.2.length : Int), (i : Int))) (by unfold FU at hk; omega)
    (fun i hi => by
      simp only [impl_TotalReserved.s0, ilt_nat, idx_len, decide_eq_true hi, cond_true, lget_nat (e := TSubscriberID) _ hi, iadd_nat (show i < 9223372036854775807 by omega)]
      rw [← take_snoc _ hi, sumF_snoc])
    (by simp only [impl_TotalReserved.s0, ilt_nat, Nat.lt_irrefl, decide_false, cond_false, List.take_length])
  unfold impl_TotalReserved.f
  rw [llen_eq, show loopN impl_TotalReserved.s0 k (0, x.2.2.2, (x.2.2.2.length : Int), 0) = some (sumF x.2.2.2 0) by simpa [sumF] using this, ob_some]
theorem s_total (hk : FU ≤ k) {x : DAccount} (h : Ok TAccount x) : spec_TotalReserved.f k x = some (sumF x.2.2.2 0) := by
  have hl := ok_len h.2.2.2
  have := loop_up (step := spec_TotalReserved.s0) (e := sumF x.2.2.2 0) x.2.2.2.length k (fun i => ((sumF (x.2.2.2.take i) 0, (i : Int)), x)) (by unfold FU at hk; omega)
    (fun i hi => by
      simp only [spec_TotalReserved.s0, ilt_len, idx_len, decide_eq_true hi, cond_true, lget_nat (e := TSubscriberID) _ hi, iadd_nat (show i < 9223372036854775807 by omega)]
      rw [← take_snoc _ hi, sumF_snoc])
    (by simp only [spec_TotalReserved.s0, ilt_len, Nat.lt_irrefl, decide_false, cond_false, List.take_length])
  unfold spec_TotalReserved.f
  rw [show loopN spec_TotalReserved.s0 k ((0, 0), x) = some (sumF x.2.2.2 0) by simpa [sumF] using this, ob_some]
theorem i_acc (hk : FU ≤ k) {x : DAccount} (h : Ok TAccount x) : impl_IsValidAccount.f k x = some (accB x) := by
  have hl := ok_len h.2.2.2
  have := all_loop (step := impl_IsValidAccount.s0 k) (resEl x.2.2.2) (fin := .inl x) (bad := .inr false) (fun i => ((x.2.2.2, (x.2.2.2.length : Int), (i : Int)), x)) x.2.2.2.length
    (fun i hi => by
      have hE := idx_pred hi hl
      simp only [impl_IsValidAccount.s0, ilt_nat, idx_len, decide_eq_true hi, cond_true, i_in, ob_pick, iadd_nat (show i < 9223372036854775807 by omega), resEl]
      generalize ilt (lget TSubscriberID x.2.2.2 (i : Int)).1 0 = a
      generalize inB (lget TSubscriberID x.2.2.2 (i : Int)).2 1 100000 = b
      generalize ile (lget TSubscriberID x.2.2.2 (i : Int)).1 (lget TSubscriberID x.2.2.2 (isub .i64 (i : Int) 1)).1 = d
      generalize idxOk (isub .i64 (i : Int) 1) (llen x.2.2.2) = e at hE ⊢
      generalize ilt 0 (i : Int) = c at hE ⊢
      cases a <;> cases b <;> cases c <;> cases d <;> cases e <;> simp_all [dnot, dand])
    (by simp only [impl_IsValidAccount.s0, ilt_nat, Nat.lt_irrefl, decide_false, cond_false]) (N := k) (by unfold FU at hk; omega)
  unfold impl_IsValidAccount.f
  rw [llen_eq, show loopN (impl_IsValidAccount.s0 k) k ((x.2.2.2, (x.2.2.2.length : Int), 0), x) = _ from this, ← llen_eq]
  simp only [i_in, ob_some, ob_pick]
  unfold accB
  have e8 := not_ilt_ile 8 (llen x.2.2.2)
  rw [← e8]
  cases inB x.1 0 100000
  · rfl
  · cases inB x.2.1 0 x.1
    · rfl
    · cases inB x.2.2.1 0 x.1
      · rfl
      · cases ilt 8 (llen x.2.2.2)
        · simp only [dnot_t, dnot_f, cond_true, cond_false]
          by_cases h1 : ∀ i, i < x.2.2.2.length → resEl x.2.2.2 i = true
          · rw [if_pos h1, sel_l, i_total hk h, ob_some]
            cases hq : ieq (iadd .i64 (iadd .i64 x.2.1 x.2.2.1) (sumF x.2.2.2 0)) x.1
            · rw [decide_eq_false (p := _ ∧ _) (fun hh => by cases hh.2.2.2.2.2)]
            · rw [decide_eq_true ⟨trivial, trivial, trivial, trivial, h1, rfl⟩]
          · rw [if_neg h1, sel_r, decide_eq_false (p := _ ∧ _) (fun hh => h1 hh.2.2.2.2.1)]
        · rfl
theorem s_acc (hk : FU ≤ k) {x : DAccount} (h : Ok TAccount x) : spec_IsValidAccount.f k x = some (accB x) := by
  have hl := ok_len h.2.2.2
  have := all_loop (step := spec_IsValidAccount.s0 k) (resEl x.2.2.2) (fin := .inl x) (bad := .inr false) (fun i => ((i : Int), x)) x.2.2.2.length
    (fun i hi => by
      have hE := idx_pred hi hl
      simp only [spec_IsValidAccount.s0, ilt_len, idx_len, decide_eq_true hi, cond_true, s_in, ob_pick, iadd_nat (show i < 9223372036854775807 by omega), resEl]
      generalize ilt (lget TSubscriberID x.2.2.2 (i : Int)).1 0 = a
      generalize inB (lget TSubscriberID x.2.2.2 (i : Int)).2 1 100000 = b
      generalize ile (lget TSubscriberID x.2.2.2 (i : Int)).1 (lget TSubscriberID x.2.2.2 (isub .i64 (i : Int) 1)).1 = d
      generalize idxOk (isub .i64 (i : Int) 1) (llen x.2.2.2) = e at hE ⊢
      generalize ilt 0 (i : Int) = c at hE ⊢
      cases a <;> cases b <;> cases c <;> cases d <;> cases e <;> simp_all [dnot, dand])
    (by simp only [spec_IsValidAccount.s0, ilt_len, Nat.lt_irrefl, decide_false, cond_false]) (N := k) (by unfold FU at hk; omega)
  unfold spec_IsValidAccount.f
  rw [show loopN (spec_IsValidAccount.s0 k) k (0, x) = _ from this, ob_some]
  unfold accB
  by_cases h1 : ∀ i, i < x.2.2.2.length → resEl x.2.2.2 i = true
  · rw [if_pos h1, sel_l]
    simp only [s_in, ob_some, ob_pick, s_total hk h]
    cases inB x.1 0 100000
    · rfl
    · cases inB x.2.1 0 x.1
      · rfl
      · cases inB x.2.2.1 0 x.1
        · rfl
        · cases ile (llen x.2.2.2) 8
          · rfl
          · cases hq : ieq (iadd .i64 (iadd .i64 x.2.1 x.2.2.1) (sumF x.2.2.2 0)) x.1
            · simp only [cond_true, hq]
              rw [decide_eq_false (p := _ ∧ _) (fun hh => by cases hh.2.2.2.2.2)]
            · simp only [cond_true, hq]
              rw [decide_eq_true ⟨trivial, trivial, trivial, trivial, h1, trivial⟩]
  · rw [if_neg h1, sel_r, decide_eq_false (p := _ ∧ _) (fun hh => h1 hh.2.2.2.2.1)]
theorem i_find (hk : FU ≤ k) {x : DAccount} {s : Int} (h : Ok TAccount x) : impl_reservationIndex.f k (x, s) = some (findF x.2.2.2 s) := by
  have hl := ok_len h.2.2.2
  have hle : findN x.2.2.2 s ≤ x.2.2.2.length := firstI_le (fun e : DSubscriberID => ieq e.1 s) x.2.2.2
  have hno : ∀ i (hi : i < x.2.2.2.length), i < findN x.2.2.2 s → ieq (x.2.2.2[i]).1 s = false := fun i hi hp => firstI_no (fun e : DSubscriberID => ieq e.1 s) x.2.2.2 i hi hp
  have hup : ∀ i, i < findN x.2.2.2 s → impl_reservationIndex.s0 (s, x.2.2.2, (x.2.2.2.length : Int), (i : Int)) = some (.inl (s, x.2.2.2, (x.2.2.2.length : Int), ((i + 1 : Nat) : Int))) := fun i hp => by
    have hi : i < x.2.2.2.length := by omega
    simp only [impl_reservationIndex.s0, ilt_nat, idx_len, decide_eq_true hi, cond_true, lget_nat (e := TSubscriberID) _ hi, hno i hi hp, cond_false, iadd_nat (show i < 9223372036854775807 by omega)]
  unfold impl_reservationIndex.f findF
  by_cases hf : findN x.2.2.2 s < x.2.2.2.length
  · have hy : ieq (x.2.2.2[findN x.2.2.2 s]).1 s = true := firstI_yes (fun e : DSubscriberID => ieq e.1 s) x.2.2.2 hf
    have := loop_up (step := impl_reservationIndex.s0) (e := (.inr (findN x.2.2.2 s : Int) : Unit ⊕ Int)) (findN x.2.2.2 s) k (fun i => (s, x.2.2.2, (x.2.2.2.length : Int), (i : Int))) (by unfold FU at hk; omega) hup
      (by simp only [impl_reservationIndex.s0, ilt_nat, idx_len, decide_eq_true hf, cond_true, lget_nat (e := TSubscriberID) _ hf, hy])
    rw [if_pos hf, llen_eq, show loopN impl_reservationIndex.s0 k (s, x.2.2.2, (x.2.2.2.length : Int), 0) = _ from this, ob_some, sel_r]
  · have e : findN x.2.2.2 s = x.2.2.2.length := by omega
    have := loop_up (step := impl_reservationIndex.s0) (e := (.inl () : Unit ⊕ Int)) (findN x.2.2.2 s) k (fun i => (s, x.2.2.2, (x.2.2.2.length : Int), (i : Int))) (by unfold FU at hk; omega) hup
      (by rw [e]; simp only [impl_reservationIndex.s0, ilt_nat, Nat.lt_irrefl, decide_false, cond_false])
    rw [if_neg hf, llen_eq, show loopN impl_reservationIndex.s0 k (s, x.2.2.2, (x.2.2.2.length : Int), 0) = _ from this, ob_some, sel_l]
theorem s_find (hk : FU ≤ k) {x : DAccount} {s : Int} (h : Ok TAccount x) : spec_l16Find.f k (x, s) = some (findF x.2.2.2 s) := by
  have hl := ok_len h.2.2.2
  have hle : findN x.2.2.2 s ≤ x.2.2.2.length := firstI_le (fun e : DSubscriberID => ieq e.1 s) x.2.2.2
  have hno : ∀ i (hi : i < x.2.2.2.length), i < findN x.2.2.2 s → ieq (x.2.2.2[i]).1 s = false := fun i hi hp => firstI_no (fun e : DSubscriberID => ieq e.1 s) x.2.2.2 i hi hp
  have hup : ∀ i, i < findN x.2.2.2 s → spec_l16Find.s0 ((s, (i : Int)), x) = some (.inl ((s, ((i + 1 : Nat) : Int)), x)) := fun i hp => by
    have hi : i < x.2.2.2.length := by omega
    simp only [spec_l16Find.s0, ilt_len, idx_len, decide_eq_true hi, cond_true, lget_nat (e := TSubscriberID) _ hi, hno i hi hp, cond_false, iadd_nat (show i < 9223372036854775807 by omega)]
  unfold spec_l16Find.f findF
  by_cases hf : findN x.2.2.2 s < x.2.2.2.length
  · have hy : ieq (x.2.2.2[findN x.2.2.2 s]).1 s = true := firstI_yes (fun e : DSubscriberID => ieq e.1 s) x.2.2.2 hf
    have := loop_up (step := spec_l16Find.s0) (e := (.inr (findN x.2.2.2 s : Int) : Unit ⊕ Int)) (findN x.2.2.2 s) k (fun i => ((s, (i : Int)), x)) (by unfold FU at hk; omega) hup
      (by simp only [spec_l16Find.s0, ilt_len, idx_len, decide_eq_true hf, cond_true, lget_nat (e := TSubscriberID) _ hf, hy])
    rw [if_pos hf, show loopN spec_l16Find.s0 k ((s, 0), x) = _ from this, ob_some, sel_r]
  · have e : findN x.2.2.2 s = x.2.2.2.length := by omega
    have := loop_up (step := spec_l16Find.s0) (e := (.inl () : Unit ⊕ Int)) (findN x.2.2.2 s) k (fun i => ((s, (i : Int)), x)) (by unfold FU at hk; omega) hup
      (by rw [e]; simp only [spec_l16Find.s0, ilt_len, Nat.lt_irrefl, decide_false, cond_false])
    rw [if_neg hf, show loopN spec_l16Find.s0 k ((s, 0), x) = _ from this, ob_some, sel_l]
theorem find_idx {l : List DSubscriberID} {s : Int} (h : ilt (findF l s) 0 = false) : findN l s < l.length ∧ findF l s = (findN l s : Int) := by
  unfold findF at h ⊢
  by_cases hf : findN l s < l.length
  · rw [if_pos hf]; exact ⟨hf, rfl⟩
  · rw [if_neg hf] at h; cases h
theorem i_for (hk : FU ≤ k) {x : DAccount} {s : Int} (h : Ok TAccount x) : impl_ReservedFor.f k (x, s) = some (forF x.2.2.2 s) := by
  unfold impl_ReservedFor.f forF
  simp only [i_find hk h, ob_some]
  cases hc : ilt (findF x.2.2.2 s) 0
  · obtain ⟨h1, h2⟩ := find_idx hc
    simp only [cond_false, h2, idx_len, decide_eq_true h1, cond_true]
  · rfl
theorem s_for (hk : FU ≤ k) {x : DAccount} {s : Int} (h : Ok TAccount x) : spec_ReservedFor.f k (x, s) = some (forF x.2.2.2 s) := by
  unfold spec_ReservedFor.f forF
  simp only [s_find hk h, ob_some]
  cases hc : ilt (findF x.2.2.2 s) 0
  · obtain ⟨h1, h2⟩ := find_idx hc
    simp only [cond_false, h2, idx_len, decide_eq_true h1, cond_true]
  · rfl
theorem i_mat (hk : FU ≤ k) {x : DAccount} {q : DQuota} (h : Ok TAccount x) : impl_QuotaMatchesAccount.f k (x, q) = some (matB x q) := by
  unfold impl_QuotaMatchesAccount.f matB
  simp only [i_acc hk h, i_quo, i_for hk h, ob_some, ob_pick]
  cases accB x
  · rfl
  · cases quoB q <;> rfl
theorem s_mat (hk : FU ≤ k) {x : DAccount} {q : DQuota} (h : Ok TAccount x) : spec_QuotaMatchesAccount.f k (x, q) = some (matB x q) := by
  unfold spec_QuotaMatchesAccount.f matB
  simp only [s_acc hk h, s_quotaOk, s_for hk h, ob_some, ob_pick]
  rw [show (ile 0 q.1 && inB q.2.1 0 100000 && inB q.2.2 0 q.2.1) = quoB q from rfl]
  cases accB x
  · rfl
  · cases quoB q <;> rfl
theorem i_min (a b : Int) : impl_Min.f k (a, b) = some (minF a b) := by
  unfold impl_Min.f minF
  cases ilt b a <;> rfl
theorem s_min (a b : Int) : spec_Min.f k (a, b) = some (minF a b) := by
  unfold spec_Min.f minF
  cases ilt b a <;> rfl
theorem acc_el {x : DAccount} (h : accB x = true) : (∀ i, i < x.2.2.2.length → resEl x.2.2.2 i = true) ∧ x.2.2.2.length ≤ 8 ∧ 0 ≤ x.2.1 ∧ x.2.1 ≤ 100000 := by
  obtain ⟨a, b, c, d, e, f⟩ := of_decide_eq_true h
  have d1 : (x.2.2.2.length : Int) ≤ 8 := of_decide_eq_true d
  have a1 := inB_t2 a
  have b1 := inB_t2 b
  exact ⟨e, by omega, b1.1, Int.le_trans b1.2 a1.2⟩
end
end Go.Proofs.XF
/- Plain laws: reserving, requesting and ensuring quota. -/
set_option linter.unusedVariables false
set_option linter.unusedSimpArgs false
set_option linter.unusedSectionVars false
set_option maxRecDepth 4000
namespace Go.Proofs.XF
open Go Go.Proofs.XTv
theorem ins_core {α : Type} (l : List α) {p : Nat} (hp : p ≤ l.length) (z : α) :
    lcopy (l ++ [z]) ((p + 1 : Nat) : Int) ((l.length - p : Nat) : Int) (ltake (ldrop (l ++ [z]) (p : Int)) ((l.length + 1 - p : Nat) : Int)) = (l ++ [z]).take (p + 1) ++ l.drop p := by
  unfold lcopy ltake ldrop
  simp only [Int.toNat_natCast]
  have e1 : ((l ++ [z]).drop p).take (l.length + 1 - p) = (l ++ [z]).drop p := List.take_of_length_le (by simp)
  have e2 : ((l ++ [z]).drop p).take (l.length - p) = l.drop p := by
    rw [List.drop_append_of_le_length hp, List.take_append_of_le_length (by simp), List.take_of_length_le (by simp)]
  have e3 : (l ++ [z]).drop (p + 1 + min (l.length - p) ((l ++ [z]).drop p).length) = [] := List.drop_eq_nil_of_le (by
    rw [List.length_drop, List.length_append, List.length_singleton]; omega)
  rw [e1, e2, e3, List.append_nil]
theorem ins_len {α : Type} (l : List α) {p : Nat} (hp : p ≤ l.length) (z : α) : ((l ++ [z]).take (p + 1) ++ l.drop p).length = l.length + 1 := by
  simp; omega
theorem set_mid {α : Type} : ∀ (a : List α) (w v : α) (b : List α), (a ++ ([w] ++ b)).set a.length v = a ++ ([v] ++ b)
  | [], w, v, b => rfl
  | x :: a, w, v, b => by
    show x :: (a ++ ([w] ++ b)).set a.length v = x :: (a ++ ([v] ++ b))
    rw [set_mid a w v b]
theorem ins_set {α : Type} (l : List α) {p : Nat} (hp : p ≤ l.length) (z v : α) : ((l ++ [z]).take (p + 1) ++ l.drop p).set p v = l.take p ++ [v] ++ l.drop p := by
  have h1 : p < (l ++ [z]).length := by simp; omega
  rw [List.take_succ_eq_append_getElem h1, List.take_append_of_le_length hp, List.append_assoc, List.append_assoc]
  have hl : (l.take p).length = p := by simp; omega
  have := set_mid (l.take p) (l ++ [z])[p] v (l.drop p)
  rw [hl] at this
  exact this
section
variable {k : Nat} (hk : FU ≤ k)
theorem pos_le (l : List DSubscriberID) (s : Int) : posN l s ≤ l.length := firstI_le (fun e : DSubscriberID => dnot (ilt e.1 s)) l
theorem pos_lt {l : List DSubscriberID} {s : Int} {i : Nat} (h : i < posN l s) (hi : i < l.length) : ilt (l[i]).1 s = true := by
  have := firstI_no (fun e : DSubscriberID => dnot (ilt e.1 s)) l i hi h
  cases hc : ilt (l[i]).1 s
  · simp only [hc] at this; cases this
  · rfl
theorem pos_no {l : List DSubscriberID} {s : Int} (hi : posN l s < l.length) : ilt (l[posN l s]).1 s = false := by
  have := firstI_yes (fun e : DSubscriberID => dnot (ilt e.1 s)) l hi
  cases hc : ilt (l[posN l s]).1 s
  · rfl
  · have h2 : dnot (ilt (l[posN l s]).1 s) = true := this
    rw [hc] at h2; cases h2
theorem s_add (hk : FU ≤ k) {l : List DSubscriberID} {s v : Int} (hl : l.length ≤ 4294967296) (hs : ∀ i, i < l.length → resEl l i = true) : spec_l16Add.f k (l, s, v) = some (addF l s v) := by
  have hp := pos_le l s
  have hup : ∀ i, i < posN l s → spec_l16Add.s0 (l, s, v, (i : Int)) = some (.inl (l, s, v, ((i + 1 : Nat) : Int))) := fun i hi => by
    have h1 : i < l.length := by omega
    simp only [spec_l16Add.s0, ilt_len, idx_len, decide_eq_true h1, cond_true, lget_nat (e := TSubscriberID) _ h1, pos_lt hi h1, iadd_nat (show i < 9223372036854775807 by omega)]
  have hend : spec_l16Add.s0 (l, s, v, (posN l s : Int)) = some (.inr (l, s, v, (posN l s : Int))) := by
    by_cases h1 : posN l s < l.length
    · simp only [spec_l16Add.s0, ilt_len, idx_len, decide_eq_true h1, cond_true, lget_nat (e := TSubscriberID) _ h1, pos_no h1, cond_false]
    · simp only [spec_l16Add.s0, ilt_len, idx_len, decide_eq_false h1, cond_false, dnot_f, cond_true]
  have := loop_up (step := spec_l16Add.s0) (e := (l, s, v, (posN l s : Int))) (posN l s) k (fun i => (l, s, v, (i : Int))) (by unfold FU at hk; omega) hup hend
  unfold spec_l16Add.f addF
  rw [show loopN spec_l16Add.s0 k (l, s, v, 0) = _ from this, ob_some]
  have ec : (bif idxOk (posN l s : Int) (llen l) then true else dnot (ilt (posN l s : Int) (llen l))) = true := by
    simp only [ilt_len, idx_len]
    cases decide (posN l s < l.length) <;> rfl
  simp only [ec, cond_true]
  by_cases hf : findN l s < l.length
  · have e := find_pos hl hs hf
    have e1 : ieq (l[findN l s]'hf).1 s = true := firstI_yes (fun e : DSubscriberID => ieq e.1 s) l hf
    rw [if_pos hf, e]
    simp only [ilt_len, idx_len, decide_eq_true hf, cond_true, lget_nat (e := TSubscriberID) _ hf, e1, app0 hl (show 16 ≤ 16384 by omega), lcat_nil, lmod, lset_nat]
  · rw [if_neg hf]
    have e2 : (bif ilt (posN l s : Int) (llen l) then ieq (lget TSubscriberID l (posN l s : Int)).1 s else false) = false := by
      by_cases h1 : posN l s < l.length
      · simp only [ilt_len, decide_eq_true h1, cond_true, lget_nat (e := TSubscriberID) _ h1, pos_ne hf h1]
      · simp only [ilt_len, decide_eq_false h1, cond_false]
    have c1 : cutOk 0 (posN l s : Int) (llen l) = true := decide_eq_true ⟨by omega, by omega, by rw [llen_eq]; omega⟩
    have c2 : cutOk (posN l s : Int) (llen l) (llen l) = true := decide_eq_true ⟨by omega, by rw [llen_eq]; omega, by omega⟩
    have t1 : ltake l (posN l s : Int) = l.take (posN l s) := rfl
    have t2 : ldrop l (posN l s : Int) = l.drop (posN l s) := rfl
    have a1 : appOk ([] : List DSubscriberID) (l.take (posN l s)) 16 = true := app_ok (by simp; omega)
    have a2 : appOk (l.take (posN l s)) [(s, v)] 16 = true := app_ok (by simp; omega)
    have a3 : appOk (l.take (posN l s) ++ [(s, v)]) (l.drop (posN l s)) 16 = true := app_ok (by simp; omega)
    simp only [e2, cond_false, c1, c2, t1, t2, cond_true, a1, lcat_eq, List.nil_append, a2, a3]
theorem i_insLoop (hk : FU ≤ k) {l : List DSubscriberID} {s v : Int} (hl : l.length ≤ 4294967296) (j : DAccount) (hd : DQuota) : loopN impl_Reserve.s0 k ((s, v, 0), j, hd, l) = some ((s, v, (posN l s : Int)), j, hd, l) := by
  have hp := pos_le l s
  have hup : ∀ i, i < posN l s → impl_Reserve.s0 ((s, v, (i : Int)), j, hd, l) = some (.inl ((s, v, ((i + 1 : Nat) : Int)), j, hd, l)) := fun i hi => by
    have h1 : i < l.length := by omega
    simp only [impl_Reserve.s0, ilt_len, idx_len, decide_eq_true h1, cond_true, lget_nat (e := TSubscriberID) _ h1, pos_lt hi h1, iadd_nat (show i < 9223372036854775807 by omega)]
  have hend : impl_Reserve.s0 ((s, v, (posN l s : Int)), j, hd, l) = some (.inr ((s, v, (posN l s : Int)), j, hd, l)) := by
    by_cases h1 : posN l s < l.length
    · simp only [impl_Reserve.s0, ilt_len, idx_len, decide_eq_true h1, cond_true, lget_nat (e := TSubscriberID) _ h1, pos_no h1, cond_false]
    · simp only [impl_Reserve.s0, ilt_len, idx_len, decide_eq_false h1, cond_false, dnot_f, cond_true]
  exact loop_up (step := impl_Reserve.s0) (e := ((s, v, (posN l s : Int)), j, hd, l)) (posN l s) k (fun i => ((s, v, (i : Int)), j, hd, l)) (by unfold FU at hk; omega) hup hend
theorem s_rsv (hk : FU ≤ k) {a : DAccount} {s n : Int} (h : Ok TAccount a) : spec_Reserve.f k (a, s, n) = some (rsvF a s n) := by
  have hl := ok_len h.2.2.2
  unfold spec_Reserve.f rsvF refB
  simp only [s_copyAcc h, s_acc hk h, s_in, s_find hk h, s_min, ob_some, ob_pick]
  cases hA : accB a
  · rfl
  · obtain ⟨hs, _⟩ := acc_el hA
    cases ilt s 0
    · cases inB n 1 100000
      · rfl
      · cases ieq a.2.1 0
        · simp only [s_add hk hl hs, ob_some]
          by_cases hf : findN a.2.2.2 s < a.2.2.2.length
          · have e : findF a.2.2.2 s = (findN a.2.2.2 s : Int) := by unfold findF; rw [if_pos hf]
            rw [e, decide_eq_false (p := ¬ findN a.2.2.2 s < a.2.2.2.length) (not_not_intro hf)]
            cases ile 8 (llen a.2.2.2)
            · rfl
            · simp only [dnot_t, dnot_f, dand, cond_true, cond_false, Bool.true_and, ilt_nn, Bool.or_false, Bool.false_or, Bool.and_false]
          · have e : findF a.2.2.2 s = -1 := by unfold findF; rw [if_neg hf]
            rw [e, decide_eq_true hf]
            cases ile 8 (llen a.2.2.2) <;> rfl
        · rfl
    · rfl
theorem i_rsv (hk : FU ≤ k) {a : DAccount} {s n : Int} (h : Ok TAccount a) : impl_Reserve.f k (a, s, n) = some (rsvF a s n) := by
  have hl := ok_len h.2.2.2
  unfold impl_Reserve.f rsvF refB
  simp only [i_copyAcc h, i_acc hk h, i_in, i_find hk h, i_min, ob_some, ob_pick]
  cases hA : accB a
  · rfl
  · obtain ⟨hs, _⟩ := acc_el hA
    cases ilt s 0
    · cases inB n 1 100000
      · rfl
      · cases ieq a.2.1 0
        · by_cases hf : findN a.2.2.2 s < a.2.2.2.length
          · have e : findF a.2.2.2 s = (findN a.2.2.2 s : Int) := by unfold findF; rw [if_pos hf]
            have e0 : ile 0 (findN a.2.2.2 s : Int) = true := ile_t (by omega)
            rw [e, decide_eq_false (not_not_intro hf)]
            simp only [dnot_t, dnot_f, cond_true, cond_false, e0, idx_len, decide_eq_true hf, lmod, lset_nat, Bool.and_false, Bool.or_false, Bool.false_or]
            unfold addF
            rw [if_pos hf]
          · have e : findF a.2.2.2 s = -1 := by unfold findF; rw [if_neg hf]
            have e0 : ile 0 (-1) = false := rfl
            rw [e, decide_eq_true hf]
            simp only [dnot_t, dnot_f, cond_true, cond_false, e0, Bool.and_true, Bool.or_false, Bool.false_or]
            cases ile 8 (llen a.2.2.2)
            · have hp := pos_le a.2.2.2 s
              have a1 : appOk a.2.2.2 [((0 : Int), (0 : Int))] 16 = true := app_ok (by simp; omega)
              have i1 : iadd .i64 (posN a.2.2.2 s : Int) 1 = ((posN a.2.2.2 s + 1 : Nat) : Int) := iadd_nat (by omega)
              have n1 : llen (a.2.2.2 ++ [((0 : Int), (0 : Int))]) = ((a.2.2.2.length + 1 : Nat) : Int) := by rw [llen_eq]; simp
              have c1 : cutOk ((posN a.2.2.2 s + 1 : Nat) : Int) ((a.2.2.2.length + 1 : Nat) : Int) ((a.2.2.2.length + 1 : Nat) : Int) = true := decide_eq_true ⟨by omega, by omega, by omega⟩
              have c2 : cutOk (posN a.2.2.2 s : Int) ((a.2.2.2.length + 1 : Nat) : Int) ((a.2.2.2.length + 1 : Nat) : Int) = true := decide_eq_true ⟨by omega, by omega, by omega⟩
              have d1 : idiff ((a.2.2.2.length + 1 : Nat) : Int) ((posN a.2.2.2 s + 1 : Nat) : Int) = ((a.2.2.2.length - posN a.2.2.2 s : Nat) : Int) := by unfold idiff; omega
              have d2 : idiff ((a.2.2.2.length + 1 : Nat) : Int) (posN a.2.2.2 s : Int) = ((a.2.2.2.length + 1 - posN a.2.2.2 s : Nat) : Int) := by unfold idiff; omega
              have x1 : idxOk (posN a.2.2.2 s : Int) (llen ((a.2.2.2 ++ [((0 : Int), (0 : Int))]).take (posN a.2.2.2 s + 1) ++ a.2.2.2.drop (posN a.2.2.2 s))) = true := by
                rw [llen_eq, ins_len _ hp]
                exact decide_eq_true ⟨by omega, by omega⟩
              simp only [cond_false, i_insLoop hk hl, ob_some, a1, cond_true, lcat_eq, i1, n1, c1, c2, d1, d2, ins_core _ hp, x1, lset_nat, ins_set _ hp]
              unfold addF
              rw [if_neg hf]
            · rfl
        · rfl
    · rfl
theorem rsv_bd {a : DAccount} {s n : Int} (hA : accB a = true) : 0 ≤ (rsvF a s n).2 ∧ (rsvF a s n).2 ≤ 100000 := by
  obtain ⟨_, _, h1, h2⟩ := acc_el hA
  unfold rsvF
  cases hr : refB a s n
  · have hn : inB n 1 100000 = true := by
      unfold refB at hr
      cases hi : inB n 1 100000
      · rw [hi, hA] at hr
        cases hz : ilt s 0 <;> rw [hz] at hr <;> cases hr
      · rfl
    have hb := inB_t2 hn
    show 0 ≤ minF n a.2.1 ∧ minF n a.2.1 ≤ 100000
    unfold minF
    cases ilt a.2.1 n
    · exact ⟨by show 0 ≤ n; omega, hb.2⟩
    · exact ⟨h1, h2⟩
  · exact ⟨Int.le_refl _, by show (0 : Int) ≤ _; omega⟩
theorem i_rq (hk : FU ≤ k) {a : DAccount} {q : DQuota} {n : Int} (h : Ok TAccount a) : impl_RequestQuota.f k (a, q, n) = some (rqF a q n) := by
  unfold impl_RequestQuota.f rqF
  simp only [i_mat hk h, i_rsv hk h, i_copyAcc h, ob_some]
  cases matB a q
  · rfl
  · cases ilt 100000 (iadd .i64 q.2.1 (rsvF a q.1 n).2) <;> rfl
theorem s_rq (hk : FU ≤ k) {a : DAccount} {q : DQuota} {n : Int} (h : Ok TAccount a) : spec_RequestQuota.f k (a, q, n) = some (rqF a q n) := by
  unfold spec_RequestQuota.f rqF
  simp only [s_mat hk h, s_rsv hk h, s_copyAcc h, s_quotaOk, ob_some, ob_pick]
  cases hm : matB a q
  · rfl
  · unfold matB at hm
    rw [Bool.and_eq_true, Bool.and_eq_true] at hm
    obtain ⟨hA, hq, _⟩ := hm
    have hb := rsv_bd (s := q.1) (n := n) hA
    unfold quoB at hq
    rw [Bool.and_eq_true, Bool.and_eq_true] at hq
    have q1 : 0 ≤ q.1 := of_decide_eq_true hq.1.1
    have q2 := inB_t2 hq.1.2
    have q3 := inB_t2 hq.2
    generalize (rsvF a q.1 n).2 = v at hb
    have e : (ile 0 q.1 && inB (iadd .i64 q.2.1 v) 0 100000 && inB q.2.2 0 (iadd .i64 q.2.1 v)) = dnot (ilt 100000 (iadd .i64 q.2.1 v)) := by
      have q4 : (q.2.1 : Int) ≤ 100000 := q2.2
      have q5 : (0 : Int) ≤ q.2.1 := q2.1
      have q6 : (0 : Int) ≤ q.2.2 := q3.1
      have q7 : (q.2.2 : Int) ≤ q.2.1 := q3.2
      generalize (q.2.1 : Int) = y at q4 q5 q7 ⊢
      generalize (q.2.2 : Int) = z at q6 q7 ⊢
      rw [iadd_eq (by omega) (by omega)]
      unfold inB
      rw [ile_t q1, ile_t (show 0 ≤ y + v by omega), ile_t q6, ile_t (show z ≤ y + v by omega), not_ilt_ile]
      cases ile (y + v) 100000 <;> rfl
    rw [e]
    cases ilt 100000 (iadd .i64 q.2.1 v) <;> rfl
def maxF (a b : Int) : Int := if a ≤ b then b else a
theorem i_max (a b : Int) : impl_Max.f k (a, b) = some (maxF a b) := by
  unfold impl_Max.f maxF
  by_cases h : a < b
  · rw [ilt_t h, if_pos (by omega)]; rfl
  · rw [ilt_f h]
    by_cases h2 : a ≤ b
    · have : a = b := by omega
      subst this
      rw [if_pos h2]; rfl
    · rw [if_neg h2]; rfl
def needF (s : DSession) (n : Int) : Int := maxF 0 (isub .i64 (iadd .i64 (bytesFrom s.2.2.2.2.2.2.2.2.2.2.2.2.1.2 0) n) (remF s.2.2.2.2.2.2.2.2.2.2.2.2.2.2))
theorem i_need (hk : FU ≤ k) {s : DSession} {n : Int} (h : Ok TSession s) : impl_QuotaNeeded.f k (s, n) = some (needF s n) := by
  have hl := ok_len h.2.2.2.2.2.2.2.2.2.2.2.2.1.2
  unfold impl_QuotaNeeded.f impl_OutstandingBytes.f
  simp only [i_numberedBytes hk hl, i_rem, i_max, ob_some]; rfl
theorem s_need (hk : FU ≤ k) {s : DSession} {n : Int} (h : Ok TSession s) : spec_QuotaNeeded.f k (s, n) = some (needF s n) := by
  have hl := ok_len h.2.2.2.2.2.2.2.2.2.2.2.2.1.2
  unfold spec_QuotaNeeded.f spec_OutstandingBytes.f
  simp only [s_bytes hk hl, s_remaining, s_max hk, ob_some]; rfl
def ensF (s : DSession) (a : DAccount) (n : Int) : DSession × DAccount :=
  bif ile (needF s n) 0 then (s, a)
  else ((s.1, s.2.1, s.2.2.1, s.2.2.2.1, s.2.2.2.2.1, s.2.2.2.2.2.1, s.2.2.2.2.2.2.1, s.2.2.2.2.2.2.2.1, s.2.2.2.2.2.2.2.2.1, s.2.2.2.2.2.2.2.2.2.1, s.2.2.2.2.2.2.2.2.2.2.1, s.2.2.2.2.2.2.2.2.2.2.2.1, s.2.2.2.2.2.2.2.2.2.2.2.2.1, s.2.2.2.2.2.2.2.2.2.2.2.2.2.1, (rqF a s.2.2.2.2.2.2.2.2.2.2.2.2.2.2 (maxF (needF s n) s.2.1.2.2.1)).2), (rqF a s.2.2.2.2.2.2.2.2.2.2.2.2.2.2 (maxF (needF s n) s.2.1.2.2.1)).1)
theorem i_ens (hk : FU ≤ k) {s : DSession} {a : DAccount} {n : Int} (h : Ok TSession s) (ha : Ok TAccount a) : impl_EnsureQuota.f k (s, a, n) = some (ensF s a n) := by
  unfold impl_EnsureQuota.f ensF
  simp only [i_copySession hk h, i_need hk h, i_copyAcc ha, i_max, i_rq hk ha, ob_some]
  cases ile (needF s n) 0 <;> rfl
theorem s_ens (hk : FU ≤ k) {s : DSession} {a : DAccount} {n : Int} (h : Ok TSession s) (ha : Ok TAccount a) : spec_EnsureQuota.f k (s, a, n) = some (ensF s a n) := by
  unfold spec_EnsureQuota.f ensF
  simp only [s_copySession hk h, s_need hk h, s_copyAcc ha, s_max hk, s_rq hk ha, ob_some]
  cases ile (needF s n) 0 <;> rfl
theorem ok_min {a b : Int} (ha : Ok (.int .i64) a) (hb : Ok (.int .i64) b) : Ok (.int .i64) (minF a b) := by
  unfold minF
  cases ilt b a
  · exact ha
  · exact hb
theorem ok_max {a b : Int} (ha : Ok (.int .i64) a) (hb : Ok (.int .i64) b) : Ok (.int .i64) (maxF a b) := by
  unfold maxF
  split
  · exact hb
  · exact ha
theorem ok_addF {l : List DSubscriberID} {s v : Int} (h : Ok (.sl TSubscriberID) l) (hs : Ok (.int .i64) s) (hv : Ok (.int .i64) v) (h8 : l.length ≤ 8) : Ok (.sl TSubscriberID) (addF l s v) ∧ (addF l s v).length ≤ l.length + 1 := by
  unfold addF
  by_cases hf : findN l s < l.length
  · rw [if_pos hf]
    refine ⟨⟨by rw [List.length_set]; exact h.1, fun x hx => ?_⟩, by rw [List.length_set]; omega⟩
    rcases List.mem_or_eq_of_mem_set hx with hm | rfl
    · exact h.2 _ hm
    · have : Ok TSubscriberID (lget TSubscriberID l (findN l s : Int)) := by
        rw [lget_nat (e := TSubscriberID) _ hf]; exact h.2 _ (List.getElem_mem hf)
      exact ⟨this.1, ok_add _ _⟩
  · rw [if_neg hf]
    have hp := pos_le l s
    have hlen : (l.take (posN l s) ++ [(s, v)] ++ l.drop (posN l s)).length = l.length + 1 := by simp; omega
    refine ⟨⟨by rw [hlen]; omega, fun x hx => ?_⟩, by rw [hlen]; exact Nat.le_refl _⟩
    rcases List.mem_append.1 hx with hx | hx
    · rcases List.mem_append.1 hx with hx | hx
      · exact h.2 _ (List.mem_of_mem_take hx)
      · rw [List.mem_singleton.1 hx]; exact ⟨hs, hv⟩
    · exact h.2 _ (List.mem_of_mem_drop hx)
theorem ok_rsv {a : DAccount} {s n : Int} (h : Ok TAccount a) (hs : Ok (.int .i64) s) (hn : Ok (.int .i64) n) : Ok TAccount (rsvF a s n).1 ∧ (rsvF a s n).1.2.2.2.length ≤ a.2.2.2.length + 1 := by
  unfold rsvF
  cases hr : refB a s n
  · have hA : accB a = true := by
      unfold refB at hr
      cases hA : accB a
      · rw [hA] at hr; cases hr
      · rfl
    have hm := ok_min hn h.2.1
    obtain ⟨h1, h2⟩ := ok_addF h.2.2.2 hs hm (acc_el hA).2.1
    exact ⟨⟨h.1, ok_sub _ _, h.2.2.1, h1⟩, h2⟩
  · exact ⟨h, Nat.le_succ _⟩
theorem ok_rq {a : DAccount} {q : DQuota} {n : Int} (h : Ok TAccount a) (hq : Ok TQuota q) (hn : Ok (.int .i64) n) : Ok TAccount (rqF a q n).1 ∧ Ok TQuota (rqF a q n).2 ∧ (rqF a q n).1.2.2.2.length ≤ a.2.2.2.length + 1 := by
  obtain ⟨h1, h2⟩ := ok_rsv h hq.1 hn
  unfold rqF
  cases matB a q
  · exact ⟨h, hq, Nat.le_succ _⟩
  · cases ilt 100000 (iadd .i64 q.2.1 (rsvF a q.1 n).2)
    · exact ⟨h1, ⟨hq.1, ok_add _ _, hq.2.2⟩, h2⟩
    · exact ⟨h, hq, Nat.le_succ _⟩
theorem cnt_acc (a : DAccount) : cnt TAccount a = a.2.2.2.length := by
  show 0 + (0 + (0 + (a.2.2.2.length + (a.2.2.2.map fun _ => 0).sum))) = _
  rw [sum_zero]; omega
theorem ok_z2 : Ok (.int .i64) (0 : Int) := okn (by omega)
theorem ok_need (s : DSession) (n : Int) : Ok (.int .i64) (needF s n) := ok_max ok_z2 (ok_sub _ _)
theorem ok_ens {s : DSession} {a : DAccount} {n : Int} (h : Ok TSession s) (ha : Ok TAccount a) : Ok TSession (ensF s a n).1 ∧ Ok TAccount (ensF s a n).2 ∧ cnt TSession (ensF s a n).1 = cnt TSession s ∧ cnt TAccount (ensF s a n).2 ≤ cnt TAccount a + 1 := by
  obtain ⟨h1, h2, h3⟩ := ok_rq (n := maxF (needF s n) s.2.1.2.2.1) ha h.2.2.2.2.2.2.2.2.2.2.2.2.2.2 (ok_max (ok_need s n) h.2.1.2.2.1)
  unfold ensF
  cases ile (needF s n) 0
  · refine ⟨⟨h.1, h.2.1, h.2.2.1, h.2.2.2.1, h.2.2.2.2.1, h.2.2.2.2.2.1, h.2.2.2.2.2.2.1, h.2.2.2.2.2.2.2.1, h.2.2.2.2.2.2.2.2.1, h.2.2.2.2.2.2.2.2.2.1, h.2.2.2.2.2.2.2.2.2.2.1, h.2.2.2.2.2.2.2.2.2.2.2.1, h.2.2.2.2.2.2.2.2.2.2.2.2.1, h.2.2.2.2.2.2.2.2.2.2.2.2.2.1, h2⟩, h1, rfl, ?_⟩
    rw [cnt_acc, cnt_acc]; exact h3
  · exact ⟨h, ha, rfl, Nat.le_succ _⟩
theorem both_EnsureQuota (hk : FU ≤ k) {x : (.pair TSession (.pair TAccount (.int .i64)) : Ty).den} (h : Ok (.pair TSession (.pair TAccount (.int .i64))) x) (hn : cnt (.pair TSession (.pair TAccount (.int .i64))) x ≤ 1048576) :
    ∃ r, spec_EnsureQuota.f k x = some r ∧ impl_EnsureQuota.f k x = some r ∧ Ok (.pair TSession TAccount) r ∧ cnt (.pair TSession TAccount) r ≤ 67108864 := by
  obtain ⟨s, a, n⟩ := x
  obtain ⟨h1, h2, h3⟩ := h
  obtain ⟨o1, o2, o3, o4⟩ := ok_ens (n := n) h1 h2
  have hc : cnt TSession s + (cnt TAccount a + 0) ≤ 1048576 := hn
  refine ⟨ensF s a n, s_ens hk h1 h2, i_ens hk h1 h2, ⟨o1, o2⟩, ?_⟩
  have hf : cnt TSession s + (cnt TAccount a + 1) ≤ 67108864 := by omega
  exact Nat.le_trans (Nat.add_le_add (Nat.le_of_eq o3) o4) hf
end
end Go.Proofs.XF
/- The exact laws. -/
set_option linter.unusedVariables false
set_option linter.unusedSimpArgs false
set_option maxRecDepth 4000
namespace Go.Proofs.XF
open Go Go.Proofs.XTv
theorem law_EnsureQuota {k : Nat} (hk : FU ≤ k) {x : ((.pair TSession (.pair TAccount (.int .i64))) : Ty).den} (hg : Good' (.pair TSession (.pair TAccount (.int .i64))) x) : laws_FnExactEnsureQuota.f k x = some true := by
  unfold laws_FnExactEnsureQuota.f
  refine law_sz (by omega) (szSession hk hg.1 (by omega) (by omega)) fun hc0 => ?_
  refine law_sz (by omega) (szAccount hk hg.2.1 (by omega) (by omega)) fun hc1 => ?_
  have ho0 : Ok TSession x.1 := ok_of_cnt _ _ hg.1 (by omega)
  have ho1 : Ok TAccount x.2.1 := ok_of_cnt _ _ hg.2.1 (by omega)
  have hz2 : cnt (.int .i64) x.2.2 = 0 := by simp only [cnt]
  have ho2 : Ok (.int .i64) x.2.2 := ok_of_cnt _ _ hg.2.2 (by omega)
  have hn : cnt (.pair TSession (.pair TAccount (.int .i64))) x ≤ 1048576 := by
    show cnt TSession x.1 + (cnt TAccount x.2.1 + (cnt (.int .i64) x.2.2)) ≤ _
    omega
  obtain ⟨r, hs, hi, hr, hrc⟩ := both_EnsureQuota hk (x := x) ⟨ho0, ho1, ho2⟩ hn
  have hrc0 : cnt TSession r.1 ≤ 67108864 := Nat.le_trans (by show _ ≤ cnt TSession r.1 + (cnt TAccount r.2); omega) hrc
  have hrc1 : cnt TAccount r.2 ≤ 67108864 := Nat.le_trans (by show _ ≤ cnt TSession r.1 + (cnt TAccount r.2); omega) hrc
  refine ob_of (toSession hk ho0) ?_
  refine ob_of (toAccount hk ho1) ?_
  refine ob_of hs ?_
  refine ob_of (toSession hk ho0) ?_
  refine ob_of (toAccount hk ho1) ?_
  refine ob_of hi ?_
  refine ob_of (eqSession hk hr.1) ?_
  refine ob_bif (by simp only [ilt_nn, dnot_t, dnot_f, cond_true, cond_false, ine_self, bne_self, seq_self]) (eqAccount hk hr.2) ?_
  refine bif_f (by simp only [ilt_nn, dnot_t, dnot_f, cond_true, cond_false, ine_self, bne_self, seq_self]) ?_
  refine ob_of (toSession hk ho0) ?_
  refine ob_of (eqSession hk ho0) ?_
  refine bif_f (by simp only [ilt_nn, dnot_t, dnot_f, cond_true, cond_false, ine_self, bne_self, seq_self]) ?_
  refine ob_of (toAccount hk ho1) ?_
  refine ob_of (eqAccount hk ho1) ?_
  refine bif_f (by simp only [ilt_nn, dnot_t, dnot_f, cond_true, cond_false, ine_self, bne_self, seq_self]) ?_
  have qv14 := cTop_le TSession x.1 256 (by decide)
  refine ob_of (markSession hk ho0 (n := 1) (by omega)) ?_
  have pv15 := mkTop_n TSession x.1 1
  have qv15 := cTop_le TAccount x.2.1 256 (by decide)
  refine ob_of (markAccount hk ho1 (n := (mkTop TSession x.1 1).2) (by omega)) ?_
  refine ob_bif (by simp only [ilt_nn, dnot_t, dnot_f, cond_true, cond_false, ine_self, bne_self, seq_self]) (eqSession hk hr.1) ?_
  refine ob_bif (by simp only [ilt_nn, dnot_t, dnot_f, cond_true, cond_false, ine_self, bne_self, seq_self]) (eqAccount hk hr.2) ?_
  refine bif_f (by simp only [ilt_nn, dnot_t, dnot_f, cond_true, cond_false, ine_self, bne_self, seq_self]) ?_
  have qv18 := cTop_le TSession r.1 256 (by decide)
  refine ob_of (markSession hk hr.1 (n := 1) (by omega)) ?_
  have pv19 := mkTop_n TSession r.1 1
  have qv19 := cTop_le TAccount r.2 256 (by decide)
  refine ob_of (markAccount hk hr.2 (n := (mkTop TSession r.1 1).2) (by omega)) ?_
  refine ob_of (heldSession hk hr.1 (n := 1) (by omega)) ?_
  refine bif_f (by simp only [ilt_nn, dnot_t, dnot_f, cond_true, cond_false, ine_self, bne_self, seq_self]) ?_
  refine ob_of (heldAccount hk hr.2 (n := (mkTop TSession r.1 1).2) (by omega)) ?_
  refine bif_f (by simp only [ilt_nn, dnot_t, dnot_f, cond_true, cond_false, ine_self, bne_self, seq_self]) ?_
  refine bif_f (by simp only [ilt_nn, dnot_t, dnot_f, cond_true, cond_false, ine_self, bne_self, seq_self]) ?_
  refine ob_of (toSession hk ho0) ?_
  refine ob_of (toAccount hk ho1) ?_
  refine ob_of hi ?_
  refine ob_of (eqSession hk hr.1) ?_
  refine ob_bif (by simp only [ilt_nn, dnot_t, dnot_f, cond_true, cond_false, ine_self, bne_self, seq_self]) (eqAccount hk hr.2) ?_
  refine bif_f (by simp only [ilt_nn, dnot_t, dnot_f, cond_true, cond_false, ine_self, bne_self, seq_self]) ?_
  refine ob_of (heldSession hk hr.1 (n := 1) (by omega)) ?_
  refine bif_f (by simp only [ilt_nn, dnot_t, dnot_f, cond_true, cond_false, ine_self, bne_self, seq_self]) ?_
  refine ob_of (heldAccount hk hr.2 (n := (mkTop TSession r.1 1).2) (by omega)) ?_
  refine bif_f (by simp only [ilt_nn, dnot_t, dnot_f, cond_true, cond_false, ine_self, bne_self, seq_self]) ?_
  refine bif_f (by simp only [ilt_nn, dnot_t, dnot_f, cond_true, cond_false, ine_self, bne_self, seq_self]) ?_
  rfl
end Go.Proofs.XF
/- What the program says of its types. -/
set_option linter.unusedVariables false
set_option maxRecDepth 100000
namespace Go.Proofs.YtbgkgnhlfmidhaaGreat.XS
open Go Go.Proofs.XTv Go.Proofs.XF
def look {α : Type} (l : List (Nat × α)) (n : Nat) : Option α := match l with
  | [] => none
  | (m, a) :: r => bif Nat.beq m n then some a else look r n
theorem look_mem {α : Type} : ∀ {l : List (Nat × α)} {n : Nat} {a : α}, look l n = some a → (n, a) ∈ l
  | (m, b) :: r, n, a, h => by
    unfold look at h
    cases hb : Nat.beq m n
    · simp only [hb, cond_false] at h; exact List.mem_cons_of_mem _ (look_mem h)
    · simp only [hb, cond_true, Option.some.injEq] at h
      rw [Nat.eq_of_beq_eq_true hb, h]; exact List.mem_cons_self ..
def tis : List (Nat × TInfo) := [
  (3, ⟨(.int .i64), false, 8, [], 0⟩),
  (5, ⟨(.int .u8), false, 1, [], 0⟩),
  (23, ⟨TSubscriberID, true, 16, [(0, 3), (1, 3)], 0⟩),
  (26, ⟨(.sl TNumberedPacket), false, 24, [], 255⟩),
  (27, ⟨(.sl (.sl (.int .u8))), false, 24, [], 217⟩),
  (33, ⟨TAuthVector, true, 40, [(0, 3), (1, 3), (2, 3), (3, 3), (4, 3)], 0⟩),
  (37, ⟨TSubscriberID, true, 16, [(0, 3), (1, 3)], 0⟩),
  (40, ⟨(.sl TNumberedPacket), false, 24, [], 144⟩),
  (41, ⟨(.sl (.sl (.int .u8))), false, 24, [], 184⟩),
  (51, ⟨TAuthVector, true, 40, [(0, 3), (1, 3), (2, 3), (3, 3), (4, 3)], 0⟩),
  (60, ⟨(.sl (.int .u8)), false, 24, [], 5⟩),
  (75, ⟨TUSIM, true, 32, [(0, 23), (2, 3), (3, 3)], 0⟩),
  (76, ⟨(.sl (.int .i64)), false, 24, [], 3⟩),
  (78, ⟨TSubscription, true, 48, [(0, 3), (1, 3), (2, 3), (3, 76)], 0⟩),
  (80, ⟨TQuota, true, 24, [(0, 3), (1, 3), (2, 3)], 0⟩),
  (82, ⟨TSendWindow, true, 32, [(0, 3), (1, 26)], 0⟩),
  (84, ⟨TQuota, true, 24, [(0, 3), (1, 3), (2, 3)], 0⟩),
  (86, ⟨TSession, true, 288, [(0, 75), (4, 78), (8, 3), (9, 33), (14, 3), (15, 3), (16, 3), (17, 3), (18, 3), (19, 3), (20, 80), (23, 27), (24, 82), (26, 3), (27, 84)], 0⟩),
  (87, ⟨(.sl TSubscriberID), false, 24, [], 232⟩),
  (89, ⟨TAccount, true, 48, [(0, 3), (1, 3), (2, 3), (3, 87)], 0⟩),
  (93, ⟨TUSIM, true, 32, [(0, 37), (2, 3), (3, 3)], 0⟩),
  (94, ⟨TSubscription, true, 48, [(0, 3), (1, 3), (2, 3), (3, 76)], 0⟩),
  (95, ⟨TQuota, true, 24, [(0, 3), (1, 3), (2, 3)], 0⟩),
  (97, ⟨TSendWindow, true, 32, [(0, 3), (1, 40)], 0⟩),
  (98, ⟨TQuota, true, 24, [(0, 3), (1, 3), (2, 3)], 0⟩),
  (100, ⟨TSession, true, 288, [(0, 93), (4, 94), (8, 3), (9, 51), (14, 3), (15, 3), (16, 3), (17, 3), (18, 3), (19, 3), (20, 95), (23, 41), (24, 97), (26, 3), (27, 98)], 0⟩),
  (101, ⟨(.sl TSubscriberID), false, 24, [], 230⟩),
  (103, ⟨TAccount, true, 48, [(0, 3), (1, 3), (2, 3), (3, 101)], 0⟩),
  (144, ⟨TNumberedPacket, true, 32, [(0, 3), (1, 60)], 0⟩),
  (184, ⟨(.sl (.int .u8)), true, 24, [(0, 60)], 0⟩),
  (217, ⟨(.sl (.int .u8)), true, 24, [(0, 60)], 0⟩),
  (230, ⟨TSubscriberID, true, 16, [(0, 3), (1, 3)], 0⟩),
  (232, ⟨TSubscriberID, true, 16, [(0, 3), (1, 3)], 0⟩),
  (255, ⟨TNumberedPacket, true, 32, [(0, 3), (1, 60)], 0⟩)]
def eqs : List Nat := []
def cx0 : Cx := { ti := look tis, eq := fun t => nmem t eqs, con := fun _ => none, loop := fun _ => none }
theorem tis_ok : tis.all (fun p => tyChk Tryz.prog cx0 p.1 p.2 && openChk cx0 p.2) = true := by kernel_rfl
theorem eqs_ok : eqs.all (fun t => !(Tryz.prog.eqGuardType Tryz.prog.depth t) && (match look tis t with | some ti => (match eqTyChk Tryz.prog 100 t (flatTy ti.ty) with | some [] => true | _ => false) | none => false)) = true := by kernel_rfl
theorem ty_ok : ∀ T ti, cx0.ti T = some ti → TyOk Tryz.prog cx0 T ti := fun T ti h => by
  have h1 := List.all_eq_true.1 tis_ok (T, ti) (look_mem h)
  rw [Bool.and_eq_true] at h1
  exact tyChk_ok h1.1
theorem open_ok : ∀ T ti, cx0.ti T = some ti → openChk cx0 ti = true := fun T ti h => by
  have h1 := List.all_eq_true.1 tis_ok (T, ti) (look_mem h)
  rw [Bool.and_eq_true] at h1
  exact h1.2
theorem cx_ok : CxOk Tryz.prog cx0 := ⟨ty_ok, fun T h => by
  have h1 := List.all_eq_true.1 eqs_ok T (nmem_iff.1 h)
  rw [Bool.and_eq_true, Bool.not_eq_true'] at h1
  refine ⟨h1.1, ?_⟩
  cases ht : look tis T with
  | none => simp [ht] at h1
  | some ti =>
    refine ⟨ti, ht, ?_⟩
    have h2 := h1.2
    rw [ht] at h2
    simp only at h2
    split at h2
    · assumption
    · cases h2⟩
end Go.Proofs.YtbgkgnhlfmidhaaGreat.XS
/- What each function is to be given and gives. -/
set_option linter.unusedVariables false
set_option maxRecDepth 100000
namespace Go.Proofs.YtbgkgnhlfmidhaaGreat.XS
open Go Go.Proofs.XTv Go.Proofs.XF
def laws_szIntS.ps : List PK := [.val (.sl (.int .i64)) false, .val (.int .i64) false]
def laws_szIntS.rs : List RK := [⟨(.int .i64), false, .own⟩]
def laws_szIntS.con : Con := ⟨laws_szIntS.ps, laws_szIntS.rs, laws_szIntS.f⟩
def laws_szIntS.cx : Cx := { cx0 with con := look [], loop := look [] }
def laws_szSubscription.ps : List PK := [.val TSubscription true, .val (.int .i64) false]
def laws_szSubscription.rs : List RK := [⟨(.int .i64), false, .own⟩]
def laws_szSubscription.con : Con := ⟨laws_szSubscription.ps, laws_szSubscription.rs, laws_szSubscription.f⟩
def laws_szSubscription.cx : Cx := { cx0 with con := look [(173, laws_szIntS.con)], loop := look [] }
def laws_szByteS.ps : List PK := [.val (.sl (.int .u8)) false, .val (.int .i64) false]
def laws_szByteS.rs : List RK := [⟨(.int .i64), false, .own⟩]
def laws_szByteS.con : Con := ⟨laws_szByteS.ps, laws_szByteS.rs, laws_szByteS.f⟩
def laws_szByteS.cx : Cx := { cx0 with con := look [], loop := look [] }
def laws_szPayload.ps : List PK := [.val (.sl (.int .u8)) true, .val (.int .i64) false]
def laws_szPayload.rs : List RK := [⟨(.int .i64), false, .own⟩]
def laws_szPayload.con : Con := ⟨laws_szPayload.ps, laws_szPayload.rs, laws_szPayload.f⟩
def laws_szPayload.cx : Cx := { cx0 with con := look [(157, laws_szByteS.con)], loop := look [] }
def laws_szPayloadS.ps : List PK := [.val (.sl (.sl (.int .u8))) false, .val (.int .i64) false]
def laws_szPayloadS.rs : List RK := [⟨(.int .i64), false, .own⟩]
def laws_szPayloadS.con : Con := ⟨laws_szPayloadS.ps, laws_szPayloadS.rs, laws_szPayloadS.f⟩
def laws_szPayloadS.cx : Cx := { cx0 with con := look [(174, laws_szPayload.con)], loop := look [(5, ⟨⟨[(0, false, [.dat (.sl (.sl (.int .u8))) [0]]), (1, false, [.dat (.int .i64) []]), (5, false, [.dat (.int .i64) []])], []⟩, [(.exit 0, ⟨[(1, false, [.dat (.int .i64) []])], []⟩), (.ret, ⟨[(4, false, [.dat (.int .i64) []])], []⟩)]⟩)] }
def laws_szNumberedPacket.ps : List PK := [.val TNumberedPacket true, .val (.int .i64) false]
def laws_szNumberedPacket.rs : List RK := [⟨(.int .i64), false, .own⟩]
def laws_szNumberedPacket.con : Con := ⟨laws_szNumberedPacket.ps, laws_szNumberedPacket.rs, laws_szNumberedPacket.f⟩
def laws_szNumberedPacket.cx : Cx := { cx0 with con := look [(157, laws_szByteS.con)], loop := look [] }
def laws_szNumberedPacketS.ps : List PK := [.val (.sl TNumberedPacket) false, .val (.int .i64) false]
def laws_szNumberedPacketS.rs : List RK := [⟨(.int .i64), false, .own⟩]
def laws_szNumberedPacketS.con : Con := ⟨laws_szNumberedPacketS.ps, laws_szNumberedPacketS.rs, laws_szNumberedPacketS.f⟩
def laws_szNumberedPacketS.cx : Cx := { cx0 with con := look [(226, laws_szNumberedPacket.con)], loop := look [(5, ⟨⟨[(0, false, [.dat (.sl TNumberedPacket) [0]]), (1, false, [.dat (.int .i64) []]), (5, false, [.dat (.int .i64) []])], []⟩, [(.exit 0, ⟨[(1, false, [.dat (.int .i64) []])], []⟩), (.ret, ⟨[(4, false, [.dat (.int .i64) []])], []⟩)]⟩)] }
def laws_szSendWindow.ps : List PK := [.val TSendWindow true, .val (.int .i64) false]
def laws_szSendWindow.rs : List RK := [⟨(.int .i64), false, .own⟩]
def laws_szSendWindow.con : Con := ⟨laws_szSendWindow.ps, laws_szSendWindow.rs, laws_szSendWindow.f⟩
def laws_szSendWindow.cx : Cx := { cx0 with con := look [(139, laws_szNumberedPacketS.con)], loop := look [] }
def laws_szSession.ps : List PK := [.val TSession true, .val (.int .i64) false]
def laws_szSession.rs : List RK := [⟨(.int .i64), false, .own⟩]
def laws_szSession.con : Con := ⟨laws_szSession.ps, laws_szSession.rs, laws_szSession.f⟩
def laws_szSession.cx : Cx := { cx0 with con := look [(82, laws_szSubscription.con), (83, laws_szPayloadS.con), (84, laws_szSendWindow.con)], loop := look [] }
def laws_szReservationS.ps : List PK := [.val (.sl TSubscriberID) false, .val (.int .i64) false]
def laws_szReservationS.rs : List RK := [⟨(.int .i64), false, .own⟩]
def laws_szReservationS.con : Con := ⟨laws_szReservationS.ps, laws_szReservationS.rs, laws_szReservationS.f⟩
def laws_szReservationS.cx : Cx := { cx0 with con := look [], loop := look [] }
def laws_szAccount.ps : List PK := [.val TAccount true, .val (.int .i64) false]
def laws_szAccount.rs : List RK := [⟨(.int .i64), false, .own⟩]
def laws_szAccount.con : Con := ⟨laws_szAccount.ps, laws_szAccount.rs, laws_szAccount.f⟩
def laws_szAccount.cx : Cx := { cx0 with con := look [(85, laws_szReservationS.con)], loop := look [] }
def spec_l30Plan.ps : List PK := [.val TSubscription true]
def spec_l30Plan.rs : List RK := [⟨TSubscription, true, .own⟩]
def spec_l30Plan.con : Con := ⟨spec_l30Plan.ps, spec_l30Plan.rs, spec_l30Plan.f⟩
def spec_l30Plan.cx : Cx := { cx0 with con := look [], loop := look [] }
def spec_l15Bodies.ps : List PK := [.val (.sl (.sl (.int .u8))) false]
def spec_l15Bodies.rs : List RK := [⟨(.sl (.sl (.int .u8))), false, .own⟩]
def spec_l15Bodies.con : Con := ⟨spec_l15Bodies.ps, spec_l15Bodies.rs, spec_l15Bodies.f⟩
def spec_l15Bodies.cx : Cx := { cx0 with con := look [], loop := look [(3, ⟨⟨[(0, false, [.dat (.sl (.sl (.int .u8))) [0]]), (3, false, [.own 1279]), (4, false, [.dat (.int .i64) []])], [(1279, .arr (.sl (.int .u8)) true [])]⟩, [(.exit 0, ⟨[(3, false, [.own 1279])], [(1279, .arr (.sl (.int .u8)) true [])]⟩)]⟩)] }
def spec_l24Sents.ps : List PK := [.val (.sl TNumberedPacket) false]
def spec_l24Sents.rs : List RK := [⟨(.sl TNumberedPacket), false, .own⟩]
def spec_l24Sents.con : Con := ⟨spec_l24Sents.ps, spec_l24Sents.rs, spec_l24Sents.f⟩
def spec_l24Sents.cx : Cx := { cx0 with con := look [], loop := look [(3, ⟨⟨[(0, false, [.dat (.sl TNumberedPacket) [0]]), (3, false, [.own 1279]), (4, false, [.dat (.int .i64) []])], [(1279, .arr TNumberedPacket true [])]⟩, [(.exit 0, ⟨[(3, false, [.own 1279])], [(1279, .arr TNumberedPacket true [])]⟩)]⟩)] }
def spec_l24Sender.ps : List PK := [.val TSendWindow true]
def spec_l24Sender.rs : List RK := [⟨TSendWindow, true, .own⟩]
def spec_l24Sender.con : Con := ⟨spec_l24Sender.ps, spec_l24Sender.rs, spec_l24Sender.f⟩
def spec_l24Sender.cx : Cx := { cx0 with con := look [(227, spec_l24Sents.con)], loop := look [] }
def spec_l30Copy.ps : List PK := [.val TSession true]
def spec_l30Copy.rs : List RK := [⟨TSession, true, .own⟩]
def spec_l30Copy.con : Con := ⟨spec_l30Copy.ps, spec_l30Copy.rs, spec_l30Copy.f⟩
def spec_l30Copy.cx : Cx := { cx0 with con := look [(175, spec_l30Plan.con), (176, spec_l15Bodies.con), (177, spec_l24Sender.con)], loop := look [] }
def spec_Max.ps : List PK := [.val (.int .i64) false, .val (.int .i64) false]
def spec_Max.rs : List RK := [⟨(.int .i64), false, .own⟩]
def spec_Max.con : Con := ⟨spec_Max.ps, spec_Max.rs, spec_Max.f⟩
def spec_Max.cx : Cx := { cx0 with con := look [], loop := look [] }
def spec_l30Bytes.ps : List PK := [.val (.sl TNumberedPacket) false]
def spec_l30Bytes.rs : List RK := [⟨(.int .i64), false, .own⟩]
def spec_l30Bytes.con : Con := ⟨spec_l30Bytes.ps, spec_l30Bytes.rs, spec_l30Bytes.f⟩
def spec_l30Bytes.cx : Cx := { cx0 with con := look [], loop := look [(3, ⟨⟨[(0, false, [.dat (.sl TNumberedPacket) [0]]), (3, false, [.dat (.int .i64) []]), (4, false, [.dat (.int .i64) []])], []⟩, [(.exit 0, ⟨[(3, false, [.dat (.int .i64) []])], []⟩)]⟩)] }
def spec_OutstandingBytes.ps : List PK := [.val TSession true]
def spec_OutstandingBytes.rs : List RK := [⟨(.int .i64), false, .own⟩]
def spec_OutstandingBytes.con : Con := ⟨spec_OutstandingBytes.ps, spec_OutstandingBytes.rs, spec_OutstandingBytes.f⟩
def spec_OutstandingBytes.cx : Cx := { cx0 with con := look [(208, spec_l30Bytes.con)], loop := look [] }
def spec_l1In.ps : List PK := [.val (.int .i64) false, .val (.int .i64) false, .val (.int .i64) false]
def spec_l1In.rs : List RK := [⟨.bool, false, .own⟩]
def spec_l1In.con : Con := ⟨spec_l1In.ps, spec_l1In.rs, spec_l1In.f⟩
def spec_l1In.cx : Cx := { cx0 with con := look [], loop := look [] }
def spec_IsValidQuota.ps : List PK := [.val TQuota true]
def spec_IsValidQuota.rs : List RK := [⟨.bool, false, .own⟩]
def spec_IsValidQuota.con : Con := ⟨spec_IsValidQuota.ps, spec_IsValidQuota.rs, spec_IsValidQuota.f⟩
def spec_IsValidQuota.cx : Cx := { cx0 with con := look [(140, spec_l1In.con)], loop := look [] }
def spec_RemainingQuota.ps : List PK := [.val TQuota true]
def spec_RemainingQuota.rs : List RK := [⟨(.int .i64), false, .own⟩]
def spec_RemainingQuota.con : Con := ⟨spec_RemainingQuota.ps, spec_RemainingQuota.rs, spec_RemainingQuota.f⟩
def spec_RemainingQuota.cx : Cx := { cx0 with con := look [(182, spec_IsValidQuota.con)], loop := look [] }
def spec_QuotaNeeded.ps : List PK := [.val TSession true, .val (.int .i64) false]
def spec_QuotaNeeded.rs : List RK := [⟨(.int .i64), false, .own⟩]
def spec_QuotaNeeded.con : Con := ⟨spec_QuotaNeeded.ps, spec_QuotaNeeded.rs, spec_QuotaNeeded.f⟩
def spec_QuotaNeeded.cx : Cx := { cx0 with con := look [(90, spec_Max.con), (178, spec_OutstandingBytes.con), (179, spec_RemainingQuota.con)], loop := look [] }
def spec_l16Copy.ps : List PK := [.val TAccount true]
def spec_l16Copy.rs : List RK := [⟨TAccount, true, .own⟩]
def spec_l16Copy.con : Con := ⟨spec_l16Copy.ps, spec_l16Copy.rs, spec_l16Copy.f⟩
def spec_l16Copy.cx : Cx := { cx0 with con := look [], loop := look [] }
def spec_TotalReserved.ps : List PK := [.val TAccount true]
def spec_TotalReserved.rs : List RK := [⟨(.int .i64), false, .own⟩]
def spec_TotalReserved.con : Con := ⟨spec_TotalReserved.ps, spec_TotalReserved.rs, spec_TotalReserved.f⟩
def spec_TotalReserved.cx : Cx := { cx0 with con := look [], loop := look [(3, ⟨⟨[(1, false, [.ptr 512 0]), (3, false, [.dat (.int .i64) []]), (4, false, [.dat (.int .i64) []])], [(512, .box [.dat TAccount [0]])]⟩, [(.exit 0, ⟨[(3, false, [.dat (.int .i64) []])], []⟩)]⟩)] }
def spec_IsValidAccount.ps : List PK := [.val TAccount true]
def spec_IsValidAccount.rs : List RK := [⟨.bool, false, .own⟩]
def spec_IsValidAccount.con : Con := ⟨spec_IsValidAccount.ps, spec_IsValidAccount.rs, spec_IsValidAccount.f⟩
def spec_IsValidAccount.cx : Cx := { cx0 with con := look [(140, spec_l1In.con), (287, spec_TotalReserved.con)], loop := look [(2, ⟨⟨[(1, false, [.ptr 512 0]), (3, false, [.dat (.int .i64) []])], [(512, .box [.dat TAccount [0]])]⟩, [(.exit 0, ⟨[(1, false, [.ptr 512 0])], [(512, .box [.dat TAccount [0]])]⟩), (.ret, ⟨[(2, false, [.dat .bool []])], []⟩)]⟩)] }
def spec_l16Find.ps : List PK := [.val TAccount true, .val (.int .i64) false]
def spec_l16Find.rs : List RK := [⟨(.int .i64), false, .own⟩]
def spec_l16Find.con : Con := ⟨spec_l16Find.ps, spec_l16Find.rs, spec_l16Find.f⟩
def spec_l16Find.cx : Cx := { cx0 with con := look [], loop := look [(2, ⟨⟨[(1, false, [.dat (.int .i64) []]), (2, false, [.ptr 768 0]), (5, false, [.dat (.int .i64) []])], [(768, .box [.dat TAccount [0]])]⟩, [(.exit 0, ⟨[], []⟩), (.ret, ⟨[(4, false, [.dat (.int .i64) []])], []⟩)]⟩)] }
def spec_Min.ps : List PK := [.val (.int .i64) false, .val (.int .i64) false]
def spec_Min.rs : List RK := [⟨(.int .i64), false, .own⟩]
def spec_Min.con : Con := ⟨spec_Min.ps, spec_Min.rs, spec_Min.f⟩
def spec_Min.cx : Cx := { cx0 with con := look [], loop := look [] }
def spec_l16Add.ps : List PK := [.val (.sl TSubscriberID) false, .val (.int .i64) false, .val (.int .i64) false]
def spec_l16Add.rs : List RK := [⟨(.sl TSubscriberID), false, .own⟩]
def spec_l16Add.con : Con := ⟨spec_l16Add.ps, spec_l16Add.rs, spec_l16Add.f⟩
def spec_l16Add.cx : Cx := { cx0 with con := look [], loop := look [(2, ⟨⟨[(0, false, [.dat (.sl TSubscriberID) [0]]), (1, false, [.dat (.int .i64) []]), (2, false, [.dat (.int .i64) []]), (7, false, [.dat (.int .i64) []])], []⟩, [(.exit 0, ⟨[(0, false, [.dat (.sl TSubscriberID) [0]]), (1, false, [.dat (.int .i64) []]), (2, false, [.dat (.int .i64) []]), (7, false, [.dat (.int .i64) []])], []⟩)]⟩)] }
def spec_Reserve.ps : List PK := [.val TAccount true, .val (.int .i64) false, .val (.int .i64) false]
def spec_Reserve.rs : List RK := [⟨TAccount, true, .own⟩, ⟨(.int .i64), false, .own⟩]
def spec_Reserve.con : Con := ⟨spec_Reserve.ps, spec_Reserve.rs, spec_Reserve.f⟩
def spec_Reserve.cx : Cx := { cx0 with con := look [(88, spec_l16Copy.con), (140, spec_l1In.con), (257, spec_IsValidAccount.con), (258, spec_l16Find.con), (259, spec_Min.con), (260, spec_l16Add.con)], loop := look [] }
def spec_ReservedFor.ps : List PK := [.val TAccount true, .val (.int .i64) false]
def spec_ReservedFor.rs : List RK := [⟨(.int .i64), false, .own⟩]
def spec_ReservedFor.con : Con := ⟨spec_ReservedFor.ps, spec_ReservedFor.rs, spec_ReservedFor.f⟩
def spec_ReservedFor.cx : Cx := { cx0 with con := look [(258, spec_l16Find.con)], loop := look [] }
def spec_QuotaMatchesAccount.ps : List PK := [.val TAccount true, .val TQuota true]
def spec_QuotaMatchesAccount.rs : List RK := [⟨.bool, false, .own⟩]
def spec_QuotaMatchesAccount.con : Con := ⟨spec_QuotaMatchesAccount.ps, spec_QuotaMatchesAccount.rs, spec_QuotaMatchesAccount.f⟩
def spec_QuotaMatchesAccount.cx : Cx := { cx0 with con := look [(182, spec_IsValidQuota.con), (257, spec_IsValidAccount.con), (261, spec_ReservedFor.con)], loop := look [] }
def spec_RequestQuota.ps : List PK := [.val TAccount true, .val TQuota true, .val (.int .i64) false]
def spec_RequestQuota.rs : List RK := [⟨TAccount, true, .own⟩, ⟨TQuota, true, .own⟩]
def spec_RequestQuota.con : Con := ⟨spec_RequestQuota.ps, spec_RequestQuota.rs, spec_RequestQuota.f⟩
def spec_RequestQuota.cx : Cx := { cx0 with con := look [(88, spec_l16Copy.con), (180, spec_Reserve.con), (181, spec_QuotaMatchesAccount.con), (182, spec_IsValidQuota.con)], loop := look [] }
def spec_EnsureQuota.ps : List PK := [.val TSession true, .val TAccount true, .val (.int .i64) false]
def spec_EnsureQuota.rs : List RK := [⟨TSession, true, .own⟩, ⟨TAccount, true, .own⟩]
def spec_EnsureQuota.con : Con := ⟨spec_EnsureQuota.ps, spec_EnsureQuota.rs, spec_EnsureQuota.f⟩
def spec_EnsureQuota.cx : Cx := { cx0 with con := look [(86, spec_l30Copy.con), (87, spec_QuotaNeeded.con), (88, spec_l16Copy.con), (89, spec_RequestQuota.con), (90, spec_Max.con)], loop := look [] }
def laws_toAuthVector.ps : List PK := [.val TAuthVector true]
def laws_toAuthVector.rs : List RK := [⟨TAuthVector, true, .own⟩]
def laws_toAuthVector.con : Con := ⟨laws_toAuthVector.ps, laws_toAuthVector.rs, laws_toAuthVector.f⟩
def laws_toAuthVector.cx : Cx := { cx0 with con := look [], loop := look [] }
def laws_toSubscriberID.ps : List PK := [.val TSubscriberID true]
def laws_toSubscriberID.rs : List RK := [⟨TSubscriberID, true, .own⟩]
def laws_toSubscriberID.con : Con := ⟨laws_toSubscriberID.ps, laws_toSubscriberID.rs, laws_toSubscriberID.f⟩
def laws_toSubscriberID.cx : Cx := { cx0 with con := look [], loop := look [] }
def laws_toSubscriberRecord.ps : List PK := [.val TUSIM true]
def laws_toSubscriberRecord.rs : List RK := [⟨TUSIM, true, .own⟩]
def laws_toSubscriberRecord.con : Con := ⟨laws_toSubscriberRecord.ps, laws_toSubscriberRecord.rs, laws_toSubscriberRecord.f⟩
def laws_toSubscriberRecord.cx : Cx := { cx0 with con := look [(144, laws_toSubscriberID.con)], loop := look [] }
def laws_toIntS.ps : List PK := [.val (.sl (.int .i64)) false]
def laws_toIntS.rs : List RK := [⟨(.sl (.int .i64)), false, .own⟩]
def laws_toIntS.con : Con := ⟨laws_toIntS.ps, laws_toIntS.rs, laws_toIntS.f⟩
def laws_toIntS.cx : Cx := { cx0 with con := look [], loop := look [(3, ⟨⟨[(0, false, [.dat (.sl (.int .i64)) [0]]), (3, false, [.own 1279]), (4, false, [.dat (.int .i64) []])], [(1279, .arr (.int .i64) true [])]⟩, [(.exit 0, ⟨[(3, false, [.own 1279])], [(1279, .arr (.int .i64) true [])]⟩)]⟩)] }
def laws_toSubscription.ps : List PK := [.val TSubscription true]
def laws_toSubscription.rs : List RK := [⟨TSubscription, true, .own⟩]
def laws_toSubscription.con : Con := ⟨laws_toSubscription.ps, laws_toSubscription.rs, laws_toSubscription.f⟩
def laws_toSubscription.cx : Cx := { cx0 with con := look [(183, laws_toIntS.con)], loop := look [] }
def laws_toPagingState.ps : List PK := [.val TQuota true]
def laws_toPagingState.rs : List RK := [⟨TQuota, true, .own⟩]
def laws_toPagingState.con : Con := ⟨laws_toPagingState.ps, laws_toPagingState.rs, laws_toPagingState.f⟩
def laws_toPagingState.cx : Cx := { cx0 with con := look [], loop := look [] }
def laws_toByteS.ps : List PK := [.val (.sl (.int .u8)) false]
def laws_toByteS.rs : List RK := [⟨(.sl (.int .u8)), false, .own⟩]
def laws_toByteS.con : Con := ⟨laws_toByteS.ps, laws_toByteS.rs, laws_toByteS.f⟩
def laws_toByteS.cx : Cx := { cx0 with con := look [], loop := look [(3, ⟨⟨[(0, false, [.dat (.sl (.int .u8)) [0]]), (3, false, [.own 1279]), (4, false, [.dat (.int .i64) []])], [(1279, .arr (.int .u8) true [])]⟩, [(.exit 0, ⟨[(3, false, [.own 1279])], [(1279, .arr (.int .u8) true [])]⟩)]⟩)] }
def laws_toPayload.ps : List PK := [.val (.sl (.int .u8)) true]
def laws_toPayload.rs : List RK := [⟨(.sl (.int .u8)), true, .own⟩]
def laws_toPayload.con : Con := ⟨laws_toPayload.ps, laws_toPayload.rs, laws_toPayload.f⟩
def laws_toPayload.cx : Cx := { cx0 with con := look [(163, laws_toByteS.con)], loop := look [] }
def laws_toPayloadS.ps : List PK := [.val (.sl (.sl (.int .u8))) false]
def laws_toPayloadS.rs : List RK := [⟨(.sl (.sl (.int .u8))), false, .own⟩]
def laws_toPayloadS.con : Con := ⟨laws_toPayloadS.ps, laws_toPayloadS.rs, laws_toPayloadS.f⟩
def laws_toPayloadS.cx : Cx := { cx0 with con := look [(184, laws_toPayload.con)], loop := look [(3, ⟨⟨[(0, false, [.dat (.sl (.sl (.int .u8))) [0]]), (3, false, [.own 1279]), (4, false, [.dat (.int .i64) []])], [(1279, .arr (.sl (.int .u8)) true [])]⟩, [(.exit 0, ⟨[(3, false, [.own 1279])], [(1279, .arr (.sl (.int .u8)) true [])]⟩)]⟩)] }
def laws_toNumberedPacket.ps : List PK := [.val TNumberedPacket true]
def laws_toNumberedPacket.rs : List RK := [⟨TNumberedPacket, true, .own⟩]
def laws_toNumberedPacket.con : Con := ⟨laws_toNumberedPacket.ps, laws_toNumberedPacket.rs, laws_toNumberedPacket.f⟩
def laws_toNumberedPacket.cx : Cx := { cx0 with con := look [(163, laws_toByteS.con)], loop := look [] }
def laws_toNumberedPacketS.ps : List PK := [.val (.sl TNumberedPacket) false]
def laws_toNumberedPacketS.rs : List RK := [⟨(.sl TNumberedPacket), false, .own⟩]
def laws_toNumberedPacketS.con : Con := ⟨laws_toNumberedPacketS.ps, laws_toNumberedPacketS.rs, laws_toNumberedPacketS.f⟩
def laws_toNumberedPacketS.cx : Cx := { cx0 with con := look [(236, laws_toNumberedPacket.con)], loop := look [(3, ⟨⟨[(0, false, [.dat (.sl TNumberedPacket) [0]]), (3, false, [.own 1279]), (4, false, [.dat (.int .i64) []])], [(1279, .arr TNumberedPacket true [])]⟩, [(.exit 0, ⟨[(3, false, [.own 1279])], [(1279, .arr TNumberedPacket true [])]⟩)]⟩)] }
def laws_toSendWindow.ps : List PK := [.val TSendWindow true]
def laws_toSendWindow.rs : List RK := [⟨TSendWindow, true, .own⟩]
def laws_toSendWindow.con : Con := ⟨laws_toSendWindow.ps, laws_toSendWindow.rs, laws_toSendWindow.f⟩
def laws_toSendWindow.cx : Cx := { cx0 with con := look [(145, laws_toNumberedPacketS.con)], loop := look [] }
def laws_toQuota.ps : List PK := [.val TQuota true]
def laws_toQuota.rs : List RK := [⟨TQuota, true, .own⟩]
def laws_toQuota.con : Con := ⟨laws_toQuota.ps, laws_toQuota.rs, laws_toQuota.f⟩
def laws_toQuota.cx : Cx := { cx0 with con := look [], loop := look [] }
def laws_toSession.ps : List PK := [.val TSession true]
def laws_toSession.rs : List RK := [⟨TSession, true, .own⟩]
def laws_toSession.con : Con := ⟨laws_toSession.ps, laws_toSession.rs, laws_toSession.f⟩
def laws_toSession.cx : Cx := { cx0 with con := look [(58, laws_toAuthVector.con), (91, laws_toSubscriberRecord.con), (92, laws_toSubscription.con), (93, laws_toPagingState.con), (94, laws_toPayloadS.con), (95, laws_toSendWindow.con), (96, laws_toQuota.con)], loop := look [] }
def laws_toReservation.ps : List PK := [.val TSubscriberID true]
def laws_toReservation.rs : List RK := [⟨TSubscriberID, true, .own⟩]
def laws_toReservation.con : Con := ⟨laws_toReservation.ps, laws_toReservation.rs, laws_toReservation.f⟩
def laws_toReservation.cx : Cx := { cx0 with con := look [], loop := look [] }
def laws_toReservationS.ps : List PK := [.val (.sl TSubscriberID) false]
def laws_toReservationS.rs : List RK := [⟨(.sl TSubscriberID), false, .own⟩]
def laws_toReservationS.con : Con := ⟨laws_toReservationS.ps, laws_toReservationS.rs, laws_toReservationS.f⟩
def laws_toReservationS.cx : Cx := { cx0 with con := look [(185, laws_toReservation.con)], loop := look [(3, ⟨⟨[(0, false, [.dat (.sl TSubscriberID) [0]]), (3, false, [.own 1279]), (4, false, [.dat (.int .i64) []])], [(1279, .arr TSubscriberID true [])]⟩, [(.exit 0, ⟨[(3, false, [.own 1279])], [(1279, .arr TSubscriberID true [])]⟩)]⟩)] }
def laws_toAccount.ps : List PK := [.val TAccount true]
def laws_toAccount.rs : List RK := [⟨TAccount, true, .own⟩]
def laws_toAccount.con : Con := ⟨laws_toAccount.ps, laws_toAccount.rs, laws_toAccount.f⟩
def laws_toAccount.cx : Cx := { cx0 with con := look [(97, laws_toReservationS.con)], loop := look [] }
def impl_copyInts.ps : List PK := [.val (.sl (.int .i64)) false]
def impl_copyInts.rs : List RK := [⟨(.sl (.int .i64)), false, .own⟩]
def impl_copyInts.con : Con := ⟨impl_copyInts.ps, impl_copyInts.rs, impl_copyInts.f⟩
def impl_copyInts.cx : Cx := { cx0 with con := look [], loop := look [] }
def impl_copySubscription.ps : List PK := [.val TSubscription true]
def impl_copySubscription.rs : List RK := [⟨TSubscription, true, .own⟩]
def impl_copySubscription.con : Con := ⟨impl_copySubscription.ps, impl_copySubscription.rs, impl_copySubscription.f⟩
def impl_copySubscription.cx : Cx := { cx0 with con := look [(262, impl_copyInts.con)], loop := look [] }
def impl_copyBytes.ps : List PK := [.val (.sl (.int .u8)) false]
def impl_copyBytes.rs : List RK := [⟨(.sl (.int .u8)), false, .own⟩]
def impl_copyBytes.con : Con := ⟨impl_copyBytes.ps, impl_copyBytes.rs, impl_copyBytes.f⟩
def impl_copyBytes.cx : Cx := { cx0 with con := look [], loop := look [] }
def impl_copyPayloads.ps : List PK := [.val (.sl (.sl (.int .u8))) false]
def impl_copyPayloads.rs : List RK := [⟨(.sl (.sl (.int .u8))), false, .own⟩]
def impl_copyPayloads.con : Con := ⟨impl_copyPayloads.ps, impl_copyPayloads.rs, impl_copyPayloads.f⟩
def impl_copyPayloads.cx : Cx := { cx0 with con := look [(170, impl_copyBytes.con)], loop := look [(3, ⟨⟨[(3, false, [.own 1279]), (9, false, [.dat (.sl (.sl (.int .u8))) [0]]), (10, false, [.dat (.int .i64) []]), (11, false, [.dat (.int .i64) []])], [(1279, .arr (.sl (.int .u8)) true [])]⟩, [(.exit 0, ⟨[(3, false, [.own 1279])], [(1279, .arr (.sl (.int .u8)) true [])]⟩)]⟩)] }
def impl_copyNumbered.ps : List PK := [.val (.sl TNumberedPacket) false]
def impl_copyNumbered.rs : List RK := [⟨(.sl TNumberedPacket), false, .own⟩]
def impl_copyNumbered.con : Con := ⟨impl_copyNumbered.ps, impl_copyNumbered.rs, impl_copyNumbered.f⟩
def impl_copyNumbered.cx : Cx := { cx0 with con := look [(170, impl_copyBytes.con)], loop := look [(3, ⟨⟨[(3, false, [.own 1279]), (9, false, [.dat (.sl TNumberedPacket) [0]]), (10, false, [.dat (.int .i64) []]), (11, false, [.dat (.int .i64) []])], [(1279, .arr TNumberedPacket true [])]⟩, [(.exit 0, ⟨[(3, false, [.own 1279])], [(1279, .arr TNumberedPacket true [])]⟩)]⟩)] }
def impl_copySender.ps : List PK := [.val TSendWindow true]
def impl_copySender.rs : List RK := [⟨TSendWindow, true, .own⟩]
def impl_copySender.con : Con := ⟨impl_copySender.ps, impl_copySender.rs, impl_copySender.f⟩
def impl_copySender.cx : Cx := { cx0 with con := look [(256, impl_copyNumbered.con)], loop := look [] }
def impl_copySession.ps : List PK := [.val TSession true]
def impl_copySession.rs : List RK := [⟨TSession, true, .own⟩]
def impl_copySession.con : Con := ⟨impl_copySession.ps, impl_copySession.rs, impl_copySession.f⟩
def impl_copySession.cx : Cx := { cx0 with con := look [(186, impl_copySubscription.con), (187, impl_copyPayloads.con), (188, impl_copySender.con)], loop := look [] }
def impl_Max.ps : List PK := [.val (.int .i64) false, .val (.int .i64) false]
def impl_Max.rs : List RK := [⟨(.int .i64), false, .own⟩]
def impl_Max.con : Con := ⟨impl_Max.ps, impl_Max.rs, impl_Max.f⟩
def impl_Max.cx : Cx := { cx0 with con := look [], loop := look [] }
def impl_numberedBytes.ps : List PK := [.val (.sl TNumberedPacket) false]
def impl_numberedBytes.rs : List RK := [⟨(.int .i64), false, .own⟩]
def impl_numberedBytes.con : Con := ⟨impl_numberedBytes.ps, impl_numberedBytes.rs, impl_numberedBytes.f⟩
def impl_numberedBytes.cx : Cx := { cx0 with con := look [], loop := look [(3, ⟨⟨[(3, false, [.dat (.int .i64) []]), (6, false, [.dat (.sl TNumberedPacket) [0]]), (7, false, [.dat (.int .i64) []]), (8, false, [.dat (.int .i64) []])], []⟩, [(.exit 0, ⟨[(3, false, [.dat (.int .i64) []])], []⟩)]⟩)] }
def impl_OutstandingBytes.ps : List PK := [.val TSession true]
def impl_OutstandingBytes.rs : List RK := [⟨(.int .i64), false, .own⟩]
def impl_OutstandingBytes.con : Con := ⟨impl_OutstandingBytes.ps, impl_OutstandingBytes.rs, impl_OutstandingBytes.f⟩
def impl_OutstandingBytes.cx : Cx := { cx0 with con := look [(263, impl_numberedBytes.con)], loop := look [] }
def impl_IsValidQuota.ps : List PK := [.val TQuota true]
def impl_IsValidQuota.rs : List RK := [⟨.bool, false, .own⟩]
def impl_IsValidQuota.con : Con := ⟨impl_IsValidQuota.ps, impl_IsValidQuota.rs, impl_IsValidQuota.f⟩
def impl_IsValidQuota.cx : Cx := { cx0 with con := look [], loop := look [] }
def impl_RemainingQuota.ps : List PK := [.val TQuota true]
def impl_RemainingQuota.rs : List RK := [⟨(.int .i64), false, .own⟩]
def impl_RemainingQuota.con : Con := ⟨impl_RemainingQuota.ps, impl_RemainingQuota.rs, impl_RemainingQuota.f⟩
def impl_RemainingQuota.cx : Cx := { cx0 with con := look [(222, impl_IsValidQuota.con)], loop := look [] }
def impl_QuotaNeeded.ps : List PK := [.val TSession true, .val (.int .i64) false]
def impl_QuotaNeeded.rs : List RK := [⟨(.int .i64), false, .own⟩]
def impl_QuotaNeeded.con : Con := ⟨impl_QuotaNeeded.ps, impl_QuotaNeeded.rs, impl_QuotaNeeded.f⟩
def impl_QuotaNeeded.cx : Cx := { cx0 with con := look [(102, impl_Max.con), (189, impl_OutstandingBytes.con), (190, impl_RemainingQuota.con)], loop := look [] }
def impl_copyItems_impl_Reservation.ps : List PK := [.val (.sl TSubscriberID) false]
def impl_copyItems_impl_Reservation.rs : List RK := [⟨(.sl TSubscriberID), false, .own⟩]
def impl_copyItems_impl_Reservation.con : Con := ⟨impl_copyItems_impl_Reservation.ps, impl_copyItems_impl_Reservation.rs, impl_copyItems_impl_Reservation.f⟩
def impl_copyItems_impl_Reservation.cx : Cx := { cx0 with con := look [], loop := look [] }
def impl_copyAccount.ps : List PK := [.val TAccount true]
def impl_copyAccount.rs : List RK := [⟨TAccount, true, .own⟩]
def impl_copyAccount.con : Con := ⟨impl_copyAccount.ps, impl_copyAccount.rs, impl_copyAccount.f⟩
def impl_copyAccount.cx : Cx := { cx0 with con := look [(191, impl_copyItems_impl_Reservation.con)], loop := look [] }
def impl_InRange.ps : List PK := [.val (.int .i64) false, .val (.int .i64) false, .val (.int .i64) false]
def impl_InRange.rs : List RK := [⟨.bool, false, .own⟩]
def impl_InRange.con : Con := ⟨impl_InRange.ps, impl_InRange.rs, impl_InRange.f⟩
def impl_InRange.cx : Cx := { cx0 with con := look [], loop := look [] }
def impl_TotalReserved.ps : List PK := [.val TAccount true]
def impl_TotalReserved.rs : List RK := [⟨(.int .i64), false, .own⟩]
def impl_TotalReserved.con : Con := ⟨impl_TotalReserved.ps, impl_TotalReserved.rs, impl_TotalReserved.f⟩
def impl_TotalReserved.cx : Cx := { cx0 with con := look [], loop := look [(3, ⟨⟨[(3, false, [.dat (.int .i64) []]), (7, false, [.dat (.sl TSubscriberID) [0]]), (8, false, [.dat (.int .i64) []]), (9, false, [.dat (.int .i64) []])], []⟩, [(.exit 0, ⟨[(3, false, [.dat (.int .i64) []])], []⟩)]⟩)] }
def impl_IsValidAccount.ps : List PK := [.val TAccount true]
def impl_IsValidAccount.rs : List RK := [⟨.bool, false, .own⟩]
def impl_IsValidAccount.con : Con := ⟨impl_IsValidAccount.ps, impl_IsValidAccount.rs, impl_IsValidAccount.f⟩
def impl_IsValidAccount.cx : Cx := { cx0 with con := look [(146, impl_InRange.con), (288, impl_TotalReserved.con)], loop := look [(6, ⟨⟨[(1, false, [.ptr 512 0]), (30, false, [.dat (.sl TSubscriberID) [0]]), (31, false, [.dat (.int .i64) []]), (32, false, [.dat (.int .i64) []])], [(512, .box [.dat TAccount [0]])]⟩, [(.exit 0, ⟨[(1, false, [.ptr 512 0])], [(512, .box [.dat TAccount [0]])]⟩), (.ret, ⟨[(2, false, [.dat .bool []])], []⟩)]⟩)] }
def impl_reservationIndex.ps : List PK := [.val TAccount true, .val (.int .i64) false]
def impl_reservationIndex.rs : List RK := [⟨(.int .i64), false, .own⟩]
def impl_reservationIndex.con : Con := ⟨impl_reservationIndex.ps, impl_reservationIndex.rs, impl_reservationIndex.f⟩
def impl_reservationIndex.cx : Cx := { cx0 with con := look [], loop := look [(2, ⟨⟨[(1, false, [.dat (.int .i64) []]), (8, false, [.dat (.sl TSubscriberID) [0]]), (9, false, [.dat (.int .i64) []]), (10, false, [.dat (.int .i64) []])], []⟩, [(.exit 0, ⟨[], []⟩), (.ret, ⟨[(4, false, [.dat (.int .i64) []])], []⟩)]⟩)] }
def impl_ReservedFor.ps : List PK := [.val TAccount true, .val (.int .i64) false]
def impl_ReservedFor.rs : List RK := [⟨(.int .i64), false, .own⟩]
def impl_ReservedFor.con : Con := ⟨impl_ReservedFor.ps, impl_ReservedFor.rs, impl_ReservedFor.f⟩
def impl_ReservedFor.cx : Cx := { cx0 with con := look [(267, impl_reservationIndex.con)], loop := look [] }
def impl_QuotaMatchesAccount.ps : List PK := [.val TAccount true, .val TQuota true]
def impl_QuotaMatchesAccount.rs : List RK := [⟨.bool, false, .own⟩]
def impl_QuotaMatchesAccount.con : Con := ⟨impl_QuotaMatchesAccount.ps, impl_QuotaMatchesAccount.rs, impl_QuotaMatchesAccount.f⟩
def impl_QuotaMatchesAccount.cx : Cx := { cx0 with con := look [(222, impl_IsValidQuota.con), (264, impl_IsValidAccount.con), (265, impl_ReservedFor.con)], loop := look [] }
def impl_Min.ps : List PK := [.val (.int .i64) false, .val (.int .i64) false]
def impl_Min.rs : List RK := [⟨(.int .i64), false, .own⟩]
def impl_Min.con : Con := ⟨impl_Min.ps, impl_Min.rs, impl_Min.f⟩
def impl_Min.cx : Cx := { cx0 with con := look [], loop := look [] }
def impl_Reserve.ps : List PK := [.val TAccount true, .val (.int .i64) false, .val (.int .i64) false]
def impl_Reserve.rs : List RK := [⟨TAccount, true, .own⟩, ⟨(.int .i64), false, .own⟩]
def impl_Reserve.con : Con := ⟨impl_Reserve.ps, impl_Reserve.rs, impl_Reserve.f⟩
def impl_Reserve.cx : Cx := { cx0 with con := look [(100, impl_copyAccount.con), (146, impl_InRange.con), (264, impl_IsValidAccount.con), (266, impl_Min.con), (267, impl_reservationIndex.con)], loop := look [(13, ⟨⟨[(1, false, [.dat (.int .i64) []]), (6, false, [.ptr 1792 0]), (8, false, [.ptr 2304 0]), (9, false, [.dat (.int .i64) []]), (11, false, [.dat (.int .i64) []])], [(1792, .box [.dat TAccount []]), (2304, .box [.dat (.int .i64) [], .dat (.int .i64) [], .dat (.int .i64) [], .own 2435]), (2435, .arr TSubscriberID true [])]⟩, [(.exit 0, ⟨[(1, false, [.dat (.int .i64) []]), (6, false, [.ptr 1792 0]), (8, false, [.ptr 2304 0]), (9, false, [.dat (.int .i64) []]), (11, false, [.dat (.int .i64) []])], [(1792, .box [.dat TAccount []]), (2304, .box [.dat (.int .i64) [], .dat (.int .i64) [], .dat (.int .i64) [], .own 2435]), (2435, .arr TSubscriberID true [])]⟩)]⟩)] }
def impl_RequestQuota.ps : List PK := [.val TAccount true, .val TQuota true, .val (.int .i64) false]
def impl_RequestQuota.rs : List RK := [⟨TAccount, true, .own⟩, ⟨TQuota, true, .own⟩]
def impl_RequestQuota.con : Con := ⟨impl_RequestQuota.ps, impl_RequestQuota.rs, impl_RequestQuota.f⟩
def impl_RequestQuota.cx : Cx := { cx0 with con := look [(100, impl_copyAccount.con), (192, impl_QuotaMatchesAccount.con), (193, impl_Reserve.con)], loop := look [] }
def impl_EnsureQuota.ps : List PK := [.val TSession true, .val TAccount true, .val (.int .i64) false]
def impl_EnsureQuota.rs : List RK := [⟨TSession, true, .own⟩, ⟨TAccount, true, .own⟩]
def impl_EnsureQuota.con : Con := ⟨impl_EnsureQuota.ps, impl_EnsureQuota.rs, impl_EnsureQuota.f⟩
def impl_EnsureQuota.cx : Cx := { cx0 with con := look [(98, impl_copySession.con), (99, impl_QuotaNeeded.con), (100, impl_copyAccount.con), (101, impl_RequestQuota.con), (102, impl_Max.con)], loop := look [] }
def laws_eqSubscriberID.ps : List PK := [.val TSubscriberID true, .val TSubscriberID true]
def laws_eqSubscriberID.rs : List RK := [⟨.bool, false, .own⟩]
def laws_eqSubscriberID.con : Con := ⟨laws_eqSubscriberID.ps, laws_eqSubscriberID.rs, laws_eqSubscriberID.f⟩
def laws_eqSubscriberID.cx : Cx := { cx0 with con := look [], loop := look [] }
def laws_eqSubscriberRecord.ps : List PK := [.val TUSIM true, .val TUSIM true]
def laws_eqSubscriberRecord.rs : List RK := [⟨.bool, false, .own⟩]
def laws_eqSubscriberRecord.con : Con := ⟨laws_eqSubscriberRecord.ps, laws_eqSubscriberRecord.rs, laws_eqSubscriberRecord.f⟩
def laws_eqSubscriberRecord.cx : Cx := { cx0 with con := look [(153, laws_eqSubscriberID.con)], loop := look [] }
def laws_eqIntS.ps : List PK := [.val (.sl (.int .i64)) false, .val (.sl (.int .i64)) false]
def laws_eqIntS.rs : List RK := [⟨.bool, false, .own⟩]
def laws_eqIntS.con : Con := ⟨laws_eqIntS.ps, laws_eqIntS.rs, laws_eqIntS.f⟩
def laws_eqIntS.cx : Cx := { cx0 with con := look [], loop := look [(4, ⟨⟨[(0, false, [.dat (.sl (.int .i64)) [0]]), (1, false, [.dat (.sl (.int .i64)) [0]]), (5, false, [.dat (.int .i64) []])], []⟩, [(.exit 0, ⟨[], []⟩), (.ret, ⟨[(4, false, [.dat .bool []])], []⟩)]⟩)] }
def laws_eqSubscription.ps : List PK := [.val TSubscription true, .val TSubscription true]
def laws_eqSubscription.rs : List RK := [⟨.bool, false, .own⟩]
def laws_eqSubscription.con : Con := ⟨laws_eqSubscription.ps, laws_eqSubscription.rs, laws_eqSubscription.f⟩
def laws_eqSubscription.cx : Cx := { cx0 with con := look [(194, laws_eqIntS.con)], loop := look [] }
def laws_eqAuthVector.ps : List PK := [.val TAuthVector true, .val TAuthVector true]
def laws_eqAuthVector.rs : List RK := [⟨.bool, false, .own⟩]
def laws_eqAuthVector.con : Con := ⟨laws_eqAuthVector.ps, laws_eqAuthVector.rs, laws_eqAuthVector.f⟩
def laws_eqAuthVector.cx : Cx := { cx0 with con := look [], loop := look [] }
def laws_eqPagingState.ps : List PK := [.val TQuota true, .val TQuota true]
def laws_eqPagingState.rs : List RK := [⟨.bool, false, .own⟩]
def laws_eqPagingState.con : Con := ⟨laws_eqPagingState.ps, laws_eqPagingState.rs, laws_eqPagingState.f⟩
def laws_eqPagingState.cx : Cx := { cx0 with con := look [], loop := look [] }
def laws_eqByteS.ps : List PK := [.val (.sl (.int .u8)) false, .val (.sl (.int .u8)) false]
def laws_eqByteS.rs : List RK := [⟨.bool, false, .own⟩]
def laws_eqByteS.con : Con := ⟨laws_eqByteS.ps, laws_eqByteS.rs, laws_eqByteS.f⟩
def laws_eqByteS.cx : Cx := { cx0 with con := look [], loop := look [(4, ⟨⟨[(0, false, [.dat (.sl (.int .u8)) [0]]), (1, false, [.dat (.sl (.int .u8)) [0]]), (5, false, [.dat (.int .i64) []])], []⟩, [(.exit 0, ⟨[], []⟩), (.ret, ⟨[(4, false, [.dat .bool []])], []⟩)]⟩)] }
def laws_eqPayload.ps : List PK := [.val (.sl (.int .u8)) true, .val (.sl (.int .u8)) true]
def laws_eqPayload.rs : List RK := [⟨.bool, false, .own⟩]
def laws_eqPayload.con : Con := ⟨laws_eqPayload.ps, laws_eqPayload.rs, laws_eqPayload.f⟩
def laws_eqPayload.cx : Cx := { cx0 with con := look [(171, laws_eqByteS.con)], loop := look [] }
def laws_eqPayloadS.ps : List PK := [.val (.sl (.sl (.int .u8))) false, .val (.sl (.sl (.int .u8))) false]
def laws_eqPayloadS.rs : List RK := [⟨.bool, false, .own⟩]
def laws_eqPayloadS.con : Con := ⟨laws_eqPayloadS.ps, laws_eqPayloadS.rs, laws_eqPayloadS.f⟩
def laws_eqPayloadS.cx : Cx := { cx0 with con := look [(195, laws_eqPayload.con)], loop := look [(4, ⟨⟨[(0, false, [.dat (.sl (.sl (.int .u8))) [0]]), (1, false, [.dat (.sl (.sl (.int .u8))) [0]]), (5, false, [.dat (.int .i64) []])], []⟩, [(.exit 0, ⟨[], []⟩), (.ret, ⟨[(4, false, [.dat .bool []])], []⟩)]⟩)] }
def laws_eqNumberedPacket.ps : List PK := [.val TNumberedPacket true, .val TNumberedPacket true]
def laws_eqNumberedPacket.rs : List RK := [⟨.bool, false, .own⟩]
def laws_eqNumberedPacket.con : Con := ⟨laws_eqNumberedPacket.ps, laws_eqNumberedPacket.rs, laws_eqNumberedPacket.f⟩
def laws_eqNumberedPacket.cx : Cx := { cx0 with con := look [(171, laws_eqByteS.con)], loop := look [] }
def laws_eqNumberedPacketS.ps : List PK := [.val (.sl TNumberedPacket) false, .val (.sl TNumberedPacket) false]
def laws_eqNumberedPacketS.rs : List RK := [⟨.bool, false, .own⟩]
def laws_eqNumberedPacketS.con : Con := ⟨laws_eqNumberedPacketS.ps, laws_eqNumberedPacketS.rs, laws_eqNumberedPacketS.f⟩
def laws_eqNumberedPacketS.cx : Cx := { cx0 with con := look [(245, laws_eqNumberedPacket.con)], loop := look [(4, ⟨⟨[(0, false, [.dat (.sl TNumberedPacket) [0]]), (1, false, [.dat (.sl TNumberedPacket) [0]]), (5, false, [.dat (.int .i64) []])], []⟩, [(.exit 0, ⟨[], []⟩), (.ret, ⟨[(4, false, [.dat .bool []])], []⟩)]⟩)] }
def laws_eqSendWindow.ps : List PK := [.val TSendWindow true, .val TSendWindow true]
def laws_eqSendWindow.rs : List RK := [⟨.bool, false, .own⟩]
def laws_eqSendWindow.con : Con := ⟨laws_eqSendWindow.ps, laws_eqSendWindow.rs, laws_eqSendWindow.f⟩
def laws_eqSendWindow.cx : Cx := { cx0 with con := look [(154, laws_eqNumberedPacketS.con)], loop := look [] }
def laws_eqQuota.ps : List PK := [.val TQuota true, .val TQuota true]
def laws_eqQuota.rs : List RK := [⟨.bool, false, .own⟩]
def laws_eqQuota.con : Con := ⟨laws_eqQuota.ps, laws_eqQuota.rs, laws_eqQuota.f⟩
def laws_eqQuota.cx : Cx := { cx0 with con := look [], loop := look [] }
def laws_eqSession.ps : List PK := [.val TSession true, .val TSession true]
def laws_eqSession.rs : List RK := [⟨.bool, false, .own⟩]
def laws_eqSession.con : Con := ⟨laws_eqSession.ps, laws_eqSession.rs, laws_eqSession.f⟩
def laws_eqSession.cx : Cx := { cx0 with con := look [(103, laws_eqSubscriberRecord.con), (104, laws_eqSubscription.con), (105, laws_eqAuthVector.con), (106, laws_eqPagingState.con), (107, laws_eqPayloadS.con), (108, laws_eqSendWindow.con), (109, laws_eqQuota.con)], loop := look [] }
def laws_eqReservation.ps : List PK := [.val TSubscriberID true, .val TSubscriberID true]
def laws_eqReservation.rs : List RK := [⟨.bool, false, .own⟩]
def laws_eqReservation.con : Con := ⟨laws_eqReservation.ps, laws_eqReservation.rs, laws_eqReservation.f⟩
def laws_eqReservation.cx : Cx := { cx0 with con := look [], loop := look [] }
def laws_eqReservationS.ps : List PK := [.val (.sl TSubscriberID) false, .val (.sl TSubscriberID) false]
def laws_eqReservationS.rs : List RK := [⟨.bool, false, .own⟩]
def laws_eqReservationS.con : Con := ⟨laws_eqReservationS.ps, laws_eqReservationS.rs, laws_eqReservationS.f⟩
def laws_eqReservationS.cx : Cx := { cx0 with con := look [(196, laws_eqReservation.con)], loop := look [(4, ⟨⟨[(0, false, [.dat (.sl TSubscriberID) [0]]), (1, false, [.dat (.sl TSubscriberID) [0]]), (5, false, [.dat (.int .i64) []])], []⟩, [(.exit 0, ⟨[], []⟩), (.ret, ⟨[(4, false, [.dat .bool []])], []⟩)]⟩)] }
def laws_eqAccount.ps : List PK := [.val TAccount true, .val TAccount true]
def laws_eqAccount.rs : List RK := [⟨.bool, false, .own⟩]
def laws_eqAccount.con : Con := ⟨laws_eqAccount.ps, laws_eqAccount.rs, laws_eqAccount.f⟩
def laws_eqAccount.cx : Cx := { cx0 with con := look [(110, laws_eqReservationS.con)], loop := look [] }
def laws_markIntS.ps : List PK := [.lend (.sl (.int .i64)) false, .val (.int .i64) false]
def laws_markIntS.rs : List RK := [⟨(.int .i64), false, .own⟩]
def laws_markIntS.con : Con := ⟨laws_markIntS.ps, laws_markIntS.rs, laws_markIntS.f⟩
def laws_markIntS.cx : Cx := { cx0 with con := look [], loop := look [(2, ⟨⟨[(0, false, [.own 257]), (1, false, [.dat (.int .i64) []]), (5, false, [.dat (.int .i64) []])], [(257, .arr (.int .i64) true [])]⟩, [(.exit 0, ⟨[(0, false, [.own 257]), (1, false, [.dat (.int .i64) []])], [(257, .arr (.int .i64) true [])]⟩)]⟩)] }
def laws_markSubscription.ps : List PK := [.lend TSubscription true, .val (.int .i64) false]
def laws_markSubscription.rs : List RK := [⟨(.int .i64), false, .own⟩]
def laws_markSubscription.con : Con := ⟨laws_markSubscription.ps, laws_markSubscription.rs, laws_markSubscription.f⟩
def laws_markSubscription.cx : Cx := { cx0 with con := look [(197, laws_markIntS.con)], loop := look [] }
def laws_markByteS.ps : List PK := [.lend (.sl (.int .u8)) false, .val (.int .i64) false]
def laws_markByteS.rs : List RK := [⟨(.int .i64), false, .own⟩]
def laws_markByteS.con : Con := ⟨laws_markByteS.ps, laws_markByteS.rs, laws_markByteS.f⟩
def laws_markByteS.cx : Cx := { cx0 with con := look [], loop := look [(2, ⟨⟨[(0, false, [.own 257]), (1, false, [.dat (.int .i64) []]), (5, false, [.dat (.int .i64) []])], [(257, .arr (.int .u8) true [])]⟩, [(.exit 0, ⟨[(0, false, [.own 257]), (1, false, [.dat (.int .i64) []])], [(257, .arr (.int .u8) true [])]⟩)]⟩)] }
def laws_markPayloadS.ps : List PK := [.lend (.sl (.sl (.int .u8))) false, .val (.int .i64) false]
def laws_markPayloadS.rs : List RK := [⟨(.int .i64), false, .own⟩]
def laws_markPayloadS.con : Con := ⟨laws_markPayloadS.ps, laws_markPayloadS.rs, laws_markPayloadS.f⟩
def laws_markPayloadS.cx : Cx := { cx0 with con := look [(172, laws_markByteS.con)], loop := look [(2, ⟨⟨[(0, false, [.own 257]), (1, false, [.dat (.int .i64) []]), (5, false, [.dat (.int .i64) []])], [(257, .arr (.sl (.int .u8)) true [])]⟩, [(.exit 0, ⟨[(0, false, [.own 257]), (1, false, [.dat (.int .i64) []])], [(257, .arr (.sl (.int .u8)) true [])]⟩)]⟩)] }
def laws_markNumberedPacketS.ps : List PK := [.lend (.sl TNumberedPacket) false, .val (.int .i64) false]
def laws_markNumberedPacketS.rs : List RK := [⟨(.int .i64), false, .own⟩]
def laws_markNumberedPacketS.con : Con := ⟨laws_markNumberedPacketS.ps, laws_markNumberedPacketS.rs, laws_markNumberedPacketS.f⟩
def laws_markNumberedPacketS.cx : Cx := { cx0 with con := look [(172, laws_markByteS.con)], loop := look [(2, ⟨⟨[(0, false, [.own 257]), (1, false, [.dat (.int .i64) []]), (5, false, [.dat (.int .i64) []])], [(257, .arr TNumberedPacket true [])]⟩, [(.exit 0, ⟨[(0, false, [.own 257]), (1, false, [.dat (.int .i64) []])], [(257, .arr TNumberedPacket true [])]⟩)]⟩)] }
def laws_markSendWindow.ps : List PK := [.lend TSendWindow true, .val (.int .i64) false]
def laws_markSendWindow.rs : List RK := [⟨(.int .i64), false, .own⟩]
def laws_markSendWindow.con : Con := ⟨laws_markSendWindow.ps, laws_markSendWindow.rs, laws_markSendWindow.f⟩
def laws_markSendWindow.cx : Cx := { cx0 with con := look [(155, laws_markNumberedPacketS.con)], loop := look [] }
def laws_markSession.ps : List PK := [.lend TSession true, .val (.int .i64) false]
def laws_markSession.rs : List RK := [⟨(.int .i64), false, .own⟩]
def laws_markSession.con : Con := ⟨laws_markSession.ps, laws_markSession.rs, laws_markSession.f⟩
def laws_markSession.cx : Cx := { cx0 with con := look [(111, laws_markSubscription.con), (112, laws_markPayloadS.con), (113, laws_markSendWindow.con)], loop := look [] }
def laws_markReservationS.ps : List PK := [.lend (.sl TSubscriberID) false, .val (.int .i64) false]
def laws_markReservationS.rs : List RK := [⟨(.int .i64), false, .own⟩]
def laws_markReservationS.con : Con := ⟨laws_markReservationS.ps, laws_markReservationS.rs, laws_markReservationS.f⟩
def laws_markReservationS.cx : Cx := { cx0 with con := look [], loop := look [(2, ⟨⟨[(0, false, [.own 257]), (1, false, [.dat (.int .i64) []]), (5, false, [.dat (.int .i64) []])], [(257, .arr TSubscriberID true [])]⟩, [(.exit 0, ⟨[(0, false, [.own 257]), (1, false, [.dat (.int .i64) []])], [(257, .arr TSubscriberID true [])]⟩)]⟩)] }
def laws_markAccount.ps : List PK := [.lend TAccount true, .val (.int .i64) false]
def laws_markAccount.rs : List RK := [⟨(.int .i64), false, .own⟩]
def laws_markAccount.con : Con := ⟨laws_markAccount.ps, laws_markAccount.rs, laws_markAccount.f⟩
def laws_markAccount.cx : Cx := { cx0 with con := look [(114, laws_markReservationS.con)], loop := look [] }
def laws_heldIntS.ps : List PK := [.val (.sl (.int .i64)) false, .val (.int .i64) false]
def laws_heldIntS.rs : List RK := [⟨(.int .i64), false, .own⟩]
def laws_heldIntS.con : Con := ⟨laws_heldIntS.ps, laws_heldIntS.rs, laws_heldIntS.f⟩
def laws_heldIntS.cx : Cx := { cx0 with con := look [], loop := look [(2, ⟨⟨[(0, false, [.dat (.sl (.int .i64)) [0]]), (1, false, [.dat (.int .i64) []]), (5, false, [.dat (.int .i64) []])], []⟩, [(.exit 0, ⟨[(1, false, [.dat (.int .i64) []])], []⟩), (.ret, ⟨[(4, false, [.dat (.int .i64) []])], []⟩)]⟩)] }
def laws_heldSubscription.ps : List PK := [.val TSubscription true, .val (.int .i64) false]
def laws_heldSubscription.rs : List RK := [⟨(.int .i64), false, .own⟩]
def laws_heldSubscription.con : Con := ⟨laws_heldSubscription.ps, laws_heldSubscription.rs, laws_heldSubscription.f⟩
def laws_heldSubscription.cx : Cx := { cx0 with con := look [(198, laws_heldIntS.con)], loop := look [] }
def laws_heldByteS.ps : List PK := [.val (.sl (.int .u8)) false, .val (.int .i64) false]
def laws_heldByteS.rs : List RK := [⟨(.int .i64), false, .own⟩]
def laws_heldByteS.con : Con := ⟨laws_heldByteS.ps, laws_heldByteS.rs, laws_heldByteS.f⟩
def laws_heldByteS.cx : Cx := { cx0 with con := look [], loop := look [(2, ⟨⟨[(0, false, [.dat (.sl (.int .u8)) [0]]), (1, false, [.dat (.int .i64) []]), (5, false, [.dat (.int .i64) []])], []⟩, [(.exit 0, ⟨[(1, false, [.dat (.int .i64) []])], []⟩), (.ret, ⟨[(4, false, [.dat (.int .i64) []])], []⟩)]⟩)] }
def laws_heldPayloadS.ps : List PK := [.val (.sl (.sl (.int .u8))) false, .val (.int .i64) false]
def laws_heldPayloadS.rs : List RK := [⟨(.int .i64), false, .own⟩]
def laws_heldPayloadS.con : Con := ⟨laws_heldPayloadS.ps, laws_heldPayloadS.rs, laws_heldPayloadS.f⟩
def laws_heldPayloadS.cx : Cx := { cx0 with con := look [(199, laws_heldByteS.con)], loop := look [(2, ⟨⟨[(0, false, [.dat (.sl (.sl (.int .u8))) [0]]), (1, false, [.dat (.int .i64) []]), (5, false, [.dat (.int .i64) []])], []⟩, [(.exit 0, ⟨[(1, false, [.dat (.int .i64) []])], []⟩), (.ret, ⟨[(4, false, [.dat (.int .i64) []])], []⟩)]⟩)] }
def laws_heldNumberedPacketS.ps : List PK := [.val (.sl TNumberedPacket) false, .val (.int .i64) false]
def laws_heldNumberedPacketS.rs : List RK := [⟨(.int .i64), false, .own⟩]
def laws_heldNumberedPacketS.con : Con := ⟨laws_heldNumberedPacketS.ps, laws_heldNumberedPacketS.rs, laws_heldNumberedPacketS.f⟩
def laws_heldNumberedPacketS.cx : Cx := { cx0 with con := look [(199, laws_heldByteS.con)], loop := look [(2, ⟨⟨[(0, false, [.dat (.sl TNumberedPacket) [0]]), (1, false, [.dat (.int .i64) []]), (5, false, [.dat (.int .i64) []])], []⟩, [(.exit 0, ⟨[(1, false, [.dat (.int .i64) []])], []⟩), (.ret, ⟨[(4, false, [.dat (.int .i64) []])], []⟩)]⟩)] }
def laws_heldSendWindow.ps : List PK := [.val TSendWindow true, .val (.int .i64) false]
def laws_heldSendWindow.rs : List RK := [⟨(.int .i64), false, .own⟩]
def laws_heldSendWindow.con : Con := ⟨laws_heldSendWindow.ps, laws_heldSendWindow.rs, laws_heldSendWindow.f⟩
def laws_heldSendWindow.cx : Cx := { cx0 with con := look [(200, laws_heldNumberedPacketS.con)], loop := look [] }
def laws_heldSession.ps : List PK := [.val TSession true, .val (.int .i64) false]
def laws_heldSession.rs : List RK := [⟨(.int .i64), false, .own⟩]
def laws_heldSession.con : Con := ⟨laws_heldSession.ps, laws_heldSession.rs, laws_heldSession.f⟩
def laws_heldSession.cx : Cx := { cx0 with con := look [(115, laws_heldSubscription.con), (116, laws_heldPayloadS.con), (117, laws_heldSendWindow.con)], loop := look [] }
def laws_heldReservationS.ps : List PK := [.val (.sl TSubscriberID) false, .val (.int .i64) false]
def laws_heldReservationS.rs : List RK := [⟨(.int .i64), false, .own⟩]
def laws_heldReservationS.con : Con := ⟨laws_heldReservationS.ps, laws_heldReservationS.rs, laws_heldReservationS.f⟩
def laws_heldReservationS.cx : Cx := { cx0 with con := look [], loop := look [(2, ⟨⟨[(0, false, [.dat (.sl TSubscriberID) [0]]), (1, false, [.dat (.int .i64) []]), (5, false, [.dat (.int .i64) []])], []⟩, [(.exit 0, ⟨[(1, false, [.dat (.int .i64) []])], []⟩), (.ret, ⟨[(4, false, [.dat (.int .i64) []])], []⟩)]⟩)] }
def laws_heldAccount.ps : List PK := [.val TAccount true, .val (.int .i64) false]
def laws_heldAccount.rs : List RK := [⟨(.int .i64), false, .own⟩]
def laws_heldAccount.con : Con := ⟨laws_heldAccount.ps, laws_heldAccount.rs, laws_heldAccount.f⟩
def laws_heldAccount.cx : Cx := { cx0 with con := look [(118, laws_heldReservationS.con)], loop := look [] }
def laws_FnExactEnsureQuota.ps : List PK := [.val TSession true, .val TAccount true, .val (.int .i64) false]
def laws_FnExactEnsureQuota.rs : List RK := [⟨.bool, false, .own⟩]
def laws_FnExactEnsureQuota.con : Con := ⟨laws_FnExactEnsureQuota.ps, laws_FnExactEnsureQuota.rs, laws_FnExactEnsureQuota.f⟩
def laws_FnExactEnsureQuota.cx : Cx := { cx0 with con := look [(24, laws_szSession.con), (25, laws_szAccount.con), (26, spec_EnsureQuota.con), (27, laws_toSession.con), (28, laws_toAccount.con), (29, impl_EnsureQuota.con), (30, laws_eqSession.con), (31, laws_eqAccount.con), (32, laws_markSession.con), (33, laws_markAccount.con), (34, laws_heldSession.con), (35, laws_heldAccount.con)], loop := look [] }
end Go.Proofs.YtbgkgnhlfmidhaaGreat.XS
/- Each function, evaluated, is the plain Lean one. -/
set_option linter.unusedVariables false
set_option maxRecDepth 100000
namespace Go.Proofs.YtbgkgnhlfmidhaaGreat.XS
open Go Go.Proofs.XTv Go.Proofs.XF
theorem laws_FnExactEnsureQuota.eq : evFun laws_FnExactEnsureQuota.cx Tryz.f5 laws_FnExactEnsureQuota.ps laws_FnExactEnsureQuota.rs = laws_FnExactEnsureQuota.f := by kernel_rfl
theorem impl_numberedBytes.eq : evFun impl_numberedBytes.cx Tryz.f263 impl_numberedBytes.ps impl_numberedBytes.rs = impl_numberedBytes.f := by kernel_rfl
theorem laws_markByteS.eq : evFun laws_markByteS.cx Tryz.f172 laws_markByteS.ps laws_markByteS.rs = laws_markByteS.f := by kernel_rfl
theorem laws_eqSubscription.eq : evFun laws_eqSubscription.cx Tryz.f104 laws_eqSubscription.ps laws_eqSubscription.rs = laws_eqSubscription.f := by kernel_rfl
theorem spec_IsValidQuota.eq : evFun spec_IsValidQuota.cx Tryz.f182 spec_IsValidQuota.ps spec_IsValidQuota.rs = spec_IsValidQuota.f := by kernel_rfl
theorem impl_ReservedFor.eq : evFun impl_ReservedFor.cx Tryz.f265 impl_ReservedFor.ps impl_ReservedFor.rs = impl_ReservedFor.f := by kernel_rfl
theorem laws_markSubscription.eq : evFun laws_markSubscription.cx Tryz.f111 laws_markSubscription.ps laws_markSubscription.rs = laws_markSubscription.f := by kernel_rfl
theorem laws_markSendWindow.eq : evFun laws_markSendWindow.cx Tryz.f113 laws_markSendWindow.ps laws_markSendWindow.rs = laws_markSendWindow.f := by kernel_rfl
theorem impl_RemainingQuota.eq : evFun impl_RemainingQuota.cx Tryz.f190 impl_RemainingQuota.ps impl_RemainingQuota.rs = impl_RemainingQuota.f := by kernel_rfl
theorem impl_copySubscription.eq : evFun impl_copySubscription.cx Tryz.f186 impl_copySubscription.ps impl_copySubscription.rs = impl_copySubscription.f := by kernel_rfl
theorem laws_eqReservation.eq : evFun laws_eqReservation.cx Tryz.f196 laws_eqReservation.ps laws_eqReservation.rs = laws_eqReservation.f := by kernel_rfl
theorem impl_copySender.eq : evFun impl_copySender.cx Tryz.f188 impl_copySender.ps impl_copySender.rs = impl_copySender.f := by kernel_rfl
theorem impl_InRange.eq : evFun impl_InRange.cx Tryz.f146 impl_InRange.ps impl_InRange.rs = impl_InRange.f := by kernel_rfl
theorem laws_toPagingState.eq : evFun laws_toPagingState.cx Tryz.f93 laws_toPagingState.ps laws_toPagingState.rs = laws_toPagingState.f := by kernel_rfl
end Go.Proofs.YtbgkgnhlfmidhaaGreat.XS
/- Each function, evaluated, is the plain Lean one. -/
set_option linter.unusedVariables false
set_option maxRecDepth 100000
namespace Go.Proofs.YtbgkgnhlfmidhaaGreat.XS
open Go Go.Proofs.XTv Go.Proofs.XF
theorem impl_Reserve.eq : evFun impl_Reserve.cx Tryz.f193 impl_Reserve.ps impl_Reserve.rs = impl_Reserve.f := by kernel_rfl
theorem laws_markSession.eq : evFun laws_markSession.cx Tryz.f32 laws_markSession.ps laws_markSession.rs = laws_markSession.f := by kernel_rfl
theorem laws_eqReservationS.eq : evFun laws_eqReservationS.cx Tryz.f110 laws_eqReservationS.ps laws_eqReservationS.rs = laws_eqReservationS.f := by kernel_rfl
theorem spec_l15Bodies.eq : evFun spec_l15Bodies.cx Tryz.f176 spec_l15Bodies.ps spec_l15Bodies.rs = spec_l15Bodies.f := by kernel_rfl
theorem laws_eqByteS.eq : evFun laws_eqByteS.cx Tryz.f171 laws_eqByteS.ps laws_eqByteS.rs = laws_eqByteS.f := by kernel_rfl
theorem laws_toByteS.eq : evFun laws_toByteS.cx Tryz.f163 laws_toByteS.ps laws_toByteS.rs = laws_toByteS.f := by kernel_rfl
theorem spec_l16Find.eq : evFun spec_l16Find.cx Tryz.f258 spec_l16Find.ps spec_l16Find.rs = spec_l16Find.f := by kernel_rfl
theorem impl_RequestQuota.eq : evFun impl_RequestQuota.cx Tryz.f101 impl_RequestQuota.ps impl_RequestQuota.rs = impl_RequestQuota.f := by kernel_rfl
theorem laws_eqAuthVector.eq : evFun laws_eqAuthVector.cx Tryz.f105 laws_eqAuthVector.ps laws_eqAuthVector.rs = laws_eqAuthVector.f := by kernel_rfl
theorem impl_QuotaMatchesAccount.eq : evFun impl_QuotaMatchesAccount.cx Tryz.f192 impl_QuotaMatchesAccount.ps impl_QuotaMatchesAccount.rs = impl_QuotaMatchesAccount.f := by kernel_rfl
theorem laws_eqNumberedPacket.eq : evFun laws_eqNumberedPacket.cx Tryz.f245 laws_eqNumberedPacket.ps laws_eqNumberedPacket.rs = laws_eqNumberedPacket.f := by kernel_rfl
theorem impl_IsValidQuota.eq : evFun impl_IsValidQuota.cx Tryz.f222 impl_IsValidQuota.ps impl_IsValidQuota.rs = impl_IsValidQuota.f := by kernel_rfl
theorem laws_heldAccount.eq : evFun laws_heldAccount.cx Tryz.f35 laws_heldAccount.ps laws_heldAccount.rs = laws_heldAccount.f := by kernel_rfl
theorem laws_szSendWindow.eq : evFun laws_szSendWindow.cx Tryz.f84 laws_szSendWindow.ps laws_szSendWindow.rs = laws_szSendWindow.f := by kernel_rfl
theorem laws_szIntS.eq : evFun laws_szIntS.cx Tryz.f173 laws_szIntS.ps laws_szIntS.rs = laws_szIntS.f := by kernel_rfl
theorem spec_OutstandingBytes.eq : evFun spec_OutstandingBytes.cx Tryz.f178 spec_OutstandingBytes.ps spec_OutstandingBytes.rs = spec_OutstandingBytes.f := by kernel_rfl
theorem laws_toSubscriberRecord.eq : evFun laws_toSubscriberRecord.cx Tryz.f91 laws_toSubscriberRecord.ps laws_toSubscriberRecord.rs = laws_toSubscriberRecord.f := by kernel_rfl
theorem spec_l1In.eq : evFun spec_l1In.cx Tryz.f140 spec_l1In.ps spec_l1In.rs = spec_l1In.f := by kernel_rfl
theorem laws_toAuthVector.eq : evFun laws_toAuthVector.cx Tryz.f58 laws_toAuthVector.ps laws_toAuthVector.rs = laws_toAuthVector.f := by kernel_rfl
end Go.Proofs.YtbgkgnhlfmidhaaGreat.XS
/- Each function, evaluated, is the plain Lean one. -/
set_option linter.unusedVariables false
set_option maxRecDepth 100000
namespace Go.Proofs.YtbgkgnhlfmidhaaGreat.XS
open Go Go.Proofs.XTv Go.Proofs.XF
theorem laws_eqSession.eq : evFun laws_eqSession.cx Tryz.f30 laws_eqSession.ps laws_eqSession.rs = laws_eqSession.f := by kernel_rfl
theorem impl_EnsureQuota.eq : evFun impl_EnsureQuota.cx Tryz.f29 impl_EnsureQuota.ps impl_EnsureQuota.rs = impl_EnsureQuota.f := by kernel_rfl
theorem laws_eqNumberedPacketS.eq : evFun laws_eqNumberedPacketS.cx Tryz.f154 laws_eqNumberedPacketS.ps laws_eqNumberedPacketS.rs = laws_eqNumberedPacketS.f := by kernel_rfl
theorem laws_markReservationS.eq : evFun laws_markReservationS.cx Tryz.f114 laws_markReservationS.ps laws_markReservationS.rs = laws_markReservationS.f := by kernel_rfl
theorem laws_toReservationS.eq : evFun laws_toReservationS.cx Tryz.f97 laws_toReservationS.ps laws_toReservationS.rs = laws_toReservationS.f := by kernel_rfl
theorem impl_reservationIndex.eq : evFun impl_reservationIndex.cx Tryz.f267 impl_reservationIndex.ps impl_reservationIndex.rs = impl_reservationIndex.f := by kernel_rfl
theorem laws_toIntS.eq : evFun laws_toIntS.cx Tryz.f183 laws_toIntS.ps laws_toIntS.rs = laws_toIntS.f := by kernel_rfl
theorem laws_heldByteS.eq : evFun laws_heldByteS.cx Tryz.f199 laws_heldByteS.ps laws_heldByteS.rs = laws_heldByteS.f := by kernel_rfl
theorem laws_markIntS.eq : evFun laws_markIntS.cx Tryz.f197 laws_markIntS.ps laws_markIntS.rs = laws_markIntS.f := by kernel_rfl
theorem spec_QuotaMatchesAccount.eq : evFun spec_QuotaMatchesAccount.cx Tryz.f181 spec_QuotaMatchesAccount.ps spec_QuotaMatchesAccount.rs = spec_QuotaMatchesAccount.f := by kernel_rfl
theorem spec_ReservedFor.eq : evFun spec_ReservedFor.cx Tryz.f261 spec_ReservedFor.ps spec_ReservedFor.rs = spec_ReservedFor.f := by kernel_rfl
theorem impl_copyInts.eq : evFun impl_copyInts.cx Tryz.f262 impl_copyInts.ps impl_copyInts.rs = impl_copyInts.f := by kernel_rfl
theorem laws_heldSendWindow.eq : evFun laws_heldSendWindow.cx Tryz.f117 laws_heldSendWindow.ps laws_heldSendWindow.rs = laws_heldSendWindow.f := by kernel_rfl
theorem impl_copyAccount.eq : evFun impl_copyAccount.cx Tryz.f100 impl_copyAccount.ps impl_copyAccount.rs = impl_copyAccount.f := by kernel_rfl
theorem impl_OutstandingBytes.eq : evFun impl_OutstandingBytes.cx Tryz.f189 impl_OutstandingBytes.ps impl_OutstandingBytes.rs = impl_OutstandingBytes.f := by kernel_rfl
theorem laws_toAccount.eq : evFun laws_toAccount.cx Tryz.f28 laws_toAccount.ps laws_toAccount.rs = laws_toAccount.f := by kernel_rfl
theorem laws_toSendWindow.eq : evFun laws_toSendWindow.cx Tryz.f95 laws_toSendWindow.ps laws_toSendWindow.rs = laws_toSendWindow.f := by kernel_rfl
theorem spec_Max.eq : evFun spec_Max.cx Tryz.f90 spec_Max.ps spec_Max.rs = spec_Max.f := by kernel_rfl
theorem impl_Min.eq : evFun impl_Min.cx Tryz.f266 impl_Min.ps impl_Min.rs = impl_Min.f := by kernel_rfl
end Go.Proofs.YtbgkgnhlfmidhaaGreat.XS
/- Each function, evaluated, is the plain Lean one. -/
set_option linter.unusedVariables false
set_option maxRecDepth 100000
namespace Go.Proofs.YtbgkgnhlfmidhaaGreat.XS
open Go Go.Proofs.XTv Go.Proofs.XF
theorem spec_IsValidAccount.eq : evFun spec_IsValidAccount.cx Tryz.f257 spec_IsValidAccount.ps spec_IsValidAccount.rs = spec_IsValidAccount.f := by kernel_rfl
theorem spec_EnsureQuota.eq : evFun spec_EnsureQuota.cx Tryz.f26 spec_EnsureQuota.ps spec_EnsureQuota.rs = spec_EnsureQuota.f := by kernel_rfl
theorem impl_copyNumbered.eq : evFun impl_copyNumbered.cx Tryz.f256 impl_copyNumbered.ps impl_copyNumbered.rs = impl_copyNumbered.f := by kernel_rfl
theorem laws_heldReservationS.eq : evFun laws_heldReservationS.cx Tryz.f118 laws_heldReservationS.ps laws_heldReservationS.rs = laws_heldReservationS.f := by kernel_rfl
theorem laws_szNumberedPacketS.eq : evFun laws_szNumberedPacketS.cx Tryz.f139 laws_szNumberedPacketS.ps laws_szNumberedPacketS.rs = laws_szNumberedPacketS.f := by kernel_rfl
theorem laws_eqIntS.eq : evFun laws_eqIntS.cx Tryz.f194 laws_eqIntS.ps laws_eqIntS.rs = laws_eqIntS.f := by kernel_rfl
theorem laws_heldPayloadS.eq : evFun laws_heldPayloadS.cx Tryz.f116 laws_heldPayloadS.ps laws_heldPayloadS.rs = laws_heldPayloadS.f := by kernel_rfl
theorem impl_TotalReserved.eq : evFun impl_TotalReserved.cx Tryz.f288 impl_TotalReserved.ps impl_TotalReserved.rs = impl_TotalReserved.f := by kernel_rfl
theorem spec_l30Bytes.eq : evFun spec_l30Bytes.cx Tryz.f208 spec_l30Bytes.ps spec_l30Bytes.rs = spec_l30Bytes.f := by kernel_rfl
theorem laws_eqAccount.eq : evFun laws_eqAccount.cx Tryz.f31 laws_eqAccount.ps laws_eqAccount.rs = laws_eqAccount.f := by kernel_rfl
theorem laws_eqSubscriberRecord.eq : evFun laws_eqSubscriberRecord.cx Tryz.f103 laws_eqSubscriberRecord.ps laws_eqSubscriberRecord.rs = laws_eqSubscriberRecord.f := by kernel_rfl
theorem laws_eqSendWindow.eq : evFun laws_eqSendWindow.cx Tryz.f108 laws_eqSendWindow.ps laws_eqSendWindow.rs = laws_eqSendWindow.f := by kernel_rfl
theorem impl_copyBytes.eq : evFun impl_copyBytes.cx Tryz.f170 impl_copyBytes.ps impl_copyBytes.rs = impl_copyBytes.f := by kernel_rfl
theorem spec_l30Plan.eq : evFun spec_l30Plan.cx Tryz.f175 spec_l30Plan.ps spec_l30Plan.rs = spec_l30Plan.f := by kernel_rfl
theorem laws_szAccount.eq : evFun laws_szAccount.cx Tryz.f25 laws_szAccount.ps laws_szAccount.rs = laws_szAccount.f := by kernel_rfl
theorem laws_toSubscription.eq : evFun laws_toSubscription.cx Tryz.f92 laws_toSubscription.ps laws_toSubscription.rs = laws_toSubscription.f := by kernel_rfl
theorem laws_eqPayload.eq : evFun laws_eqPayload.cx Tryz.f195 laws_eqPayload.ps laws_eqPayload.rs = laws_eqPayload.f := by kernel_rfl
theorem spec_l24Sender.eq : evFun spec_l24Sender.cx Tryz.f177 spec_l24Sender.ps spec_l24Sender.rs = spec_l24Sender.f := by kernel_rfl
theorem impl_Max.eq : evFun impl_Max.cx Tryz.f102 impl_Max.ps impl_Max.rs = impl_Max.f := by kernel_rfl
theorem laws_toQuota.eq : evFun laws_toQuota.cx Tryz.f96 laws_toQuota.ps laws_toQuota.rs = laws_toQuota.f := by kernel_rfl
end Go.Proofs.YtbgkgnhlfmidhaaGreat.XS
/- Each function, evaluated, is the plain Lean one. -/
set_option linter.unusedVariables false
set_option maxRecDepth 100000
namespace Go.Proofs.YtbgkgnhlfmidhaaGreat.XS
open Go Go.Proofs.XTv Go.Proofs.XF
theorem impl_IsValidAccount.eq : evFun impl_IsValidAccount.cx Tryz.f264 impl_IsValidAccount.ps impl_IsValidAccount.rs = impl_IsValidAccount.f := by kernel_rfl
theorem spec_l24Sents.eq : evFun spec_l24Sents.cx Tryz.f227 spec_l24Sents.ps spec_l24Sents.rs = spec_l24Sents.f := by kernel_rfl
theorem laws_markNumberedPacketS.eq : evFun laws_markNumberedPacketS.cx Tryz.f155 laws_markNumberedPacketS.ps laws_markNumberedPacketS.rs = laws_markNumberedPacketS.f := by kernel_rfl
theorem laws_heldNumberedPacketS.eq : evFun laws_heldNumberedPacketS.cx Tryz.f200 laws_heldNumberedPacketS.ps laws_heldNumberedPacketS.rs = laws_heldNumberedPacketS.f := by kernel_rfl
theorem laws_toNumberedPacketS.eq : evFun laws_toNumberedPacketS.cx Tryz.f145 laws_toNumberedPacketS.ps laws_toNumberedPacketS.rs = laws_toNumberedPacketS.f := by kernel_rfl
theorem laws_szPayloadS.eq : evFun laws_szPayloadS.cx Tryz.f83 laws_szPayloadS.ps laws_szPayloadS.rs = laws_szPayloadS.f := by kernel_rfl
theorem impl_copySession.eq : evFun impl_copySession.cx Tryz.f98 impl_copySession.ps impl_copySession.rs = impl_copySession.f := by kernel_rfl
theorem spec_RequestQuota.eq : evFun spec_RequestQuota.cx Tryz.f89 spec_RequestQuota.ps spec_RequestQuota.rs = spec_RequestQuota.f := by kernel_rfl
theorem laws_heldIntS.eq : evFun laws_heldIntS.cx Tryz.f198 laws_heldIntS.ps laws_heldIntS.rs = laws_heldIntS.f := by kernel_rfl
theorem laws_heldSession.eq : evFun laws_heldSession.cx Tryz.f34 laws_heldSession.ps laws_heldSession.rs = laws_heldSession.f := by kernel_rfl
theorem spec_QuotaNeeded.eq : evFun spec_QuotaNeeded.cx Tryz.f87 spec_QuotaNeeded.ps spec_QuotaNeeded.rs = spec_QuotaNeeded.f := by kernel_rfl
theorem laws_eqPagingState.eq : evFun laws_eqPagingState.cx Tryz.f106 laws_eqPagingState.ps laws_eqPagingState.rs = laws_eqPagingState.f := by kernel_rfl
theorem laws_markAccount.eq : evFun laws_markAccount.cx Tryz.f33 laws_markAccount.ps laws_markAccount.rs = laws_markAccount.f := by kernel_rfl
theorem laws_szReservationS.eq : evFun laws_szReservationS.cx Tryz.f85 laws_szReservationS.ps laws_szReservationS.rs = laws_szReservationS.f := by kernel_rfl
theorem spec_RemainingQuota.eq : evFun spec_RemainingQuota.cx Tryz.f179 spec_RemainingQuota.ps spec_RemainingQuota.rs = spec_RemainingQuota.f := by kernel_rfl
theorem laws_szNumberedPacket.eq : evFun laws_szNumberedPacket.cx Tryz.f226 laws_szNumberedPacket.ps laws_szNumberedPacket.rs = laws_szNumberedPacket.f := by kernel_rfl
theorem spec_l16Copy.eq : evFun spec_l16Copy.cx Tryz.f88 spec_l16Copy.ps spec_l16Copy.rs = spec_l16Copy.f := by kernel_rfl
theorem laws_toNumberedPacket.eq : evFun laws_toNumberedPacket.cx Tryz.f236 laws_toNumberedPacket.ps laws_toNumberedPacket.rs = laws_toNumberedPacket.f := by kernel_rfl
theorem spec_Min.eq : evFun spec_Min.cx Tryz.f259 spec_Min.ps spec_Min.rs = spec_Min.f := by kernel_rfl
theorem laws_toSubscriberID.eq : evFun laws_toSubscriberID.cx Tryz.f144 laws_toSubscriberID.ps laws_toSubscriberID.rs = laws_toSubscriberID.f := by kernel_rfl
end Go.Proofs.YtbgkgnhlfmidhaaGreat.XS
/- Each function, evaluated, is the plain Lean one. -/
set_option linter.unusedVariables false
set_option maxRecDepth 100000
namespace Go.Proofs.YtbgkgnhlfmidhaaGreat.XS
open Go Go.Proofs.XTv Go.Proofs.XF
theorem spec_l16Add.eq : evFun spec_l16Add.cx Tryz.f260 spec_l16Add.ps spec_l16Add.rs = spec_l16Add.f := by kernel_rfl
theorem spec_Reserve.eq : evFun spec_Reserve.cx Tryz.f180 spec_Reserve.ps spec_Reserve.rs = spec_Reserve.f := by kernel_rfl
theorem laws_toSession.eq : evFun laws_toSession.cx Tryz.f27 laws_toSession.ps laws_toSession.rs = laws_toSession.f := by kernel_rfl
theorem laws_eqPayloadS.eq : evFun laws_eqPayloadS.cx Tryz.f107 laws_eqPayloadS.ps laws_eqPayloadS.rs = laws_eqPayloadS.f := by kernel_rfl
theorem impl_copyPayloads.eq : evFun impl_copyPayloads.cx Tryz.f187 impl_copyPayloads.ps impl_copyPayloads.rs = impl_copyPayloads.f := by kernel_rfl
theorem laws_toPayloadS.eq : evFun laws_toPayloadS.cx Tryz.f94 laws_toPayloadS.ps laws_toPayloadS.rs = laws_toPayloadS.f := by kernel_rfl
theorem spec_l30Copy.eq : evFun spec_l30Copy.cx Tryz.f86 spec_l30Copy.ps spec_l30Copy.rs = spec_l30Copy.f := by kernel_rfl
theorem laws_markPayloadS.eq : evFun laws_markPayloadS.cx Tryz.f112 laws_markPayloadS.ps laws_markPayloadS.rs = laws_markPayloadS.f := by kernel_rfl
theorem spec_TotalReserved.eq : evFun spec_TotalReserved.cx Tryz.f287 spec_TotalReserved.ps spec_TotalReserved.rs = spec_TotalReserved.f := by kernel_rfl
theorem laws_szSession.eq : evFun laws_szSession.cx Tryz.f24 laws_szSession.ps laws_szSession.rs = laws_szSession.f := by kernel_rfl
theorem impl_QuotaNeeded.eq : evFun impl_QuotaNeeded.cx Tryz.f99 impl_QuotaNeeded.ps impl_QuotaNeeded.rs = impl_QuotaNeeded.f := by kernel_rfl
theorem laws_eqQuota.eq : evFun laws_eqQuota.cx Tryz.f109 laws_eqQuota.ps laws_eqQuota.rs = laws_eqQuota.f := by kernel_rfl
theorem impl_copyItems_impl_Reservation.eq : evFun impl_copyItems_impl_Reservation.cx Tryz.f191 impl_copyItems_impl_Reservation.ps impl_copyItems_impl_Reservation.rs = impl_copyItems_impl_Reservation.f := by kernel_rfl
theorem laws_heldSubscription.eq : evFun laws_heldSubscription.cx Tryz.f115 laws_heldSubscription.ps laws_heldSubscription.rs = laws_heldSubscription.f := by kernel_rfl
theorem laws_szSubscription.eq : evFun laws_szSubscription.cx Tryz.f82 laws_szSubscription.ps laws_szSubscription.rs = laws_szSubscription.f := by kernel_rfl
theorem laws_szByteS.eq : evFun laws_szByteS.cx Tryz.f157 laws_szByteS.ps laws_szByteS.rs = laws_szByteS.f := by kernel_rfl
theorem laws_eqSubscriberID.eq : evFun laws_eqSubscriberID.cx Tryz.f153 laws_eqSubscriberID.ps laws_eqSubscriberID.rs = laws_eqSubscriberID.f := by kernel_rfl
theorem laws_szPayload.eq : evFun laws_szPayload.cx Tryz.f174 laws_szPayload.ps laws_szPayload.rs = laws_szPayload.f := by kernel_rfl
theorem laws_toPayload.eq : evFun laws_toPayload.cx Tryz.f184 laws_toPayload.ps laws_toPayload.rs = laws_toPayload.f := by kernel_rfl
theorem laws_toReservation.eq : evFun laws_toReservation.cx Tryz.f185 laws_toReservation.ps laws_toReservation.rs = laws_toReservation.f := by kernel_rfl
end Go.Proofs.YtbgkgnhlfmidhaaGreat.XS
/- Each function of the program does what the plain Lean one says. -/
set_option linter.unusedVariables false
set_option maxRecDepth 100000
namespace Go.Proofs.YtbgkgnhlfmidhaaGreat.XS
open Go Go.Proofs.XTv Go.Proofs.XF
def ConsOk (P : Program) (l : List (Nat × Con)) : Prop := ∀ p ∈ l, Sound P p.1 p.2
theorem con_nil {P : Program} : ConsOk P [] := fun p hp => by cases hp
theorem con_cons {P : Program} {n : Nat} {C : Con} {l : List (Nat × Con)} (h : Sound P n C) (hl : ConsOk P l) : ConsOk P ((n, C) :: l) := fun p hp => by
  rcases List.mem_cons.1 hp with rfl | hp
  · exact h
  · exact hl p hp
theorem con_look {P : Program} {l : List (Nat × Con)} (hl : ConsOk P l) {n : Nat} {C : Con} (h : look l n = some C) : Sound P n C := hl _ (look_mem h)
theorem laws_szIntS.sound : Sound Tryz.prog 173 laws_szIntS.con := by
  have h := fun_sound (Γ := laws_szIntS.cx) (cx_ok.same rfl rfl) (fun n C h => con_look (con_nil) h) Tryz.checked.mixed Tryz.func173 (by kernel_rfl) (ps := laws_szIntS.ps) (rs := laws_szIntS.rs) (by kernel_rfl) (by kernel_rfl) (by kernel_rfl)
  rw [laws_szIntS.eq] at h
  exact h
theorem laws_szSubscription.sound : Sound Tryz.prog 82 laws_szSubscription.con := by
  have h := fun_sound (Γ := laws_szSubscription.cx) (cx_ok.same rfl rfl) (fun n C h => con_look (con_cons laws_szIntS.sound con_nil) h) Tryz.checked.mixed Tryz.func82 (by kernel_rfl) (ps := laws_szSubscription.ps) (rs := laws_szSubscription.rs) (by kernel_rfl) (by kernel_rfl) (by kernel_rfl)
  rw [laws_szSubscription.eq] at h
  exact h
theorem laws_szByteS.sound : Sound Tryz.prog 157 laws_szByteS.con := by
  have h := fun_sound (Γ := laws_szByteS.cx) (cx_ok.same rfl rfl) (fun n C h => con_look (con_nil) h) Tryz.checked.mixed Tryz.func157 (by kernel_rfl) (ps := laws_szByteS.ps) (rs := laws_szByteS.rs) (by kernel_rfl) (by kernel_rfl) (by kernel_rfl)
  rw [laws_szByteS.eq] at h
  exact h
theorem laws_szPayload.sound : Sound Tryz.prog 174 laws_szPayload.con := by
  have h := fun_sound (Γ := laws_szPayload.cx) (cx_ok.same rfl rfl) (fun n C h => con_look (con_cons laws_szByteS.sound con_nil) h) Tryz.checked.mixed Tryz.func174 (by kernel_rfl) (ps := laws_szPayload.ps) (rs := laws_szPayload.rs) (by kernel_rfl) (by kernel_rfl) (by kernel_rfl)
  rw [laws_szPayload.eq] at h
  exact h
theorem laws_szPayloadS.sound : Sound Tryz.prog 83 laws_szPayloadS.con := by
  have h := fun_sound (Γ := laws_szPayloadS.cx) (cx_ok.same rfl rfl) (fun n C h => con_look (con_cons laws_szPayload.sound con_nil) h) Tryz.checked.mixed Tryz.func83 (by kernel_rfl) (ps := laws_szPayloadS.ps) (rs := laws_szPayloadS.rs) (by kernel_rfl) (by kernel_rfl) (by kernel_rfl)
  rw [laws_szPayloadS.eq] at h
  exact h
theorem laws_szNumberedPacket.sound : Sound Tryz.prog 226 laws_szNumberedPacket.con := by
  have h := fun_sound (Γ := laws_szNumberedPacket.cx) (cx_ok.same rfl rfl) (fun n C h => con_look (con_cons laws_szByteS.sound con_nil) h) Tryz.checked.mixed Tryz.func226 (by kernel_rfl) (ps := laws_szNumberedPacket.ps) (rs := laws_szNumberedPacket.rs) (by kernel_rfl) (by kernel_rfl) (by kernel_rfl)
  rw [laws_szNumberedPacket.eq] at h
  exact h
theorem laws_szNumberedPacketS.sound : Sound Tryz.prog 139 laws_szNumberedPacketS.con := by
  have h := fun_sound (Γ := laws_szNumberedPacketS.cx) (cx_ok.same rfl rfl) (fun n C h => con_look (con_cons laws_szNumberedPacket.sound con_nil) h) Tryz.checked.mixed Tryz.func139 (by kernel_rfl) (ps := laws_szNumberedPacketS.ps) (rs := laws_szNumberedPacketS.rs) (by kernel_rfl) (by kernel_rfl) (by kernel_rfl)
  rw [laws_szNumberedPacketS.eq] at h
  exact h
theorem laws_szSendWindow.sound : Sound Tryz.prog 84 laws_szSendWindow.con := by
  have h := fun_sound (Γ := laws_szSendWindow.cx) (cx_ok.same rfl rfl) (fun n C h => con_look (con_cons laws_szNumberedPacketS.sound con_nil) h) Tryz.checked.mixed Tryz.func84 (by kernel_rfl) (ps := laws_szSendWindow.ps) (rs := laws_szSendWindow.rs) (by kernel_rfl) (by kernel_rfl) (by kernel_rfl)
  rw [laws_szSendWindow.eq] at h
  exact h
theorem laws_szSession.sound : Sound Tryz.prog 24 laws_szSession.con := by
  have h := fun_sound (Γ := laws_szSession.cx) (cx_ok.same rfl rfl) (fun n C h => con_look (con_cons laws_szSubscription.sound (con_cons laws_szPayloadS.sound (con_cons laws_szSendWindow.sound con_nil))) h) Tryz.checked.mixed Tryz.func24 (by kernel_rfl) (ps := laws_szSession.ps) (rs := laws_szSession.rs) (by kernel_rfl) (by kernel_rfl) (by kernel_rfl)
  rw [laws_szSession.eq] at h
  exact h
theorem laws_szReservationS.sound : Sound Tryz.prog 85 laws_szReservationS.con := by
  have h := fun_sound (Γ := laws_szReservationS.cx) (cx_ok.same rfl rfl) (fun n C h => con_look (con_nil) h) Tryz.checked.mixed Tryz.func85 (by kernel_rfl) (ps := laws_szReservationS.ps) (rs := laws_szReservationS.rs) (by kernel_rfl) (by kernel_rfl) (by kernel_rfl)
  rw [laws_szReservationS.eq] at h
  exact h
theorem laws_szAccount.sound : Sound Tryz.prog 25 laws_szAccount.con := by
  have h := fun_sound (Γ := laws_szAccount.cx) (cx_ok.same rfl rfl) (fun n C h => con_look (con_cons laws_szReservationS.sound con_nil) h) Tryz.checked.mixed Tryz.func25 (by kernel_rfl) (ps := laws_szAccount.ps) (rs := laws_szAccount.rs) (by kernel_rfl) (by kernel_rfl) (by kernel_rfl)
  rw [laws_szAccount.eq] at h
  exact h
theorem spec_l30Plan.sound : Sound Tryz.prog 175 spec_l30Plan.con := by
  have h := fun_sound (Γ := spec_l30Plan.cx) (cx_ok.same rfl rfl) (fun n C h => con_look (con_nil) h) Tryz.checked.mixed Tryz.func175 (by kernel_rfl) (ps := spec_l30Plan.ps) (rs := spec_l30Plan.rs) (by kernel_rfl) (by kernel_rfl) (by kernel_rfl)
  rw [spec_l30Plan.eq] at h
  exact h
theorem spec_l15Bodies.sound : Sound Tryz.prog 176 spec_l15Bodies.con := by
  have h := fun_sound (Γ := spec_l15Bodies.cx) (cx_ok.same rfl rfl) (fun n C h => con_look (con_nil) h) Tryz.checked.mixed Tryz.func176 (by kernel_rfl) (ps := spec_l15Bodies.ps) (rs := spec_l15Bodies.rs) (by kernel_rfl) (by kernel_rfl) (by kernel_rfl)
  rw [spec_l15Bodies.eq] at h
  exact h
theorem spec_l24Sents.sound : Sound Tryz.prog 227 spec_l24Sents.con := by
  have h := fun_sound (Γ := spec_l24Sents.cx) (cx_ok.same rfl rfl) (fun n C h => con_look (con_nil) h) Tryz.checked.mixed Tryz.func227 (by kernel_rfl) (ps := spec_l24Sents.ps) (rs := spec_l24Sents.rs) (by kernel_rfl) (by kernel_rfl) (by kernel_rfl)
  rw [spec_l24Sents.eq] at h
  exact h
theorem spec_l24Sender.sound : Sound Tryz.prog 177 spec_l24Sender.con := by
  have h := fun_sound (Γ := spec_l24Sender.cx) (cx_ok.same rfl rfl) (fun n C h => con_look (con_cons spec_l24Sents.sound con_nil) h) Tryz.checked.mixed Tryz.func177 (by kernel_rfl) (ps := spec_l24Sender.ps) (rs := spec_l24Sender.rs) (by kernel_rfl) (by kernel_rfl) (by kernel_rfl)
  rw [spec_l24Sender.eq] at h
  exact h
theorem spec_l30Copy.sound : Sound Tryz.prog 86 spec_l30Copy.con := by
  have h := fun_sound (Γ := spec_l30Copy.cx) (cx_ok.same rfl rfl) (fun n C h => con_look (con_cons spec_l30Plan.sound (con_cons spec_l15Bodies.sound (con_cons spec_l24Sender.sound con_nil))) h) Tryz.checked.mixed Tryz.func86 (by kernel_rfl) (ps := spec_l30Copy.ps) (rs := spec_l30Copy.rs) (by kernel_rfl) (by kernel_rfl) (by kernel_rfl)
  rw [spec_l30Copy.eq] at h
  exact h
theorem spec_Max.sound : Sound Tryz.prog 90 spec_Max.con := by
  have h := fun_sound (Γ := spec_Max.cx) (cx_ok.same rfl rfl) (fun n C h => con_look (con_nil) h) Tryz.checked.mixed Tryz.func90 (by kernel_rfl) (ps := spec_Max.ps) (rs := spec_Max.rs) (by kernel_rfl) (by kernel_rfl) (by kernel_rfl)
  rw [spec_Max.eq] at h
  exact h
theorem spec_l30Bytes.sound : Sound Tryz.prog 208 spec_l30Bytes.con := by
  have h := fun_sound (Γ := spec_l30Bytes.cx) (cx_ok.same rfl rfl) (fun n C h => con_look (con_nil) h) Tryz.checked.mixed Tryz.func208 (by kernel_rfl) (ps := spec_l30Bytes.ps) (rs := spec_l30Bytes.rs) (by kernel_rfl) (by kernel_rfl) (by kernel_rfl)
  rw [spec_l30Bytes.eq] at h
  exact h
theorem spec_OutstandingBytes.sound : Sound Tryz.prog 178 spec_OutstandingBytes.con := by
  have h := fun_sound (Γ := spec_OutstandingBytes.cx) (cx_ok.same rfl rfl) (fun n C h => con_look (con_cons spec_l30Bytes.sound con_nil) h) Tryz.checked.mixed Tryz.func178 (by kernel_rfl) (ps := spec_OutstandingBytes.ps) (rs := spec_OutstandingBytes.rs) (by kernel_rfl) (by kernel_rfl) (by kernel_rfl)
  rw [spec_OutstandingBytes.eq] at h
  exact h
theorem spec_l1In.sound : Sound Tryz.prog 140 spec_l1In.con := by
  have h := fun_sound (Γ := spec_l1In.cx) (cx_ok.same rfl rfl) (fun n C h => con_look (con_nil) h) Tryz.checked.mixed Tryz.func140 (by kernel_rfl) (ps := spec_l1In.ps) (rs := spec_l1In.rs) (by kernel_rfl) (by kernel_rfl) (by kernel_rfl)
  rw [spec_l1In.eq] at h
  exact h
theorem spec_IsValidQuota.sound : Sound Tryz.prog 182 spec_IsValidQuota.con := by
  have h := fun_sound (Γ := spec_IsValidQuota.cx) (cx_ok.same rfl rfl) (fun n C h => con_look (con_cons spec_l1In.sound con_nil) h) Tryz.checked.mixed Tryz.func182 (by kernel_rfl) (ps := spec_IsValidQuota.ps) (rs := spec_IsValidQuota.rs) (by kernel_rfl) (by kernel_rfl) (by kernel_rfl)
  rw [spec_IsValidQuota.eq] at h
  exact h
theorem spec_RemainingQuota.sound : Sound Tryz.prog 179 spec_RemainingQuota.con := by
  have h := fun_sound (Γ := spec_RemainingQuota.cx) (cx_ok.same rfl rfl) (fun n C h => con_look (con_cons spec_IsValidQuota.sound con_nil) h) Tryz.checked.mixed Tryz.func179 (by kernel_rfl) (ps := spec_RemainingQuota.ps) (rs := spec_RemainingQuota.rs) (by kernel_rfl) (by kernel_rfl) (by kernel_rfl)
  rw [spec_RemainingQuota.eq] at h
  exact h
theorem spec_QuotaNeeded.sound : Sound Tryz.prog 87 spec_QuotaNeeded.con := by
  have h := fun_sound (Γ := spec_QuotaNeeded.cx) (cx_ok.same rfl rfl) (fun n C h => con_look (con_cons spec_Max.sound (con_cons spec_OutstandingBytes.sound (con_cons spec_RemainingQuota.sound con_nil))) h) Tryz.checked.mixed Tryz.func87 (by kernel_rfl) (ps := spec_QuotaNeeded.ps) (rs := spec_QuotaNeeded.rs) (by kernel_rfl) (by kernel_rfl) (by kernel_rfl)
  rw [spec_QuotaNeeded.eq] at h
  exact h
theorem spec_l16Copy.sound : Sound Tryz.prog 88 spec_l16Copy.con := by
  have h := fun_sound (Γ := spec_l16Copy.cx) (cx_ok.same rfl rfl) (fun n C h => con_look (con_nil) h) Tryz.checked.mixed Tryz.func88 (by kernel_rfl) (ps := spec_l16Copy.ps) (rs := spec_l16Copy.rs) (by kernel_rfl) (by kernel_rfl) (by kernel_rfl)
  rw [spec_l16Copy.eq] at h
  exact h
theorem spec_TotalReserved.sound : Sound Tryz.prog 287 spec_TotalReserved.con := by
  have h := fun_sound (Γ := spec_TotalReserved.cx) (cx_ok.same rfl rfl) (fun n C h => con_look (con_nil) h) Tryz.checked.mixed Tryz.func287 (by kernel_rfl) (ps := spec_TotalReserved.ps) (rs := spec_TotalReserved.rs) (by kernel_rfl) (by kernel_rfl) (by kernel_rfl)
  rw [spec_TotalReserved.eq] at h
  exact h
theorem spec_IsValidAccount.sound : Sound Tryz.prog 257 spec_IsValidAccount.con := by
  have h := fun_sound (Γ := spec_IsValidAccount.cx) (cx_ok.same rfl rfl) (fun n C h => con_look (con_cons spec_l1In.sound (con_cons spec_TotalReserved.sound con_nil)) h) Tryz.checked.mixed Tryz.func257 (by kernel_rfl) (ps := spec_IsValidAccount.ps) (rs := spec_IsValidAccount.rs) (by kernel_rfl) (by kernel_rfl) (by kernel_rfl)
  rw [spec_IsValidAccount.eq] at h
  exact h
theorem spec_l16Find.sound : Sound Tryz.prog 258 spec_l16Find.con := by
  have h := fun_sound (Γ := spec_l16Find.cx) (cx_ok.same rfl rfl) (fun n C h => con_look (con_nil) h) Tryz.checked.mixed Tryz.func258 (by kernel_rfl) (ps := spec_l16Find.ps) (rs := spec_l16Find.rs) (by kernel_rfl) (by kernel_rfl) (by kernel_rfl)
  rw [spec_l16Find.eq] at h
  exact h
theorem spec_Min.sound : Sound Tryz.prog 259 spec_Min.con := by
  have h := fun_sound (Γ := spec_Min.cx) (cx_ok.same rfl rfl) (fun n C h => con_look (con_nil) h) Tryz.checked.mixed Tryz.func259 (by kernel_rfl) (ps := spec_Min.ps) (rs := spec_Min.rs) (by kernel_rfl) (by kernel_rfl) (by kernel_rfl)
  rw [spec_Min.eq] at h
  exact h
theorem spec_l16Add.sound : Sound Tryz.prog 260 spec_l16Add.con := by
  have h := fun_sound (Γ := spec_l16Add.cx) (cx_ok.same rfl rfl) (fun n C h => con_look (con_nil) h) Tryz.checked.mixed Tryz.func260 (by kernel_rfl) (ps := spec_l16Add.ps) (rs := spec_l16Add.rs) (by kernel_rfl) (by kernel_rfl) (by kernel_rfl)
  rw [spec_l16Add.eq] at h
  exact h
theorem spec_Reserve.sound : Sound Tryz.prog 180 spec_Reserve.con := by
  have h := fun_sound (Γ := spec_Reserve.cx) (cx_ok.same rfl rfl) (fun n C h => con_look (con_cons spec_l16Copy.sound (con_cons spec_l1In.sound (con_cons spec_IsValidAccount.sound (con_cons spec_l16Find.sound (con_cons spec_Min.sound (con_cons spec_l16Add.sound con_nil)))))) h) Tryz.checked.mixed Tryz.func180 (by kernel_rfl) (ps := spec_Reserve.ps) (rs := spec_Reserve.rs) (by kernel_rfl) (by kernel_rfl) (by kernel_rfl)
  rw [spec_Reserve.eq] at h
  exact h
theorem spec_ReservedFor.sound : Sound Tryz.prog 261 spec_ReservedFor.con := by
  have h := fun_sound (Γ := spec_ReservedFor.cx) (cx_ok.same rfl rfl) (fun n C h => con_look (con_cons spec_l16Find.sound con_nil) h) Tryz.checked.mixed Tryz.func261 (by kernel_rfl) (ps := spec_ReservedFor.ps) (rs := spec_ReservedFor.rs) (by kernel_rfl) (by kernel_rfl) (by kernel_rfl)
  rw [spec_ReservedFor.eq] at h
  exact h
theorem spec_QuotaMatchesAccount.sound : Sound Tryz.prog 181 spec_QuotaMatchesAccount.con := by
  have h := fun_sound (Γ := spec_QuotaMatchesAccount.cx) (cx_ok.same rfl rfl) (fun n C h => con_look (con_cons spec_IsValidQuota.sound (con_cons spec_IsValidAccount.sound (con_cons spec_ReservedFor.sound con_nil))) h) Tryz.checked.mixed Tryz.func181 (by kernel_rfl) (ps := spec_QuotaMatchesAccount.ps) (rs := spec_QuotaMatchesAccount.rs) (by kernel_rfl) (by kernel_rfl) (by kernel_rfl)
  rw [spec_QuotaMatchesAccount.eq] at h
  exact h
theorem spec_RequestQuota.sound : Sound Tryz.prog 89 spec_RequestQuota.con := by
  have h := fun_sound (Γ := spec_RequestQuota.cx) (cx_ok.same rfl rfl) (fun n C h => con_look (con_cons spec_l16Copy.sound (con_cons spec_Reserve.sound (con_cons spec_QuotaMatchesAccount.sound (con_cons spec_IsValidQuota.sound con_nil)))) h) Tryz.checked.mixed Tryz.func89 (by kernel_rfl) (ps := spec_RequestQuota.ps) (rs := spec_RequestQuota.rs) (by kernel_rfl) (by kernel_rfl) (by kernel_rfl)
  rw [spec_RequestQuota.eq] at h
  exact h
theorem spec_EnsureQuota.sound : Sound Tryz.prog 26 spec_EnsureQuota.con := by
  have h := fun_sound (Γ := spec_EnsureQuota.cx) (cx_ok.same rfl rfl) (fun n C h => con_look (con_cons spec_l30Copy.sound (con_cons spec_QuotaNeeded.sound (con_cons spec_l16Copy.sound (con_cons spec_RequestQuota.sound (con_cons spec_Max.sound con_nil))))) h) Tryz.checked.mixed Tryz.func26 (by kernel_rfl) (ps := spec_EnsureQuota.ps) (rs := spec_EnsureQuota.rs) (by kernel_rfl) (by kernel_rfl) (by kernel_rfl)
  rw [spec_EnsureQuota.eq] at h
  exact h
theorem laws_toAuthVector.sound : Sound Tryz.prog 58 laws_toAuthVector.con := by
  have h := fun_sound (Γ := laws_toAuthVector.cx) (cx_ok.same rfl rfl) (fun n C h => con_look (con_nil) h) Tryz.checked.mixed Tryz.func58 (by kernel_rfl) (ps := laws_toAuthVector.ps) (rs := laws_toAuthVector.rs) (by kernel_rfl) (by kernel_rfl) (by kernel_rfl)
  rw [laws_toAuthVector.eq] at h
  exact h
theorem laws_toSubscriberID.sound : Sound Tryz.prog 144 laws_toSubscriberID.con := by
  have h := fun_sound (Γ := laws_toSubscriberID.cx) (cx_ok.same rfl rfl) (fun n C h => con_look (con_nil) h) Tryz.checked.mixed Tryz.func144 (by kernel_rfl) (ps := laws_toSubscriberID.ps) (rs := laws_toSubscriberID.rs) (by kernel_rfl) (by kernel_rfl) (by kernel_rfl)
  rw [laws_toSubscriberID.eq] at h
  exact h
theorem laws_toSubscriberRecord.sound : Sound Tryz.prog 91 laws_toSubscriberRecord.con := by
  have h := fun_sound (Γ := laws_toSubscriberRecord.cx) (cx_ok.same rfl rfl) (fun n C h => con_look (con_cons laws_toSubscriberID.sound con_nil) h) Tryz.checked.mixed Tryz.func91 (by kernel_rfl) (ps := laws_toSubscriberRecord.ps) (rs := laws_toSubscriberRecord.rs) (by kernel_rfl) (by kernel_rfl) (by kernel_rfl)
  rw [laws_toSubscriberRecord.eq] at h
  exact h
theorem laws_toIntS.sound : Sound Tryz.prog 183 laws_toIntS.con := by
  have h := fun_sound (Γ := laws_toIntS.cx) (cx_ok.same rfl rfl) (fun n C h => con_look (con_nil) h) Tryz.checked.mixed Tryz.func183 (by kernel_rfl) (ps := laws_toIntS.ps) (rs := laws_toIntS.rs) (by kernel_rfl) (by kernel_rfl) (by kernel_rfl)
  rw [laws_toIntS.eq] at h
  exact h
theorem laws_toSubscription.sound : Sound Tryz.prog 92 laws_toSubscription.con := by
  have h := fun_sound (Γ := laws_toSubscription.cx) (cx_ok.same rfl rfl) (fun n C h => con_look (con_cons laws_toIntS.sound con_nil) h) Tryz.checked.mixed Tryz.func92 (by kernel_rfl) (ps := laws_toSubscription.ps) (rs := laws_toSubscription.rs) (by kernel_rfl) (by kernel_rfl) (by kernel_rfl)
  rw [laws_toSubscription.eq] at h
  exact h
theorem laws_toPagingState.sound : Sound Tryz.prog 93 laws_toPagingState.con := by
  have h := fun_sound (Γ := laws_toPagingState.cx) (cx_ok.same rfl rfl) (fun n C h => con_look (con_nil) h) Tryz.checked.mixed Tryz.func93 (by kernel_rfl) (ps := laws_toPagingState.ps) (rs := laws_toPagingState.rs) (by kernel_rfl) (by kernel_rfl) (by kernel_rfl)
  rw [laws_toPagingState.eq] at h
  exact h
theorem laws_toByteS.sound : Sound Tryz.prog 163 laws_toByteS.con := by
  have h := fun_sound (Γ := laws_toByteS.cx) (cx_ok.same rfl rfl) (fun n C h => con_look (con_nil) h) Tryz.checked.mixed Tryz.func163 (by kernel_rfl) (ps := laws_toByteS.ps) (rs := laws_toByteS.rs) (by kernel_rfl) (by kernel_rfl) (by kernel_rfl)
  rw [laws_toByteS.eq] at h
  exact h
theorem laws_toPayload.sound : Sound Tryz.prog 184 laws_toPayload.con := by
  have h := fun_sound (Γ := laws_toPayload.cx) (cx_ok.same rfl rfl) (fun n C h => con_look (con_cons laws_toByteS.sound con_nil) h) Tryz.checked.mixed Tryz.func184 (by kernel_rfl) (ps := laws_toPayload.ps) (rs := laws_toPayload.rs) (by kernel_rfl) (by kernel_rfl) (by kernel_rfl)
  rw [laws_toPayload.eq] at h
  exact h
theorem laws_toPayloadS.sound : Sound Tryz.prog 94 laws_toPayloadS.con := by
  have h := fun_sound (Γ := laws_toPayloadS.cx) (cx_ok.same rfl rfl) (fun n C h => con_look (con_cons laws_toPayload.sound con_nil) h) Tryz.checked.mixed Tryz.func94 (by kernel_rfl) (ps := laws_toPayloadS.ps) (rs := laws_toPayloadS.rs) (by kernel_rfl) (by kernel_rfl) (by kernel_rfl)
  rw [laws_toPayloadS.eq] at h
  exact h
theorem laws_toNumberedPacket.sound : Sound Tryz.prog 236 laws_toNumberedPacket.con := by
  have h := fun_sound (Γ := laws_toNumberedPacket.cx) (cx_ok.same rfl rfl) (fun n C h => con_look (con_cons laws_toByteS.sound con_nil) h) Tryz.checked.mixed Tryz.func236 (by kernel_rfl) (ps := laws_toNumberedPacket.ps) (rs := laws_toNumberedPacket.rs) (by kernel_rfl) (by kernel_rfl) (by kernel_rfl)
  rw [laws_toNumberedPacket.eq] at h
  exact h
theorem laws_toNumberedPacketS.sound : Sound Tryz.prog 145 laws_toNumberedPacketS.con := by
  have h := fun_sound (Γ := laws_toNumberedPacketS.cx) (cx_ok.same rfl rfl) (fun n C h => con_look (con_cons laws_toNumberedPacket.sound con_nil) h) Tryz.checked.mixed Tryz.func145 (by kernel_rfl) (ps := laws_toNumberedPacketS.ps) (rs := laws_toNumberedPacketS.rs) (by kernel_rfl) (by kernel_rfl) (by kernel_rfl)
  rw [laws_toNumberedPacketS.eq] at h
  exact h
theorem laws_toSendWindow.sound : Sound Tryz.prog 95 laws_toSendWindow.con := by
  have h := fun_sound (Γ := laws_toSendWindow.cx) (cx_ok.same rfl rfl) (fun n C h => con_look (con_cons laws_toNumberedPacketS.sound con_nil) h) Tryz.checked.mixed Tryz.func95 (by kernel_rfl) (ps := laws_toSendWindow.ps) (rs := laws_toSendWindow.rs) (by kernel_rfl) (by kernel_rfl) (by kernel_rfl)
  rw [laws_toSendWindow.eq] at h
  exact h
theorem laws_toQuota.sound : Sound Tryz.prog 96 laws_toQuota.con := by
  have h := fun_sound (Γ := laws_toQuota.cx) (cx_ok.same rfl rfl) (fun n C h => con_look (con_nil) h) Tryz.checked.mixed Tryz.func96 (by kernel_rfl) (ps := laws_toQuota.ps) (rs := laws_toQuota.rs) (by kernel_rfl) (by kernel_rfl) (by kernel_rfl)
  rw [laws_toQuota.eq] at h
  exact h
theorem laws_toSession.sound : Sound Tryz.prog 27 laws_toSession.con := by
  have h := fun_sound (Γ := laws_toSession.cx) (cx_ok.same rfl rfl) (fun n C h => con_look (con_cons laws_toAuthVector.sound (con_cons laws_toSubscriberRecord.sound (con_cons laws_toSubscription.sound (con_cons laws_toPagingState.sound (con_cons laws_toPayloadS.sound (con_cons laws_toSendWindow.sound (con_cons laws_toQuota.sound con_nil))))))) h) Tryz.checked.mixed Tryz.func27 (by kernel_rfl) (ps := laws_toSession.ps) (rs := laws_toSession.rs) (by kernel_rfl) (by kernel_rfl) (by kernel_rfl)
  rw [laws_toSession.eq] at h
  exact h
theorem laws_toReservation.sound : Sound Tryz.prog 185 laws_toReservation.con := by
  have h := fun_sound (Γ := laws_toReservation.cx) (cx_ok.same rfl rfl) (fun n C h => con_look (con_nil) h) Tryz.checked.mixed Tryz.func185 (by kernel_rfl) (ps := laws_toReservation.ps) (rs := laws_toReservation.rs) (by kernel_rfl) (by kernel_rfl) (by kernel_rfl)
  rw [laws_toReservation.eq] at h
  exact h
theorem laws_toReservationS.sound : Sound Tryz.prog 97 laws_toReservationS.con := by
  have h := fun_sound (Γ := laws_toReservationS.cx) (cx_ok.same rfl rfl) (fun n C h => con_look (con_cons laws_toReservation.sound con_nil) h) Tryz.checked.mixed Tryz.func97 (by kernel_rfl) (ps := laws_toReservationS.ps) (rs := laws_toReservationS.rs) (by kernel_rfl) (by kernel_rfl) (by kernel_rfl)
  rw [laws_toReservationS.eq] at h
  exact h
theorem laws_toAccount.sound : Sound Tryz.prog 28 laws_toAccount.con := by
  have h := fun_sound (Γ := laws_toAccount.cx) (cx_ok.same rfl rfl) (fun n C h => con_look (con_cons laws_toReservationS.sound con_nil) h) Tryz.checked.mixed Tryz.func28 (by kernel_rfl) (ps := laws_toAccount.ps) (rs := laws_toAccount.rs) (by kernel_rfl) (by kernel_rfl) (by kernel_rfl)
  rw [laws_toAccount.eq] at h
  exact h
theorem impl_copyInts.sound : Sound Tryz.prog 262 impl_copyInts.con := by
  have h := fun_sound (Γ := impl_copyInts.cx) (cx_ok.same rfl rfl) (fun n C h => con_look (con_nil) h) Tryz.checked.mixed Tryz.func262 (by kernel_rfl) (ps := impl_copyInts.ps) (rs := impl_copyInts.rs) (by kernel_rfl) (by kernel_rfl) (by kernel_rfl)
  rw [impl_copyInts.eq] at h
  exact h
theorem impl_copySubscription.sound : Sound Tryz.prog 186 impl_copySubscription.con := by
  have h := fun_sound (Γ := impl_copySubscription.cx) (cx_ok.same rfl rfl) (fun n C h => con_look (con_cons impl_copyInts.sound con_nil) h) Tryz.checked.mixed Tryz.func186 (by kernel_rfl) (ps := impl_copySubscription.ps) (rs := impl_copySubscription.rs) (by kernel_rfl) (by kernel_rfl) (by kernel_rfl)
  rw [impl_copySubscription.eq] at h
  exact h
theorem impl_copyBytes.sound : Sound Tryz.prog 170 impl_copyBytes.con := by
  have h := fun_sound (Γ := impl_copyBytes.cx) (cx_ok.same rfl rfl) (fun n C h => con_look (con_nil) h) Tryz.checked.mixed Tryz.func170 (by kernel_rfl) (ps := impl_copyBytes.ps) (rs := impl_copyBytes.rs) (by kernel_rfl) (by kernel_rfl) (by kernel_rfl)
  rw [impl_copyBytes.eq] at h
  exact h
theorem impl_copyPayloads.sound : Sound Tryz.prog 187 impl_copyPayloads.con := by
  have h := fun_sound (Γ := impl_copyPayloads.cx) (cx_ok.same rfl rfl) (fun n C h => con_look (con_cons impl_copyBytes.sound con_nil) h) Tryz.checked.mixed Tryz.func187 (by kernel_rfl) (ps := impl_copyPayloads.ps) (rs := impl_copyPayloads.rs) (by kernel_rfl) (by kernel_rfl) (by kernel_rfl)
  rw [impl_copyPayloads.eq] at h
  exact h
theorem impl_copyNumbered.sound : Sound Tryz.prog 256 impl_copyNumbered.con := by
  have h := fun_sound (Γ := impl_copyNumbered.cx) (cx_ok.same rfl rfl) (fun n C h => con_look (con_cons impl_copyBytes.sound con_nil) h) Tryz.checked.mixed Tryz.func256 (by kernel_rfl) (ps := impl_copyNumbered.ps) (rs := impl_copyNumbered.rs) (by kernel_rfl) (by kernel_rfl) (by kernel_rfl)
  rw [impl_copyNumbered.eq] at h
  exact h
theorem impl_copySender.sound : Sound Tryz.prog 188 impl_copySender.con := by
  have h := fun_sound (Γ := impl_copySender.cx) (cx_ok.same rfl rfl) (fun n C h => con_look (con_cons impl_copyNumbered.sound con_nil) h) Tryz.checked.mixed Tryz.func188 (by kernel_rfl) (ps := impl_copySender.ps) (rs := impl_copySender.rs) (by kernel_rfl) (by kernel_rfl) (by kernel_rfl)
  rw [impl_copySender.eq] at h
  exact h
theorem impl_copySession.sound : Sound Tryz.prog 98 impl_copySession.con := by
  have h := fun_sound (Γ := impl_copySession.cx) (cx_ok.same rfl rfl) (fun n C h => con_look (con_cons impl_copySubscription.sound (con_cons impl_copyPayloads.sound (con_cons impl_copySender.sound con_nil))) h) Tryz.checked.mixed Tryz.func98 (by kernel_rfl) (ps := impl_copySession.ps) (rs := impl_copySession.rs) (by kernel_rfl) (by kernel_rfl) (by kernel_rfl)
  rw [impl_copySession.eq] at h
  exact h
theorem impl_Max.sound : Sound Tryz.prog 102 impl_Max.con := by
  have h := fun_sound (Γ := impl_Max.cx) (cx_ok.same rfl rfl) (fun n C h => con_look (con_nil) h) Tryz.checked.mixed Tryz.func102 (by kernel_rfl) (ps := impl_Max.ps) (rs := impl_Max.rs) (by kernel_rfl) (by kernel_rfl) (by kernel_rfl)
  rw [impl_Max.eq] at h
  exact h
theorem impl_numberedBytes.sound : Sound Tryz.prog 263 impl_numberedBytes.con := by
  have h := fun_sound (Γ := impl_numberedBytes.cx) (cx_ok.same rfl rfl) (fun n C h => con_look (con_nil) h) Tryz.checked.mixed Tryz.func263 (by kernel_rfl) (ps := impl_numberedBytes.ps) (rs := impl_numberedBytes.rs) (by kernel_rfl) (by kernel_rfl) (by kernel_rfl)
  rw [impl_numberedBytes.eq] at h
  exact h
theorem impl_OutstandingBytes.sound : Sound Tryz.prog 189 impl_OutstandingBytes.con := by
  have h := fun_sound (Γ := impl_OutstandingBytes.cx) (cx_ok.same rfl rfl) (fun n C h => con_look (con_cons impl_numberedBytes.sound con_nil) h) Tryz.checked.mixed Tryz.func189 (by kernel_rfl) (ps := impl_OutstandingBytes.ps) (rs := impl_OutstandingBytes.rs) (by kernel_rfl) (by kernel_rfl) (by kernel_rfl)
  rw [impl_OutstandingBytes.eq] at h
  exact h
theorem impl_IsValidQuota.sound : Sound Tryz.prog 222 impl_IsValidQuota.con := by
  have h := fun_sound (Γ := impl_IsValidQuota.cx) (cx_ok.same rfl rfl) (fun n C h => con_look (con_nil) h) Tryz.checked.mixed Tryz.func222 (by kernel_rfl) (ps := impl_IsValidQuota.ps) (rs := impl_IsValidQuota.rs) (by kernel_rfl) (by kernel_rfl) (by kernel_rfl)
  rw [impl_IsValidQuota.eq] at h
  exact h
theorem impl_RemainingQuota.sound : Sound Tryz.prog 190 impl_RemainingQuota.con := by
  have h := fun_sound (Γ := impl_RemainingQuota.cx) (cx_ok.same rfl rfl) (fun n C h => con_look (con_cons impl_IsValidQuota.sound con_nil) h) Tryz.checked.mixed Tryz.func190 (by kernel_rfl) (ps := impl_RemainingQuota.ps) (rs := impl_RemainingQuota.rs) (by kernel_rfl) (by kernel_rfl) (by kernel_rfl)
  rw [impl_RemainingQuota.eq] at h
  exact h
theorem impl_QuotaNeeded.sound : Sound Tryz.prog 99 impl_QuotaNeeded.con := by
  have h := fun_sound (Γ := impl_QuotaNeeded.cx) (cx_ok.same rfl rfl) (fun n C h => con_look (con_cons impl_Max.sound (con_cons impl_OutstandingBytes.sound (con_cons impl_RemainingQuota.sound con_nil))) h) Tryz.checked.mixed Tryz.func99 (by kernel_rfl) (ps := impl_QuotaNeeded.ps) (rs := impl_QuotaNeeded.rs) (by kernel_rfl) (by kernel_rfl) (by kernel_rfl)
  rw [impl_QuotaNeeded.eq] at h
  exact h
theorem impl_copyItems_impl_Reservation.sound : Sound Tryz.prog 191 impl_copyItems_impl_Reservation.con := by
  have h := fun_sound (Γ := impl_copyItems_impl_Reservation.cx) (cx_ok.same rfl rfl) (fun n C h => con_look (con_nil) h) Tryz.checked.mixed Tryz.func191 (by kernel_rfl) (ps := impl_copyItems_impl_Reservation.ps) (rs := impl_copyItems_impl_Reservation.rs) (by kernel_rfl) (by kernel_rfl) (by kernel_rfl)
  rw [impl_copyItems_impl_Reservation.eq] at h
  exact h
theorem impl_copyAccount.sound : Sound Tryz.prog 100 impl_copyAccount.con := by
  have h := fun_sound (Γ := impl_copyAccount.cx) (cx_ok.same rfl rfl) (fun n C h => con_look (con_cons impl_copyItems_impl_Reservation.sound con_nil) h) Tryz.checked.mixed Tryz.func100 (by kernel_rfl) (ps := impl_copyAccount.ps) (rs := impl_copyAccount.rs) (by kernel_rfl) (by kernel_rfl) (by kernel_rfl)
  rw [impl_copyAccount.eq] at h
  exact h
theorem impl_InRange.sound : Sound Tryz.prog 146 impl_InRange.con := by
  have h := fun_sound (Γ := impl_InRange.cx) (cx_ok.same rfl rfl) (fun n C h => con_look (con_nil) h) Tryz.checked.mixed Tryz.func146 (by kernel_rfl) (ps := impl_InRange.ps) (rs := impl_InRange.rs) (by kernel_rfl) (by kernel_rfl) (by kernel_rfl)
  rw [impl_InRange.eq] at h
  exact h
theorem impl_TotalReserved.sound : Sound Tryz.prog 288 impl_TotalReserved.con := by
  have h := fun_sound (Γ := impl_TotalReserved.cx) (cx_ok.same rfl rfl) (fun n C h => con_look (con_nil) h) Tryz.checked.mixed Tryz.func288 (by kernel_rfl) (ps := impl_TotalReserved.ps) (rs := impl_TotalReserved.rs) (by kernel_rfl) (by kernel_rfl) (by kernel_rfl)
  rw [impl_TotalReserved.eq] at h
  exact h
theorem impl_IsValidAccount.sound : Sound Tryz.prog 264 impl_IsValidAccount.con := by
  have h := fun_sound (Γ := impl_IsValidAccount.cx) (cx_ok.same rfl rfl) (fun n C h => con_look (con_cons impl_InRange.sound (con_cons impl_TotalReserved.sound con_nil)) h) Tryz.checked.mixed Tryz.func264 (by kernel_rfl) (ps := impl_IsValidAccount.ps) (rs := impl_IsValidAccount.rs) (by kernel_rfl) (by kernel_rfl) (by kernel_rfl)
  rw [impl_IsValidAccount.eq] at h
  exact h
theorem impl_reservationIndex.sound : Sound Tryz.prog 267 impl_reservationIndex.con := by
  have h := fun_sound (Γ := impl_reservationIndex.cx) (cx_ok.same rfl rfl) (fun n C h => con_look (con_nil) h) Tryz.checked.mixed Tryz.func267 (by kernel_rfl) (ps := impl_reservationIndex.ps) (rs := impl_reservationIndex.rs) (by kernel_rfl) (by kernel_rfl) (by kernel_rfl)
  rw [impl_reservationIndex.eq] at h
  exact h
theorem impl_ReservedFor.sound : Sound Tryz.prog 265 impl_ReservedFor.con := by
  have h := fun_sound (Γ := impl_ReservedFor.cx) (cx_ok.same rfl rfl) (fun n C h => con_look (con_cons impl_reservationIndex.sound con_nil) h) Tryz.checked.mixed Tryz.func265 (by kernel_rfl) (ps := impl_ReservedFor.ps) (rs := impl_ReservedFor.rs) (by kernel_rfl) (by kernel_rfl) (by kernel_rfl)
  rw [impl_ReservedFor.eq] at h
  exact h
theorem impl_QuotaMatchesAccount.sound : Sound Tryz.prog 192 impl_QuotaMatchesAccount.con := by
  have h := fun_sound (Γ := impl_QuotaMatchesAccount.cx) (cx_ok.same rfl rfl) (fun n C h => con_look (con_cons impl_IsValidQuota.sound (con_cons impl_IsValidAccount.sound (con_cons impl_ReservedFor.sound con_nil))) h) Tryz.checked.mixed Tryz.func192 (by kernel_rfl) (ps := impl_QuotaMatchesAccount.ps) (rs := impl_QuotaMatchesAccount.rs) (by kernel_rfl) (by kernel_rfl) (by kernel_rfl)
  rw [impl_QuotaMatchesAccount.eq] at h
  exact h
theorem impl_Min.sound : Sound Tryz.prog 266 impl_Min.con := by
  have h := fun_sound (Γ := impl_Min.cx) (cx_ok.same rfl rfl) (fun n C h => con_look (con_nil) h) Tryz.checked.mixed Tryz.func266 (by kernel_rfl) (ps := impl_Min.ps) (rs := impl_Min.rs) (by kernel_rfl) (by kernel_rfl) (by kernel_rfl)
  rw [impl_Min.eq] at h
  exact h
theorem impl_Reserve.sound : Sound Tryz.prog 193 impl_Reserve.con := by
  have h := fun_sound (Γ := impl_Reserve.cx) (cx_ok.same rfl rfl) (fun n C h => con_look (con_cons impl_copyAccount.sound (con_cons impl_InRange.sound (con_cons impl_IsValidAccount.sound (con_cons impl_Min.sound (con_cons impl_reservationIndex.sound con_nil))))) h) Tryz.checked.mixed Tryz.func193 (by kernel_rfl) (ps := impl_Reserve.ps) (rs := impl_Reserve.rs) (by kernel_rfl) (by kernel_rfl) (by kernel_rfl)
  rw [impl_Reserve.eq] at h
  exact h
theorem impl_RequestQuota.sound : Sound Tryz.prog 101 impl_RequestQuota.con := by
  have h := fun_sound (Γ := impl_RequestQuota.cx) (cx_ok.same rfl rfl) (fun n C h => con_look (con_cons impl_copyAccount.sound (con_cons impl_QuotaMatchesAccount.sound (con_cons impl_Reserve.sound con_nil))) h) Tryz.checked.mixed Tryz.func101 (by kernel_rfl) (ps := impl_RequestQuota.ps) (rs := impl_RequestQuota.rs) (by kernel_rfl) (by kernel_rfl) (by kernel_rfl)
  rw [impl_RequestQuota.eq] at h
  exact h
theorem impl_EnsureQuota.sound : Sound Tryz.prog 29 impl_EnsureQuota.con := by
  have h := fun_sound (Γ := impl_EnsureQuota.cx) (cx_ok.same rfl rfl) (fun n C h => con_look (con_cons impl_copySession.sound (con_cons impl_QuotaNeeded.sound (con_cons impl_copyAccount.sound (con_cons impl_RequestQuota.sound (con_cons impl_Max.sound con_nil))))) h) Tryz.checked.mixed Tryz.func29 (by kernel_rfl) (ps := impl_EnsureQuota.ps) (rs := impl_EnsureQuota.rs) (by kernel_rfl) (by kernel_rfl) (by kernel_rfl)
  rw [impl_EnsureQuota.eq] at h
  exact h
theorem laws_eqSubscriberID.sound : Sound Tryz.prog 153 laws_eqSubscriberID.con := by
  have h := fun_sound (Γ := laws_eqSubscriberID.cx) (cx_ok.same rfl rfl) (fun n C h => con_look (con_nil) h) Tryz.checked.mixed Tryz.func153 (by kernel_rfl) (ps := laws_eqSubscriberID.ps) (rs := laws_eqSubscriberID.rs) (by kernel_rfl) (by kernel_rfl) (by kernel_rfl)
  rw [laws_eqSubscriberID.eq] at h
  exact h
theorem laws_eqSubscriberRecord.sound : Sound Tryz.prog 103 laws_eqSubscriberRecord.con := by
  have h := fun_sound (Γ := laws_eqSubscriberRecord.cx) (cx_ok.same rfl rfl) (fun n C h => con_look (con_cons laws_eqSubscriberID.sound con_nil) h) Tryz.checked.mixed Tryz.func103 (by kernel_rfl) (ps := laws_eqSubscriberRecord.ps) (rs := laws_eqSubscriberRecord.rs) (by kernel_rfl) (by kernel_rfl) (by kernel_rfl)
  rw [laws_eqSubscriberRecord.eq] at h
  exact h
theorem laws_eqIntS.sound : Sound Tryz.prog 194 laws_eqIntS.con := by
  have h := fun_sound (Γ := laws_eqIntS.cx) (cx_ok.same rfl rfl) (fun n C h => con_look (con_nil) h) Tryz.checked.mixed Tryz.func194 (by kernel_rfl) (ps := laws_eqIntS.ps) (rs := laws_eqIntS.rs) (by kernel_rfl) (by kernel_rfl) (by kernel_rfl)
  rw [laws_eqIntS.eq] at h
  exact h
theorem laws_eqSubscription.sound : Sound Tryz.prog 104 laws_eqSubscription.con := by
  have h := fun_sound (Γ := laws_eqSubscription.cx) (cx_ok.same rfl rfl) (fun n C h => con_look (con_cons laws_eqIntS.sound con_nil) h) Tryz.checked.mixed Tryz.func104 (by kernel_rfl) (ps := laws_eqSubscription.ps) (rs := laws_eqSubscription.rs) (by kernel_rfl) (by kernel_rfl) (by kernel_rfl)
  rw [laws_eqSubscription.eq] at h
  exact h
theorem laws_eqAuthVector.sound : Sound Tryz.prog 105 laws_eqAuthVector.con := by
  have h := fun_sound (Γ := laws_eqAuthVector.cx) (cx_ok.same rfl rfl) (fun n C h => con_look (con_nil) h) Tryz.checked.mixed Tryz.func105 (by kernel_rfl) (ps := laws_eqAuthVector.ps) (rs := laws_eqAuthVector.rs) (by kernel_rfl) (by kernel_rfl) (by kernel_rfl)
  rw [laws_eqAuthVector.eq] at h
  exact h
theorem laws_eqPagingState.sound : Sound Tryz.prog 106 laws_eqPagingState.con := by
  have h := fun_sound (Γ := laws_eqPagingState.cx) (cx_ok.same rfl rfl) (fun n C h => con_look (con_nil) h) Tryz.checked.mixed Tryz.func106 (by kernel_rfl) (ps := laws_eqPagingState.ps) (rs := laws_eqPagingState.rs) (by kernel_rfl) (by kernel_rfl) (by kernel_rfl)
  rw [laws_eqPagingState.eq] at h
  exact h
theorem laws_eqByteS.sound : Sound Tryz.prog 171 laws_eqByteS.con := by
  have h := fun_sound (Γ := laws_eqByteS.cx) (cx_ok.same rfl rfl) (fun n C h => con_look (con_nil) h) Tryz.checked.mixed Tryz.func171 (by kernel_rfl) (ps := laws_eqByteS.ps) (rs := laws_eqByteS.rs) (by kernel_rfl) (by kernel_rfl) (by kernel_rfl)
  rw [laws_eqByteS.eq] at h
  exact h
theorem laws_eqPayload.sound : Sound Tryz.prog 195 laws_eqPayload.con := by
  have h := fun_sound (Γ := laws_eqPayload.cx) (cx_ok.same rfl rfl) (fun n C h => con_look (con_cons laws_eqByteS.sound con_nil) h) Tryz.checked.mixed Tryz.func195 (by kernel_rfl) (ps := laws_eqPayload.ps) (rs := laws_eqPayload.rs) (by kernel_rfl) (by kernel_rfl) (by kernel_rfl)
  rw [laws_eqPayload.eq] at h
  exact h
theorem laws_eqPayloadS.sound : Sound Tryz.prog 107 laws_eqPayloadS.con := by
  have h := fun_sound (Γ := laws_eqPayloadS.cx) (cx_ok.same rfl rfl) (fun n C h => con_look (con_cons laws_eqPayload.sound con_nil) h) Tryz.checked.mixed Tryz.func107 (by kernel_rfl) (ps := laws_eqPayloadS.ps) (rs := laws_eqPayloadS.rs) (by kernel_rfl) (by kernel_rfl) (by kernel_rfl)
  rw [laws_eqPayloadS.eq] at h
  exact h
theorem laws_eqNumberedPacket.sound : Sound Tryz.prog 245 laws_eqNumberedPacket.con := by
  have h := fun_sound (Γ := laws_eqNumberedPacket.cx) (cx_ok.same rfl rfl) (fun n C h => con_look (con_cons laws_eqByteS.sound con_nil) h) Tryz.checked.mixed Tryz.func245 (by kernel_rfl) (ps := laws_eqNumberedPacket.ps) (rs := laws_eqNumberedPacket.rs) (by kernel_rfl) (by kernel_rfl) (by kernel_rfl)
  rw [laws_eqNumberedPacket.eq] at h
  exact h
theorem laws_eqNumberedPacketS.sound : Sound Tryz.prog 154 laws_eqNumberedPacketS.con := by
  have h := fun_sound (Γ := laws_eqNumberedPacketS.cx) (cx_ok.same rfl rfl) (fun n C h => con_look (con_cons laws_eqNumberedPacket.sound con_nil) h) Tryz.checked.mixed Tryz.func154 (by kernel_rfl) (ps := laws_eqNumberedPacketS.ps) (rs := laws_eqNumberedPacketS.rs) (by kernel_rfl) (by kernel_rfl) (by kernel_rfl)
  rw [laws_eqNumberedPacketS.eq] at h
  exact h
theorem laws_eqSendWindow.sound : Sound Tryz.prog 108 laws_eqSendWindow.con := by
  have h := fun_sound (Γ := laws_eqSendWindow.cx) (cx_ok.same rfl rfl) (fun n C h => con_look (con_cons laws_eqNumberedPacketS.sound con_nil) h) Tryz.checked.mixed Tryz.func108 (by kernel_rfl) (ps := laws_eqSendWindow.ps) (rs := laws_eqSendWindow.rs) (by kernel_rfl) (by kernel_rfl) (by kernel_rfl)
  rw [laws_eqSendWindow.eq] at h
  exact h
theorem laws_eqQuota.sound : Sound Tryz.prog 109 laws_eqQuota.con := by
  have h := fun_sound (Γ := laws_eqQuota.cx) (cx_ok.same rfl rfl) (fun n C h => con_look (con_nil) h) Tryz.checked.mixed Tryz.func109 (by kernel_rfl) (ps := laws_eqQuota.ps) (rs := laws_eqQuota.rs) (by kernel_rfl) (by kernel_rfl) (by kernel_rfl)
  rw [laws_eqQuota.eq] at h
  exact h
theorem laws_eqSession.sound : Sound Tryz.prog 30 laws_eqSession.con := by
  have h := fun_sound (Γ := laws_eqSession.cx) (cx_ok.same rfl rfl) (fun n C h => con_look (con_cons laws_eqSubscriberRecord.sound (con_cons laws_eqSubscription.sound (con_cons laws_eqAuthVector.sound (con_cons laws_eqPagingState.sound (con_cons laws_eqPayloadS.sound (con_cons laws_eqSendWindow.sound (con_cons laws_eqQuota.sound con_nil))))))) h) Tryz.checked.mixed Tryz.func30 (by kernel_rfl) (ps := laws_eqSession.ps) (rs := laws_eqSession.rs) (by kernel_rfl) (by kernel_rfl) (by kernel_rfl)
  rw [laws_eqSession.eq] at h
  exact h
theorem laws_eqReservation.sound : Sound Tryz.prog 196 laws_eqReservation.con := by
  have h := fun_sound (Γ := laws_eqReservation.cx) (cx_ok.same rfl rfl) (fun n C h => con_look (con_nil) h) Tryz.checked.mixed Tryz.func196 (by kernel_rfl) (ps := laws_eqReservation.ps) (rs := laws_eqReservation.rs) (by kernel_rfl) (by kernel_rfl) (by kernel_rfl)
  rw [laws_eqReservation.eq] at h
  exact h
theorem laws_eqReservationS.sound : Sound Tryz.prog 110 laws_eqReservationS.con := by
  have h := fun_sound (Γ := laws_eqReservationS.cx) (cx_ok.same rfl rfl) (fun n C h => con_look (con_cons laws_eqReservation.sound con_nil) h) Tryz.checked.mixed Tryz.func110 (by kernel_rfl) (ps := laws_eqReservationS.ps) (rs := laws_eqReservationS.rs) (by kernel_rfl) (by kernel_rfl) (by kernel_rfl)
  rw [laws_eqReservationS.eq] at h
  exact h
theorem laws_eqAccount.sound : Sound Tryz.prog 31 laws_eqAccount.con := by
  have h := fun_sound (Γ := laws_eqAccount.cx) (cx_ok.same rfl rfl) (fun n C h => con_look (con_cons laws_eqReservationS.sound con_nil) h) Tryz.checked.mixed Tryz.func31 (by kernel_rfl) (ps := laws_eqAccount.ps) (rs := laws_eqAccount.rs) (by kernel_rfl) (by kernel_rfl) (by kernel_rfl)
  rw [laws_eqAccount.eq] at h
  exact h
theorem laws_markIntS.sound : Sound Tryz.prog 197 laws_markIntS.con := by
  have h := fun_sound (Γ := laws_markIntS.cx) (cx_ok.same rfl rfl) (fun n C h => con_look (con_nil) h) Tryz.checked.mixed Tryz.func197 (by kernel_rfl) (ps := laws_markIntS.ps) (rs := laws_markIntS.rs) (by kernel_rfl) (by kernel_rfl) (by kernel_rfl)
  rw [laws_markIntS.eq] at h
  exact h
theorem laws_markSubscription.sound : Sound Tryz.prog 111 laws_markSubscription.con := by
  have h := fun_sound (Γ := laws_markSubscription.cx) (cx_ok.same rfl rfl) (fun n C h => con_look (con_cons laws_markIntS.sound con_nil) h) Tryz.checked.mixed Tryz.func111 (by kernel_rfl) (ps := laws_markSubscription.ps) (rs := laws_markSubscription.rs) (by kernel_rfl) (by kernel_rfl) (by kernel_rfl)
  rw [laws_markSubscription.eq] at h
  exact h
theorem laws_markByteS.sound : Sound Tryz.prog 172 laws_markByteS.con := by
  have h := fun_sound (Γ := laws_markByteS.cx) (cx_ok.same rfl rfl) (fun n C h => con_look (con_nil) h) Tryz.checked.mixed Tryz.func172 (by kernel_rfl) (ps := laws_markByteS.ps) (rs := laws_markByteS.rs) (by kernel_rfl) (by kernel_rfl) (by kernel_rfl)
  rw [laws_markByteS.eq] at h
  exact h
theorem laws_markPayloadS.sound : Sound Tryz.prog 112 laws_markPayloadS.con := by
  have h := fun_sound (Γ := laws_markPayloadS.cx) (cx_ok.same rfl rfl) (fun n C h => con_look (con_cons laws_markByteS.sound con_nil) h) Tryz.checked.mixed Tryz.func112 (by kernel_rfl) (ps := laws_markPayloadS.ps) (rs := laws_markPayloadS.rs) (by kernel_rfl) (by kernel_rfl) (by kernel_rfl)
  rw [laws_markPayloadS.eq] at h
  exact h
theorem laws_markNumberedPacketS.sound : Sound Tryz.prog 155 laws_markNumberedPacketS.con := by
  have h := fun_sound (Γ := laws_markNumberedPacketS.cx) (cx_ok.same rfl rfl) (fun n C h => con_look (con_cons laws_markByteS.sound con_nil) h) Tryz.checked.mixed Tryz.func155 (by kernel_rfl) (ps := laws_markNumberedPacketS.ps) (rs := laws_markNumberedPacketS.rs) (by kernel_rfl) (by kernel_rfl) (by kernel_rfl)
  rw [laws_markNumberedPacketS.eq] at h
  exact h
theorem laws_markSendWindow.sound : Sound Tryz.prog 113 laws_markSendWindow.con := by
  have h := fun_sound (Γ := laws_markSendWindow.cx) (cx_ok.same rfl rfl) (fun n C h => con_look (con_cons laws_markNumberedPacketS.sound con_nil) h) Tryz.checked.mixed Tryz.func113 (by kernel_rfl) (ps := laws_markSendWindow.ps) (rs := laws_markSendWindow.rs) (by kernel_rfl) (by kernel_rfl) (by kernel_rfl)
  rw [laws_markSendWindow.eq] at h
  exact h
theorem laws_markSession.sound : Sound Tryz.prog 32 laws_markSession.con := by
  have h := fun_sound (Γ := laws_markSession.cx) (cx_ok.same rfl rfl) (fun n C h => con_look (con_cons laws_markSubscription.sound (con_cons laws_markPayloadS.sound (con_cons laws_markSendWindow.sound con_nil))) h) Tryz.checked.mixed Tryz.func32 (by kernel_rfl) (ps := laws_markSession.ps) (rs := laws_markSession.rs) (by kernel_rfl) (by kernel_rfl) (by kernel_rfl)
  rw [laws_markSession.eq] at h
  exact h
theorem laws_markReservationS.sound : Sound Tryz.prog 114 laws_markReservationS.con := by
  have h := fun_sound (Γ := laws_markReservationS.cx) (cx_ok.same rfl rfl) (fun n C h => con_look (con_nil) h) Tryz.checked.mixed Tryz.func114 (by kernel_rfl) (ps := laws_markReservationS.ps) (rs := laws_markReservationS.rs) (by kernel_rfl) (by kernel_rfl) (by kernel_rfl)
  rw [laws_markReservationS.eq] at h
  exact h
theorem laws_markAccount.sound : Sound Tryz.prog 33 laws_markAccount.con := by
  have h := fun_sound (Γ := laws_markAccount.cx) (cx_ok.same rfl rfl) (fun n C h => con_look (con_cons laws_markReservationS.sound con_nil) h) Tryz.checked.mixed Tryz.func33 (by kernel_rfl) (ps := laws_markAccount.ps) (rs := laws_markAccount.rs) (by kernel_rfl) (by kernel_rfl) (by kernel_rfl)
  rw [laws_markAccount.eq] at h
  exact h
theorem laws_heldIntS.sound : Sound Tryz.prog 198 laws_heldIntS.con := by
  have h := fun_sound (Γ := laws_heldIntS.cx) (cx_ok.same rfl rfl) (fun n C h => con_look (con_nil) h) Tryz.checked.mixed Tryz.func198 (by kernel_rfl) (ps := laws_heldIntS.ps) (rs := laws_heldIntS.rs) (by kernel_rfl) (by kernel_rfl) (by kernel_rfl)
  rw [laws_heldIntS.eq] at h
  exact h
theorem laws_heldSubscription.sound : Sound Tryz.prog 115 laws_heldSubscription.con := by
  have h := fun_sound (Γ := laws_heldSubscription.cx) (cx_ok.same rfl rfl) (fun n C h => con_look (con_cons laws_heldIntS.sound con_nil) h) Tryz.checked.mixed Tryz.func115 (by kernel_rfl) (ps := laws_heldSubscription.ps) (rs := laws_heldSubscription.rs) (by kernel_rfl) (by kernel_rfl) (by kernel_rfl)
  rw [laws_heldSubscription.eq] at h
  exact h
theorem laws_heldByteS.sound : Sound Tryz.prog 199 laws_heldByteS.con := by
  have h := fun_sound (Γ := laws_heldByteS.cx) (cx_ok.same rfl rfl) (fun n C h => con_look (con_nil) h) Tryz.checked.mixed Tryz.func199 (by kernel_rfl) (ps := laws_heldByteS.ps) (rs := laws_heldByteS.rs) (by kernel_rfl) (by kernel_rfl) (by kernel_rfl)
  rw [laws_heldByteS.eq] at h
  exact h
theorem laws_heldPayloadS.sound : Sound Tryz.prog 116 laws_heldPayloadS.con := by
  have h := fun_sound (Γ := laws_heldPayloadS.cx) (cx_ok.same rfl rfl) (fun n C h => con_look (con_cons laws_heldByteS.sound con_nil) h) Tryz.checked.mixed Tryz.func116 (by kernel_rfl) (ps := laws_heldPayloadS.ps) (rs := laws_heldPayloadS.rs) (by kernel_rfl) (by kernel_rfl) (by kernel_rfl)
  rw [laws_heldPayloadS.eq] at h
  exact h
theorem laws_heldNumberedPacketS.sound : Sound Tryz.prog 200 laws_heldNumberedPacketS.con := by
  have h := fun_sound (Γ := laws_heldNumberedPacketS.cx) (cx_ok.same rfl rfl) (fun n C h => con_look (con_cons laws_heldByteS.sound con_nil) h) Tryz.checked.mixed Tryz.func200 (by kernel_rfl) (ps := laws_heldNumberedPacketS.ps) (rs := laws_heldNumberedPacketS.rs) (by kernel_rfl) (by kernel_rfl) (by kernel_rfl)
  rw [laws_heldNumberedPacketS.eq] at h
  exact h
theorem laws_heldSendWindow.sound : Sound Tryz.prog 117 laws_heldSendWindow.con := by
  have h := fun_sound (Γ := laws_heldSendWindow.cx) (cx_ok.same rfl rfl) (fun n C h => con_look (con_cons laws_heldNumberedPacketS.sound con_nil) h) Tryz.checked.mixed Tryz.func117 (by kernel_rfl) (ps := laws_heldSendWindow.ps) (rs := laws_heldSendWindow.rs) (by kernel_rfl) (by kernel_rfl) (by kernel_rfl)
  rw [laws_heldSendWindow.eq] at h
  exact h
theorem laws_heldSession.sound : Sound Tryz.prog 34 laws_heldSession.con := by
  have h := fun_sound (Γ := laws_heldSession.cx) (cx_ok.same rfl rfl) (fun n C h => con_look (con_cons laws_heldSubscription.sound (con_cons laws_heldPayloadS.sound (con_cons laws_heldSendWindow.sound con_nil))) h) Tryz.checked.mixed Tryz.func34 (by kernel_rfl) (ps := laws_heldSession.ps) (rs := laws_heldSession.rs) (by kernel_rfl) (by kernel_rfl) (by kernel_rfl)
  rw [laws_heldSession.eq] at h
  exact h
theorem laws_heldReservationS.sound : Sound Tryz.prog 118 laws_heldReservationS.con := by
  have h := fun_sound (Γ := laws_heldReservationS.cx) (cx_ok.same rfl rfl) (fun n C h => con_look (con_nil) h) Tryz.checked.mixed Tryz.func118 (by kernel_rfl) (ps := laws_heldReservationS.ps) (rs := laws_heldReservationS.rs) (by kernel_rfl) (by kernel_rfl) (by kernel_rfl)
  rw [laws_heldReservationS.eq] at h
  exact h
theorem laws_heldAccount.sound : Sound Tryz.prog 35 laws_heldAccount.con := by
  have h := fun_sound (Γ := laws_heldAccount.cx) (cx_ok.same rfl rfl) (fun n C h => con_look (con_cons laws_heldReservationS.sound con_nil) h) Tryz.checked.mixed Tryz.func35 (by kernel_rfl) (ps := laws_heldAccount.ps) (rs := laws_heldAccount.rs) (by kernel_rfl) (by kernel_rfl) (by kernel_rfl)
  rw [laws_heldAccount.eq] at h
  exact h
theorem laws_FnExactEnsureQuota.sound : Sound Tryz.prog 5 laws_FnExactEnsureQuota.con := by
  have h := fun_sound (Γ := laws_FnExactEnsureQuota.cx) (cx_ok.same rfl rfl) (fun n C h => con_look (con_cons laws_szSession.sound (con_cons laws_szAccount.sound (con_cons spec_EnsureQuota.sound (con_cons laws_toSession.sound (con_cons laws_toAccount.sound (con_cons impl_EnsureQuota.sound (con_cons laws_eqSession.sound (con_cons laws_eqAccount.sound (con_cons laws_markSession.sound (con_cons laws_markAccount.sound (con_cons laws_heldSession.sound (con_cons laws_heldAccount.sound con_nil)))))))))))) h) Tryz.checked.mixed Tryz.func5 (by kernel_rfl) (ps := laws_FnExactEnsureQuota.ps) (rs := laws_FnExactEnsureQuota.rs) (by kernel_rfl) (by kernel_rfl) (by kernel_rfl)
  rw [laws_FnExactEnsureQuota.eq] at h
  exact h
end Go.Proofs.YtbgkgnhlfmidhaaGreat.XS
