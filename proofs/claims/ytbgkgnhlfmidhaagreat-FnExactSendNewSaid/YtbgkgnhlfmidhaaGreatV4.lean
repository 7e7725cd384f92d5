/- What the law rests on: part 5 of 6. -/
import Derived.Test.YtbgkgnhlfmidhaaGreatRows
import Derived.Test.YtbgkgnhlfmidhaaGreatV3
set_option linter.unusedVariables false
set_option linter.unusedSimpArgs false
set_option linter.unusedSectionVars false
/- Plain laws: drawn subscribers, plans, windows, sessions. -/
set_option linter.unusedVariables false
set_option linter.unusedSimpArgs false
set_option linter.unusedSectionVars false
set_option maxRecDepth 4000
namespace Go.Proofs.XF
open Go Go.Proofs.XTv

theorem ok_wrap (x : Int) : Ok (.int .i64) (IntKind.i64.wrap x) := by
  show -9223372036854775808 ≤ IntKind.i64.wrap x ∧ IntKind.i64.wrap x ≤ 9223372036854775807
  simp [IntKind.wrap, IntKind.signed, IntKind.bits]
  omega
theorem ok_add (x y : Int) : Ok (.int .i64) (iadd .i64 x y) := ok_wrap _
theorem ok_sub (x y : Int) : Ok (.int .i64) (isub .i64 x y) := ok_wrap _
theorem ok_mul (x y : Int) : Ok (.int .i64) (imul .i64 x y) := ok_wrap _
theorem ok_nil (e : Ty) : Ok (.sl e) ([] : List e.den) := ⟨by show (0 : Nat) ≤ _; omega, fun x hx => by cases hx⟩
theorem ok_app {e : Ty} {l m : List e.den} (h1 : Ok (.sl e) l) (h2 : Ok (.sl e) m) (hl : (l ++ m).length ≤ 4294967296) : Ok (.sl e) (l ++ m) :=
  ⟨hl, fun x hx => (List.mem_append.1 hx).elim (h1.2 x) (h2.2 x)⟩
theorem ok_one {e : Ty} {x : e.den} (h : Ok e x) : Ok (.sl e) [x] := ⟨by show (1 : Nat) ≤ _; omega, fun y hy => by simp only [List.mem_singleton] at hy; subst hy; exact h⟩
theorem ok_mem {l : List Int} {v : Int} (h : v ∈ l) (hl : ∀ x ∈ l, -1000000000000 ≤ x ∧ x ≤ 1000000000000) : Ok (.int .i64) v := by
  have := hl v h
  show -9223372036854775808 ≤ v ∧ v ≤ 9223372036854775807
  omega
theorem ok_bytes {l : List Int} (hl : l.length ≤ 1000000) (h : ∀ b ∈ l, 0 ≤ b ∧ b ≤ 255) : Ok (.sl (.int .u8)) l := ⟨by show l.length ≤ _; omega, h⟩

/-- A window that can be used. -/
def WOk (w : DSendWindow) : Prop := Ok TSendWindow w ∧ w.2.length ≤ 8 ∧ 1 ≤ w.1 ∧ w.1 ≤ 100000
/-- A session whose streams are in bounds. -/
def SOk (s : DSession) : Prop := Ok TSession s ∧ s.2.2.2.2.2.2.2.2.2.2.2.1.length ≤ 24 ∧ WOk s.2.2.2.2.2.2.2.2.2.2.2.2.1

section
variable {k : Nat} (hk : FU ≤ k)
theorem s_validSender (hk : FU ≤ k) {w : DSendWindow} (hl : w.2.length ≤ 4294967296) : ∃ b, spec_IsValidSender.f k w = some b ∧ (b = true → 1 ≤ w.1 ∧ w.1 ≤ 100000 ∧ w.2.length ≤ 8) := by
  have hloop := loop_inv (step := spec_IsValidSender.s0) (fun d => 0 ≤ d.1 ∧ d.1 ≤ (w.2.length : Int) ∧ d.2 = w) (fun d => ((w.2.length : Int) - d.1).toNat) (fun e => match e with | .inl x => x = w | .inr b => b = false)
    (fun d ⟨h0, h1, h2⟩ => by
      obtain ⟨i, x⟩ := d
      simp only at h0 h1 h2
      subst h2
      unfold spec_IsValidSender.s0
      simp only
      by_cases hi : i < llen x.2
      · have hi' : i < (x.2.length : Int) := hi
        have hx : idxOk i (llen x.2) = true := decide_eq_true ⟨h0, hi⟩
        rw [ilt_t hi, hx]
        simp only [cond_true]
        have hs : iadd .i64 i 1 = i + 1 := iadd_eq (by omega) (by omega)
        cases hc : (bif ine (lget TNumberedPacket x.2 i).1 (iadd .i64 (isub .i64 x.1 (llen x.2)) i) then true else ilt 60 (llen (lget TNumberedPacket x.2 i).2))
        · left
          simp only [cond_false]
          exact ⟨_, rfl, ⟨by show 0 ≤ iadd .i64 i 1; omega, by show iadd .i64 i 1 ≤ _; omega, rfl⟩, by show ((x.2.length : Int) - iadd .i64 i 1).toNat < _; omega⟩
        · right
          exact ⟨_, rfl, rfl⟩
      · right
        rw [ilt_f hi]
        exact ⟨_, rfl, rfl⟩) k (0, w) ⟨by simp, by simp, rfl⟩ (by unfold FU at hk; simp; omega)
  obtain ⟨e, he, hq⟩ := hloop
  unfold spec_IsValidSender.f
  rw [he, ob_some]
  cases e with
  | inr b =>
    have hq : b = false := hq
    subst hq
    exact ⟨false, rfl, fun h => by cases h⟩
  | inl x =>
    have hq : x = w := hq
    subst hq
    simp only [sel_l, s_in, ob_some]
    refine ⟨_, rfl, fun h => ?_⟩
    unfold inB at h
    by_cases h1 : (1 : Int) ≤ x.1
    · rw [ile_t h1, cond_true] at h
      by_cases h2 : x.1 ≤ 100000
      · rw [ile_t h2] at h
        by_cases h3 : llen x.2 ≤ 8
        · have h3 : (x.2.length : Int) ≤ 8 := h3
          exact ⟨h1, h2, by omega⟩
        · rw [ile_f h3] at h; simp at h
      · rw [ile_f h2] at h; simp at h
    · rw [ile_f h1] at h; simp at h
theorem s_send (hk : FU ≤ k) {w : DSendWindow} (h : WOk w) {data : List Int} (hd : Ok (.sl (.int .u8)) data) : ∃ w' p b, spec_SendPacket.f k (w, data) = some (w', p, b) ∧ WOk w' := by
  obtain ⟨h1, h2, h3, h4⟩ := h
  unfold spec_SendPacket.f
  simp only [s_sender hk h1, ob_some, app0 (ok_len hd) (show 1 ≤ 16384 by omega), cond_true]
  rw [app1 (show w.2.length ≤ 4294967296 by omega) (show 32 ≤ 16384 by omega)]
  simp only [cond_true]
  obtain ⟨b, e, hb⟩ := s_validSender hk (w := (iadd .i64 w.1 1, lcat w.2 [(w.1, lcat [] data)])) (by show (w.2 ++ [_]).length ≤ _; simp; omega)
  rw [e]
  simp only [ob_some]
  cases b
  · exact ⟨w, _, _, rfl, h1, h2, h3, h4⟩
  · obtain ⟨k1, k2, k3⟩ := hb rfl
    refine ⟨_, _, _, rfl, ⟨ok_add _ _, ok_app h1.2 (ok_one ⟨h1.1, hd⟩) (by simp; omega)⟩, k3, k1, k2⟩
end
end Go.Proofs.XF
/- Plain laws: drawn sessions, signals. -/
set_option linter.unusedVariables false
set_option linter.unusedSimpArgs false
set_option linter.unusedSectionVars false
set_option maxRecDepth 4000
namespace Go.Proofs.XF
open Go Go.Proofs.XTv

def maskF (key r : Int) : Int := modF (khash key [1, r]) 1000000
def vecF (key r seq : Int) : DAuthVector :=
  bif inB seq 0 999999 then (r, modF (iadd .i64 seq (maskF key r)) 1000000, khash key [2, r, seq], khash key [3, r], if 1 ≤ khash key [4, r, seq] then khash key [4, r, seq] else 1) else (0, 0, 0, 0, 0)
def recOk (r : DUSIM) : Bool := inB r.1.1 0 3 && inB r.1.2 0 99 && inB r.2.1 1 2147483646 && inB r.2.2 0 999999
theorem ok_khash (key : Int) (l : List Int) : Ok (.int .i64) (khash key l) := by
  have := khash_bd key l
  exact okn (by omega)
theorem ok_mod (x : Int) : Ok (.int .i64) (modF x 1000000) := by
  have := modF_bd (x := x) (m := 1000000) (by omega) (by omega)
  exact okn (by omega)
theorem ok_vec {key r seq : Int} (h : Ok (.int .i64) r) : Ok TAuthVector (vecF key r seq) := by
  unfold vecF
  cases inB seq 0 999999
  · exact ⟨okn (n := 0) (by omega), okn (n := 0) (by omega), okn (n := 0) (by omega), okn (n := 0) (by omega), okn (n := 0) (by omega)⟩
  · refine ⟨h, ok_mod _, ok_khash _ _, ok_khash _ _, ?_⟩
    show Ok (.int .i64) (if 1 ≤ khash key [4, r, seq] then khash key [4, r, seq] else 1)
    split
    · exact ok_khash _ _
    · exact okn (by omega)
section
variable {k : Nat} (hk : FU ≤ k)
theorem s_recOk (hk : FU ≤ k) (r : DUSIM) : spec_IsValidSubscriberRecord.f k r = some (recOk r) := by
  unfold spec_IsValidSubscriberRecord.f spec_IsValidKey.f spec_IsValidSubscriberID.f recOk
  simp only [s_in, ob_some, ob_pick]
  generalize inB r.1.1 0 3 = a
  generalize inB r.1.2 0 99 = b
  generalize inB r.2.1 1 2147483646 = c
  generalize inB r.2.2 0 999999 = d
  revert a b c d
  decide
def nextF (r : DUSIM) (q : Int) : DUSIM × DAuthVector := bif (dnot (recOk r) || ieq r.2.2 999999) then (r, 0, 0, 0, 0, 0) else ((r.1, r.2.1, iadd .i64 r.2.2 1), vecF r.2.1 q (iadd .i64 r.2.2 1))
theorem ok_next {r : DUSIM} {q : Int} (h : Ok TUSIM r) (hq : Ok (.int .i64) q) : Ok TUSIM (nextF r q).1 ∧ Ok TAuthVector (nextF r q).2 := by
  unfold nextF
  cases (dnot (recOk r) || ieq r.2.2 999999)
  · exact ⟨⟨h.1, h.2.1, ok_add _ _⟩, ok_vec hq⟩
  · exact ⟨h, okn (n := 0) (by omega), okn (n := 0) (by omega), okn (n := 0) (by omega), okn (n := 0) (by omega), okn (n := 0) (by omega)⟩
end
end Go.Proofs.XF
/- Plain laws: drawn sessions, whole. -/
set_option linter.unusedVariables false
set_option linter.unusedSimpArgs false
set_option linter.unusedSectionVars false
set_option maxRecDepth 4000
namespace Go.Proofs.XF
open Go Go.Proofs.XTv

/-- A session out of the parts that a loop carries. -/
def unp (P : DUSIM × Int × Int × Int × Int × DAuthVector × Int × Int × Int × Int × Int × Int × DQuota × DAuthVector) (roam : List Int) (sub : List (List Int)) (una : List DNumberedPacket) : DSession :=
  (P.1, (P.2.1, P.2.2.1, P.2.2.2.1, roam), P.2.2.2.2.1, P.2.2.2.2.2.1, P.2.2.2.2.2.2.1, P.2.2.2.2.2.2.2.1, P.2.2.2.2.2.2.2.2.1, P.2.2.2.2.2.2.2.2.2.1, P.2.2.2.2.2.2.2.2.2.2.1, P.2.2.2.2.2.2.2.2.2.2.2.1,
    P.2.2.2.2.2.2.2.2.2.2.2.2.1, sub, (P.2.2.2.2.2.2.2.2.2.2.2.2.2.1, una), P.2.2.2.2.2.2.2.2.2.2.2.2.2.2)
theorem lget_ok {e : Ty} {l : List e.den} {i : Int} (h : Ok (.sl e) l) (hi : idxOk i (llen l) = true) : Ok e (lget e l i) := by
  have hi := of_decide_eq_true hi
  obtain ⟨j, rfl⟩ := Int.eq_ofNat_of_zero_le hi.1
  have hj : j < l.length := by have h2 : (j : Int) < (l.length : Int) := hi.2; omega
  show Ok e (lget e l (j : Int))
  rw [lget_nat l hj]
  exact ok_get h hj
section
variable {k : Nat} (hk : FU ≤ k)
theorem s_quotaOk (q : DQuota) : spec_IsValidQuota.f k q = some (ile 0 q.1 && inB q.2.1 0 100000 && inB q.2.2 0 q.2.1) := by
  unfold spec_IsValidQuota.f
  simp only [s_in, ob_some, ob_pick]
  generalize ile 0 q.1 = a
  generalize inB q.2.1 0 100000 = b
  generalize inB q.2.2 0 q.2.1 = c
  revert a b c
  decide
def remF (q : DQuota) : Int := bif (ile 0 q.1 && inB q.2.1 0 100000 && inB q.2.2 0 q.2.1) then isub .i64 q.2.1 q.2.2 else 0
theorem s_remaining (q : DQuota) : spec_RemainingQuota.f k q = some (remF q) := by
  unfold spec_RemainingQuota.f remF
  rw [s_quotaOk, ob_some]
  cases (ile 0 q.1 && inB q.2.1 0 100000 && inB q.2.2 0 q.2.1) <;> rfl
end
end Go.Proofs.XF
/- Plain laws: what is the same as itself; submissions. -/
set_option linter.unusedVariables false
set_option linter.unusedSimpArgs false
set_option linter.unusedSectionVars false
set_option maxRecDepth 4000
namespace Go.Proofs.XF
open Go Go.Proofs.XTv
section
variable {k : Nat} (hk : FU ≤ k)
def subF (s : DSession) (l : List Int) : DSession :=
  (s.1, s.2.1, s.2.2.1, s.2.2.2.1, s.2.2.2.2.1, s.2.2.2.2.2.1, s.2.2.2.2.2.2.1, s.2.2.2.2.2.2.2.1, s.2.2.2.2.2.2.2.2.1, s.2.2.2.2.2.2.2.2.2.1, s.2.2.2.2.2.2.2.2.2.2.1, s.2.2.2.2.2.2.2.2.2.2.2.1 ++ [l], s.2.2.2.2.2.2.2.2.2.2.2.2)
def subC (s : DSession) (l : List Int) : Bool := bif ile 24 (llen s.2.2.2.2.2.2.2.2.2.2.2.1) then true else ilt 60 (llen l)
theorem subC_len {s : DSession} {l : List Int} (h : subC s l = false) : s.2.2.2.2.2.2.2.2.2.2.2.1.length < 24 ∧ l.length ≤ 60 := by
  unfold subC at h
  by_cases h1 : (24 : Int) ≤ llen s.2.2.2.2.2.2.2.2.2.2.2.1
  · rw [ile_t h1] at h; cases h
  · rw [ile_f h1, cond_false] at h
    by_cases h2 : (60 : Int) < llen l
    · rw [ilt_t h2] at h; cases h
    · have h1 : ¬ (24 : Int) ≤ (s.2.2.2.2.2.2.2.2.2.2.2.1.length : Int) := h1
      have h2 : ¬ (60 : Int) < (l.length : Int) := h2
      omega
end
end Go.Proofs.XF
/- Plain laws: path updates, responses. -/
set_option linter.unusedVariables false
set_option linter.unusedSimpArgs false
set_option linter.unusedSectionVars false
set_option maxRecDepth 4000
namespace Go.Proofs.XF
open Go Go.Proofs.XTv
section
variable {k : Nat} (hk : FU ≤ k)
def signedF (s : DSession) (kd : Int) : DSignal :=
  (kd, s.2.2.2.2.2.2.2.2.1, s.2.2.2.2.2.1, s.2.2.2.2.2.2.2.1, 0, (0, 0, 0, 0, 0), macF s.2.2.2.2.2.2.1 (kd, s.2.2.2.2.2.2.2.2.1, s.2.2.2.2.2.1, s.2.2.2.2.2.2.2.1, 0, (0, 0, 0, 0, 0), 0))
def pathS (s : DSession) (m : DSignal) : DSession :=
  (s.1, s.2.1, s.2.2.1, s.2.2.2.1, s.2.2.2.2.1, s.2.2.2.2.2.1, s.2.2.2.2.2.2.1, m.2.2.2.1, m.2.1, 0, (0, 0, 0), s.2.2.2.2.2.2.2.2.2.2.2.1, s.2.2.2.2.2.2.2.2.2.2.2.2.1, 0, s.2.2.2.2.2.2.2.2.2.2.2.2.2.2)
def pathC (s : DSession) (m : DSignal) : Bool :=
  ieq s.2.2.1 1 && ieq m.2.2.1 s.2.2.2.2.2.1 && ieq m.2.2.2.2.2.2 (macF s.2.2.2.2.2.2.1 m) && dnot (ilt m.2.2.2.1 s.2.2.2.2.2.2.2.1) && dnot (ieq m.2.2.2.1 s.2.2.2.2.2.2.2.1 && ine m.2.1 s.2.2.2.2.2.2.2.2.1)
theorem ok_path {s : DSession} {m : DSignal} (h : Ok TSession s) (hm : Ok TSignal m) : Ok TSession (pathS s m) := by
  have z : Ok (.int .i64) (0 : Int) := okn (by omega)
  exact ⟨h.1, h.2.1, h.2.2.1, h.2.2.2.1, h.2.2.2.2.1, h.2.2.2.2.2.1, h.2.2.2.2.2.2.1, hm.2.2.2.1, hm.2.1, z, ⟨z, z, z⟩, h.2.2.2.2.2.2.2.2.2.2.2.1, h.2.2.2.2.2.2.2.2.2.2.2.2.1, z, h.2.2.2.2.2.2.2.2.2.2.2.2.2.2⟩
theorem ilt_trich (x y : Int) : dnot (ilt x y) = (bif ilt y x then true else ieq x y) := by
  by_cases h : x < y
  · rw [ilt_t h, ilt_f (by omega), ieq_f (by omega)]; rfl
  · rw [ilt_f h]
    by_cases h2 : y < x
    · rw [ilt_t h2]; rfl
    · rw [ilt_f h2, ieq_t (by omega)]; rfl
def respC (s : DSession) (m : DSignal) : Bool :=
  bif bif bif ile s.2.2.2.2.1 0 then true else ine m.2.2.1 s.2.2.2.2.1 then true else ine m.2.2.2.2.1 s.2.2.2.1.2.2.2.1 then true else ile 999999 s.2.2.2.2.2.2.2.1
def respS (s : DSession) (m : DSignal) : DSession :=
  (s.1, s.2.1, 1, (0, 0, 0, 0, 0), 0, s.2.2.2.2.1, s.2.2.2.1.2.2.2.2, iadd .i64 s.2.2.2.2.2.2.2.1 1, m.2.1, 0, (0, 0, 0), s.2.2.2.2.2.2.2.2.2.2.2)
theorem ok_resp {s : DSession} {m : DSignal} (h : Ok TSession s) (hm : Ok TSignal m) : Ok TSession (respS s m) := by
  have z : Ok (.int .i64) (0 : Int) := okn (by omega)
  exact ⟨h.1, h.2.1, okn (n := 1) (by omega), ⟨z, z, z, z, z⟩, z, h.2.2.2.2.1, h.2.2.2.1.2.2.2.2, ok_add _ _, hm.2.1, z, ⟨z, z, z⟩, h.2.2.2.2.2.2.2.2.2.2.2⟩
end
end Go.Proofs.XF
/- Plain laws: devices: power on, tick, move; sessions: submit, failover. -/
set_option linter.unusedVariables false
set_option linter.unusedSimpArgs false
set_option linter.unusedSectionVars false
set_option maxRecDepth 4000
namespace Go.Proofs.XF
open Go Go.Proofs.XTv
section
variable {k : Nat} (hk : FU ≤ k)
theorem cnt_dres (d : DDevice) (l : List DSignal) : cnt TDeviceResult (d, l) = cnt TDevice d + l.length := by
  show cnt TDevice d + (l.length + (l.map fun _ => 0).sum) = _
  rw [sum_zero]; omega
theorem ok_dres0 {d : DDevice} (h : Ok TDevice d) : Ok TDeviceResult (d, []) := ⟨h, ok_nil _⟩
theorem ok_dres1 {d : DDevice} {s : DSignal} (h : Ok TDevice d) (hs : Ok TSignal s) : Ok TDeviceResult (d, [s]) := ⟨h, ok_one hs⟩
def attG (n : Int) : DSignal := (1, n, 0, 0, 0, (0, 0, 0, 0, 0), 0)
theorem ok_att {n : Int} (h : Ok (.int .i64) n) : Ok TSignal (attG n) :=
  have z : Ok (.int .i64) (0 : Int) := okn (by omega)
  ⟨okn (n := 1) (by omega), h, z, z, z, ⟨z, z, z, z, z⟩, z⟩
def pathG (x : DDevice) : DSignal := (5, x.2.2.1, x.2.2.2.1, x.2.2.2.2.2.1, 0, (0, 0, 0, 0, 0), macF x.2.2.2.2.1 (5, x.2.2.1, x.2.2.2.1, x.2.2.2.2.2.1, 0, (0, 0, 0, 0, 0), 0))
theorem ok_pathG {x : DDevice} (h : Ok TDevice x) : Ok TSignal (pathG x) :=
  have z : Ok (.int .i64) (0 : Int) := okn (by omega)
  ⟨okn (n := 5) (by omega), h.2.2.1, h.2.2.2.1, h.2.2.2.2.2.1, z, ⟨z, z, z, z, z⟩, ok_khash _ _⟩
theorem ok_wait {x : DDevice} (h : Ok TDevice x) {n : Int} (hn : Ok (.int .i64) n) : Ok TDevice (x.1, x.2.1, x.2.2.1, x.2.2.2.1, x.2.2.2.2.1, x.2.2.2.2.2.1, x.2.2.2.2.2.2.1, n, x.2.2.2.2.2.2.2.2) :=
  ⟨h.1, h.2.1, h.2.2.1, h.2.2.2.1, h.2.2.2.2.1, h.2.2.2.2.2.1, h.2.2.2.2.2.2.1, hn, h.2.2.2.2.2.2.2.2⟩
theorem ok_three : Ok (.int .i64) (3 : Int) := okn (by omega)
theorem move_cond (a b : Int) : (bif bif ine a 2 then true else ile 999999 b then true else false) = dnot (bif ieq a 2 then ilt b 999999 else false) := by
  by_cases h1 : a = 2
  · subst h1
    by_cases h2 : b < 999999
    · have h3 : ¬ 999999 ≤ b := by omega
      simp [ine, ieq, ile, ilt, dnot, h2, h3]
    · have h3 : 999999 ≤ b := by omega
      simp [ine, ieq, ile, ilt, dnot, h2, h3]
  · have e1 : (a != 2) = true := by simp [h1]
    have e2 : (a == 2) = false := by simp [h1]
    simp [ine, ieq, ile, ilt, dnot, e1, e2]
theorem cnt_payl {s : DSession} (P : List (List Int)) : cnt TSession (s.1, s.2.1, s.2.2.1, s.2.2.2.1, s.2.2.2.2.1, s.2.2.2.2.2.1, s.2.2.2.2.2.2.1, s.2.2.2.2.2.2.2.1, s.2.2.2.2.2.2.2.2.1, s.2.2.2.2.2.2.2.2.2.1, s.2.2.2.2.2.2.2.2.2.2.1, P, s.2.2.2.2.2.2.2.2.2.2.2.2) = cnt TSession (s.1, s.2.1, s.2.2.1, s.2.2.2.1, s.2.2.2.2.1, s.2.2.2.2.2.1, s.2.2.2.2.2.2.1, s.2.2.2.2.2.2.2.1, s.2.2.2.2.2.2.2.2.1, s.2.2.2.2.2.2.2.2.2.1, s.2.2.2.2.2.2.2.2.2.2.1, [], s.2.2.2.2.2.2.2.2.2.2.2.2) + cnt (.sl (.sl (.int .u8))) P := by
  simp only [cnt, List.length_nil, List.map_nil, List.sum_nil]
  omega
end
theorem law_ln {α : Type} {xs : List α} {L : Int} {e : Option Bool} (h : (xs.length : Int) ≤ L → e = some true) : (bif ilt L (llen xs) then some true else e) = some true := by
  by_cases hc : (xs.length : Int) ≤ L
  · rw [ilt_f (by show ¬ L < (xs.length : Int); omega), cond_false]; exact h hc
  · rw [ilt_t (by show L < (xs.length : Int); omega), cond_true]
end Go.Proofs.XF
/- Plain laws: encryption, sealing, retransmission. -/
set_option linter.unusedVariables false
set_option linter.unusedSimpArgs false
set_option linter.unusedSectionVars false
set_option maxRecDepth 4000
namespace Go.Proofs.XF
open Go Go.Proofs.XTv
/-! ### Mixed lists: the first of one, the rest of the other -/
theorem mix_get {α : Type} (a b : List α) (h : a.length = b.length) {i : Nat} (hi : i < b.length) (hm : i < (a.take i ++ b.drop i).length) : (a.take i ++ b.drop i)[i] = b[i] := by
  rw [List.getElem_append_right (by simp; omega)]
  simp
  congr 1
  omega
theorem mix_set {α : Type} (a b : List α) (h : a.length = b.length) {i : Nat} (hi : i < a.length) : (a.take i ++ b.drop i).set i a[i] = a.take (i + 1) ++ b.drop (i + 1) := by
  refine List.ext_getElem (by simp; omega) fun n h1 h2 => ?_
  simp only [List.getElem_set, List.getElem_append, List.getElem_take, List.getElem_drop, List.length_take]
  simp at h1 h2
  by_cases h3 : i = n
  · subst h3
    rw [if_pos rfl, dif_pos (by omega)]
  · rw [if_neg h3]
    by_cases h4 : n < i
    · rw [dif_pos (by omega), dif_pos (by omega)]
    · rw [dif_neg (by omega), dif_neg (by omega)]
      congr 1
      omega
theorem mem_cnt {e : Ty} : ∀ {xs : List e.den} {x : e.den}, x ∈ xs → cnt e x ≤ (xs.map (cnt e)).sum
  | [], x, h => by cases h
  | y :: ys, x, h => by
    rw [List.map_cons, List.sum_cons]
    rcases List.mem_cons.1 h with rfl | h
    · omega
    · have := mem_cnt h; omega
theorem cnt_u8 (l : List Int) : cnt (.sl (.int .u8)) l = l.length := by
  show l.length + (l.map fun _ => 0).sum = _
  rw [sum_zero]; rfl
/-! ### Encryption -/
def encB (key : Int) (i : Nat) (b : Int) : Int := icast .u8 (irem .i64 (iadd .i64 (icast .i64 b) (irem .i64 (khash key [(i : Int)]) 256)) 256)
def encL (key : Int) (l : List Int) : List Int := l.mapIdx (encB key)
theorem encL_len (key : Int) (l : List Int) : (encL key l).length = l.length := by simp [encL]
theorem encL_get (key : Int) (l : List Int) {i : Nat} (h : i < (encL key l).length) (h2 : i < l.length) : (encL key l)[i] = encB key i l[i] := by simp [encL]
theorem u8_wrap (x : Int) : IntKind.u8.wrap x = x % 256 := rfl
theorem encB_i (key : Int) (i : Nat) {b : Int} (h0 : 0 ≤ b) (h1 : b ≤ 255) : iadd .u8 b (icast .u8 (irem .i64 (khash key [(i : Int)]) 256)) = encB key i b := by
  have hk := khash_bd key [(i : Int)]
  have e1 : irem .i64 (khash key [(i : Int)]) 256 = khash key [(i : Int)] % 256 := Int.tmod_eq_emod_of_nonneg hk.1
  have e3 : icast .i64 b = b := by
    have := iadd_eq (x := b) (y := 0) (by omega) (by omega)
    unfold iadd at this
    rw [Int.add_zero] at this; exact this
  unfold encB
  rw [e1, e3, iadd_eq (by omega) (by omega)]
  unfold icast iadd irem
  rw [u8_wrap, u8_wrap, u8_wrap, Int.tmod_eq_emod_of_nonneg (by omega)]
  omega
theorem encB_bd (key : Int) (i : Nat) (b : Int) : 0 ≤ encB key i b ∧ encB key i b ≤ 255 := by
  unfold encB icast
  rw [u8_wrap]
  omega
theorem ok_enc (key : Int) {l : List Int} (hl : l.length ≤ 4294967296) : Ok (.sl (.int .u8)) (encL key l) :=
  ⟨by rw [encL_len]; exact hl, fun x hx => by
    obtain ⟨i, hi, rfl⟩ := List.getElem_of_mem hx
    rw [encL_get key l hi (by rw [encL_len] at hi; exact hi)]
    exact encB_bd _ _ _⟩
def b2i (l : List Int) : List Int := (l.length : Int) :: l.map (icast .i64)
def sealK (key d n : Int) (l : List Int) : Int := khash key ([d, n] ++ b2i l)
def protF (key d n : Int) (l : List Int) : DSecuredMessage :=
  (d, n, encL (derive key (iadd .i64 (imul .i64 2 n) d)) l, sealK key d n (encL (derive key (iadd .i64 (imul .i64 2 n) d)) l))
def sealF (key a b : Int) (p : DNumberedPacket) : DRadioPacket := (a, b, protF (pathKey key [1, 3, b]) 1 p.1 p.2)
section
variable {k : Nat} (hk : FU ≤ k)
theorem i_encrypt (hk : FU ≤ k) {key : Int} {l : List Int} (h : Ok (.sl (.int .u8)) l) : impl_Encrypt.f k (key, l) = some (encL key l) := by
  have hl := ok_len h
  have := loop_up (step := impl_Encrypt.s0 k) (e := encL key l) l.length k (fun i => ((key, (l.length : Int), (i : Int)), (encL key l).take i ++ l.drop i)) (by unfold FU at hk; omega)
    (fun i hi => by
      have hle := encL_len key l
      have hm : i < ((encL key l).take i ++ l.drop i).length := by simp; omega
      have hb := h.2 _ (List.getElem_mem hi)
      simp only [impl_Encrypt.s0, ilt_nat, idx_len, decide_eq_true hi, decide_eq_true hm, cond_true, i_khash hk (show ([(i : Int)] : List Int).length ≤ 8589934592 by simp), ob_some, iadd_nat (show i < 9223372036854775807 by omega), lget_nat (e := .int .u8) _ hm, lset_nat]
      rw [mix_get _ _ hle hi hm, encB_i key i hb.1 hb.2, ← encL_get key l (by omega) hi, mix_set _ _ hle]
      rfl)
    (by
      simp only [impl_Encrypt.s0, ilt_nat, Nat.lt_irrefl, decide_false, cond_false]
      rw [List.drop_length, List.append_nil, ← encL_len key l, List.take_length])
  unfold impl_Encrypt.f
  simp only [i_copyBytes hk hl, ob_some]
  rw [llen_eq, show loopN (impl_Encrypt.s0 k) k ((key, (l.length : Int), 0), l) = some (encL key l) by simpa using this, ob_some]
theorem s_encrypt (hk : FU ≤ k) {key : Int} {l : List Int} (h : Ok (.sl (.int .u8)) l) : spec_Encrypt.f k (key, l) = some (encL key l) := by
  have hl := ok_len h
  have := loop_up (step := spec_Encrypt.s0 k) (e := encL key l) l.length k (fun i => ((key, l, (i : Int)), (encL key l).take i)) (by unfold FU at hk; omega)
    (fun i hi => by
      have hle := encL_len key l
      have hi2 : i < (encL key l).length := by omega
      have ha : ∀ v : Int, appOk ((encL key l).take i) [v] 1 = true := fun v => app_ok (by simp; omega)
      simp only [spec_Encrypt.s0, ilt_len, idx_len, decide_eq_true hi, cond_true, s_khash hk (show ([(i : Int)] : List Int).length ≤ 8589934000 by simp), ob_some, iadd_nat (show i < 9223372036854775807 by omega), lget_nat (e := .int .u8) _ hi, ha]
      rw [← take_snoc _ hi2, encL_get key l hi2 hi]
      rfl)
    (by
      simp only [spec_Encrypt.s0, ilt_len, Nat.lt_irrefl, decide_false, cond_false]
      rw [← encL_len key l, List.take_length])
  unfold spec_Encrypt.f
  rw [show loopN (spec_Encrypt.s0 k) k ((key, l, 0), []) = some (encL key l) by simpa using this, ob_some]
theorem i_b2i (hk : FU ≤ k) {l : List Int} (hl : l.length ≤ 4294967296) : impl_BytesToInts.f k l = some (b2i l) := by
  have := loop_up (step := impl_BytesToInts.s0) (e := b2i l) l.length k (fun i => ((l, (l.length : Int), (i : Int)), (l.length : Int) :: (l.take i).map (icast .i64))) (by unfold FU at hk; omega)
    (fun i hi => by
      have ha : ∀ v : Int, appOk ((l.length : Int) :: (l.take i).map (icast .i64)) [v] 8 = true := fun v => app_ok (by simp; omega)
      simp only [impl_BytesToInts.s0, ilt_nat, idx_len, decide_eq_true hi, cond_true, iadd_nat (show i < 9223372036854775807 by omega), lget_nat (e := .int .u8) _ hi, ha]
      rw [← take_snoc l hi, List.map_append]; rfl)
    (by simp only [impl_BytesToInts.s0, ilt_nat, Nat.lt_irrefl, decide_false, cond_false, List.take_length]; rfl)
  unfold impl_BytesToInts.f
  have h1 : makeOk 0 (iadd .i64 (llen l) 1) 8 = true := by
    rw [llen_eq, iadd_nat (by omega)]
    exact decide_eq_true ⟨by omega, by omega, by omega⟩
  have h2 : lrep (.int .i64) 0 = [] := rfl
  rw [h1, cond_true, h2, lcat_nil, app_ok (by simp), cond_true, llen_eq, show loopN impl_BytesToInts.s0 k ((l, (l.length : Int), 0), [(l.length : Int)]) = some (b2i l) by simpa using this, ob_some]
theorem s_b2i (hk : FU ≤ k) {l : List Int} (hl : l.length ≤ 4294967296) : spec_BytesToInts.f k l = some (b2i l) := by
  have := loop_up (step := spec_BytesToInts.s0) (e := b2i l) l.length k (fun i => ((l, (i : Int)), (l.length : Int) :: (l.take i).map (icast .i64))) (by unfold FU at hk; omega)
    (fun i hi => by
      have ha : ∀ v : Int, appOk ((l.length : Int) :: (l.take i).map (icast .i64)) [v] 8 = true := fun v => app_ok (by simp; omega)
      simp only [spec_BytesToInts.s0, ilt_len, idx_len, decide_eq_true hi, cond_true, iadd_nat (show i < 9223372036854775807 by omega), lget_nat (e := .int .u8) _ hi, ha]
      rw [← take_snoc l hi, List.map_append]; rfl)
    (by simp only [spec_BytesToInts.s0, ilt_len, Nat.lt_irrefl, decide_false, cond_false, List.take_length]; rfl)
  unfold spec_BytesToInts.f
  rw [llen_eq, show loopN spec_BytesToInts.s0 k ((l, 0), [(l.length : Int)]) = some (b2i l) by simpa using this, ob_some]
theorem b2i_len (l : List Int) : (b2i l).length = l.length + 1 := by simp [b2i]
theorem i_secMac (hk : FU ≤ k) {key d n : Int} {l : List Int} (hl : l.length ≤ 4294967296) : impl_securedMAC.f k (key, d, n, l) = some (sealK key d n l) := by
  unfold impl_securedMAC.f
  simp only [i_b2i hk hl, ob_some]
  rw [app_ok (by simp [b2i_len]; omega), cond_true, i_khash hk (by simp [lcat, b2i_len]; omega), ob_some]; rfl
theorem s_secMac (hk : FU ≤ k) {key d n z : Int} {l : List Int} (hl : l.length ≤ 4294967296) : spec_l8Mac.f k (key, d, n, l, z) = some (sealK key d n l) := by
  unfold spec_l8Mac.f
  simp only [s_b2i hk hl, ob_some]
  rw [app_ok (by simp [b2i_len]; omega), cond_true, s_khash hk (by simp [lcat, b2i_len]; omega), ob_some]; rfl
theorem i_protect (hk : FU ≤ k) {key d n : Int} {l : List Int} (h : Ok (.sl (.int .u8)) l) : impl_Protect.f k (key, d, n, l) = some (protF key d n l) := by
  unfold impl_Protect.f
  simp only [i_derive hk, i_encrypt hk h, ob_some]
  rw [i_secMac hk (by rw [encL_len]; exact ok_len h), ob_some]; rfl
theorem s_protect (hk : FU ≤ k) {key d n : Int} {l : List Int} (h : Ok (.sl (.int .u8)) l) : spec_Protect.f k (key, d, n, l) = some (protF key d n l) := by
  unfold spec_Protect.f
  simp only [s_derive hk, s_encrypt hk h, ob_some]
  rw [s_secMac hk (by rw [encL_len]; exact ok_len h), ob_some]; rfl
theorem i_seal (hk : FU ≤ k) {key a b : Int} {p : DNumberedPacket} (h : Ok TNumberedPacket p) : impl_SealRadio.f k (key, a, b, p) = some (sealF key a b p) := by
  unfold impl_SealRadio.f impl_RadioKey.f impl_RadioKeyPath.f
  simp only [ob_some, i_pathKey hk (show ([1, 3, b] : List Int).length ≤ 4294967296 by simp)]
  rw [i_protect hk h.2, ob_some]; rfl
theorem s_seal (hk : FU ≤ k) {key a b : Int} {p : DNumberedPacket} (h : Ok TNumberedPacket p) : spec_SealRadio.f k (key, a, b, p) = some (sealF key a b p) := by
  unfold spec_SealRadio.f spec_RadioKey.f spec_RadioKeyPath.f
  simp only [ob_some, s_pathKey hk (show ([1, 3, b] : List Int).length ≤ 4294967296 by simp)]
  rw [s_protect hk h.2, ob_some]; rfl
theorem ok_sealK (key d n : Int) (l : List Int) : Ok (.int .i64) (sealK key d n l) := ok_khash _ _
theorem ok_seal {key a b : Int} {p : DNumberedPacket} (h : Ok TNumberedPacket p) (ha : Ok (.int .i64) a) (hb : Ok (.int .i64) b) : Ok TRadioPacket (sealF key a b p) := by
  have e1 : Ok (.int .i64) (1 : Int) := okn (by omega)
  have h2 : p.2.length ≤ 4294967296 := ok_len h.2
  have h1 : Ok (.int .i64) p.1 := h.1
  unfold sealF protF
  generalize derive (pathKey key [1, 3, b]) (iadd .i64 (imul .i64 2 p.1) 1) = dk
  have e2 := ok_enc dk h2
  have e3 := ok_sealK (pathKey key [1, 3, b]) 1 p.1 (encL dk p.2)
  generalize sealK (pathKey key [1, 3, b]) 1 p.1 (encL dk p.2) = sk at e3
  generalize encL dk p.2 = el at e2
  exact ⟨ha, hb, e1, h1, e2, e3⟩
theorem cnt_seal (key a b : Int) (p : DNumberedPacket) : cnt TRadioPacket (sealF key a b p) = p.2.length := by
  show 0 + (0 + (0 + (0 + (cnt (.sl (.int .u8)) (encL _ p.2) + 0)))) = _
  rw [cnt_u8, encL_len]; omega
def sealS (s : DSession) (p : DNumberedPacket) : DRadioPacket := sealF s.2.2.2.2.2.2.1 s.2.2.2.2.2.1 s.2.2.2.2.2.2.2.1 p
theorem s_sealS (hk : FU ≤ k) {s : DSession} {p : DNumberedPacket} (h : Ok TNumberedPacket p) : spec_l31Seal.f k (s, p) = some (sealS s p) := by
  unfold spec_l31Seal.f
  rw [s_seal hk h, ob_some]; rfl
def retrF (s : DSession) : List DRadioPacket := bif ieq s.2.2.1 1 then (s.2.2.2.2.2.2.2.2.2.2.2.2.1.2.take 2).map (sealS s) else []
end
end Go.Proofs.XF
/- Plain laws: which sessions are valid. -/
set_option linter.unusedVariables false
set_option linter.unusedSimpArgs false
set_option linter.unusedSectionVars false
set_option maxRecDepth 4000
namespace Go.Proofs.XF
open Go Go.Proofs.XTv
def recB (x : DUSIM) : Bool := inB x.1.1 0 3 && inB x.1.2 0 99 && inB x.2.1 1 2147483646 && inB x.2.2 0 999999
def pagB (x : DQuota) : Bool := inB x.1 0 2 && inB x.2.1 0 4 && inB x.2.2 0 3
def quoB (q : DQuota) : Bool := ile 0 q.1 && inB q.2.1 0 100000 && inB q.2.2 0 q.2.1
def subEl (l : List Int) (i : Nat) : Bool := inB (lget (.int .i64) l (i : Int)) 0 3
def ascEl (l : List Int) (i : Nat) : Bool := dnot (ile (lget (.int .i64) l ((i + 1 : Nat) : Int)) (lget (.int .i64) l (i : Int)))
def subB (x : DSubscription) : Bool :=
  decide ((inB x.1 1 1000 && inB x.2.1 1 4 && inB x.2.2.1 1 100000) = true ∧ (∀ i, i < x.2.2.2.length → subEl x.2.2.2 i = true) ∧ ∀ i, i < x.2.2.2.length - 1 → ascEl x.2.2.2 i = true)
def sndEl (x : DSendWindow) (i : Nat) : Bool := dnot (bif ine (lget TNumberedPacket x.2 (i : Int)).1 (iadd .i64 (isub .i64 x.1 (llen x.2)) (i : Int)) then true else ilt 60 (llen (lget TNumberedPacket x.2 (i : Int)).2))
def sndB (x : DSendWindow) : Bool :=
  decide (inB x.1 1 100000 = true ∧ ile (llen x.2) 8 = true ∧ ile 1 (isub .i64 x.1 (llen x.2)) = true ∧ ∀ i, i < x.2.length → sndEl x i = true)
def fitAll (l : List (List Int)) : Bool := decide (∀ j, j < l.length → fitB l j = true)
def pktEl (w : List DNumberedPacket) (l : List (List Int)) (i : Nat) : Bool := seq' (sofbytes (lget TNumberedPacket w (i : Int)).2) (sofbytes (lget (.sl (.int .u8)) l (isub .i64 (lget TNumberedPacket w (i : Int)).1 1)))
def pktB (w : List DNumberedPacket) (l : List (List Int)) : Bool := decide (∀ i, i < w.length → pktEl w l i = true)
theorem idx_pkt {s : DSendWindow} {l : List (List Int)} (h1 : sndB s = true) (hw : s.2.length ≤ 4294967296) (hl : l.length ≤ 4294967296) (h2 : ilt (iadd .i64 (llen l) 1) s.1 = false) {i : Nat} (hi : i < s.2.length) :
    idxOk (isub .i64 (lget TNumberedPacket s.2 (i : Int)).1 1) (llen l) = true := by
  obtain ⟨a, b, c, d⟩ := of_decide_eq_true h1
  have d := d i hi
  have a1 : 1 ≤ s.1 ∧ s.1 ≤ 100000 := by
    unfold inB at a
    cases h : ile 1 s.1
    · rw [h] at a; cases a
    · rw [h] at a; exact ⟨of_decide_eq_true h, of_decide_eq_true a⟩
  have b1 : (s.2.length : Int) ≤ 8 := of_decide_eq_true b
  rw [llen_eq, isub_eq (by omega) (by omega)] at c
  have c1 : 1 ≤ s.1 - (s.2.length : Int) := of_decide_eq_true c
  rw [llen_eq, iadd_nat (by omega)] at h2
  have h3 : ¬ ((l.length + 1 : Nat) : Int) < s.1 := of_decide_eq_false h2
  have e : (lget TNumberedPacket s.2 (i : Int)).1 = s.1 - (s.2.length : Int) + i := by
    unfold sndEl at d
    cases hh : ine (lget TNumberedPacket s.2 (i : Int)).1 (iadd .i64 (isub .i64 s.1 (llen s.2)) (i : Int))
    · have : (lget TNumberedPacket s.2 (i : Int)).1 = iadd .i64 (isub .i64 s.1 (llen s.2)) (i : Int) := by
        unfold ine at hh
        simpa using hh
      rw [this, llen_eq, isub_eq (by omega) (by omega), iadd_eq (by omega) (by omega)]
    · rw [hh] at d; cases d
  rw [e, isub_eq (by omega) (by omega)]
  exact decide_eq_true ⟨by omega, by rw [llen_eq]; omega⟩
section
variable {k : Nat} (hk : FU ≤ k)
theorem i_rec (x : DUSIM) : impl_IsValidSubscriberRecord.f k x = some (recB x) := by
  unfold impl_IsValidSubscriberRecord.f impl_IsValidKey.f impl_IsValidSubscriberID.f recB
  simp only [i_in, ob_some, ob_pick]
  generalize inB x.1.1 0 3 = a
  generalize inB x.1.2 0 99 = b
  generalize inB x.2.1 1 2147483646 = c
  generalize inB x.2.2 0 999999 = d
  revert a b c d
  decide
theorem s_rec (x : DUSIM) : spec_IsValidSubscriberRecord.f k x = some (recB x) := by
  unfold spec_IsValidSubscriberRecord.f spec_IsValidKey.f spec_IsValidSubscriberID.f recB
  simp only [s_in, ob_some, ob_pick]
  generalize inB x.1.1 0 3 = a
  generalize inB x.1.2 0 99 = b
  generalize inB x.2.1 1 2147483646 = c
  generalize inB x.2.2 0 999999 = d
  revert a b c d
  decide
theorem i_pag (x : DQuota) : impl_IsValidPaging.f k x = some (pagB x) := by
  unfold impl_IsValidPaging.f pagB
  simp only [i_in, ob_some, ob_pick]
  generalize inB x.1 0 2 = a
  generalize inB x.2.1 0 4 = b
  generalize inB x.2.2 0 3 = c
  revert a b c
  decide
theorem s_pag (x : DQuota) : spec_IsValidPaging.f k x = some (pagB x) := by
  unfold spec_IsValidPaging.f pagB
  simp only [s_in, ob_some, ob_pick]
  generalize inB x.1 0 2 = a
  generalize inB x.2.1 0 4 = b
  generalize inB x.2.2 0 3 = c
  revert a b c
  decide
theorem i_quo (q : DQuota) : impl_IsValidQuota.f k q = some (quoB q) := by
  unfold impl_IsValidQuota.f quoB inB
  simp only [bif_and, ile]
  congr 1
  rw [Bool.eq_iff_iff]
  simp only [Bool.and_eq_true, decide_eq_true_eq]
  omega
theorem i_rem (q : DQuota) : impl_RemainingQuota.f k q = some (remF q) := by
  unfold impl_RemainingQuota.f
  rw [i_quo, ob_some]
  unfold remF quoB
  cases (ile 0 q.1 && inB q.2.1 0 100000 && inB q.2.2 0 q.2.1) <;> rfl
theorem i_asc (hk : FU ≤ k) {l : List Int} (hl : l.length ≤ 4294967296) : impl_isAscending.f k l = some (decide (∀ i, i < l.length - 1 → ascEl l i = true)) := by
  have := all_loop (step := impl_isAscending.s0) (ascEl l) (fin := .inl ()) (bad := .inr false) (fun i => (l, ((i + 1 : Nat) : Int))) (l.length - 1)
    (fun i hi => by
      have hi1 : i < l.length := by omega
      have hi2 : i + 1 < l.length := by omega
      have e : isub .i64 ((i + 1 : Nat) : Int) 1 = (i : Int) := by rw [isub_eq (by omega) (by omega)]; omega
      simp only [impl_isAscending.s0, ilt_len, e, idx_len, decide_eq_true hi1, decide_eq_true hi2, cond_true, iadd_nat (show i + 1 < 9223372036854775807 by omega), ascEl]
      cases ile (lget (.int .i64) l ((i + 1 : Nat) : Int)) (lget (.int .i64) l (i : Int)) <;> rfl)
    (by
      have hn : ¬ (l.length - 1 + 1) < l.length := by omega
      simp only [impl_isAscending.s0, ilt_len, decide_eq_false hn, cond_false]) (N := k) (by unfold FU at hk; omega)
  unfold impl_isAscending.f
  rw [show loopN impl_isAscending.s0 k (l, 1) = _ from this, ob_some]
  by_cases h : ∀ i, i < l.length - 1 → ascEl l i = true
  · rw [if_pos h, decide_eq_true h]; rfl
  · rw [if_neg h, decide_eq_false h]; rfl
theorem i_sub (hk : FU ≤ k) {x : DSubscription} (h : Ok TSubscription x) : impl_IsValidSubscription.f k x = some (subB x) := by
  have hl := ok_len h.2.2.2
  have := all_loop (step := impl_IsValidSubscription.s0 k) (subEl x.2.2.2) (fin := .inl x) (bad := .inr false) (fun i => ((x.2.2.2, (x.2.2.2.length : Int), (i : Int)), x)) x.2.2.2.length
    (fun i hi => by
      simp only [impl_IsValidSubscription.s0, ilt_nat, idx_len, decide_eq_true hi, cond_true, i_in, ob_some, iadd_nat (show i < 9223372036854775807 by omega), subEl]
      cases inB (lget (.int .i64) x.2.2.2 (i : Int)) 0 3 <;> rfl)
    (by simp only [impl_IsValidSubscription.s0, ilt_nat, Nat.lt_irrefl, decide_false, cond_false]) (N := k) (by unfold FU at hk; omega)
  unfold impl_IsValidSubscription.f
  rw [llen_eq, show loopN (impl_IsValidSubscription.s0 k) k ((x.2.2.2, (x.2.2.2.length : Int), 0), x) = _ from this]
  simp only [i_in, ob_some, ob_pick]
  unfold subB
  cases inB x.1 1 1000
  · rfl
  · cases inB x.2.1 1 4
    · rfl
    · cases inB x.2.2.1 1 100000
      · rfl
      · simp only [dnot_t, dnot_f, cond_true, cond_false]
        by_cases h1 : ∀ i, i < x.2.2.2.length → subEl x.2.2.2 i = true
        · rw [if_pos h1, sel_l, i_asc hk hl, ob_some]
          by_cases h2 : ∀ i, i < x.2.2.2.length - 1 → ascEl x.2.2.2 i = true
          · rw [decide_eq_true h2, decide_eq_true ⟨rfl, h1, h2⟩]
          · rw [decide_eq_false h2, decide_eq_false (p := _ ∧ _) (fun hh => h2 hh.2.2)]
        · rw [if_neg h1, sel_r, decide_eq_false (p := _ ∧ _) (fun hh => h1 hh.2.1)]
theorem s_sub (hk : FU ≤ k) {x : DSubscription} (h : Ok TSubscription x) : spec_IsValidSubscription.f k x = some (subB x) := by
  have hl := ok_len h.2.2.2
  have := all_loop (step := spec_IsValidSubscription.s0 k) (fun i => subEl x.2.2.2 i && dnot (ilt 0 (i : Int) && ile (lget (.int .i64) x.2.2.2 (i : Int)) (lget (.int .i64) x.2.2.2 (isub .i64 (i : Int) 1)))) (fin := .inl x) (bad := .inr false) (fun i => ((i : Int), x)) x.2.2.2.length
    (fun i hi => by
      have hE := idx_pred hi hl
      simp only [spec_IsValidSubscription.s0, ilt_len, idx_len, decide_eq_true hi, cond_true, s_in, ob_some, iadd_nat (show i < 9223372036854775807 by omega), subEl]
      generalize inB (lget (.int .i64) x.2.2.2 (i : Int)) 0 3 = a
      generalize ile (lget (.int .i64) x.2.2.2 (i : Int)) (lget (.int .i64) x.2.2.2 (isub .i64 (i : Int) 1)) = d
      generalize idxOk (isub .i64 (i : Int) 1) (llen x.2.2.2) = e at hE ⊢
      generalize ilt 0 (i : Int) = c at hE ⊢
      cases a <;> cases c <;> cases d <;> cases e <;> simp_all [dnot, dand])
    (by simp only [spec_IsValidSubscription.s0, ilt_len, Nat.lt_irrefl, decide_false, cond_false]) (N := k) (by unfold FU at hk; omega)
  unfold spec_IsValidSubscription.f
  rw [show loopN (spec_IsValidSubscription.s0 k) k (0, x) = _ from this, ob_some]
  have key : (∀ i, i < x.2.2.2.length → (subEl x.2.2.2 i && dnot (ilt 0 (i : Int) && ile (lget (.int .i64) x.2.2.2 (i : Int)) (lget (.int .i64) x.2.2.2 (isub .i64 (i : Int) 1)))) = true) ↔ ((∀ i, i < x.2.2.2.length → subEl x.2.2.2 i = true) ∧ ∀ i, i < x.2.2.2.length - 1 → ascEl x.2.2.2 i = true) := by
    constructor
    · intro hh
      refine ⟨fun i hi => (Bool.and_eq_true _ _ ▸ hh i hi).1, fun i hi => ?_⟩
      have h1 := (Bool.and_eq_true _ _ ▸ hh (i + 1) (by omega)).2
      rw [ilt_t (show (0 : Int) < ((i + 1 : Nat) : Int) by omega), Bool.true_and, isub_eq (by omega) (by omega)] at h1
      unfold ascEl
      rw [show ((i + 1 : Nat) : Int) - 1 = (i : Int) by omega] at h1
      exact h1
    · rintro ⟨h1, h2⟩ i hi
      rw [h1 i hi, Bool.true_and]
      cases i with
      | zero => rfl
      | succ i =>
        have h3 := h2 i (by omega)
        unfold ascEl at h3
        rw [ilt_t (show (0 : Int) < ((i + 1 : Nat) : Int) by omega), Bool.true_and, isub_eq (by omega) (by omega), show ((i + 1 : Nat) : Int) - 1 = (i : Int) by omega]
        exact h3
  unfold subB
  by_cases hq : ∀ i, i < x.2.2.2.length → (subEl x.2.2.2 i && dnot (ilt 0 (i : Int) && ile (lget (.int .i64) x.2.2.2 (i : Int)) (lget (.int .i64) x.2.2.2 (isub .i64 (i : Int) 1)))) = true
  · rw [if_pos hq, sel_l]
    obtain ⟨h1, h2⟩ := key.1 hq
    simp only [s_in, ob_some, ob_pick]
    cases inB x.1 1 1000
    · rfl
    · cases inB x.2.1 1 4
      · rfl
      · cases inB x.2.2.1 1 100000
        · rfl
        · rw [decide_eq_true ⟨rfl, h1, h2⟩]; rfl
  · rw [if_neg hq, sel_r, decide_eq_false (p := _ ∧ _) (fun hh => hq (key.2 hh.2))]
theorem i_snd (hk : FU ≤ k) {x : DSendWindow} (h : Ok TSendWindow x) : impl_IsValidSender.f k x = some (sndB x) := by
  have hl := ok_len h.2
  have := all_loop (step := impl_IsValidSender.s0) (sndEl x) (fin := .inl ()) (bad := .inr false) (fun i => (isub .i64 x.1 (llen x.2), x.2, (x.2.length : Int), (i : Int))) x.2.length
    (fun i hi => by
      simp only [impl_IsValidSender.s0, ilt_nat, idx_len, decide_eq_true hi, cond_true, iadd_nat (show i < 9223372036854775807 by omega), sndEl]
      generalize (bif ine (lget TNumberedPacket x.2 (i : Int)).1 (iadd .i64 (isub .i64 x.1 (llen x.2)) (i : Int)) then true else ilt 60 (llen (lget TNumberedPacket x.2 (i : Int)).2)) = b
      cases b <;> rfl)
    (by simp only [impl_IsValidSender.s0, ilt_nat, Nat.lt_irrefl, decide_false, cond_false]) (N := k) (by unfold FU at hk; omega)
  have hloop : loopN impl_IsValidSender.s0 k (isub .i64 x.1 (llen x.2), x.2, llen x.2, 0) = _ := this
  unfold impl_IsValidSender.f
  rw [hloop]
  simp only [i_in, ob_some]
  unfold sndB
  have e8 := not_ilt_ile 8 (llen x.2)
  have e1 := not_ilt_ile (isub .i64 x.1 (llen x.2)) 1
  rw [← e8, ← e1]
  cases inB x.1 1 100000
  · rfl
  · cases ilt 8 (llen x.2)
    · cases ilt (isub .i64 x.1 (llen x.2)) 1
      · simp only [dnot_t, dnot_f, cond_true, cond_false]
        by_cases h1 : ∀ i, i < x.2.length → sndEl x i = true
        · rw [if_pos h1, decide_eq_true ⟨trivial, trivial, trivial, h1⟩]; rfl
        · rw [if_neg h1, decide_eq_false (p := _ ∧ _) (fun hh => h1 hh.2.2.2)]; rfl
      · rfl
    · rfl
theorem s_snd (hk : FU ≤ k) {x : DSendWindow} (h : Ok TSendWindow x) : spec_IsValidSender.f k x = some (sndB x) := by
  have hl := ok_len h.2
  have := all_loop (step := spec_IsValidSender.s0) (sndEl x) (fin := .inl x) (bad := .inr false) (fun i => ((i : Int), x)) x.2.length
    (fun i hi => by
      simp only [spec_IsValidSender.s0, ilt_len, idx_len, decide_eq_true hi, cond_true, iadd_nat (show i < 9223372036854775807 by omega), sndEl]
      generalize (bif ine (lget TNumberedPacket x.2 (i : Int)).1 (iadd .i64 (isub .i64 x.1 (llen x.2)) (i : Int)) then true else ilt 60 (llen (lget TNumberedPacket x.2 (i : Int)).2)) = b
      cases b <;> rfl)
    (by simp only [spec_IsValidSender.s0, ilt_len, Nat.lt_irrefl, decide_false, cond_false]) (N := k) (by unfold FU at hk; omega)
  unfold spec_IsValidSender.f
  rw [show loopN spec_IsValidSender.s0 k (0, x) = _ from this, ob_some]
  unfold sndB
  by_cases h1 : ∀ i, i < x.2.length → sndEl x i = true
  · rw [if_pos h1, sel_l]
    simp only [s_in, ob_some]
    cases inB x.1 1 100000
    · rfl
    · cases ile (llen x.2) 8
      · rfl
      · cases ile 1 (isub .i64 x.1 (llen x.2))
        · rfl
        · rw [decide_eq_true ⟨rfl, rfl, rfl, h1⟩]; rfl
  · rw [if_neg h1, sel_r, decide_eq_false (p := _ ∧ _) (fun hh => h1 hh.2.2.2)]
def strB (x : DSession) : Bool :=
  fitAll x.2.2.2.2.2.2.2.2.2.2.2.1 && (dnot (ilt 24 (llen x.2.2.2.2.2.2.2.2.2.2.2.1)) && (sndB x.2.2.2.2.2.2.2.2.2.2.2.2.1 && (dnot (ilt (iadd .i64 (llen x.2.2.2.2.2.2.2.2.2.2.2.1) 1) x.2.2.2.2.2.2.2.2.2.2.2.2.1.1) && (pktB x.2.2.2.2.2.2.2.2.2.2.2.2.1.2 x.2.2.2.2.2.2.2.2.2.2.2.1 && ile (bytesFrom x.2.2.2.2.2.2.2.2.2.2.2.2.1.2 0) (remF x.2.2.2.2.2.2.2.2.2.2.2.2.2.2)))))
theorem s_stream (hk : FU ≤ k) {x : DSession} (h : Ok TSession x) : spec_l30Stream.f k x = some (strB x) := by
  have hP : Ok (.sl (.sl (.int .u8))) x.2.2.2.2.2.2.2.2.2.2.2.1 := h.2.2.2.2.2.2.2.2.2.2.2.1
  have hS : Ok TSendWindow x.2.2.2.2.2.2.2.2.2.2.2.2.1 := h.2.2.2.2.2.2.2.2.2.2.2.2.1
  have hl := ok_len hP
  have hw := ok_len hS.2
  have l1 := all_loop (step := spec_l30Stream.s0) (fitB x.2.2.2.2.2.2.2.2.2.2.2.1) (fin := .inl x) (bad := .inr false) (fun i => ((i : Int), x)) x.2.2.2.2.2.2.2.2.2.2.2.1.length
    (fun i hi => by
      simp only [spec_l30Stream.s0, ilt_len, idx_len, decide_eq_true hi, cond_true, iadd_nat (show i < 9223372036854775807 by omega), fitB]
      cases ilt 60 (llen (lget (.sl (.int .u8)) x.2.2.2.2.2.2.2.2.2.2.2.1 (i : Int))) <;> rfl)
    (by simp only [spec_l30Stream.s0, ilt_len, Nat.lt_irrefl, decide_false, cond_false]) (N := k) (by unfold FU at hk; omega)
  have l2 : sndB x.2.2.2.2.2.2.2.2.2.2.2.2.1 = true → ilt (iadd .i64 (llen x.2.2.2.2.2.2.2.2.2.2.2.1) 1) x.2.2.2.2.2.2.2.2.2.2.2.2.1.1 = false → loopN (spec_l30Stream.s1 k) k (0, x) = some (if ∀ i, i < x.2.2.2.2.2.2.2.2.2.2.2.2.1.2.length → pktEl x.2.2.2.2.2.2.2.2.2.2.2.2.1.2 x.2.2.2.2.2.2.2.2.2.2.2.1 i = true then .inl x else .inr false) := fun c1 c2 =>
    all_loop (step := spec_l30Stream.s1 k) (pktEl x.2.2.2.2.2.2.2.2.2.2.2.2.1.2 x.2.2.2.2.2.2.2.2.2.2.2.1) (fin := .inl x) (bad := .inr false) (fun i => ((i : Int), x)) x.2.2.2.2.2.2.2.2.2.2.2.2.1.2.length
      (fun i hi => by
        have hix := idx_pkt c1 hw hl c2 hi
        simp only [spec_l30Stream.s1, spec_EqualBytes.f, ilt_len, idx_len, decide_eq_true hi, hix, cond_true, ob_some, iadd_nat (show i < 9223372036854775807 by omega), pktEl]
        generalize seq' _ _ = b
        cases b <;> rfl)
      (by simp only [spec_l30Stream.s1, ilt_len, Nat.lt_irrefl, decide_false, cond_false]) (N := k) (by unfold FU at hk; omega)
  unfold spec_l30Stream.f
  rw [show loopN spec_l30Stream.s0 k (0, x) = _ from l1, ob_some]
  unfold strB fitAll
  by_cases h1 : ∀ j, j < x.2.2.2.2.2.2.2.2.2.2.2.1.length → fitB x.2.2.2.2.2.2.2.2.2.2.2.1 j = true
  · rw [if_pos h1, sel_l, decide_eq_true h1, s_snd hk hS]
    simp only [ob_pick]
    cases c0 : ilt 24 (llen x.2.2.2.2.2.2.2.2.2.2.2.1)
    · cases c1 : sndB x.2.2.2.2.2.2.2.2.2.2.2.2.1
      · rfl
      · cases c2 : ilt (iadd .i64 (llen x.2.2.2.2.2.2.2.2.2.2.2.1) 1) x.2.2.2.2.2.2.2.2.2.2.2.2.1.1
        · simp only [dnot_t, dnot_f, cond_true, cond_false, Bool.true_and, Bool.false_and]
          rw [l2 c1 c2, ob_some]
          unfold pktB
          by_cases h3 : ∀ i, i < x.2.2.2.2.2.2.2.2.2.2.2.2.1.2.length → pktEl x.2.2.2.2.2.2.2.2.2.2.2.2.1.2 x.2.2.2.2.2.2.2.2.2.2.2.1 i = true
          · rw [if_pos h3, sel_l, decide_eq_true h3, s_bytes hk hw, ob_some, s_remaining, ob_some]; rfl
          · rw [if_neg h3, sel_r, decide_eq_false h3]; rfl
        · rfl
    · rfl
  · rw [if_neg h1, sel_r, decide_eq_false h1]; rfl
def valB (x : DSession) : Bool := recB x.1 && (subB x.2.1 && (pagB x.2.2.2.2.2.2.2.2.2.2.1 && (quoB x.2.2.2.2.2.2.2.2.2.2.2.2.2.2 && (inB x.2.2.1 0 1 && (dnot (ieq x.2.2.1 1 && dnot (inB x.2.2.2.2.2.2.1 1 2147483646)) && (dnot (ilt 0 x.2.2.2.2.1 && dnot (inB x.2.2.2.1.2.2.2.2 1 2147483646)) && (inB x.2.2.2.2.1 0 999999 && (inB x.2.2.2.2.2.1 0 999999 && (inB x.2.2.2.2.2.2.2.1 0 999999 && (inB x.2.2.2.2.2.2.1 0 2147483646 && (inB x.2.2.2.2.2.2.2.2.1 0 5 && (inB x.2.2.2.2.2.2.2.2.2.1 0 5 && (inB x.2.2.2.2.2.2.2.2.2.2.2.2.2.1 0 3 && strB x)))))))))))))
theorem val_IsValidSession (hk : FU ≤ k) {x : DSession} (h : Ok TSession x) : spec_IsValidSession.f k x = some (valB x) ∧ impl_IsValidSession.f k x = some (valB x) := by
  have hP : Ok (.sl (.sl (.int .u8))) x.2.2.2.2.2.2.2.2.2.2.2.1 := h.2.2.2.2.2.2.2.2.2.2.2.1
  have hS : Ok TSendWindow x.2.2.2.2.2.2.2.2.2.2.2.2.1 := h.2.2.2.2.2.2.2.2.2.2.2.2.1
  have hU : Ok TSubscription x.2.1 := h.2.1
  have hl := ok_len hP
  have hw := ok_len hS.2
  have hst := s_stream hk h
  have hss := s_sub hk hU
  have his := i_sub hk hU
  have hin := i_snd hk hS
  have hfp := i_fitPayload hk hl
  have e01 : (bif ine x.2.2.1 0 then ine x.2.2.1 1 else false) = dnot (inB x.2.2.1 0 1) := by
    unfold inB
    by_cases h0 : x.2.2.1 = 0
    · rw [h0]; rfl
    · by_cases h1 : x.2.2.1 = 1
      · rw [h1]; rfl
      · rw [ine_not, ine_not, ieq_f h0, ieq_f h1]
        by_cases h2 : 0 ≤ x.2.2.1
        · rw [ile_t h2, ile_f (by omega)]; rfl
        · rw [ile_f h2]; rfl
  have l2 : sndB x.2.2.2.2.2.2.2.2.2.2.2.2.1 = true → ilt (iadd .i64 (llen x.2.2.2.2.2.2.2.2.2.2.2.1) 1) x.2.2.2.2.2.2.2.2.2.2.2.2.1.1 = false → loopN (impl_IsValidSession.s0 k) k ((x.2.2.2.2.2.2.2.2.2.2.2.2.1.2, llen x.2.2.2.2.2.2.2.2.2.2.2.2.1.2, 0), x) = some (if ∀ i, i < x.2.2.2.2.2.2.2.2.2.2.2.2.1.2.length → pktEl x.2.2.2.2.2.2.2.2.2.2.2.2.1.2 x.2.2.2.2.2.2.2.2.2.2.2.1 i = true then .inl x else .inr false) := fun c1 c2 =>
    all_loop (step := impl_IsValidSession.s0 k) (pktEl x.2.2.2.2.2.2.2.2.2.2.2.2.1.2 x.2.2.2.2.2.2.2.2.2.2.2.1) (fin := .inl x) (bad := .inr false) (fun i => ((x.2.2.2.2.2.2.2.2.2.2.2.2.1.2, (x.2.2.2.2.2.2.2.2.2.2.2.2.1.2.length : Int), (i : Int)), x)) x.2.2.2.2.2.2.2.2.2.2.2.2.1.2.length
      (fun i hi => by
        have hix := idx_pkt c1 hw hl c2 hi
        simp only [impl_IsValidSession.s0, impl_EqualBytes.f, bytes_Equal.f, ilt_nat, idx_len, decide_eq_true hi, hix, cond_true, ob_some, iadd_nat (show i < 9223372036854775807 by omega), pktEl]
        generalize seq' _ _ = b
        cases b <;> rfl)
      (by simp only [impl_IsValidSession.s0, ilt_nat, Nat.lt_irrefl, decide_false, cond_false]) (N := k) (by unfold FU at hk; omega)
  have l3 : (obind (impl_OutstandingBytes.f k x) fun v19 => obind (impl_RemainingQuota.f k x.2.2.2.2.2.2.2.2.2.2.2.2.2.2) fun v20 => some (ile v19 v20)) = some (ile (bytesFrom x.2.2.2.2.2.2.2.2.2.2.2.2.1.2 0) (remF x.2.2.2.2.2.2.2.2.2.2.2.2.2.2)) := by
    unfold impl_OutstandingBytes.f
    rw [i_numberedBytes hk hw, ob_some, i_rem, ob_some, ob_some]
  unfold valB
  refine ⟨?_, ?_⟩
  · unfold spec_IsValidSession.f spec_IsValidKey.f
    simp only [s_in, s_rec, hss, s_pag, s_quotaOk, hst, ob_some, ob_pick]
    rw [show (ile 0 x.2.2.2.2.2.2.2.2.2.2.2.2.2.2.1 && inB x.2.2.2.2.2.2.2.2.2.2.2.2.2.2.2.1 0 100000 && inB x.2.2.2.2.2.2.2.2.2.2.2.2.2.2.2.2 0 x.2.2.2.2.2.2.2.2.2.2.2.2.2.2.2.1) = quoB x.2.2.2.2.2.2.2.2.2.2.2.2.2.2 from rfl]
    generalize strB x = b0
    generalize recB x.1 = b1
    generalize subB x.2.1 = b2
    generalize pagB x.2.2.2.2.2.2.2.2.2.2.1 = b3
    generalize quoB x.2.2.2.2.2.2.2.2.2.2.2.2.2.2 = b4
    generalize inB x.2.2.1 0 1 = b5
    generalize ieq x.2.2.1 1 = b6
    generalize inB x.2.2.2.2.2.2.1 1 2147483646 = b7
    generalize ilt 0 x.2.2.2.2.1 = b8
    generalize inB x.2.2.2.1.2.2.2.2 1 2147483646 = b9
    generalize inB x.2.2.2.2.1 0 999999 = c1
    generalize inB x.2.2.2.2.2.1 0 999999 = c2
    generalize inB x.2.2.2.2.2.2.2.1 0 999999 = c3
    generalize inB x.2.2.2.2.2.2.1 0 2147483646 = c4
    generalize inB x.2.2.2.2.2.2.2.2.1 0 5 = c5
    generalize inB x.2.2.2.2.2.2.2.2.2.1 0 5 = c6
    generalize inB x.2.2.2.2.2.2.2.2.2.2.2.2.2.1 0 3 = c7
    clear hst hss his hin hfp e01 l2 l3
    cases b6 <;> cases b7 <;> cases b8 <;> cases b9 <;> simp only [dnot, dand, Bool.not_true, Bool.not_false, cond_true, cond_false, Bool.and_true, Bool.true_and, Bool.and_false, Bool.false_and] <;> cases b5 <;> cases b1 <;> (try rfl) <;> cases b2 <;> (try rfl) <;> cases b3 <;> (try rfl) <;> cases b4 <;> (try rfl) <;> cases b0 <;> (try rfl) <;> cases c1 <;> (try rfl) <;> cases c2 <;> (try rfl) <;> cases c3 <;> (try rfl) <;> cases c4 <;> (try rfl) <;> cases c5 <;> (try rfl) <;> cases c6 <;> (try rfl) <;> cases c7 <;> rfl
  · unfold impl_IsValidSession.f impl_IsValidKey.f
    simp only [i_in, i_rec, his, i_pag, hin, i_quo, hfp, e01, ob_some, ob_pick]
    rw [show decide (∀ j, j < x.2.2.2.2.2.2.2.2.2.2.2.1.length → fitB x.2.2.2.2.2.2.2.2.2.2.2.1 j = true) = fitAll x.2.2.2.2.2.2.2.2.2.2.2.1 from rfl]
    unfold strB
    generalize recB x.1 = b1
    generalize subB x.2.1 = b2
    generalize pagB x.2.2.2.2.2.2.2.2.2.2.1 = b3
    generalize quoB x.2.2.2.2.2.2.2.2.2.2.2.2.2.2 = b4
    generalize inB x.2.2.1 0 1 = b5
    generalize ieq x.2.2.1 1 = b6
    generalize inB x.2.2.2.2.2.2.1 1 2147483646 = b7
    generalize ilt 0 x.2.2.2.2.1 = b8
    generalize inB x.2.2.2.1.2.2.2.2 1 2147483646 = b9
    generalize inB x.2.2.2.2.1 0 999999 = c1
    generalize inB x.2.2.2.2.2.1 0 999999 = c2
    generalize inB x.2.2.2.2.2.2.2.1 0 999999 = c3
    generalize inB x.2.2.2.2.2.2.1 0 2147483646 = c4
    generalize inB x.2.2.2.2.2.2.2.2.1 0 5 = c5
    generalize inB x.2.2.2.2.2.2.2.2.2.1 0 5 = c6
    generalize inB x.2.2.2.2.2.2.2.2.2.2.2.2.2.1 0 3 = c7
    generalize fitAll x.2.2.2.2.2.2.2.2.2.2.2.1 = d1
    generalize ilt 24 (llen x.2.2.2.2.2.2.2.2.2.2.2.1) = d2
    generalize hd3 : sndB x.2.2.2.2.2.2.2.2.2.2.2.2.1 = d3 at l2 ⊢
    generalize hd4 : ilt (iadd .i64 (llen x.2.2.2.2.2.2.2.2.2.2.2.1) 1) x.2.2.2.2.2.2.2.2.2.2.2.2.1.1 = d4 at l2 ⊢
    have l4 : d3 = true → d4 = false → (obind (loopN (impl_IsValidSession.s0 k) k ((x.2.2.2.2.2.2.2.2.2.2.2.2.1.2, llen x.2.2.2.2.2.2.2.2.2.2.2.2.1.2, 0), x)) fun v17 =>
        selim (fun v18 => obind (impl_OutstandingBytes.f k v18) fun v19 => obind (impl_RemainingQuota.f k v18.2.2.2.2.2.2.2.2.2.2.2.2.2.2) fun v20 => some (ile v19 v20)) (fun v21 => some v21) v17) = some (pktB x.2.2.2.2.2.2.2.2.2.2.2.2.1.2 x.2.2.2.2.2.2.2.2.2.2.2.1 && ile (bytesFrom x.2.2.2.2.2.2.2.2.2.2.2.2.1.2 0) (remF x.2.2.2.2.2.2.2.2.2.2.2.2.2.2)) := by
      intro c1 c2
      rw [l2 c1 c2, ob_some]
      unfold pktB
      by_cases h3 : ∀ i, i < x.2.2.2.2.2.2.2.2.2.2.2.2.1.2.length → pktEl x.2.2.2.2.2.2.2.2.2.2.2.2.1.2 x.2.2.2.2.2.2.2.2.2.2.2.1 i = true
      · rw [if_pos h3, sel_l, decide_eq_true h3, l3]; rfl
      · rw [if_neg h3, sel_r, decide_eq_false h3]; rfl
    generalize (pktB x.2.2.2.2.2.2.2.2.2.2.2.2.1.2 x.2.2.2.2.2.2.2.2.2.2.2.1 && ile (bytesFrom x.2.2.2.2.2.2.2.2.2.2.2.2.1.2 0) (remF x.2.2.2.2.2.2.2.2.2.2.2.2.2.2)) = d5 at l4 ⊢
    generalize (obind (loopN (impl_IsValidSession.s0 k) k ((x.2.2.2.2.2.2.2.2.2.2.2.2.1.2, llen x.2.2.2.2.2.2.2.2.2.2.2.2.1.2, 0), x)) fun v17 =>
        selim (fun v18 => obind (impl_OutstandingBytes.f k v18) fun v19 => obind (impl_RemainingQuota.f k v18.2.2.2.2.2.2.2.2.2.2.2.2.2.2) fun v20 => some (ile v19 v20)) (fun v21 => some v21) v17) = lp at l4 ⊢
    clear hst hss his hin hfp e01 l2 l3 hd3 hd4
    cases b1 <;> (try rfl) <;> cases b2 <;> (try rfl) <;> cases b3 <;> (try rfl) <;> cases d3 <;> (try (clear l4; simp [dnot, dand]; done)) <;> cases b4 <;> (try rfl) <;> cases b5 <;> (try rfl) <;> cases b6 <;> cases b7 <;> (try rfl) <;> cases b8 <;> cases b9 <;> (try rfl) <;> cases c1 <;> (try rfl) <;> cases c2 <;> (try rfl) <;> cases c3 <;> (try rfl) <;> cases c4 <;> (try rfl) <;> cases c5 <;> (try rfl) <;> cases c6 <;> (try rfl) <;> cases c7 <;> (try rfl) <;> cases d1 <;> cases d2 <;> (try rfl) <;> cases d4 <;> (try rfl) <;> exact l4 rfl rfl
theorem both_IsValidSession (hk : FU ≤ k) {x : DSession} (h : Ok TSession x) (hn : cnt TSession x ≤ 1048576) : ∃ r, spec_IsValidSession.f k x = some r ∧ impl_IsValidSession.f k x = some r := ⟨_, val_IsValidSession hk h⟩
end
end Go.Proofs.XF
/- Plain laws: accounts, reservations, quotas. -/
set_option linter.unusedVariables false
set_option linter.unusedSimpArgs false
set_option linter.unusedSectionVars false
set_option maxRecDepth 4000
namespace Go.Proofs.XF
open Go Go.Proofs.XTv
/-! ### The first place where something holds -/
def firstI {α : Type} (q : α → Bool) : List α → Nat
  | [] => 0
  | a :: l => bif q a then 0 else firstI q l + 1
theorem firstI_le {α : Type} (q : α → Bool) : ∀ l : List α, firstI q l ≤ l.length
  | [] => Nat.le_refl _
  | a :: l => by
    have := firstI_le q l
    unfold firstI
    cases q a
    · show firstI q l + 1 ≤ l.length + 1
      omega
    · exact Nat.zero_le _
theorem firstI_no {α : Type} (q : α → Bool) : ∀ (l : List α) (i : Nat) (h : i < l.length), i < firstI q l → q l[i] = false
  | [], i, h, _ => absurd h (Nat.not_lt_zero _)
  | a :: l, i, h, hi => by
    unfold firstI at hi
    cases hq : q a
    · rw [hq] at hi
      cases i with
      | zero => exact hq
      | succ i =>
        have hi' : i + 1 < firstI q l + 1 := hi
        exact firstI_no q l i (by simpa using h) (by omega)
    · rw [hq] at hi
      exact absurd hi (Nat.not_lt_zero _)
theorem firstI_yes {α : Type} (q : α → Bool) : ∀ (l : List α) (h : firstI q l < l.length), q l[firstI q l] = true
  | [], h => absurd h (Nat.not_lt_zero _)
  | a :: l, h => by
    cases hq : q a
    · have e : firstI q (a :: l) = firstI q l + 1 := by
        show (bif q a then 0 else firstI q l + 1) = _
        rw [hq]; rfl
      have h2 : firstI q l < l.length := by
        rw [e] at h
        simpa using h
      have := firstI_yes q l h2
      simp only [e, List.getElem_cons_succ]
      exact this
    · have e : firstI q (a :: l) = 0 := by
        show (bif q a then 0 else firstI q l + 1) = _
        rw [hq]; rfl
      simp only [e, List.getElem_cons_zero]
      exact hq
def findN (l : List DSubscriberID) (s : Int) : Nat := firstI (fun e : DSubscriberID => ieq e.1 s) l
def findF (l : List DSubscriberID) (s : Int) : Int := if findN l s < l.length then (findN l s : Int) else -1
def posN (l : List DSubscriberID) (s : Int) : Nat := firstI (fun e : DSubscriberID => dnot (ilt e.1 s)) l
def resEl (l : List DSubscriberID) (i : Nat) : Bool :=
  dnot (ilt (lget TSubscriberID l (i : Int)).1 0) && (inB (lget TSubscriberID l (i : Int)).2 1 100000 && dnot (ilt 0 (i : Int) && ile (lget TSubscriberID l (i : Int)).1 (lget TSubscriberID l (isub .i64 (i : Int) 1)).1))
def sumF (l : List DSubscriberID) (n : Int) : Int := l.foldl (fun a e => iadd .i64 a e.2) n
theorem sumF_snoc (l : List DSubscriberID) (e : DSubscriberID) (n : Int) : sumF (l ++ [e]) n = iadd .i64 (sumF l n) e.2 := by simp [sumF]
def accB (x : DAccount) : Bool :=
  decide (inB x.1 0 100000 = true ∧ inB x.2.1 0 x.1 = true ∧ inB x.2.2.1 0 x.1 = true ∧ ile (llen x.2.2.2) 8 = true ∧ (∀ i, i < x.2.2.2.length → resEl x.2.2.2 i = true) ∧ ieq (iadd .i64 (iadd .i64 x.2.1 x.2.2.1) (sumF x.2.2.2 0)) x.1 = true)
def forF (l : List DSubscriberID) (s : Int) : Int := bif ilt (findF l s) 0 then 0 else (lget TSubscriberID l (findF l s)).2
def matB (a : DAccount) (q : DQuota) : Bool := accB a && (quoB q && ieq (forF a.2.2.2 q.1) q.2.1)
theorem inB_t2 {x l h : Int} (e : inB x l h = true) : l ≤ x ∧ x ≤ h := by
  unfold inB at e
  cases hh : ile l x
  · rw [hh] at e; cases e
  · rw [hh] at e; exact ⟨of_decide_eq_true hh, of_decide_eq_true e⟩
/-- Sorted: each comes before the next. -/
theorem sorted {l : List DSubscriberID} (hl : l.length ≤ 4294967296) (h : ∀ i, i < l.length → resEl l i = true) : ∀ (d i : Nat) (hi : i + d + 1 < l.length), (l[i]'(by omega)).1 < (l[i + d + 1]'hi).1 := by
  have st : ∀ (i : Nat) (hi : i + 1 < l.length), (l[i]'(by omega)).1 < (l[i + 1]'hi).1 := by
    intro i hi
    have h1 := h (i + 1) hi
    unfold resEl at h1
    rw [Bool.and_eq_true, Bool.and_eq_true] at h1
    have h2 := h1.2.2
    rw [ilt_t (show (0 : Int) < ((i + 1 : Nat) : Int) by omega), Bool.true_and, isub_eq (by omega) (by omega), show ((i + 1 : Nat) : Int) - 1 = (i : Int) by omega, lget_nat (e := TSubscriberID) _ hi, lget_nat (e := TSubscriberID) _ (show i < l.length by omega)] at h2
    exact Int.not_le.1 fun hc => by
      rw [ile_t hc] at h2; cases h2
  intro d
  induction d with
  | zero => intro i hi; exact st i hi
  | succ d ih =>
    intro i hi
    have h1 := ih i (by omega)
    have h2 := st (i + d + 1) (by omega)
    exact Int.lt_trans h1 h2
theorem sorted2 {l : List DSubscriberID} (hl : l.length ≤ 4294967296) (h : ∀ i, i < l.length → resEl l i = true) {i j : Nat} (hij : i < j) (hj : j < l.length) : (l[i]'(by omega)).1 < (l[j]'hj).1 := by
  have := sorted hl h (j - i - 1) i (by omega)
  have e : i + (j - i - 1) + 1 = j := by omega
  simp only [e] at this
  exact this
/-- Where it is found is where it would be put in. -/
theorem find_pos {l : List DSubscriberID} (hl : l.length ≤ 4294967296) (h : ∀ i, i < l.length → resEl l i = true) {s : Int} (hf : findN l s < l.length) : posN l s = findN l s := by
  have e1 : ieq (l[findN l s]'hf).1 s = true := firstI_yes (fun e : DSubscriberID => ieq e.1 s) l hf
  have e1' : (l[findN l s]'hf).1 = s := by
    unfold ieq at e1
    exact eq_of_beq e1
  have hp := firstI_le (fun e : DSubscriberID => dnot (ilt e.1 s)) l
  rcases Nat.lt_trichotomy (posN l s) (findN l s) with hlt | heq | hgt
  · have hpl : posN l s < l.length := by omega
    have e2 : dnot (ilt (l[posN l s]'hpl).1 s) = true := firstI_yes (fun e : DSubscriberID => dnot (ilt e.1 s)) l hpl
    have e3 := sorted2 hl h hlt hf
    rw [e1'] at e3
    rw [ilt_t e3] at e2
    cases e2
  · exact heq
  · have e2 : dnot (ilt (l[findN l s]'hf).1 s) = false := firstI_no (fun e : DSubscriberID => dnot (ilt e.1 s)) l _ hf hgt
    rw [e1', ilt_f (Int.lt_irrefl s)] at e2
    cases e2
theorem pos_ne {l : List DSubscriberID} {s : Int} (hf : ¬ findN l s < l.length) (hp : posN l s < l.length) : ieq (l[posN l s]'hp).1 s = false := by
  have hle := firstI_le (fun e : DSubscriberID => ieq e.1 s) l
  exact firstI_no (fun e : DSubscriberID => ieq e.1 s) l _ hp (by
    have : findN l s = l.length := Nat.le_antisymm hle (Nat.not_lt.1 hf)
    show posN l s < findN l s
    omega)
/-- The list with an amount added for s: as the reference has it. -/
def addF (l : List DSubscriberID) (s v : Int) : List DSubscriberID :=
  if findN l s < l.length then l.set (findN l s) ((lget TSubscriberID l (findN l s : Int)).1, iadd .i64 (lget TSubscriberID l (findN l s : Int)).2 v)
  else l.take (posN l s) ++ [(s, v)] ++ l.drop (posN l s)
def minF (a b : Int) : Int := bif ilt b a then b else a
/-- Reserve: what is refused, and the account afterwards with the amount. -/
def refB (a : DAccount) (s n : Int) : Bool := dnot (accB a) || (ilt s 0 || (dnot (inB n 1 100000) || (ieq a.2.1 0 || (ile 8 (llen a.2.2.2) && decide (¬ findN a.2.2.2 s < a.2.2.2.length)))))
def rsvF (a : DAccount) (s n : Int) : DAccount × Int :=
  bif refB a s n then (a, 0) else ((a.1, isub .i64 a.2.1 (minF n a.2.1), a.2.2.1, addF a.2.2.2 s (minF n a.2.1)), minF n a.2.1)
def rqF (a : DAccount) (q : DQuota) (n : Int) : DAccount × DQuota :=
  bif dnot (matB a q) then (a, q)
  else bif ilt 100000 (iadd .i64 q.2.1 (rsvF a q.1 n).2) then (a, q) else ((rsvF a q.1 n).1, q.1, iadd .i64 q.2.1 (rsvF a q.1 n).2, q.2.2)
section
variable {k : Nat} (hk : FU ≤ k)
theorem i_copyRes {x : List DSubscriberID} (h : x.length ≤ 4294967296) : impl_copyItems_impl_Reservation.f k x = some x := by
  unfold impl_copyItems_impl_Reservation.f
  rw [make_len (by omega), cond_true, lcopy_all (e := TSubscriberID)]
theorem i_copyAcc {x : DAccount} (h : Ok TAccount x) : impl_copyAccount.f k x = some x := by
  unfold impl_copyAccount.f
  rw [i_copyRes (ok_len h.2.2.2), ob_some]
theorem s_copyAcc {x : DAccount} (h : Ok TAccount x) : spec_l16Copy.f k x = some x := by
  unfold spec_l16Copy.f
  rw [app0 (ok_len h.2.2.2) (show 16 ≤ 16384 by omega), cond_true, lcat_nil]
theorem i_total (hk : FU ≤ k) {x : DAccount} (h : Ok TAccount x) : impl_TotalReserved.f k x = some (sumF x.2.2.2 0) := by
  have hl := ok_len h.2.2.2
  have := loop_up (step := impl_TotalReserved.s0) (e := sumF x.2.2.2 0) x.2.2.2.length k (fun i => (sumF (x.2.2.2.take i) 0, x.2.2.2, (x.2.2.2.length : Int), (i : Int))) (by unfold FU at hk; omega)
    (fun i hi => by
      simp only [impl_TotalReserved.s0, ilt_nat, idx_len, decide_eq_true hi, cond_true, lget_nat (e := TSubscriberID) _ hi, iadd_nat (show i < 9223372036854775807 by omega)]
      rw [← take_snoc _ hi, sumF_snoc])
    (by simp only [impl_TotalReserved.s0, ilt_nat, Nat.lt_irrefl, decide_false, cond_false, List.take_length])
  unfold impl_TotalReserved.f
  rw [llen_eq, show loopN impl_TotalReserved.s0 k (0, x.2.2.2, (x.2.2.2.length : Int), 0) = some (sumF x.2.2.2 0) by simpa [sumF] using this, ob_some]
theorem s_total (hk : FU ≤ k) {x : DAccount} (h : Ok TAccount x) : spec_TotalReserved.f k x = some (sumF x.2.2.2 0) := by
  have hl := ok_len h.2.2.2
  have := loop_up (step := spec_TotalReserved.s0) (e := sumF x.2.2.2 0) x.2.2.2.length k (fun i => ((sumF (x.2.2.2.take i) 0, (i : Int)), x)) (by unfold FU at hk; omega)
    (fun i hi => by
      simp only [spec_TotalReserved.s0, ilt_len, idx_len, decide_eq_true hi, cond_true, lget_nat (e := TSubscriberID) _ hi, iadd_nat (show i < 9223372036854775807 by omega)]
      rw [← take_snoc _ hi, sumF_snoc])
    (by simp only [spec_TotalReserved.s0, ilt_len, Nat.lt_irrefl, decide_false, cond_false, List.take_length])
  unfold spec_TotalReserved.f
  rw [show loopN spec_TotalReserved.s0 k ((0, 0), x) = some (sumF x.2.2.2 0) by simpa [sumF] using this, ob_some]
theorem i_acc (hk : FU ≤ k) {x : DAccount} (h : Ok TAccount x) : impl_IsValidAccount.f k x = some (accB x) := by
  have hl := ok_len h.2.2.2
  have := all_loop (step := impl_IsValidAccount.s0 k) (resEl x.2.2.2) (fin := .inl x) (bad := .inr false) (fun i => ((x.2.2.2, (x.2.2.2.length : Int), (i : Int)), x)) x.2.2.2.length
    (fun i hi => by
      have hE := idx_pred hi hl
      simp only [impl_IsValidAccount.s0, ilt_nat, idx_len, decide_eq_true hi, cond_true, i_in, ob_pick, iadd_nat (show i < 9223372036854775807 by omega), resEl]
      generalize ilt (lget TSubscriberID x.2.2.2 (i : Int)).1 0 = a
      generalize inB (lget TSubscriberID x.2.2.2 (i : Int)).2 1 100000 = b
      generalize ile (lget TSubscriberID x.2.2.2 (i : Int)).1 (lget TSubscriberID x.2.2.2 (isub .i64 (i : Int) 1)).1 = d
      generalize idxOk (isub .i64 (i : Int) 1) (llen x.2.2.2) = e at hE ⊢
      generalize ilt 0 (i : Int) = c at hE ⊢
      cases a <;> cases b <;> cases c <;> cases d <;> cases e <;> simp_all [dnot, dand])
    (by simp only [impl_IsValidAccount.s0, ilt_nat, Nat.lt_irrefl, decide_false, cond_false]) (N := k) (by unfold FU at hk; omega)
  unfold impl_IsValidAccount.f
  rw [llen_eq, show loopN (impl_IsValidAccount.s0 k) k ((x.2.2.2, (x.2.2.2.length : Int), 0), x) = _ from this, ← llen_eq]
  simp only [i_in, ob_some, ob_pick]
  unfold accB
  have e8 := not_ilt_ile 8 (llen x.2.2.2)
  rw [← e8]
  cases inB x.1 0 100000
  · rfl
  · cases inB x.2.1 0 x.1
    · rfl
    · cases inB x.2.2.1 0 x.1
      · rfl
      · cases ilt 8 (llen x.2.2.2)
        · simp only [dnot_t, dnot_f, cond_true, cond_false]
          by_cases h1 : ∀ i, i < x.2.2.2.length → resEl x.2.2.2 i = true
          · rw [if_pos h1, sel_l, i_total hk h, ob_some]
            cases hq : ieq (iadd .i64 (iadd .i64 x.2.1 x.2.2.1) (sumF x.2.2.2 0)) x.1
            · rw [decide_eq_false (p := _ ∧ _) (fun hh => by cases hh.2.2.2.2.2)]
            · rw [decide_eq_true ⟨trivial, trivial, trivial, trivial, h1, rfl⟩]
          · rw [if_neg h1, sel_r, decide_eq_false (p := _ ∧ _) (fun hh => h1 hh.2.2.2.2.1)]
        · rfl
theorem s_acc (hk : FU ≤ k) {x : DAccount} (h : Ok TAccount x) : spec_IsValidAccount.f k x = some (accB x) := by
  have hl := ok_len h.2.2.2
  have := all_loop (step := spec_IsValidAccount.s0 k) (resEl x.2.2.2) (fin := .inl x) (bad := .inr false) (fun i => ((i : Int), x)) x.2.2.2.length
    (fun i hi => by
      have hE := idx_pred hi hl
      simp only [spec_IsValidAccount.s0, ilt_len, idx_len, decide_eq_true hi, cond_true, s_in, ob_pick, iadd_nat (show i < 9223372036854775807 by omega), resEl]
      generalize ilt (lget TSubscriberID x.2.2.2 (i : Int)).1 0 = a
      generalize inB (lget TSubscriberID x.2.2.2 (i : Int)).2 1 100000 = b
      generalize ile (lget TSubscriberID x.2.2.2 (i : Int)).1 (lget TSubscriberID x.2.2.2 (isub .i64 (i : Int) 1)).1 = d
      generalize idxOk (isub .i64 (i : Int) 1) (llen x.2.2.2) = e at hE ⊢
      generalize ilt 0 (i : Int) = c at hE ⊢
      cases a <;> cases b <;> cases c <;> cases d <;> cases e <;> simp_all [dnot, dand])
    (by simp only [spec_IsValidAccount.s0, ilt_len, Nat.lt_irrefl, decide_false, cond_false]) (N := k) (by unfold FU at hk; omega)
  unfold spec_IsValidAccount.f
  rw [show loopN (spec_IsValidAccount.s0 k) k (0, x) = _ from this, ob_some]
  unfold accB
  by_cases h1 : ∀ i, i < x.2.2.2.length → resEl x.2.2.2 i = true
  · rw [if_pos h1, sel_l]
    simp only [s_in, ob_some, ob_pick, s_total hk h]
    cases inB x.1 0 100000
    · rfl
    · cases inB x.2.1 0 x.1
      · rfl
      · cases inB x.2.2.1 0 x.1
        · rfl
        · cases ile (llen x.2.2.2) 8
          · rfl
          · cases hq : ieq (iadd .i64 (iadd .i64 x.2.1 x.2.2.1) (sumF x.2.2.2 0)) x.1
            · simp only [cond_true, hq]
              rw [decide_eq_false (p := _ ∧ _) (fun hh => by cases hh.2.2.2.2.2)]
            · simp only [cond_true, hq]
              rw [decide_eq_true ⟨trivial, trivial, trivial, trivial, h1, trivial⟩]
  · rw [if_neg h1, sel_r, decide_eq_false (p := _ ∧ _) (fun hh => h1 hh.2.2.2.2.1)]
theorem i_find (hk : FU ≤ k) {x : DAccount} {s : Int} (h : Ok TAccount x) : impl_reservationIndex.f k (x, s) = some (findF x.2.2.2 s) := by
  have hl := ok_len h.2.2.2
  have hle : findN x.2.2.2 s ≤ x.2.2.2.length := firstI_le (fun e : DSubscriberID => ieq e.1 s) x.2.2.2
  have hno : ∀ i (hi : i < x.2.2.2.length), i < findN x.2.2.2 s → ieq (x.2.2.2[i]).1 s = false := fun i hi hp => firstI_no (fun e : DSubscriberID => ieq e.1 s) x.2.2.2 i hi hp
  have hup : ∀ i, i < findN x.2.2.2 s → impl_reservationIndex.s0 (s, x.2.2.2, (x.2.2.2.length : Int), (i : Int)) = some (.inl (s, x.2.2.2, (x.2.2.2.length : Int), ((i + 1 : Nat) : Int))) := fun i hp => by
    have hi : i < x.2.2.2.length := by omega
    simp only [impl_reservationIndex.s0, ilt_nat, idx_len, decide_eq_true hi, cond_true, lget_nat (e := TSubscriberID) _ hi, hno i hi hp, cond_false, iadd_nat (show i < 9223372036854775807 by omega)]
  unfold impl_reservationIndex.f findF
  by_cases hf : findN x.2.2.2 s < x.2.2.2.length
  · have hy : ieq (x.2.2.2[findN x.2.2.2 s]).1 s = true := firstI_yes (fun e : DSubscriberID => ieq e.1 s) x.2.2.2 hf
    have := loop_up (step := impl_reservationIndex.s0) (e := (.inr (findN x.2.2.2 s : Int) : Unit ⊕ Int)) (findN x.2.2.2 s) k (fun i => (s, x.2.2.2, (x.2.2.2.length : Int), (i : Int))) (by unfold FU at hk; omega) hup
      (by simp only [impl_reservationIndex.s0, ilt_nat, idx_len, decide_eq_true hf, cond_true, lget_nat (e := TSubscriberID) _ hf, hy])
    rw [if_pos hf, llen_eq, show loopN impl_reservationIndex.s0 k (s, x.2.2.2, (x.2.2.2.length : Int), 0) = _ from this, ob_some, sel_r]
  · have e : findN x.2.2.2 s = x.2.2.2.length := by omega
    have := loop_up (step := impl_reservationIndex.s0) (e := (.inl () : Unit ⊕ Int)) (findN x.2.2.2 s) k (fun i => (s, x.2.2.2, (x.2.2.2.length : Int), (i : Int))) (by unfold FU at hk; omega) hup
      (by rw [e]; simp only [impl_reservationIndex.s0, ilt_nat, Nat.lt_irrefl, decide_false, cond_false])
    rw [if_neg hf, llen_eq, show loopN impl_reservationIndex.s0 k (s, x.2.2.2, (x.2.2.2.length : Int), 0) = _ from this, ob_some, sel_l]
theorem s_find (hk : FU ≤ k) {x : DAccount} {s : Int} (h : Ok TAccount x) : spec_l16Find.f k (x, s) = some (findF x.2.2.2 s) := by
  have hl := ok_len h.2.2.2
  have hle : findN x.2.2.2 s ≤ x.2.2.2.length := firstI_le (fun e : DSubscriberID => ieq e.1 s) x.2.2.2
  have hno : ∀ i (hi : i < x.2.2.2.length), i < findN x.2.2.2 s → ieq (x.2.2.2[i]).1 s = false := fun i hi hp => firstI_no (fun e : DSubscriberID => ieq e.1 s) x.2.2.2 i hi hp
  have hup : ∀ i, i < findN x.2.2.2 s → spec_l16Find.s0 ((s, (i : Int)), x) = some (.inl ((s, ((i + 1 : Nat) : Int)), x)) := fun i hp => by
    have hi : i < x.2.2.2.length := by omega
    simp only [spec_l16Find.s0, ilt_len, idx_len, decide_eq_true hi, cond_true, lget_nat (e := TSubscriberID) _ hi, hno i hi hp, cond_false, iadd_nat (show i < 9223372036854775807 by omega)]
  unfold spec_l16Find.f findF
  by_cases hf : findN x.2.2.2 s < x.2.2.2.length
  · have hy : ieq (x.2.2.2[findN x.2.2.2 s]).1 s = true := firstI_yes (fun e : DSubscriberID => ieq e.1 s) x.2.2.2 hf
    have := loop_up (step := spec_l16Find.s0) (e := (.inr (findN x.2.2.2 s : Int) : Unit ⊕ Int)) (findN x.2.2.2 s) k (fun i => ((s, (i : Int)), x)) (by unfold FU at hk; omega) hup
      (by simp only [spec_l16Find.s0, ilt_len, idx_len, decide_eq_true hf, cond_true, lget_nat (e := TSubscriberID) _ hf, hy])
    rw [if_pos hf, show loopN spec_l16Find.s0 k ((s, 0), x) = _ from this, ob_some, sel_r]
  · have e : findN x.2.2.2 s = x.2.2.2.length := by omega
    have := loop_up (step := spec_l16Find.s0) (e := (.inl () : Unit ⊕ Int)) (findN x.2.2.2 s) k (fun i => ((s, (i : Int)), x)) (by unfold FU at hk; omega) hup
      (by rw [e]; simp only [spec_l16Find.s0, ilt_len, Nat.lt_irrefl, decide_false, cond_false])
    rw [if_neg hf, show loopN spec_l16Find.s0 k ((s, 0), x) = _ from this, ob_some, sel_l]
theorem find_idx {l : List DSubscriberID} {s : Int} (h : ilt (findF l s) 0 = false) : findN l s < l.length ∧ findF l s = (findN l s : Int) := by
  unfold findF at h ⊢
  by_cases hf : findN l s < l.length
  · rw [if_pos hf]; exact ⟨hf, rfl⟩
  · rw [if_neg hf] at h; cases h
theorem i_for (hk : FU ≤ k) {x : DAccount} {s : Int} (h : Ok TAccount x) : impl_ReservedFor.f k (x, s) = some (forF x.2.2.2 s) := by
  unfold impl_ReservedFor.f forF
  simp only [i_find hk h, ob_some]
  cases hc : ilt (findF x.2.2.2 s) 0
  · obtain ⟨h1, h2⟩ := find_idx hc
    simp only [cond_false, h2, idx_len, decide_eq_true h1, cond_true]
  · rfl
theorem s_for (hk : FU ≤ k) {x : DAccount} {s : Int} (h : Ok TAccount x) : spec_ReservedFor.f k (x, s) = some (forF x.2.2.2 s) := by
  unfold spec_ReservedFor.f forF
  simp only [s_find hk h, ob_some]
  cases hc : ilt (findF x.2.2.2 s) 0
  · obtain ⟨h1, h2⟩ := find_idx hc
    simp only [cond_false, h2, idx_len, decide_eq_true h1, cond_true]
  · rfl
theorem i_mat (hk : FU ≤ k) {x : DAccount} {q : DQuota} (h : Ok TAccount x) : impl_QuotaMatchesAccount.f k (x, q) = some (matB x q) := by
  unfold impl_QuotaMatchesAccount.f matB
  simp only [i_acc hk h, i_quo, i_for hk h, ob_some, ob_pick]
  cases accB x
  · rfl
  · cases quoB q <;> rfl
theorem s_mat (hk : FU ≤ k) {x : DAccount} {q : DQuota} (h : Ok TAccount x) : spec_QuotaMatchesAccount.f k (x, q) = some (matB x q) := by
  unfold spec_QuotaMatchesAccount.f matB
  simp only [s_acc hk h, s_quotaOk, s_for hk h, ob_some, ob_pick]
  rw [show (ile 0 q.1 && inB q.2.1 0 100000 && inB q.2.2 0 q.2.1) = quoB q from rfl]
  cases accB x
  · rfl
  · cases quoB q <;> rfl
theorem i_min (a b : Int) : impl_Min.f k (a, b) = some (minF a b) := by
  unfold impl_Min.f minF
  cases ilt b a <;> rfl
theorem s_min (a b : Int) : spec_Min.f k (a, b) = some (minF a b) := by
  unfold spec_Min.f minF
  cases ilt b a <;> rfl
theorem acc_el {x : DAccount} (h : accB x = true) : (∀ i, i < x.2.2.2.length → resEl x.2.2.2 i = true) ∧ x.2.2.2.length ≤ 8 ∧ 0 ≤ x.2.1 ∧ x.2.1 ≤ 100000 := by
  obtain ⟨a, b, c, d, e, f⟩ := of_decide_eq_true h
  have d1 : (x.2.2.2.length : Int) ≤ 8 := of_decide_eq_true d
  have a1 := inB_t2 a
  have b1 := inB_t2 b
  exact ⟨e, by omega, b1.1, Int.le_trans b1.2 a1.2⟩
end
end Go.Proofs.XF
/- Plain laws: reserving, requesting and ensuring quota. -/
set_option linter.unusedVariables false
set_option linter.unusedSimpArgs false
set_option linter.unusedSectionVars false
set_option maxRecDepth 4000
namespace Go.Proofs.XF
open Go Go.Proofs.XTv
theorem ins_core {α : Type} (l : List α) {p : Nat} (hp : p ≤ l.length) (z : α) :
    lcopy (l ++ [z]) ((p + 1 : Nat) : Int) ((l.length - p : Nat) : Int) (ltake (ldrop (l ++ [z]) (p : Int)) ((l.length + 1 - p : Nat) : Int)) = (l ++ [z]).take (p + 1) ++ l.drop p := by
  unfold lcopy ltake ldrop
  simp only [Int.toNat_natCast]
  have e1 : ((l ++ [z]).drop p).take (l.length + 1 - p) = (l ++ [z]).drop p := List.take_of_length_le (by simp)
  have e2 : ((l ++ [z]).drop p).take (l.length - p) = l.drop p := by
    rw [List.drop_append_of_le_length hp, List.take_append_of_le_length (by simp), List.take_of_length_le (by simp)]
  have e3 : (l ++ [z]).drop (p + 1 + min (l.length - p) ((l ++ [z]).drop p).length) = [] := List.drop_eq_nil_of_le (by
    rw [List.length_drop, List.length_append, List.length_singleton]; omega)
  rw [e1, e2, e3, List.append_nil]
theorem ins_len {α : Type} (l : List α) {p : Nat} (hp : p ≤ l.length) (z : α) : ((l ++ [z]).take (p + 1) ++ l.drop p).length = l.length + 1 := by
  simp; omega
theorem set_mid {α : Type} : ∀ (a : List α) (w v : α) (b : List α), (a ++ ([w] ++ b)).set a.length v = a ++ ([v] ++ b)
  | [], w, v, b => rfl
  | x :: a, w, v, b => by
    show x :: (a ++ ([w] ++ b)).set a.length v = x :: (a ++ ([v] ++ b))
    rw [set_mid a w v b]
theorem ins_set {α : Type} (l : List α) {p : Nat} (hp : p ≤ l.length) (z v : α) : ((l ++ [z]).take (p + 1) ++ l.drop p).set p v = l.take p ++ [v] ++ l.drop p := by
  have h1 : p < (l ++ [z]).length := by simp; omega
  rw [List.take_succ_eq_append_getElem h1, List.take_append_of_le_length hp, List.append_assoc, List.append_assoc]
  have hl : (l.take p).length = p := by simp; omega
  have := set_mid (l.take p) (l ++ [z])[p] v (l.drop p)
  rw [hl] at this
  exact this
section
variable {k : Nat} (hk : FU ≤ k)
theorem pos_le (l : List DSubscriberID) (s : Int) : posN l s ≤ l.length := firstI_le (fun e : DSubscriberID => dnot (ilt e.1 s)) l
theorem pos_lt {l : List DSubscriberID} {s : Int} {i : Nat} (h : i < posN l s) (hi : i < l.length) : ilt (l[i]).1 s = true := by
  have := firstI_no (fun e : DSubscriberID => dnot (ilt e.1 s)) l i hi h
  cases hc : ilt (l[i]).1 s
  · simp only [hc] at this; cases this
  · rfl
theorem pos_no {l : List DSubscriberID} {s : Int} (hi : posN l s < l.length) : ilt (l[posN l s]).1 s = false := by
  have := firstI_yes (fun e : DSubscriberID => dnot (ilt e.1 s)) l hi
  cases hc : ilt (l[posN l s]).1 s
  · rfl
  · have h2 : dnot (ilt (l[posN l s]).1 s) = true := this
    rw [hc] at h2; cases h2
theorem s_add (hk : FU ≤ k) {l : List DSubscriberID} {s v : Int} (hl : l.length ≤ 4294967296) (hs : ∀ i, i < l.length → resEl l i = true) : spec_l16Add.f k (l, s, v) = some (addF l s v) := by
  have hp := pos_le l s
  have hup : ∀ i, i < posN l s → spec_l16Add.s0 (l, s, v, (i : Int)) = some (.inl (l, s, v, ((i + 1 : Nat) : Int))) := fun i hi => by
    have h1 : i < l.length := by omega
    simp only [spec_l16Add.s0, ilt_len, idx_len, decide_eq_true h1, cond_true, lget_nat (e := TSubscriberID) _ h1, pos_lt hi h1, iadd_nat (show i < 9223372036854775807 by omega)]
  have hend : spec_l16Add.s0 (l, s, v, (posN l s : Int)) = some (.inr (l, s, v, (posN l s : Int))) := by
    by_cases h1 : posN l s < l.length
    · simp only [spec_l16Add.s0, ilt_len, idx_len, decide_eq_true h1, cond_true, lget_nat (e := TSubscriberID) _ h1, pos_no h1, cond_false]
    · simp only [spec_l16Add.s0, ilt_len, idx_len, decide_eq_false h1, cond_false, dnot_f, cond_true]
  have := loop_up (step := spec_l16Add.s0) (e := (l, s, v, (posN l s : Int))) (posN l s) k (fun i => (l, s, v, (i : Int))) (by unfold FU at hk; omega) hup hend
  unfold spec_l16Add.f addF
  rw [show loopN spec_l16Add.s0 k (l, s, v, 0) = _ from this, ob_some]
  have ec : (bif idxOk (posN l s : Int) (llen l) then true else dnot (ilt (posN l s : Int) (llen l))) = true := by
    simp only [ilt_len, idx_len]
    cases decide (posN l s < l.length) <;> rfl
  simp only [ec, cond_true]
  by_cases hf : findN l s < l.length
  · have e := find_pos hl hs hf
    have e1 : ieq (l[findN l s]'hf).1 s = true := firstI_yes (fun e : DSubscriberID => ieq e.1 s) l hf
    rw [if_pos hf, e]
    simp only [ilt_len, idx_len, decide_eq_true hf, cond_true, lget_nat (e := TSubscriberID) _ hf, e1, app0 hl (show 16 ≤ 16384 by omega), lcat_nil, lmod, lset_nat]
  · rw [if_neg hf]
    have e2 : (bif ilt (posN l s : Int) (llen l) then ieq (lget TSubscriberID l (posN l s : Int)).1 s else false) = false := by
      by_cases h1 : posN l s < l.length
      · simp only [ilt_len, decide_eq_true h1, cond_true, lget_nat (e := TSubscriberID) _ h1, pos_ne hf h1]
      · simp only [ilt_len, decide_eq_false h1, cond_false]
    have c1 : cutOk 0 (posN l s : Int) (llen l) = true := decide_eq_true ⟨by omega, by omega, by rw [llen_eq]; omega⟩
    have c2 : cutOk (posN l s : Int) (llen l) (llen l) = true := decide_eq_true ⟨by omega, by rw [llen_eq]; omega, by omega⟩
    have t1 : ltake l (posN l s : Int) = l.take (posN l s) := rfl
    have t2 : ldrop l (posN l s : Int) = l.drop (posN l s) := rfl
    have a1 : appOk ([] : List DSubscriberID) (l.take (posN l s)) 16 = true := app_ok (by simp; omega)
    have a2 : appOk (l.take (posN l s)) [(s, v)] 16 = true := app_ok (by simp; omega)
    have a3 : appOk (l.take (posN l s) ++ [(s, v)]) (l.drop (posN l s)) 16 = true := app_ok (by simp; omega)
    simp only [e2, cond_false, c1, c2, t1, t2, cond_true, a1, lcat_eq, List.nil_append, a2, a3]
theorem i_insLoop (hk : FU ≤ k) {l : List DSubscriberID} {s v : Int} (hl : l.length ≤ 4294967296) (j : DAccount) (hd : DQuota) : loopN impl_Reserve.s0 k ((s, v, 0), j, hd, l) = some ((s, v, (posN l s : Int)), j, hd, l) := by
  have hp := pos_le l s
  have hup : ∀ i, i < posN l s → impl_Reserve.s0 ((s, v, (i : Int)), j, hd, l) = some (.inl ((s, v, ((i + 1 : Nat) : Int)), j, hd, l)) := fun i hi => by
    have h1 : i < l.length := by omega
    simp only [impl_Reserve.s0, ilt_len, idx_len, decide_eq_true h1, cond_true, lget_nat (e := TSubscriberID) _ h1, pos_lt hi h1, iadd_nat (show i < 9223372036854775807 by omega)]
  have hend : impl_Reserve.s0 ((s, v, (posN l s : Int)), j, hd, l) = some (.inr ((s, v, (posN l s : Int)), j, hd, l)) := by
    by_cases h1 : posN l s < l.length
    · simp only [impl_Reserve.s0, ilt_len, idx_len, decide_eq_true h1, cond_true, lget_nat (e := TSubscriberID) _ h1, pos_no h1, cond_false]
    · simp only [impl_Reserve.s0, ilt_len, idx_len, decide_eq_false h1, cond_false, dnot_f, cond_true]
  exact loop_up (step := impl_Reserve.s0) (e := ((s, v, (posN l s : Int)), j, hd, l)) (posN l s) k (fun i => ((s, v, (i : Int)), j, hd, l)) (by unfold FU at hk; omega) hup hend
theorem s_rsv (hk : FU ≤ k) {a : DAccount} {s n : Int} (h : Ok TAccount a) : spec_Reserve.f k (a, s, n) = some (rsvF a s n) := by
  have hl := ok_len h.2.2.2
  unfold spec_Reserve.f rsvF refB
  simp only [s_copyAcc h, s_acc hk h, s_in, s_find hk h, s_min, ob_some, ob_pick]
  cases hA : accB a
  · rfl
  · obtain ⟨hs, _⟩ := acc_el hA
    cases ilt s 0
    · cases inB n 1 100000
      · rfl
      · cases ieq a.2.1 0
        · simp only [s_add hk hl hs, ob_some]
          by_cases hf : findN a.2.2.2 s < a.2.2.2.length
          · have e : findF a.2.2.2 s = (findN a.2.2.2 s : Int) := by unfold findF; rw [if_pos hf]
            rw [e, decide_eq_false (p := ¬ findN a.2.2.2 s < a.2.2.2.length) (not_not_intro hf)]
            cases ile 8 (llen a.2.2.2)
            · rfl
            · simp only [dnot_t, dnot_f, dand, cond_true, cond_false, Bool.true_and, ilt_nn, Bool.or_false, Bool.false_or, Bool.and_false]
          · have e : findF a.2.2.2 s = -1 := by unfold findF; rw [if_neg hf]
            rw [e, decide_eq_true hf]
            cases ile 8 (llen a.2.2.2) <;> rfl
        · rfl
    · rfl
theorem i_rsv (hk : FU ≤ k) {a : DAccount} {s n : Int} (h : Ok TAccount a) : impl_Reserve.f k (a, s, n) = some (rsvF a s n) := by
  have hl := ok_len h.2.2.2
  unfold impl_Reserve.f rsvF refB
  simp only [i_copyAcc h, i_acc hk h, i_in, i_find hk h, i_min, ob_some, ob_pick]
  cases hA : accB a
  · rfl
  · obtain ⟨hs, _⟩ := acc_el hA
    cases ilt s 0
    · cases inB n 1 100000
      · rfl
      · cases ieq a.2.1 0
        · by_cases hf : findN a.2.2.2 s < a.2.2.2.length
          · have e : findF a.2.2.2 s = (findN a.2.2.2 s : Int) := by unfold findF; rw [if_pos hf]
            have e0 : ile 0 (findN a.2.2.2 s : Int) = true := ile_t (by omega)
            rw [e, decide_eq_false (not_not_intro hf)]
            simp only [dnot_t, dnot_f, cond_true, cond_false, e0, idx_len, decide_eq_true hf, lmod, lset_nat, Bool.and_false, Bool.or_false, Bool.false_or]
            unfold addF
            rw [if_pos hf]
          · have e : findF a.2.2.2 s = -1 := by unfold findF; rw [if_neg hf]
            have e0 : ile 0 (-1) = false := rfl
            rw [e, decide_eq_true hf]
            simp only [dnot_t, dnot_f, cond_true, cond_false, e0, Bool.and_true, Bool.or_false, Bool.false_or]
            cases ile 8 (llen a.2.2.2)
            · have hp := pos_le a.2.2.2 s
              have a1 : appOk a.2.2.2 [((0 : Int), (0 : Int))] 16 = true := app_ok (by simp; omega)
              have i1 : iadd .i64 (posN a.2.2.2 s : Int) 1 = ((posN a.2.2.2 s + 1 : Nat) : Int) := iadd_nat (by omega)
              have n1 : llen (a.2.2.2 ++ [((0 : Int), (0 : Int))]) = ((a.2.2.2.length + 1 : Nat) : Int) := by rw [llen_eq]; simp
              have c1 : cutOk ((posN a.2.2.2 s + 1 : Nat) : Int) ((a.2.2.2.length + 1 : Nat) : Int) ((a.2.2.2.length + 1 : Nat) : Int) = true := decide_eq_true ⟨by omega, by omega, by omega⟩
              have c2 : cutOk (posN a.2.2.2 s : Int) ((a.2.2.2.length + 1 : Nat) : Int) ((a.2.2.2.length + 1 : Nat) : Int) = true := decide_eq_true ⟨by omega, by omega, by omega⟩
              have d1 : idiff ((a.2.2.2.length + 1 : Nat) : Int) ((posN a.2.2.2 s + 1 : Nat) : Int) = ((a.2.2.2.length - posN a.2.2.2 s : Nat) : Int) := by unfold idiff; omega
              have d2 : idiff ((a.2.2.2.length + 1 : Nat) : Int) (posN a.2.2.2 s : Int) = ((a.2.2.2.length + 1 - posN a.2.2.2 s : Nat) : Int) := by unfold idiff; omega
              have x1 : idxOk (posN a.2.2.2 s : Int) (llen ((a.2.2.2 ++ [((0 : Int), (0 : Int))]).take (posN a.2.2.2 s + 1) ++ a.2.2.2.drop (posN a.2.2.2 s))) = true := by
                rw [llen_eq, ins_len _ hp]
                exact decide_eq_true ⟨by omega, by omega⟩
              simp only [cond_false, i_insLoop hk hl, ob_some, a1, cond_true, lcat_eq, i1, n1, c1, c2, d1, d2, ins_core _ hp, x1, lset_nat, ins_set _ hp]
              unfold addF
              rw [if_neg hf]
            · rfl
        · rfl
    · rfl
theorem rsv_bd {a : DAccount} {s n : Int} (hA : accB a = true) : 0 ≤ (rsvF a s n).2 ∧ (rsvF a s n).2 ≤ 100000 := by
  obtain ⟨_, _, h1, h2⟩ := acc_el hA
  unfold rsvF
  cases hr : refB a s n
  · have hn : inB n 1 100000 = true := by
      unfold refB at hr
      cases hi : inB n 1 100000
      · rw [hi, hA] at hr
        cases hz : ilt s 0 <;> rw [hz] at hr <;> cases hr
      · rfl
    have hb := inB_t2 hn
    show 0 ≤ minF n a.2.1 ∧ minF n a.2.1 ≤ 100000
    unfold minF
    cases ilt a.2.1 n
    · exact ⟨by show 0 ≤ n; omega, hb.2⟩
    · exact ⟨h1, h2⟩
  · exact ⟨Int.le_refl _, by show (0 : Int) ≤ _; omega⟩
theorem i_rq (hk : FU ≤ k) {a : DAccount} {q : DQuota} {n : Int} (h : Ok TAccount a) : impl_RequestQuota.f k (a, q, n) = some (rqF a q n) := by
  unfold impl_RequestQuota.f rqF
  simp only [i_mat hk h, i_rsv hk h, i_copyAcc h, ob_some]
  cases matB a q
  · rfl
  · cases ilt 100000 (iadd .i64 q.2.1 (rsvF a q.1 n).2) <;> rfl
theorem s_rq (hk : FU ≤ k) {a : DAccount} {q : DQuota} {n : Int} (h : Ok TAccount a) : spec_RequestQuota.f k (a, q, n) = some (rqF a q n) := by
  unfold spec_RequestQuota.f rqF
  simp only [s_mat hk h, s_rsv hk h, s_copyAcc h, s_quotaOk, ob_some, ob_pick]
  cases hm : matB a q
  · rfl
  · unfold matB at hm
    rw [Bool.and_eq_true, Bool.and_eq_true] at hm
    obtain ⟨hA, hq, _⟩ := hm
    have hb := rsv_bd (s := q.1) (n := n) hA
    unfold quoB at hq
    rw [Bool.and_eq_true, Bool.and_eq_true] at hq
    have q1 : 0 ≤ q.1 := of_decide_eq_true hq.1.1
    have q2 := inB_t2 hq.1.2
    have q3 := inB_t2 hq.2
    generalize (rsvF a q.1 n).2 = v at hb
    have e : (ile 0 q.1 && inB (iadd .i64 q.2.1 v) 0 100000 && inB q.2.2 0 (iadd .i64 q.2.1 v)) = dnot (ilt 100000 (iadd .i64 q.2.1 v)) := by
      have q4 : (q.2.1 : Int) ≤ 100000 := q2.2
      have q5 : (0 : Int) ≤ q.2.1 := q2.1
      have q6 : (0 : Int) ≤ q.2.2 := q3.1
      have q7 : (q.2.2 : Int) ≤ q.2.1 := q3.2
      generalize (q.2.1 : Int) = y at q4 q5 q7 ⊢
      generalize (q.2.2 : Int) = z at q6 q7 ⊢
      rw [iadd_eq (by omega) (by omega)]
      unfold inB
      rw [ile_t q1, ile_t (show 0 ≤ y + v by omega), ile_t q6, ile_t (show z ≤ y + v by omega), not_ilt_ile]
      cases ile (y + v) 100000 <;> rfl
    rw [e]
    cases ilt 100000 (iadd .i64 q.2.1 v) <;> rfl
def maxF (a b : Int) : Int := if a ≤ b then b else a
theorem i_max (a b : Int) : impl_Max.f k (a, b) = some (maxF a b) := by
  unfold impl_Max.f maxF
  by_cases h : a < b
  · rw [ilt_t h, if_pos (by omega)]; rfl
  · rw [ilt_f h]
    by_cases h2 : a ≤ b
    · have : a = b := by omega
      subst this
      rw [if_pos h2]; rfl
    · rw [if_neg h2]; rfl
def needF (s : DSession) (n : Int) : Int := maxF 0 (isub .i64 (iadd .i64 (bytesFrom s.2.2.2.2.2.2.2.2.2.2.2.2.1.2 0) n) (remF s.2.2.2.2.2.2.2.2.2.2.2.2.2.2))
theorem i_need (hk : FU ≤ k) {s : DSession} {n : Int} (h : Ok TSession s) : impl_QuotaNeeded.f k (s, n) = some (needF s n) := by
  have hl := ok_len h.2.2.2.2.2.2.2.2.2.2.2.2.1.2
  unfold impl_QuotaNeeded.f impl_OutstandingBytes.f
  simp only [i_numberedBytes hk hl, i_rem, i_max, ob_some]; rfl
theorem s_need (hk : FU ≤ k) {s : DSession} {n : Int} (h : Ok TSession s) : spec_QuotaNeeded.f k (s, n) = some (needF s n) := by
  have hl := ok_len h.2.2.2.2.2.2.2.2.2.2.2.2.1.2
  unfold spec_QuotaNeeded.f spec_OutstandingBytes.f
  simp only [s_bytes hk hl, s_remaining, s_max hk, ob_some]; rfl
def ensF (s : DSession) (a : DAccount) (n : Int) : DSession × DAccount :=
  bif ile (needF s n) 0 then (s, a)
  else ((s.1, s.2.1, s.2.2.1, s.2.2.2.1, s.2.2.2.2.1, s.2.2.2.2.2.1, s.2.2.2.2.2.2.1, s.2.2.2.2.2.2.2.1, s.2.2.2.2.2.2.2.2.1, s.2.2.2.2.2.2.2.2.2.1, s.2.2.2.2.2.2.2.2.2.2.1, s.2.2.2.2.2.2.2.2.2.2.2.1, s.2.2.2.2.2.2.2.2.2.2.2.2.1, s.2.2.2.2.2.2.2.2.2.2.2.2.2.1, (rqF a s.2.2.2.2.2.2.2.2.2.2.2.2.2.2 (maxF (needF s n) s.2.1.2.2.1)).2), (rqF a s.2.2.2.2.2.2.2.2.2.2.2.2.2.2 (maxF (needF s n) s.2.1.2.2.1)).1)
theorem i_ens (hk : FU ≤ k) {s : DSession} {a : DAccount} {n : Int} (h : Ok TSession s) (ha : Ok TAccount a) : impl_EnsureQuota.f k (s, a, n) = some (ensF s a n) := by
  unfold impl_EnsureQuota.f ensF
  simp only [i_copySession hk h, i_need hk h, i_copyAcc ha, i_max, i_rq hk ha, ob_some]
  cases ile (needF s n) 0 <;> rfl
theorem s_ens (hk : FU ≤ k) {s : DSession} {a : DAccount} {n : Int} (h : Ok TSession s) (ha : Ok TAccount a) : spec_EnsureQuota.f k (s, a, n) = some (ensF s a n) := by
  unfold spec_EnsureQuota.f ensF
  simp only [s_copySession hk h, s_need hk h, s_copyAcc ha, s_max hk, s_rq hk ha, ob_some]
  cases ile (needF s n) 0 <;> rfl
theorem ok_min {a b : Int} (ha : Ok (.int .i64) a) (hb : Ok (.int .i64) b) : Ok (.int .i64) (minF a b) := by
  unfold minF
  cases ilt b a
  · exact ha
  · exact hb
theorem ok_max {a b : Int} (ha : Ok (.int .i64) a) (hb : Ok (.int .i64) b) : Ok (.int .i64) (maxF a b) := by
  unfold maxF
  split
  · exact hb
  · exact ha
theorem ok_addF {l : List DSubscriberID} {s v : Int} (h : Ok (.sl TSubscriberID) l) (hs : Ok (.int .i64) s) (hv : Ok (.int .i64) v) (h8 : l.length ≤ 8) : Ok (.sl TSubscriberID) (addF l s v) ∧ (addF l s v).length ≤ l.length + 1 := by
  unfold addF
  by_cases hf : findN l s < l.length
  · rw [if_pos hf]
    refine ⟨⟨by rw [List.length_set]; exact h.1, fun x hx => ?_⟩, by rw [List.length_set]; omega⟩
    rcases List.mem_or_eq_of_mem_set hx with hm | rfl
    · exact h.2 _ hm
    · have : Ok TSubscriberID (lget TSubscriberID l (findN l s : Int)) := by
        rw [lget_nat (e := TSubscriberID) _ hf]; exact h.2 _ (List.getElem_mem hf)
      exact ⟨this.1, ok_add _ _⟩
  · rw [if_neg hf]
    have hp := pos_le l s
    have hlen : (l.take (posN l s) ++ [(s, v)] ++ l.drop (posN l s)).length = l.length + 1 := by simp; omega
    refine ⟨⟨by rw [hlen]; omega, fun x hx => ?_⟩, by rw [hlen]; exact Nat.le_refl _⟩
    rcases List.mem_append.1 hx with hx | hx
    · rcases List.mem_append.1 hx with hx | hx
      · exact h.2 _ (List.mem_of_mem_take hx)
      · rw [List.mem_singleton.1 hx]; exact ⟨hs, hv⟩
    · exact h.2 _ (List.mem_of_mem_drop hx)
theorem ok_rsv {a : DAccount} {s n : Int} (h : Ok TAccount a) (hs : Ok (.int .i64) s) (hn : Ok (.int .i64) n) : Ok TAccount (rsvF a s n).1 ∧ (rsvF a s n).1.2.2.2.length ≤ a.2.2.2.length + 1 := by
  unfold rsvF
  cases hr : refB a s n
  · have hA : accB a = true := by
      unfold refB at hr
      cases hA : accB a
      · rw [hA] at hr; cases hr
      · rfl
    have hm := ok_min hn h.2.1
    obtain ⟨h1, h2⟩ := ok_addF h.2.2.2 hs hm (acc_el hA).2.1
    exact ⟨⟨h.1, ok_sub _ _, h.2.2.1, h1⟩, h2⟩
  · exact ⟨h, Nat.le_succ _⟩
theorem ok_rq {a : DAccount} {q : DQuota} {n : Int} (h : Ok TAccount a) (hq : Ok TQuota q) (hn : Ok (.int .i64) n) : Ok TAccount (rqF a q n).1 ∧ Ok TQuota (rqF a q n).2 ∧ (rqF a q n).1.2.2.2.length ≤ a.2.2.2.length + 1 := by
  obtain ⟨h1, h2⟩ := ok_rsv h hq.1 hn
  unfold rqF
  cases matB a q
  · exact ⟨h, hq, Nat.le_succ _⟩
  · cases ilt 100000 (iadd .i64 q.2.1 (rsvF a q.1 n).2)
    · exact ⟨h1, ⟨hq.1, ok_add _ _, hq.2.2⟩, h2⟩
    · exact ⟨h, hq, Nat.le_succ _⟩
theorem cnt_acc (a : DAccount) : cnt TAccount a = a.2.2.2.length := by
  show 0 + (0 + (0 + (a.2.2.2.length + (a.2.2.2.map fun _ => 0).sum))) = _
  rw [sum_zero]; omega
theorem ok_z2 : Ok (.int .i64) (0 : Int) := okn (by omega)
theorem ok_need (s : DSession) (n : Int) : Ok (.int .i64) (needF s n) := ok_max ok_z2 (ok_sub _ _)
theorem ok_ens {s : DSession} {a : DAccount} {n : Int} (h : Ok TSession s) (ha : Ok TAccount a) : Ok TSession (ensF s a n).1 ∧ Ok TAccount (ensF s a n).2 ∧ cnt TSession (ensF s a n).1 = cnt TSession s ∧ cnt TAccount (ensF s a n).2 ≤ cnt TAccount a + 1 := by
  obtain ⟨h1, h2, h3⟩ := ok_rq (n := maxF (needF s n) s.2.1.2.2.1) ha h.2.2.2.2.2.2.2.2.2.2.2.2.2.2 (ok_max (ok_need s n) h.2.1.2.2.1)
  unfold ensF
  cases ile (needF s n) 0
  · refine ⟨⟨h.1, h.2.1, h.2.2.1, h.2.2.2.1, h.2.2.2.2.1, h.2.2.2.2.2.1, h.2.2.2.2.2.2.1, h.2.2.2.2.2.2.2.1, h.2.2.2.2.2.2.2.2.1, h.2.2.2.2.2.2.2.2.2.1, h.2.2.2.2.2.2.2.2.2.2.1, h.2.2.2.2.2.2.2.2.2.2.2.1, h.2.2.2.2.2.2.2.2.2.2.2.2.1, h.2.2.2.2.2.2.2.2.2.2.2.2.2.1, h2⟩, h1, rfl, ?_⟩
    rw [cnt_acc, cnt_acc]; exact h3
  · exact ⟨h, ha, rfl, Nat.le_succ _⟩
theorem both_EnsureQuota (hk : FU ≤ k) {x : (.pair TSession (.pair TAccount (.int .i64)) : Ty).den} (h : Ok (.pair TSession (.pair TAccount (.int .i64))) x) (hn : cnt (.pair TSession (.pair TAccount (.int .i64))) x ≤ 1048576) :
    ∃ r, spec_EnsureQuota.f k x = some r ∧ impl_EnsureQuota.f k x = some r ∧ Ok (.pair TSession TAccount) r ∧ cnt (.pair TSession TAccount) r ≤ 67108864 := by
  obtain ⟨s, a, n⟩ := x
  obtain ⟨h1, h2, h3⟩ := h
  obtain ⟨o1, o2, o3, o4⟩ := ok_ens (n := n) h1 h2
  have hc : cnt TSession s + (cnt TAccount a + 0) ≤ 1048576 := hn
  refine ⟨ensF s a n, s_ens hk h1 h2, i_ens hk h1 h2, ⟨o1, o2⟩, ?_⟩
  have hf : cnt TSession s + (cnt TAccount a + 1) ≤ 67108864 := by omega
  exact Nat.le_trans (Nat.add_le_add (Nat.le_of_eq o3) o4) hf
end
end Go.Proofs.XF
/- Plain laws: sending new packets. -/
set_option linter.unusedVariables false
set_option linter.unusedSimpArgs false
set_option linter.unusedSectionVars false
set_option maxRecDepth 8000
namespace Go.Proofs.XF
open Go Go.Proofs.XTv
def winF (W : DSendWindow) (p : List Int) : DSendWindow := (iadd .i64 W.1 1, W.2 ++ [(W.1, p)])
def withW (S : DSession) (W : DSendWindow) : DSession := (S.1, S.2.1, S.2.2.1, S.2.2.2.1, S.2.2.2.2.1, S.2.2.2.2.2.1, S.2.2.2.2.2.2.1, S.2.2.2.2.2.2.2.1, S.2.2.2.2.2.2.2.2.1, S.2.2.2.2.2.2.2.2.2.1, S.2.2.2.2.2.2.2.2.2.2.1, S.2.2.2.2.2.2.2.2.2.2.2.1, W, S.2.2.2.2.2.2.2.2.2.2.2.2.2)
theorem peta {α β : Type} (p : α × β) : (p.1, p.2) = p := rfl
theorem cnt_snoc {e : Ty} (l : List e.den) (x : e.den) : cnt (.sl e) (l ++ [x]) = cnt (.sl e) l + 1 + cnt e x := by
  show (l ++ [x]).length + ((l ++ [x]).map (cnt e)).sum = l.length + (l.map (cnt e)).sum + 1 + cnt e x
  rw [List.length_append, List.map_append, List.sum_append, List.map_cons, List.map_nil, List.sum_cons, List.sum_nil, List.length_singleton]
  omega
theorem cnt_withW (S : DSession) (W : DSendWindow) : cnt TSession (withW S W) + cnt TSendWindow S.2.2.2.2.2.2.2.2.2.2.2.2.1 = cnt TSession S + cnt TSendWindow W := by
  simp only [cnt, withW]; omega
theorem cnt_winF (W : DSendWindow) (p : List Int) : cnt TSendWindow (winF W p) = cnt TSendWindow W + 1 + p.length := by
  have h1 : cnt TSendWindow (winF W p) = 0 + cnt (.sl TNumberedPacket) (W.2 ++ [(W.1, p)]) := rfl
  have h2 : cnt TSendWindow W = 0 + cnt (.sl TNumberedPacket) W.2 := rfl
  have h3 : cnt TNumberedPacket (W.1, p) = 0 + cnt (.sl (.int .u8)) p := rfl
  have h4 := cnt_snoc (e := TNumberedPacket) W.2 (W.1, p)
  rw [cnt_u8] at h3
  omega
def sHdr (S : DSession) (A : DAccount) := (S.1, S.2.1.1, S.2.1.2.1, S.2.1.2.2.1, S.2.2.1, S.2.2.2.1, S.2.2.2.2.1, S.2.2.2.2.2.1, S.2.2.2.2.2.2.1, S.2.2.2.2.2.2.2.1, S.2.2.2.2.2.2.2.2.1, S.2.2.2.2.2.2.2.2.2.1, S.2.2.2.2.2.2.2.2.2.2.1, S.2.2.2.2.2.2.2.2.2.2.2.2.1.1, S.2.2.2.2.2.2.2.2.2.2.2.2.2, A.1, A.2.1, A.2.2.1)
def sOut (S : DSession) (A : DAccount) (g : List DSignal) (r : List DRadioPacket) := (sHdr S A, S.2.1.2.2.2, S.2.2.2.2.2.2.2.2.2.2.2.1, S.2.2.2.2.2.2.2.2.2.2.2.2.1.2, A.2.2.2, g, r)
def sSt (i : Int) (X : DSession) (J : DTransmission) (S : DSession) (A : DAccount) (g : List DSignal) (r : List DRadioPacket) := (i, X, J, sOut S A g r)
section
variable {k : Nat} (hk : FU ≤ k)
theorem s_sendP (hk : FU ≤ k) {W : DSendWindow} {p : List Int} (h : Ok TSendWindow W) (hp : Ok (.sl (.int .u8)) p) (h8 : W.2.length ≤ 8) : spec_SendPacket.f k (W, p) = some (bif sndB (winF W p) then (winF W p, (W.1, p), true) else (W, (0, []), false)) := by
  have hw : Ok TSendWindow (winF W p) := ⟨ok_add _ _, ok_app h.2 (ok_one ⟨h.1, hp⟩) (by simp; omega)⟩
  have hpl : appOk ([] : List Int) p 1 = true := app0 (ok_len hp) (show 1 ≤ 16384 by omega)
  have ha : appOk W.2 [(W.1, p)] 32 = true := app_ok (by simp; omega)
  have hs := s_snd hk hw
  unfold winF at hs
  unfold spec_SendPacket.f
  simp only [s_sender hk h, ob_some, hpl, cond_true, lcat_nil, ha, lcat_eq, List.nil_append, hs]
  rw [show sndB (winF W p) = sndB (iadd .i64 W.1 1, W.2 ++ [(W.1, p)]) from rfl]
  cases sndB (iadd .i64 W.1 1, W.2 ++ [(W.1, p)]) <;> rfl
theorem i_sendP (hk : FU ≤ k) {W : DSendWindow} {p : List Int} (h : Ok TSendWindow W) (hp : Ok (.sl (.int .u8)) p) (h8 : W.2.length ≤ 8) : impl_SendPacket.f k (W, p) = some (bif sndB (winF W p) then (winF W p, (W.1, p), true) else (W, (0, []), false)) := by
  have hw : Ok TSendWindow (winF W p) := ⟨ok_add _ _, ok_app h.2 (ok_one ⟨h.1, hp⟩) (by simp; omega)⟩
  have ha : appOk W.2 [(W.1, p)] 32 = true := app_ok (by simp; omega)
  have hs := i_snd hk hw
  unfold winF at hs
  unfold impl_SendPacket.f
  simp only [i_copySender hk h, i_copyBytes hk (ok_len hp), ob_some, cond_true, ha, lcat_eq, hs]
  rw [show sndB (winF W p) = sndB (iadd .i64 W.1 1, W.2 ++ [(W.1, p)]) from rfl]
  cases sndB (iadd .i64 W.1 1, W.2 ++ [(W.1, p)]) <;> rfl
def payN (X S : DSession) : List Int := lget (.sl (.int .u8)) X.2.2.2.2.2.2.2.2.2.2.2.1 (isub .i64 S.2.2.2.2.2.2.2.2.2.2.2.2.1.1 1)
def goB (X S : DSession) : Bool := dnot (ilt (llen X.2.2.2.2.2.2.2.2.2.2.2.1) S.2.2.2.2.2.2.2.2.2.2.2.2.1.1) && dnot (ile 8 (llen S.2.2.2.2.2.2.2.2.2.2.2.2.1.2))
def stopB (S : DSession) (p : List Int) : Bool := ilt 0 (needF S (llen p)) || dnot (sndB (winF S.2.2.2.2.2.2.2.2.2.2.2.2.1 p))
def Inv (X S : DSession) : Prop := Ok TSession S ∧ 1 ≤ S.2.2.2.2.2.2.2.2.2.2.2.2.1.1 ∧ S.2.2.2.2.2.2.2.2.2.2.2.2.1.1 ≤ 100000 ∧ S.2.2.2.2.2.2.2.2.2.2.2.1 = X.2.2.2.2.2.2.2.2.2.2.2.1 ∧ S.2.2.2.2.2.2.1 = X.2.2.2.2.2.2.1 ∧ S.2.2.2.2.2.1 = X.2.2.2.2.2.1 ∧ S.2.2.2.2.2.2.2.1 = X.2.2.2.2.2.2.2.1
theorem ens_parts (S : DSession) (A : DAccount) (n : Int) : (ensF S A n).1.2.2.2.2.2.2.2.2.2.2.2.2.1 = S.2.2.2.2.2.2.2.2.2.2.2.2.1 ∧ (ensF S A n).1.2.2.2.2.2.2.2.2.2.2.2.1 = S.2.2.2.2.2.2.2.2.2.2.2.1 ∧ (ensF S A n).1.2.2.2.2.2.2.1 = S.2.2.2.2.2.2.1 ∧ (ensF S A n).1.2.2.2.2.2.1 = S.2.2.2.2.2.1 ∧ (ensF S A n).1.2.2.2.2.2.2.2.1 = S.2.2.2.2.2.2.2.1 := by
  unfold ensF
  cases ile (needF S n) 0 <;> exact ⟨rfl, rfl, rfl, rfl, rfl⟩
theorem inv_ens {X S : DSession} {A : DAccount} (h : Inv X S) (ha : Ok TAccount A) (n : Int) : Inv X (ensF S A n).1 := by
  obtain ⟨h1, h2, h3, h4, h5, h6, h7⟩ := h
  obtain ⟨e1, e2, e3, e4, e5⟩ := ens_parts S A n
  obtain ⟨o1, _⟩ := ok_ens (n := n) h1 ha
  exact ⟨o1, by rw [e1]; exact h2, by rw [e1]; exact h3, by rw [e2]; exact h4, by rw [e3]; exact h5, by rw [e4]; exact h6, by rw [e5]; exact h7⟩
theorem go_idx {X S : DSession} (h : Inv X S) (hX : Ok TSession X) (hg : goB X S = true) : idxOk (isub .i64 S.2.2.2.2.2.2.2.2.2.2.2.2.1.1 1) (llen X.2.2.2.2.2.2.2.2.2.2.2.1) = true ∧ S.2.2.2.2.2.2.2.2.2.2.2.2.1.2.length < 8 := by
  obtain ⟨h1, h2, h3, _⟩ := h
  unfold goB at hg
  rw [Bool.and_eq_true, not_ilt_ile] at hg
  obtain ⟨g1, g2⟩ := hg
  have g1' : S.2.2.2.2.2.2.2.2.2.2.2.2.1.1 ≤ llen X.2.2.2.2.2.2.2.2.2.2.2.1 := of_decide_eq_true g1
  have g3 : ¬ (8 : Int) ≤ (S.2.2.2.2.2.2.2.2.2.2.2.2.1.2.length : Int) := fun hc => by
    rw [llen_eq, ile_t hc] at g2; cases g2
  generalize S.2.2.2.2.2.2.2.2.2.2.2.2.1 = W at *
  refine ⟨?_, by omega⟩
  rw [isub_eq (by omega) (by omega)]
  exact decide_eq_true ⟨by omega, by omega⟩
theorem pay_ok {X S : DSession} (hX : Ok TSession X) (hi : idxOk (isub .i64 S.2.2.2.2.2.2.2.2.2.2.2.2.1.1 1) (llen X.2.2.2.2.2.2.2.2.2.2.2.1) = true) : Ok (.sl (.int .u8)) (payN X S) :=
  lget_ok (e := .sl (.int .u8)) hX.2.2.2.2.2.2.2.2.2.2.2.1 hi
theorem inv_win {X S : DSession} (h : Inv X S) {p : List Int} (hp : Ok (.sl (.int .u8)) p) (h8 : S.2.2.2.2.2.2.2.2.2.2.2.2.1.2.length < 8) (hs : sndB (winF S.2.2.2.2.2.2.2.2.2.2.2.2.1 p) = true) : Inv X (withW S (winF S.2.2.2.2.2.2.2.2.2.2.2.2.1 p)) := by
  obtain ⟨h1, h2, h3, h4, h5, h6, h7⟩ := h
  have hS : Ok TSendWindow S.2.2.2.2.2.2.2.2.2.2.2.2.1 := h1.2.2.2.2.2.2.2.2.2.2.2.2.1
  have hw : Ok TSendWindow (winF S.2.2.2.2.2.2.2.2.2.2.2.2.1 p) := ⟨ok_add _ _, ok_app hS.2 (ok_one ⟨hS.1, hp⟩) (by simp; omega)⟩
  obtain ⟨b1, _⟩ := of_decide_eq_true hs
  have b2 := inB_t2 b1
  exact ⟨⟨h1.1, h1.2.1, h1.2.2.1, h1.2.2.2.1, h1.2.2.2.2.1, h1.2.2.2.2.2.1, h1.2.2.2.2.2.2.1, h1.2.2.2.2.2.2.2.1, h1.2.2.2.2.2.2.2.2.1, h1.2.2.2.2.2.2.2.2.2.1, h1.2.2.2.2.2.2.2.2.2.2.1, h1.2.2.2.2.2.2.2.2.2.2.2.1, hw, h1.2.2.2.2.2.2.2.2.2.2.2.2.2⟩, b2.1, b2.2, h4, h5, h6, h7⟩
def stepF (X S : DSession) (A : DAccount) (g : List DSignal) (r : List DRadioPacket) : DSession × DAccount × List DRadioPacket :=
  (withW (ensF S A (llen (payN X S))).1 (winF (ensF S A (llen (payN X S))).1.2.2.2.2.2.2.2.2.2.2.2.2.1 (payN X S)), (ensF S A (llen (payN X S))).2, r ++ [sealS X ((ensF S A (llen (payN X S))).1.2.2.2.2.2.2.2.2.2.2.2.2.1.1, payN X S)])
theorem s_step (hk : FU ≤ k) {X S : DSession} {A : DAccount} {g : List DSignal} {r : List DRadioPacket} (J : DTransmission) {i : Nat} (hX : Ok TSession X) (h : Inv X S) (ha : Ok TAccount A) (hi : i < 2) (hr : r.length ≤ 2) :
    spec_SendNew.s0 k (sSt i X J S A g r) = some (bif goB X S then (bif stopB (ensF S A (llen (payN X S))).1 (payN X S) then .inr (.inr (sOut (ensF S A (llen (payN X S))).1 (ensF S A (llen (payN X S))).2 g r)) else .inl (sSt ((i + 1 : Nat) : Int) X J (stepF X S A g r).1 (stepF X S A g r).2.1 g (stepF X S A g r).2.2)) else .inr (.inl (J, sOut S A g r))) := by
  have c1 : ilt (i : Int) 2 = true := ilt_t (by omega)
  have c2 : (bif ile S.2.2.2.2.2.2.2.2.2.2.2.2.1.1 (llen X.2.2.2.2.2.2.2.2.2.2.2.1) then ilt (llen S.2.2.2.2.2.2.2.2.2.2.2.2.1.2) 8 else false) = goB X S := by
    unfold goB
    rw [not_ilt_ile, ← not_ilt_ile (llen S.2.2.2.2.2.2.2.2.2.2.2.2.1.2) 8]
    cases ile S.2.2.2.2.2.2.2.2.2.2.2.2.1.1 (llen X.2.2.2.2.2.2.2.2.2.2.2.1) <;> cases ilt (llen S.2.2.2.2.2.2.2.2.2.2.2.2.1.2) 8 <;> rfl
  cases hg : goB X S
  · simp only [spec_SendNew.s0, sSt, sOut, sHdr, c1, c2, hg, cond_false, cond_true]
  · obtain ⟨x1, x2⟩ := go_idx h hX hg
    have hp := pay_ok hX x1
    have hS1 := inv_ens h ha (llen (payN X S))
    have hpn : payN X S = lget (.sl (.int .u8)) X.2.2.2.2.2.2.2.2.2.2.2.1 (isub .i64 S.2.2.2.2.2.2.2.2.2.2.2.2.1.1 1) := rfl
    have he := s_ens hk (n := llen (payN X S)) h.1 ha
    obtain ⟨ew, _⟩ := ens_parts S A (llen (payN X S))
    have hn := s_need hk (n := llen (payN X S)) hS1.1
    have hsd := s_sendP hk (p := payN X S) hS1.1.2.2.2.2.2.2.2.2.2.2.2.2.1 hp (by rw [ew]; omega)
    have hse := s_sealS hk (s := X) (p := ((ensF S A (llen (payN X S))).1.2.2.2.2.2.2.2.2.2.2.2.2.1.1, payN X S)) ⟨hS1.1.2.2.2.2.2.2.2.2.2.2.2.2.1.1, hp⟩
    have hap : ∀ v : DRadioPacket, appOk r [v] 64 = true := fun v => app_ok (by simp; omega)
    unfold stepF stopB
    generalize ensF S A (llen (payN X S)) = E at *
    generalize payN X S = P at *
    simp only [spec_SendNew.s0, sSt, sOut, sHdr, c1, c2, hg, cond_true, x1, ← hpn, peta, he, hn, ob_some]
    cases hz : ilt 0 (needF E.1 (llen P))
    · simp only [hz, cond_false, hsd, ob_some, Bool.false_or]
      cases hq : sndB (winF E.1.2.2.2.2.2.2.2.2.2.2.2.2.1 P)
      · simp only [hq, dnot_f, cond_true, cond_false]
      · simp only [hq, dnot_t, cond_true, cond_false, hse, ob_some, hap, lcat_eq, iadd_nat (show i < 9223372036854775807 by omega)]
        rfl
    · simp only [hz, cond_true, Bool.true_or]
abbrev HDR : Type := DUSIM × Int × Int × Int × Int × DAuthVector × Int × Int × Int × Int × Int × Int × DQuota × Int × DAuthResponse × DQuota
def iOut (j : HDR) (S : DSession) (A : DAccount) (g : List DSignal) (r : List DRadioPacket) := (j, sHdr S A, ([] : List Int), ([] : List (List Int)), ([] : List DNumberedPacket), ([] : List DSubscriberID), ([] : List DSignal), ([] : List DRadioPacket), S.2.1.2.2.2, S.2.2.2.2.2.2.2.2.2.2.2.1, S.2.2.2.2.2.2.2.2.2.2.2.2.1.2, A.2.2.2, g, r)
def iSt (i : Int) (j : HDR) (S : DSession) (A : DAccount) (g : List DSignal) (r : List DRadioPacket) := (i, iOut j S A g r)
theorem i_step (hk : FU ≤ k) {X S : DSession} {A : DAccount} {g : List DSignal} {r : List DRadioPacket} (j : HDR) {i : Nat} (hX : Ok TSession X) (h : Inv X S) (ha : Ok TAccount A) (hi : i < 2) (hr : r.length ≤ 2) :
    impl_SendNew.s0 k (iSt i j S A g r) = some (bif goB X S then (bif stopB (ensF S A (llen (payN X S))).1 (payN X S) then .inr (iOut j (ensF S A (llen (payN X S))).1 (ensF S A (llen (payN X S))).2 g r) else .inl (iSt ((i + 1 : Nat) : Int) j (stepF X S A g r).1 (stepF X S A g r).2.1 g (stepF X S A g r).2.2)) else .inr (iOut j S A g r)) := by
  have c1 : ilt (i : Int) 2 = true := ilt_t (by omega)
  have hpp : S.2.2.2.2.2.2.2.2.2.2.2.1 = X.2.2.2.2.2.2.2.2.2.2.2.1 := h.2.2.2.1
  have c2 : (bif ilt (llen S.2.2.2.2.2.2.2.2.2.2.2.1) S.2.2.2.2.2.2.2.2.2.2.2.2.1.1 then true else ile 8 (llen S.2.2.2.2.2.2.2.2.2.2.2.2.1.2)) = dnot (goB X S) := by
    unfold goB
    rw [hpp]
    cases ilt (llen X.2.2.2.2.2.2.2.2.2.2.2.1) S.2.2.2.2.2.2.2.2.2.2.2.2.1.1 <;> cases ile 8 (llen S.2.2.2.2.2.2.2.2.2.2.2.2.1.2) <;> rfl
  cases hg : goB X S
  · simp only [impl_SendNew.s0, iSt, iOut, sHdr, c1, c2, hg, dnot_f, cond_false, cond_true]
  · obtain ⟨x1, x2⟩ := go_idx h hX hg
    have hp := pay_ok hX x1
    have hS1 := inv_ens h ha (llen (payN X S))
    have hpn : payN X S = lget (.sl (.int .u8)) S.2.2.2.2.2.2.2.2.2.2.2.1 (isub .i64 S.2.2.2.2.2.2.2.2.2.2.2.2.1.1 1) := by rw [hpp]; rfl
    have he := i_ens hk (n := llen (payN X S)) h.1 ha
    obtain ⟨ew, ep, _⟩ := ens_parts S A (llen (payN X S))
    have hn := i_need hk (n := llen (payN X S)) hS1.1
    have hsd := i_sendP hk (p := payN X S) hS1.1.2.2.2.2.2.2.2.2.2.2.2.2.1 hp (by rw [ew]; omega)
    have hse : impl_SealRadio.f k ((ensF S A (llen (payN X S))).1.2.2.2.2.2.2.1, (ensF S A (llen (payN X S))).1.2.2.2.2.2.1, (ensF S A (llen (payN X S))).1.2.2.2.2.2.2.2.1, (ensF S A (llen (payN X S))).1.2.2.2.2.2.2.2.2.2.2.2.2.1.1, payN X S) = some (sealS X ((ensF S A (llen (payN X S))).1.2.2.2.2.2.2.2.2.2.2.2.2.1.1, payN X S)) := by
      obtain ⟨_, _, _, _, k5, k6, k7⟩ := hS1
      rw [k5, k6, k7]
      exact i_seal hk (p := ((ensF S A (llen (payN X S))).1.2.2.2.2.2.2.2.2.2.2.2.2.1.1, payN X S)) ⟨(inv_ens h ha (llen (payN X S))).1.2.2.2.2.2.2.2.2.2.2.2.2.1.1, hp⟩
    have hap : ∀ v : DRadioPacket, appOk r [v] 64 = true := fun v => app_ok (by simp; omega)
    rw [← hpp] at x1
    unfold stepF stopB
    generalize ensF S A (llen (payN X S)) = E at *
    generalize payN X S = P at *
    simp only [impl_SendNew.s0, iSt, iOut, sHdr, c1, c2, hg, dnot_t, cond_true, cond_false, x1, ← hpn, peta, he, hn, ob_some]
    cases hz : ilt 0 (needF E.1 (llen P))
    · simp only [hz, cond_false, hsd, ob_some, Bool.false_or]
      cases hq : sndB (winF E.1.2.2.2.2.2.2.2.2.2.2.2.2.1 P)
      · simp only [hq, dnot_f, cond_true, cond_false]
      · simp only [hq, dnot_t, cond_true, cond_false, hse, ob_some, hap, lcat_eq, iadd_nat (show i < 9223372036854775807 by omega)]
        rfl
    · simp only [hz, cond_true, Bool.true_or]
def sendN (X : DSession) : Nat → DSession → DAccount → List DRadioPacket → DSession × DAccount × List DRadioPacket
  | 0, S, A, r => (S, A, r)
  | m + 1, S, A, r => bif goB X S then (bif stopB (ensF S A (llen (payN X S))).1 (payN X S) then ((ensF S A (llen (payN X S))).1, (ensF S A (llen (payN X S))).2, r) else sendN X m (stepF X S A [] r).1 (stepF X S A [] r).2.1 (stepF X S A [] r).2.2) else (S, A, r)
theorem inv_step {X S : DSession} {A : DAccount} {r : List DRadioPacket} (hX : Ok TSession X) (h : Inv X S) (ha : Ok TAccount A) (hg : goB X S = true) (hs : stopB (ensF S A (llen (payN X S))).1 (payN X S) = false) : Inv X (stepF X S A [] r).1 ∧ Ok TAccount (stepF X S A [] r).2.1 := by
  obtain ⟨x1, x2⟩ := go_idx h hX hg
  have hp := pay_ok hX x1
  have hS1 := inv_ens h ha (llen (payN X S))
  obtain ⟨ew, _⟩ := ens_parts S A (llen (payN X S))
  obtain ⟨_, o2, _⟩ := ok_ens (n := llen (payN X S)) h.1 ha
  refine ⟨inv_win hS1 hp (by rw [ew]; exact x2) ?_, o2⟩
  unfold stopB at hs
  cases hq : sndB (winF (ensF S A (llen (payN X S))).1.2.2.2.2.2.2.2.2.2.2.2.2.1 (payN X S))
  · rw [hq] at hs
    cases ilt 0 (needF (ensF S A (llen (payN X S))).1 (llen (payN X S))) <;> rw [Bool.or_comm] at hs <;> cases hs
  · rfl
theorem s_run (hk : FU ≤ k) {X : DSession} (hX : Ok TSession X) (J : DTransmission) : ∀ (m i N : Nat) (S : DSession) (A : DAccount) (r : List DRadioPacket), i + m = 2 → m < N → Inv X S → Ok TAccount A → r.length ≤ i →
    ∃ v, loopN (spec_SendNew.s0 k) N (sSt i X J S A [] r) = some v ∧ (v = .inl (J, sOut (sendN X m S A r).1 (sendN X m S A r).2.1 [] (sendN X m S A r).2.2) ∨ v = .inr (sOut (sendN X m S A r).1 (sendN X m S A r).2.1 [] (sendN X m S A r).2.2)) := by
  intro m
  induction m with
  | zero =>
    intro i N S A r hi hN h ha hr
    have e : i = 2 := by omega
    subst e
    cases N with
    | zero => omega
    | succ N => exact ⟨_, rfl, Or.inl rfl⟩
  | succ m ih =>
    intro i N S A r hi hN h ha hr
    cases N with
    | zero => omega
    | succ N =>
      have hst := s_step hk (g := []) J hX h ha (i := i) (by omega) (show r.length ≤ 2 by omega)
      rw [loopN, hst, ob_some]
      rw [show sendN X (m + 1) S A r = (bif goB X S then (bif stopB (ensF S A (llen (payN X S))).1 (payN X S) then ((ensF S A (llen (payN X S))).1, (ensF S A (llen (payN X S))).2, r) else sendN X m (stepF X S A [] r).1 (stepF X S A [] r).2.1 (stepF X S A [] r).2.2) else (S, A, r)) from rfl]
      cases hg : goB X S
      · exact ⟨_, rfl, Or.inl rfl⟩
      · cases hs : stopB (ensF S A (llen (payN X S))).1 (payN X S)
        · obtain ⟨i1, i2⟩ := inv_step (r := r) hX h ha hg hs
          obtain ⟨v, h1, h2⟩ := ih (i + 1) N (stepF X S A [] r).1 (stepF X S A [] r).2.1 (stepF X S A [] r).2.2 (by omega) (by omega) i1 i2 (by show (r ++ [_]).length ≤ _; rw [List.length_append]; show r.length + 1 ≤ _; omega)
          exact ⟨v, h1, h2⟩
        · exact ⟨_, rfl, Or.inr rfl⟩
theorem i_run (hk : FU ≤ k) {X : DSession} (hX : Ok TSession X) (j : HDR) : ∀ (m i N : Nat) (S : DSession) (A : DAccount) (r : List DRadioPacket), i + m = 2 → m < N → Inv X S → Ok TAccount A → r.length ≤ i →
    loopN (impl_SendNew.s0 k) N (iSt i j S A [] r) = some (iOut j (sendN X m S A r).1 (sendN X m S A r).2.1 [] (sendN X m S A r).2.2) := by
  intro m
  induction m with
  | zero =>
    intro i N S A r hi hN h ha hr
    have e : i = 2 := by omega
    subst e
    cases N with
    | zero => omega
    | succ N => rfl
  | succ m ih =>
    intro i N S A r hi hN h ha hr
    cases N with
    | zero => omega
    | succ N =>
      have hst := i_step hk (g := []) j hX h ha (i := i) (by omega) (show r.length ≤ 2 by omega)
      rw [loopN, hst, ob_some]
      rw [show sendN X (m + 1) S A r = (bif goB X S then (bif stopB (ensF S A (llen (payN X S))).1 (payN X S) then ((ensF S A (llen (payN X S))).1, (ensF S A (llen (payN X S))).2, r) else sendN X m (stepF X S A [] r).1 (stepF X S A [] r).2.1 (stepF X S A [] r).2.2) else (S, A, r)) from rfl]
      cases hg : goB X S
      · rfl
      · cases hs : stopB (ensF S A (llen (payN X S))).1 (payN X S)
        · obtain ⟨i1, i2⟩ := inv_step (r := r) hX h ha hg hs
          exact ih (i + 1) N (stepF X S A [] r).1 (stepF X S A [] r).2.1 (stepF X S A [] r).2.2 (by omega) (by omega) i1 i2 (by show (r ++ [_]).length ≤ _; rw [List.length_append]; show r.length + 1 ≤ _; omega)
        · rfl
theorem lget_mem {e : Ty} {l : List e.den} {i : Int} (h : idxOk i (llen l) = true) : lget e l i ∈ l := by
  obtain ⟨h0, h1⟩ := of_decide_eq_true h
  have e1 : i = (i.toNat : Int) := by omega
  have h2 : i.toNat < l.length := by
    have : i < (l.length : Int) := h1
    omega
  rw [e1, lget_nat _ h2]
  exact List.getElem_mem h2
theorem cnt_sealS (X : DSession) (w : Int) (p : List Int) : cnt TRadioPacket (sealS X (w, p)) = p.length := cnt_seal _ _ _ _
theorem cnt_sealR (r : List DRadioPacket) (X : DSession) (w : Int) (p : List Int) : cnt (.sl TRadioPacket) (r ++ [sealS X (w, p)]) = cnt (.sl TRadioPacket) r + 1 + p.length := by
  have h1 := cnt_snoc (e := TRadioPacket) r (sealS X (w, p))
  have h2 := cnt_sealS X w p
  omega
theorem ok_sealS {X : DSession} (hX : Ok TSession X) {w : Int} {p : List Int} (hw : Ok (.int .i64) w) (hp : Ok (.sl (.int .u8)) p) : Ok TRadioPacket (sealS X (w, p)) := ok_seal (p := (w, p)) ⟨hw, hp⟩ hX.2.2.2.2.2.1 hX.2.2.2.2.2.2.2.1
theorem ok_run {X : DSession} (hX : Ok TSession X) (hcX : cnt TSession X ≤ 1048576) : ∀ (m : Nat) (S : DSession) (A : DAccount) (r : List DRadioPacket), Inv X S → Ok TAccount A → Ok (.sl TRadioPacket) r → r.length + m ≤ 2 →
    Ok TSession (sendN X m S A r).1 ∧ Ok TAccount (sendN X m S A r).2.1 ∧ Ok (.sl TRadioPacket) (sendN X m S A r).2.2 ∧ cnt TSession (sendN X m S A r).1 + cnt TAccount (sendN X m S A r).2.1 + cnt (.sl TRadioPacket) (sendN X m S A r).2.2 ≤ cnt TSession S + cnt TAccount A + cnt (.sl TRadioPacket) r + m * 2100000 := by
  intro m
  induction m with
  | zero => intro S A r h ha hr hl; exact ⟨h.1, ha, hr, Nat.le_add_right _ _⟩
  | succ m ih =>
    intro S A r h ha hr hl
    obtain ⟨o1, o2, o3, o4⟩ := ok_ens (n := llen (payN X S)) h.1 ha
    unfold sendN
    cases hg : goB X S
    · exact ⟨h.1, ha, hr, Nat.le_add_right _ _⟩
    · cases hs : stopB (ensF S A (llen (payN X S))).1 (payN X S)
      · obtain ⟨i1, i2⟩ := inv_step (r := r) hX h ha hg hs
        obtain ⟨x1, x2⟩ := go_idx h hX hg
        have hp := pay_ok hX x1
        have hS1 := inv_ens h ha (llen (payN X S))
        have hpc : (payN X S).length ≤ 1048576 := by
          have q1 : cnt (.sl (.int .u8)) (payN X S) ≤ (X.2.2.2.2.2.2.2.2.2.2.2.1.map (cnt (.sl (.int .u8)))).sum := mem_cnt (e := .sl (.int .u8)) (lget_mem (e := .sl (.int .u8)) x1)
          have q2 : cnt (.sl (.sl (.int .u8))) X.2.2.2.2.2.2.2.2.2.2.2.1 = X.2.2.2.2.2.2.2.2.2.2.2.1.length + (X.2.2.2.2.2.2.2.2.2.2.2.1.map (cnt (.sl (.int .u8)))).sum := rfl
          have q3 : cnt (.sl (.sl (.int .u8))) X.2.2.2.2.2.2.2.2.2.2.2.1 ≤ cnt TSession X := by simp only [cnt]; omega
          rw [cnt_u8] at q1
          omega
        have hrd : Ok TRadioPacket (sealS X ((ensF S A (llen (payN X S))).1.2.2.2.2.2.2.2.2.2.2.2.2.1.1, payN X S)) := ok_sealS hX hS1.1.2.2.2.2.2.2.2.2.2.2.2.2.1.1 hp
        have hr2 : Ok (.sl TRadioPacket) (stepF X S A [] r).2.2 := ok_app hr (ok_one hrd) (by rw [List.length_append]; show r.length + 1 ≤ _; omega)
        have hlen : (stepF X S A [] r).2.2.length + m ≤ 2 := by
          show (r ++ [_]).length + m ≤ 2
          rw [List.length_append]; show r.length + 1 + m ≤ 2; omega
        obtain ⟨j1, j2, j3, j4⟩ := ih (stepF X S A [] r).1 (stepF X S A [] r).2.1 (stepF X S A [] r).2.2 i1 i2 hr2 hlen
        refine ⟨j1, j2, j3, Nat.le_trans j4 ?_⟩
        have c1 := cnt_withW (ensF S A (llen (payN X S))).1 (winF (ensF S A (llen (payN X S))).1.2.2.2.2.2.2.2.2.2.2.2.2.1 (payN X S))
        have c2 := cnt_winF (ensF S A (llen (payN X S))).1.2.2.2.2.2.2.2.2.2.2.2.2.1 (payN X S)
        have c3 : cnt (.sl TRadioPacket) (stepF X S A [] r).2.2 = cnt (.sl TRadioPacket) r + 1 + (payN X S).length := cnt_sealR r X _ _
        have c4 : cnt TSession (stepF X S A [] r).1 = cnt TSession (withW (ensF S A (llen (payN X S))).1 (winF (ensF S A (llen (payN X S))).1.2.2.2.2.2.2.2.2.2.2.2.2.1 (payN X S))) := rfl
        have c5 : cnt TAccount (stepF X S A [] r).2.1 = cnt TAccount (ensF S A (llen (payN X S))).2 := rfl
        omega
      · refine ⟨o1, o2, hr, ?_⟩
        show cnt TSession (ensF S A (llen (payN X S))).1 + cnt TAccount (ensF S A (llen (payN X S))).2 + cnt (.sl TRadioPacket) r ≤ _
        omega
theorem val_snd {x : DSession} (h : valB x = true) : sndB x.2.2.2.2.2.2.2.2.2.2.2.2.1 = true := by
  unfold valB strB at h
  simp only [Bool.and_eq_true] at h
  exact h.2.2.2.2.2.2.2.2.2.2.2.2.2.2.2.2.1
theorem both_SendNew (hk : FU ≤ k) {x : (.pair TSession TAccount : Ty).den} (h : Ok (.pair TSession TAccount) x) (hn : cnt (.pair TSession TAccount) x ≤ 1048576) :
    ∃ r, spec_SendNew.f k x = some r ∧ impl_SendNew.f k x = some r ∧ Ok TTransmission r ∧ cnt TTransmission r ≤ 67108864 := by
  obtain ⟨S, A⟩ := x
  have hS : Ok TSession S := h.1
  have hA : Ok TAccount A := h.2
  have hc : cnt TSession S + cnt TAccount A ≤ 1048576 := hn
  obtain ⟨v1, v2⟩ := val_IsValidSession hk hS
  cases hm : (bif dnot (valB S) then true else ine S.2.2.1 1)
  · have hv : valB S = true := by
      cases hv : valB S
      · rw [hv] at hm; cases hm
      · rfl
    have hi : ine S.2.2.1 1 = false := by rw [hv] at hm; exact hm
    obtain ⟨b1, _⟩ := of_decide_eq_true (val_snd hv)
    have b2 := inB_t2 b1
    have hI : Inv S S := ⟨hS, b2.1, b2.2, rfl, rfl, rfl, rfl⟩
    obtain ⟨o1, o2, o3, o4⟩ := ok_run hS (by omega) 2 S A [] hI hA (ok_nil _) (by simp)
    refine ⟨((sendN S 2 S A []).1, (sendN S 2 S A []).2.1, [], (sendN S 2 S A []).2.2), ?_, ?_, ⟨o1, o2, ok_nil _, o3⟩, ?_⟩
    · obtain ⟨v, q1, q2⟩ := s_run hk hS ((((0, 0), 0, 0), (0, 0, 0, []), 0, (0, 0, 0, 0, 0), 0, 0, 0, 0, 0, 0, (0, 0, 0), [], (0, []), 0, 0, 0, 0), (0, 0, 0, []), [], []) 2 0 k S A [] (by omega) (by unfold FU at hk; omega) hI hA (by simp)
      unfold spec_SendNew.f spec_l31None.f spec_l31Idle.f
      simp only [s_copySession hk hS, s_copyAcc hA, ob_some, hi, dnot_f, cond_true, v1, hv, dnot_t, cond_false]
      refine ob_of q1 ?_
      rcases q2 with rfl | rfl <;> rfl
    · have q1 := i_run hk hS (((0, 0), 0, 0), 0, 0, 0, 0, (0, 0, 0, 0, 0), 0, 0, 0, 0, 0, 0, (0, 0, 0), 0, (0, 0, 0, 0), 0, 0, 0) 2 0 k S A [] (by omega) (by unfold FU at hk; omega) hI hA (by simp)
      unfold impl_SendNew.f
      simp only [i_copySession hk hS, i_copyAcc hA, ob_some, v2, hv, dnot_t, hi, cond_false]
      refine ob_of q1 ?_
      rfl
    · have z1 : cnt (.sl TRadioPacket) [] = 0 := rfl
      show cnt TSession (sendN S 2 S A []).1 + (cnt TAccount (sendN S 2 S A []).2.1 + (0 + cnt (.sl TRadioPacket) (sendN S 2 S A []).2.2)) ≤ _
      omega
  · refine ⟨(S, A, [], []), ?_, ?_, ⟨hS, hA, ok_nil _, ok_nil _⟩, ?_⟩
    · unfold spec_SendNew.f spec_l31None.f spec_l31Idle.f
      simp only [s_copySession hk hS, s_copyAcc hA, ob_some, v1, ob_pick]
      cases hi : ine S.2.2.1 1
      · rw [hi] at hm
        have hv : valB S = false := by
          cases hv : valB S
          · rfl
          · rw [hv] at hm; cases hm
        rw [hv]; rfl
      · rfl
    · unfold impl_SendNew.f
      simp only [i_copySession hk hS, i_copyAcc hA, ob_some, v2, hm, cond_true]
    · show cnt TSession S + (cnt TAccount A + (0 + 0)) ≤ _
      omega
end
end Go.Proofs.XF
/- The exact laws. -/
set_option linter.unusedVariables false
set_option linter.unusedSimpArgs false
set_option maxRecDepth 4000
namespace Go.Proofs.XF
open Go Go.Proofs.XTv
theorem law_SendNew {k : Nat} (hk : FU ≤ k) {x : ((.pair TSession TAccount) : Ty).den} (hg : Good' (.pair TSession TAccount) x) : laws_FnExactSendNew.f k x = some true := by
  unfold laws_FnExactSendNew.f
  refine law_sz (by omega) (szSession hk hg.1 (by omega) (by omega)) fun hc0 => ?_
  refine law_sz (by omega) (szAccount hk hg.2 (by omega) (by omega)) fun hc1 => ?_
  have ho0 : Ok TSession x.1 := ok_of_cnt _ _ hg.1 (by omega)
  have ho1 : Ok TAccount x.2 := ok_of_cnt _ _ hg.2 (by omega)
  have hn : cnt (.pair TSession TAccount) x ≤ 1048576 := by
    show cnt TSession x.1 + (cnt TAccount x.2) ≤ _
    omega
  obtain ⟨r, hs, hi, hr, hrc⟩ := both_SendNew hk (x := x) ⟨ho0, ho1⟩ hn
  refine ob_of (toSession hk ho0) ?_
  refine ob_of (toAccount hk ho1) ?_
  refine ob_of hs ?_
  refine ob_of (toSession hk ho0) ?_
  refine ob_of (toAccount hk ho1) ?_
  refine ob_of hi ?_
  refine ob_of (eqTransmission hk hr) ?_
  refine bif_f (by simp only [ilt_nn, dnot_t, dnot_f, cond_true, cond_false, ine_self, bne_self, seq_self]) ?_
  refine ob_of (toSession hk ho0) ?_
  refine ob_of (eqSession hk ho0) ?_
  refine bif_f (by simp only [ilt_nn, dnot_t, dnot_f, cond_true, cond_false, ine_self, bne_self, seq_self]) ?_
  refine ob_of (toAccount hk ho1) ?_
  refine ob_of (eqAccount hk ho1) ?_
  refine bif_f (by simp only [ilt_nn, dnot_t, dnot_f, cond_true, cond_false, ine_self, bne_self, seq_self]) ?_
  have qv13 := cTop_le TSession x.1 256 (by decide)
  refine ob_of (markSession hk ho0 (n := 1) (by omega)) ?_
  have pv14 := mkTop_n TSession x.1 1
  have qv14 := cTop_le TAccount x.2 256 (by decide)
  refine ob_of (markAccount hk ho1 (n := (mkTop TSession x.1 1).2) (by omega)) ?_
  refine ob_bif (by simp only [ilt_nn, dnot_t, dnot_f, cond_true, cond_false, ine_self, bne_self, seq_self]) (eqTransmission hk hr) ?_
  refine bif_f (by simp only [ilt_nn, dnot_t, dnot_f, cond_true, cond_false, ine_self, bne_self, seq_self]) ?_
  have qv16 := cTop_le TTransmission r 256 (by decide)
  refine ob_of (markTransmission hk hr (n := 1) (by omega)) ?_
  refine ob_of (heldTransmission hk hr (n := 1) (by omega)) ?_
  refine bif_f (by simp only [ilt_nn, dnot_t, dnot_f, cond_true, cond_false, ine_self, bne_self, seq_self]) ?_
  refine bif_f (by simp only [ilt_nn, dnot_t, dnot_f, cond_true, cond_false, ine_self, bne_self, seq_self]) ?_
  refine ob_of (toSession hk ho0) ?_
  refine ob_of (toAccount hk ho1) ?_
  refine ob_of hi ?_
  refine ob_of (eqTransmission hk hr) ?_
  refine bif_f (by simp only [ilt_nn, dnot_t, dnot_f, cond_true, cond_false, ine_self, bne_self, seq_self]) ?_
  refine ob_of (heldTransmission hk hr (n := 1) (by omega)) ?_
  refine bif_f (by simp only [ilt_nn, dnot_t, dnot_f, cond_true, cond_false, ine_self, bne_self, seq_self]) ?_
  refine bif_f (by simp only [ilt_nn, dnot_t, dnot_f, cond_true, cond_false, ine_self, bne_self, seq_self]) ?_
  rfl
end Go.Proofs.XF
/- What the program says of its types. -/
set_option linter.unusedVariables false
set_option maxRecDepth 100000
namespace Go.Proofs.YtbgkgnhlfmidhaaGreat.XS
open Go Go.Proofs.XTv Go.Proofs.XF
def look {α : Type} (l : List (Nat × α)) (n : Nat) : Option α := match l with
  | [] => none
  | (m, a) :: r => bif Nat.beq m n then some a else look r n
theorem look_mem {α : Type} : ∀ {l : List (Nat × α)} {n : Nat} {a : α}, look l n = some a → (n, a) ∈ l
  | (m, b) :: r, n, a, h => by
    unfold look at h
    cases hb : Nat.beq m n
    · simp only [hb, cond_false] at h; exact List.mem_cons_of_mem _ (look_mem h)
    · simp only [hb, cond_true, Option.some.injEq] at h
      rw [Nat.eq_of_beq_eq_true hb, h]; exact List.mem_cons_self ..
def tis : List (Nat × TInfo) := [
  (3, ⟨(.int .i64), false, 8, [], 0⟩),
  (5, ⟨(.int .u8), false, 1, [], 0⟩),
  (9, ⟨.str, false, 16, [], 0⟩),
  (23, ⟨TSubscriberID, true, 16, [(0, 3), (1, 3)], 0⟩),
  (26, ⟨(.sl TNumberedPacket), false, 24, [], 255⟩),
  (27, ⟨(.sl (.sl (.int .u8))), false, 24, [], 217⟩),
  (33, ⟨TAuthVector, true, 40, [(0, 3), (1, 3), (2, 3), (3, 3), (4, 3)], 0⟩),
  (37, ⟨TSubscriberID, true, 16, [(0, 3), (1, 3)], 0⟩),
  (40, ⟨(.sl TNumberedPacket), false, 24, [], 144⟩),
  (41, ⟨(.sl (.sl (.int .u8))), false, 24, [], 184⟩),
  (46, ⟨(.sl TSignal), false, 24, [], 53⟩),
  (51, ⟨TAuthVector, true, 40, [(0, 3), (1, 3), (2, 3), (3, 3), (4, 3)], 0⟩),
  (53, ⟨TSignal, true, 88, [(0, 3), (1, 3), (2, 3), (3, 3), (4, 3), (5, 51), (10, 3)], 0⟩),
  (60, ⟨(.sl (.int .u8)), false, 24, [], 5⟩),
  (67, ⟨TSecuredMessage, true, 48, [(0, 3), (1, 3), (2, 60), (3, 3)], 0⟩),
  (69, ⟨TRadioPacket, true, 64, [(0, 3), (1, 3), (2, 67)], 0⟩),
  (75, ⟨TUSIM, true, 32, [(0, 23), (2, 3), (3, 3)], 0⟩),
  (76, ⟨(.sl (.int .i64)), false, 24, [], 3⟩),
  (78, ⟨TSubscription, true, 48, [(0, 3), (1, 3), (2, 3), (3, 76)], 0⟩),
  (80, ⟨TQuota, true, 24, [(0, 3), (1, 3), (2, 3)], 0⟩),
  (82, ⟨TSendWindow, true, 32, [(0, 3), (1, 26)], 0⟩),
  (84, ⟨TQuota, true, 24, [(0, 3), (1, 3), (2, 3)], 0⟩),
  (86, ⟨TSession, true, 288, [(0, 75), (4, 78), (8, 3), (9, 33), (14, 3), (15, 3), (16, 3), (17, 3), (18, 3), (19, 3), (20, 80), (23, 27), (24, 82), (26, 3), (27, 84)], 0⟩),
  (87, ⟨(.sl TSubscriberID), false, 24, [], 232⟩),
  (89, ⟨TAccount, true, 48, [(0, 3), (1, 3), (2, 3), (3, 87)], 0⟩),
  (93, ⟨TUSIM, true, 32, [(0, 37), (2, 3), (3, 3)], 0⟩),
  (94, ⟨TSubscription, true, 48, [(0, 3), (1, 3), (2, 3), (3, 76)], 0⟩),
  (95, ⟨TQuota, true, 24, [(0, 3), (1, 3), (2, 3)], 0⟩),
  (97, ⟨TSendWindow, true, 32, [(0, 3), (1, 40)], 0⟩),
  (98, ⟨TQuota, true, 24, [(0, 3), (1, 3), (2, 3)], 0⟩),
  (100, ⟨TSession, true, 288, [(0, 93), (4, 94), (8, 3), (9, 51), (14, 3), (15, 3), (16, 3), (17, 3), (18, 3), (19, 3), (20, 95), (23, 41), (24, 97), (26, 3), (27, 98)], 0⟩),
  (101, ⟨(.sl TSubscriberID), false, 24, [], 230⟩),
  (103, ⟨TAccount, true, 48, [(0, 3), (1, 3), (2, 3), (3, 101)], 0⟩),
  (119, ⟨(.sl TRadioPacket), false, 24, [], 69⟩),
  (121, ⟨TTransmission, true, 384, [(0, 100), (30, 103), (34, 46), (35, 119)], 0⟩),
  (144, ⟨TNumberedPacket, true, 32, [(0, 3), (1, 60)], 0⟩),
  (184, ⟨(.sl (.int .u8)), true, 24, [(0, 60)], 0⟩),
  (217, ⟨(.sl (.int .u8)), true, 24, [(0, 60)], 0⟩),
  (230, ⟨TSubscriberID, true, 16, [(0, 3), (1, 3)], 0⟩),
  (232, ⟨TSubscriberID, true, 16, [(0, 3), (1, 3)], 0⟩),
  (255, ⟨TNumberedPacket, true, 32, [(0, 3), (1, 60)], 0⟩),
  (264, ⟨(.sl (.int .i64)), true, 24, [(0, 76)], 0⟩)]
def eqs : List Nat := []
def cx0 : Cx := { ti := look tis, eq := fun t => nmem t eqs, con := fun _ => none, loop := fun _ => none }
theorem tis_ok : tis.all (fun p => tyChk Tryz.prog cx0 p.1 p.2 && openChk cx0 p.2) = true := by kernel_rfl
theorem eqs_ok : eqs.all (fun t => !(Tryz.prog.eqGuardType Tryz.prog.depth t) && (match look tis t with | some ti => (match eqTyChk Tryz.prog 100 t (flatTy ti.ty) with | some [] => true | _ => false) | none => false)) = true := by kernel_rfl
theorem ty_ok : ∀ T ti, cx0.ti T = some ti → TyOk Tryz.prog cx0 T ti := fun T ti h => by
  have h1 := List.all_eq_true.1 tis_ok (T, ti) (look_mem h)
  rw [Bool.and_eq_true] at h1
  exact tyChk_ok h1.1
theorem open_ok : ∀ T ti, cx0.ti T = some ti → openChk cx0 ti = true := fun T ti h => by
  have h1 := List.all_eq_true.1 tis_ok (T, ti) (look_mem h)
  rw [Bool.and_eq_true] at h1
  exact h1.2
theorem cx_ok : CxOk Tryz.prog cx0 := ⟨ty_ok, fun T h => by
  have h1 := List.all_eq_true.1 eqs_ok T (nmem_iff.1 h)
  rw [Bool.and_eq_true, Bool.not_eq_true'] at h1
  refine ⟨h1.1, ?_⟩
  cases ht : look tis T with
  | none => simp [ht] at h1
  | some ti =>
    refine ⟨ti, ht, ?_⟩
    have h2 := h1.2
    rw [ht] at h2
    simp only at h2
    split at h2
    · assumption
    · cases h2⟩
end Go.Proofs.YtbgkgnhlfmidhaaGreat.XS
/- What each function is to be given and gives. -/
set_option linter.unusedVariables false
set_option maxRecDepth 100000
namespace Go.Proofs.YtbgkgnhlfmidhaaGreat.XS
open Go Go.Proofs.XTv Go.Proofs.XF
def laws_szIntS.ps : List PK := [.val (.sl (.int .i64)) false, .val (.int .i64) false]
def laws_szIntS.rs : List RK := [⟨(.int .i64), false, .own⟩]
def laws_szIntS.con : Con := ⟨laws_szIntS.ps, laws_szIntS.rs, laws_szIntS.f⟩
def laws_szIntS.cx : Cx := { cx0 with con := look [], loop := look [] }
def laws_szSubscription.ps : List PK := [.val TSubscription true, .val (.int .i64) false]
def laws_szSubscription.rs : List RK := [⟨(.int .i64), false, .own⟩]
def laws_szSubscription.con : Con := ⟨laws_szSubscription.ps, laws_szSubscription.rs, laws_szSubscription.f⟩
def laws_szSubscription.cx : Cx := { cx0 with con := look [(173, laws_szIntS.con)], loop := look [] }
def laws_szByteS.ps : List PK := [.val (.sl (.int .u8)) false, .val (.int .i64) false]
def laws_szByteS.rs : List RK := [⟨(.int .i64), false, .own⟩]
def laws_szByteS.con : Con := ⟨laws_szByteS.ps, laws_szByteS.rs, laws_szByteS.f⟩
def laws_szByteS.cx : Cx := { cx0 with con := look [], loop := look [] }
def laws_szPayload.ps : List PK := [.val (.sl (.int .u8)) true, .val (.int .i64) false]
def laws_szPayload.rs : List RK := [⟨(.int .i64), false, .own⟩]
def laws_szPayload.con : Con := ⟨laws_szPayload.ps, laws_szPayload.rs, laws_szPayload.f⟩
def laws_szPayload.cx : Cx := { cx0 with con := look [(157, laws_szByteS.con)], loop := look [] }
def laws_szPayloadS.ps : List PK := [.val (.sl (.sl (.int .u8))) false, .val (.int .i64) false]
def laws_szPayloadS.rs : List RK := [⟨(.int .i64), false, .own⟩]
def laws_szPayloadS.con : Con := ⟨laws_szPayloadS.ps, laws_szPayloadS.rs, laws_szPayloadS.f⟩
def laws_szPayloadS.cx : Cx := { cx0 with con := look [(174, laws_szPayload.con)], loop := look [(5, ⟨⟨[(0, false, [.dat (.sl (.sl (.int .u8))) [0]]), (1, false, [.dat (.int .i64) []]), (5, false, [.dat (.int .i64) []])], []⟩, [(.exit 0, ⟨[(1, false, [.dat (.int .i64) []])], []⟩), (.ret, ⟨[(4, false, [.dat (.int .i64) []])], []⟩)]⟩)] }
def laws_szNumberedPacket.ps : List PK := [.val TNumberedPacket true, .val (.int .i64) false]
def laws_szNumberedPacket.rs : List RK := [⟨(.int .i64), false, .own⟩]
def laws_szNumberedPacket.con : Con := ⟨laws_szNumberedPacket.ps, laws_szNumberedPacket.rs, laws_szNumberedPacket.f⟩
def laws_szNumberedPacket.cx : Cx := { cx0 with con := look [(157, laws_szByteS.con)], loop := look [] }
def laws_szNumberedPacketS.ps : List PK := [.val (.sl TNumberedPacket) false, .val (.int .i64) false]
def laws_szNumberedPacketS.rs : List RK := [⟨(.int .i64), false, .own⟩]
def laws_szNumberedPacketS.con : Con := ⟨laws_szNumberedPacketS.ps, laws_szNumberedPacketS.rs, laws_szNumberedPacketS.f⟩
def laws_szNumberedPacketS.cx : Cx := { cx0 with con := look [(226, laws_szNumberedPacket.con)], loop := look [(5, ⟨⟨[(0, false, [.dat (.sl TNumberedPacket) [0]]), (1, false, [.dat (.int .i64) []]), (5, false, [.dat (.int .i64) []])], []⟩, [(.exit 0, ⟨[(1, false, [.dat (.int .i64) []])], []⟩), (.ret, ⟨[(4, false, [.dat (.int .i64) []])], []⟩)]⟩)] }
def laws_szSendWindow.ps : List PK := [.val TSendWindow true, .val (.int .i64) false]
def laws_szSendWindow.rs : List RK := [⟨(.int .i64), false, .own⟩]
def laws_szSendWindow.con : Con := ⟨laws_szSendWindow.ps, laws_szSendWindow.rs, laws_szSendWindow.f⟩
def laws_szSendWindow.cx : Cx := { cx0 with con := look [(139, laws_szNumberedPacketS.con)], loop := look [] }
def laws_szSession.ps : List PK := [.val TSession true, .val (.int .i64) false]
def laws_szSession.rs : List RK := [⟨(.int .i64), false, .own⟩]
def laws_szSession.con : Con := ⟨laws_szSession.ps, laws_szSession.rs, laws_szSession.f⟩
def laws_szSession.cx : Cx := { cx0 with con := look [(82, laws_szSubscription.con), (83, laws_szPayloadS.con), (84, laws_szSendWindow.con)], loop := look [] }
def laws_szReservationS.ps : List PK := [.val (.sl TSubscriberID) false, .val (.int .i64) false]
def laws_szReservationS.rs : List RK := [⟨(.int .i64), false, .own⟩]
def laws_szReservationS.con : Con := ⟨laws_szReservationS.ps, laws_szReservationS.rs, laws_szReservationS.f⟩
def laws_szReservationS.cx : Cx := { cx0 with con := look [], loop := look [] }
def laws_szAccount.ps : List PK := [.val TAccount true, .val (.int .i64) false]
def laws_szAccount.rs : List RK := [⟨(.int .i64), false, .own⟩]
def laws_szAccount.con : Con := ⟨laws_szAccount.ps, laws_szAccount.rs, laws_szAccount.f⟩
def laws_szAccount.cx : Cx := { cx0 with con := look [(85, laws_szReservationS.con)], loop := look [] }
def laws_toAuthVector.ps : List PK := [.val TAuthVector true]
def laws_toAuthVector.rs : List RK := [⟨TAuthVector, true, .own⟩]
def laws_toAuthVector.con : Con := ⟨laws_toAuthVector.ps, laws_toAuthVector.rs, laws_toAuthVector.f⟩
def laws_toAuthVector.cx : Cx := { cx0 with con := look [], loop := look [] }
def laws_toSubscriberID.ps : List PK := [.val TSubscriberID true]
def laws_toSubscriberID.rs : List RK := [⟨TSubscriberID, true, .own⟩]
def laws_toSubscriberID.con : Con := ⟨laws_toSubscriberID.ps, laws_toSubscriberID.rs, laws_toSubscriberID.f⟩
def laws_toSubscriberID.cx : Cx := { cx0 with con := look [], loop := look [] }
def laws_toSubscriberRecord.ps : List PK := [.val TUSIM true]
def laws_toSubscriberRecord.rs : List RK := [⟨TUSIM, true, .own⟩]
def laws_toSubscriberRecord.con : Con := ⟨laws_toSubscriberRecord.ps, laws_toSubscriberRecord.rs, laws_toSubscriberRecord.f⟩
def laws_toSubscriberRecord.cx : Cx := { cx0 with con := look [(144, laws_toSubscriberID.con)], loop := look [] }
def laws_toIntS.ps : List PK := [.val (.sl (.int .i64)) false]
def laws_toIntS.rs : List RK := [⟨(.sl (.int .i64)), false, .own⟩]
def laws_toIntS.con : Con := ⟨laws_toIntS.ps, laws_toIntS.rs, laws_toIntS.f⟩
def laws_toIntS.cx : Cx := { cx0 with con := look [], loop := look [(3, ⟨⟨[(0, false, [.dat (.sl (.int .i64)) [0]]), (3, false, [.own 1279]), (4, false, [.dat (.int .i64) []])], [(1279, .arr (.int .i64) true [])]⟩, [(.exit 0, ⟨[(3, false, [.own 1279])], [(1279, .arr (.int .i64) true [])]⟩)]⟩)] }
def laws_toSubscription.ps : List PK := [.val TSubscription true]
def laws_toSubscription.rs : List RK := [⟨TSubscription, true, .own⟩]
def laws_toSubscription.con : Con := ⟨laws_toSubscription.ps, laws_toSubscription.rs, laws_toSubscription.f⟩
def laws_toSubscription.cx : Cx := { cx0 with con := look [(183, laws_toIntS.con)], loop := look [] }
def laws_toPagingState.ps : List PK := [.val TQuota true]
def laws_toPagingState.rs : List RK := [⟨TQuota, true, .own⟩]
def laws_toPagingState.con : Con := ⟨laws_toPagingState.ps, laws_toPagingState.rs, laws_toPagingState.f⟩
def laws_toPagingState.cx : Cx := { cx0 with con := look [], loop := look [] }
def laws_toByteS.ps : List PK := [.val (.sl (.int .u8)) false]
def laws_toByteS.rs : List RK := [⟨(.sl (.int .u8)), false, .own⟩]
def laws_toByteS.con : Con := ⟨laws_toByteS.ps, laws_toByteS.rs, laws_toByteS.f⟩
def laws_toByteS.cx : Cx := { cx0 with con := look [], loop := look [(3, ⟨⟨[(0, false, [.dat (.sl (.int .u8)) [0]]), (3, false, [.own 1279]), (4, false, [.dat (.int .i64) []])], [(1279, .arr (.int .u8) true [])]⟩, [(.exit 0, ⟨[(3, false, [.own 1279])], [(1279, .arr (.int .u8) true [])]⟩)]⟩)] }
def laws_toPayload.ps : List PK := [.val (.sl (.int .u8)) true]
def laws_toPayload.rs : List RK := [⟨(.sl (.int .u8)), true, .own⟩]
def laws_toPayload.con : Con := ⟨laws_toPayload.ps, laws_toPayload.rs, laws_toPayload.f⟩
def laws_toPayload.cx : Cx := { cx0 with con := look [(163, laws_toByteS.con)], loop := look [] }
def laws_toPayloadS.ps : List PK := [.val (.sl (.sl (.int .u8))) false]
def laws_toPayloadS.rs : List RK := [⟨(.sl (.sl (.int .u8))), false, .own⟩]
def laws_toPayloadS.con : Con := ⟨laws_toPayloadS.ps, laws_toPayloadS.rs, laws_toPayloadS.f⟩
def laws_toPayloadS.cx : Cx := { cx0 with con := look [(184, laws_toPayload.con)], loop := look [(3, ⟨⟨[(0, false, [.dat (.sl (.sl (.int .u8))) [0]]), (3, false, [.own 1279]), (4, false, [.dat (.int .i64) []])], [(1279, .arr (.sl (.int .u8)) true [])]⟩, [(.exit 0, ⟨[(3, false, [.own 1279])], [(1279, .arr (.sl (.int .u8)) true [])]⟩)]⟩)] }
def laws_toNumberedPacket.ps : List PK := [.val TNumberedPacket true]
def laws_toNumberedPacket.rs : List RK := [⟨TNumberedPacket, true, .own⟩]
def laws_toNumberedPacket.con : Con := ⟨laws_toNumberedPacket.ps, laws_toNumberedPacket.rs, laws_toNumberedPacket.f⟩
def laws_toNumberedPacket.cx : Cx := { cx0 with con := look [(163, laws_toByteS.con)], loop := look [] }
def laws_toNumberedPacketS.ps : List PK := [.val (.sl TNumberedPacket) false]
def laws_toNumberedPacketS.rs : List RK := [⟨(.sl TNumberedPacket), false, .own⟩]
def laws_toNumberedPacketS.con : Con := ⟨laws_toNumberedPacketS.ps, laws_toNumberedPacketS.rs, laws_toNumberedPacketS.f⟩
def laws_toNumberedPacketS.cx : Cx := { cx0 with con := look [(236, laws_toNumberedPacket.con)], loop := look [(3, ⟨⟨[(0, false, [.dat (.sl TNumberedPacket) [0]]), (3, false, [.own 1279]), (4, false, [.dat (.int .i64) []])], [(1279, .arr TNumberedPacket true [])]⟩, [(.exit 0, ⟨[(3, false, [.own 1279])], [(1279, .arr TNumberedPacket true [])]⟩)]⟩)] }
def laws_toSendWindow.ps : List PK := [.val TSendWindow true]
def laws_toSendWindow.rs : List RK := [⟨TSendWindow, true, .own⟩]
def laws_toSendWindow.con : Con := ⟨laws_toSendWindow.ps, laws_toSendWindow.rs, laws_toSendWindow.f⟩
def laws_toSendWindow.cx : Cx := { cx0 with con := look [(145, laws_toNumberedPacketS.con)], loop := look [] }
def laws_toQuota.ps : List PK := [.val TQuota true]
def laws_toQuota.rs : List RK := [⟨TQuota, true, .own⟩]
def laws_toQuota.con : Con := ⟨laws_toQuota.ps, laws_toQuota.rs, laws_toQuota.f⟩
def laws_toQuota.cx : Cx := { cx0 with con := look [], loop := look [] }
def laws_toSession.ps : List PK := [.val TSession true]
def laws_toSession.rs : List RK := [⟨TSession, true, .own⟩]
def laws_toSession.con : Con := ⟨laws_toSession.ps, laws_toSession.rs, laws_toSession.f⟩
def laws_toSession.cx : Cx := { cx0 with con := look [(58, laws_toAuthVector.con), (91, laws_toSubscriberRecord.con), (92, laws_toSubscription.con), (93, laws_toPagingState.con), (94, laws_toPayloadS.con), (95, laws_toSendWindow.con), (96, laws_toQuota.con)], loop := look [] }
def laws_toReservation.ps : List PK := [.val TSubscriberID true]
def laws_toReservation.rs : List RK := [⟨TSubscriberID, true, .own⟩]
def laws_toReservation.con : Con := ⟨laws_toReservation.ps, laws_toReservation.rs, laws_toReservation.f⟩
def laws_toReservation.cx : Cx := { cx0 with con := look [], loop := look [] }
def laws_toReservationS.ps : List PK := [.val (.sl TSubscriberID) false]
def laws_toReservationS.rs : List RK := [⟨(.sl TSubscriberID), false, .own⟩]
def laws_toReservationS.con : Con := ⟨laws_toReservationS.ps, laws_toReservationS.rs, laws_toReservationS.f⟩
def laws_toReservationS.cx : Cx := { cx0 with con := look [(185, laws_toReservation.con)], loop := look [(3, ⟨⟨[(0, false, [.dat (.sl TSubscriberID) [0]]), (3, false, [.own 1279]), (4, false, [.dat (.int .i64) []])], [(1279, .arr TSubscriberID true [])]⟩, [(.exit 0, ⟨[(3, false, [.own 1279])], [(1279, .arr TSubscriberID true [])]⟩)]⟩)] }
def laws_toAccount.ps : List PK := [.val TAccount true]
def laws_toAccount.rs : List RK := [⟨TAccount, true, .own⟩]
def laws_toAccount.con : Con := ⟨laws_toAccount.ps, laws_toAccount.rs, laws_toAccount.f⟩
def laws_toAccount.cx : Cx := { cx0 with con := look [(97, laws_toReservationS.con)], loop := look [] }
def laws_eqSubscriberID.ps : List PK := [.val TSubscriberID true, .val TSubscriberID true]
def laws_eqSubscriberID.rs : List RK := [⟨.bool, false, .own⟩]
def laws_eqSubscriberID.con : Con := ⟨laws_eqSubscriberID.ps, laws_eqSubscriberID.rs, laws_eqSubscriberID.f⟩
def laws_eqSubscriberID.cx : Cx := { cx0 with con := look [], loop := look [] }
def laws_eqSubscriberRecord.ps : List PK := [.val TUSIM true, .val TUSIM true]
def laws_eqSubscriberRecord.rs : List RK := [⟨.bool, false, .own⟩]
def laws_eqSubscriberRecord.con : Con := ⟨laws_eqSubscriberRecord.ps, laws_eqSubscriberRecord.rs, laws_eqSubscriberRecord.f⟩
def laws_eqSubscriberRecord.cx : Cx := { cx0 with con := look [(153, laws_eqSubscriberID.con)], loop := look [] }
def laws_eqIntS.ps : List PK := [.val (.sl (.int .i64)) false, .val (.sl (.int .i64)) false]
def laws_eqIntS.rs : List RK := [⟨.bool, false, .own⟩]
def laws_eqIntS.con : Con := ⟨laws_eqIntS.ps, laws_eqIntS.rs, laws_eqIntS.f⟩
def laws_eqIntS.cx : Cx := { cx0 with con := look [], loop := look [(4, ⟨⟨[(0, false, [.dat (.sl (.int .i64)) [0]]), (1, false, [.dat (.sl (.int .i64)) [0]]), (5, false, [.dat (.int .i64) []])], []⟩, [(.exit 0, ⟨[], []⟩), (.ret, ⟨[(4, false, [.dat .bool []])], []⟩)]⟩)] }
def laws_eqSubscription.ps : List PK := [.val TSubscription true, .val TSubscription true]
def laws_eqSubscription.rs : List RK := [⟨.bool, false, .own⟩]
def laws_eqSubscription.con : Con := ⟨laws_eqSubscription.ps, laws_eqSubscription.rs, laws_eqSubscription.f⟩
def laws_eqSubscription.cx : Cx := { cx0 with con := look [(194, laws_eqIntS.con)], loop := look [] }
def laws_eqAuthVector.ps : List PK := [.val TAuthVector true, .val TAuthVector true]
def laws_eqAuthVector.rs : List RK := [⟨.bool, false, .own⟩]
def laws_eqAuthVector.con : Con := ⟨laws_eqAuthVector.ps, laws_eqAuthVector.rs, laws_eqAuthVector.f⟩
def laws_eqAuthVector.cx : Cx := { cx0 with con := look [], loop := look [] }
def laws_eqPagingState.ps : List PK := [.val TQuota true, .val TQuota true]
def laws_eqPagingState.rs : List RK := [⟨.bool, false, .own⟩]
def laws_eqPagingState.con : Con := ⟨laws_eqPagingState.ps, laws_eqPagingState.rs, laws_eqPagingState.f⟩
def laws_eqPagingState.cx : Cx := { cx0 with con := look [], loop := look [] }
def laws_eqByteS.ps : List PK := [.val (.sl (.int .u8)) false, .val (.sl (.int .u8)) false]
def laws_eqByteS.rs : List RK := [⟨.bool, false, .own⟩]
def laws_eqByteS.con : Con := ⟨laws_eqByteS.ps, laws_eqByteS.rs, laws_eqByteS.f⟩
def laws_eqByteS.cx : Cx := { cx0 with con := look [], loop := look [(4, ⟨⟨[(0, false, [.dat (.sl (.int .u8)) [0]]), (1, false, [.dat (.sl (.int .u8)) [0]]), (5, false, [.dat (.int .i64) []])], []⟩, [(.exit 0, ⟨[], []⟩), (.ret, ⟨[(4, false, [.dat .bool []])], []⟩)]⟩)] }
def laws_eqPayload.ps : List PK := [.val (.sl (.int .u8)) true, .val (.sl (.int .u8)) true]
def laws_eqPayload.rs : List RK := [⟨.bool, false, .own⟩]
def laws_eqPayload.con : Con := ⟨laws_eqPayload.ps, laws_eqPayload.rs, laws_eqPayload.f⟩
def laws_eqPayload.cx : Cx := { cx0 with con := look [(171, laws_eqByteS.con)], loop := look [] }
def laws_eqPayloadS.ps : List PK := [.val (.sl (.sl (.int .u8))) false, .val (.sl (.sl (.int .u8))) false]
def laws_eqPayloadS.rs : List RK := [⟨.bool, false, .own⟩]
def laws_eqPayloadS.con : Con := ⟨laws_eqPayloadS.ps, laws_eqPayloadS.rs, laws_eqPayloadS.f⟩
def laws_eqPayloadS.cx : Cx := { cx0 with con := look [(195, laws_eqPayload.con)], loop := look [(4, ⟨⟨[(0, false, [.dat (.sl (.sl (.int .u8))) [0]]), (1, false, [.dat (.sl (.sl (.int .u8))) [0]]), (5, false, [.dat (.int .i64) []])], []⟩, [(.exit 0, ⟨[], []⟩), (.ret, ⟨[(4, false, [.dat .bool []])], []⟩)]⟩)] }
def laws_eqNumberedPacket.ps : List PK := [.val TNumberedPacket true, .val TNumberedPacket true]
def laws_eqNumberedPacket.rs : List RK := [⟨.bool, false, .own⟩]
def laws_eqNumberedPacket.con : Con := ⟨laws_eqNumberedPacket.ps, laws_eqNumberedPacket.rs, laws_eqNumberedPacket.f⟩
def laws_eqNumberedPacket.cx : Cx := { cx0 with con := look [(171, laws_eqByteS.con)], loop := look [] }
def laws_eqNumberedPacketS.ps : List PK := [.val (.sl TNumberedPacket) false, .val (.sl TNumberedPacket) false]
def laws_eqNumberedPacketS.rs : List RK := [⟨.bool, false, .own⟩]
def laws_eqNumberedPacketS.con : Con := ⟨laws_eqNumberedPacketS.ps, laws_eqNumberedPacketS.rs, laws_eqNumberedPacketS.f⟩
def laws_eqNumberedPacketS.cx : Cx := { cx0 with con := look [(245, laws_eqNumberedPacket.con)], loop := look [(4, ⟨⟨[(0, false, [.dat (.sl TNumberedPacket) [0]]), (1, false, [.dat (.sl TNumberedPacket) [0]]), (5, false, [.dat (.int .i64) []])], []⟩, [(.exit 0, ⟨[], []⟩), (.ret, ⟨[(4, false, [.dat .bool []])], []⟩)]⟩)] }
def laws_eqSendWindow.ps : List PK := [.val TSendWindow true, .val TSendWindow true]
def laws_eqSendWindow.rs : List RK := [⟨.bool, false, .own⟩]
def laws_eqSendWindow.con : Con := ⟨laws_eqSendWindow.ps, laws_eqSendWindow.rs, laws_eqSendWindow.f⟩
def laws_eqSendWindow.cx : Cx := { cx0 with con := look [(154, laws_eqNumberedPacketS.con)], loop := look [] }
def laws_eqQuota.ps : List PK := [.val TQuota true, .val TQuota true]
def laws_eqQuota.rs : List RK := [⟨.bool, false, .own⟩]
def laws_eqQuota.con : Con := ⟨laws_eqQuota.ps, laws_eqQuota.rs, laws_eqQuota.f⟩
def laws_eqQuota.cx : Cx := { cx0 with con := look [], loop := look [] }
def laws_eqSession.ps : List PK := [.val TSession true, .val TSession true]
def laws_eqSession.rs : List RK := [⟨.bool, false, .own⟩]
def laws_eqSession.con : Con := ⟨laws_eqSession.ps, laws_eqSession.rs, laws_eqSession.f⟩
def laws_eqSession.cx : Cx := { cx0 with con := look [(103, laws_eqSubscriberRecord.con), (104, laws_eqSubscription.con), (105, laws_eqAuthVector.con), (106, laws_eqPagingState.con), (107, laws_eqPayloadS.con), (108, laws_eqSendWindow.con), (109, laws_eqQuota.con)], loop := look [] }
def laws_eqReservation.ps : List PK := [.val TSubscriberID true, .val TSubscriberID true]
def laws_eqReservation.rs : List RK := [⟨.bool, false, .own⟩]
def laws_eqReservation.con : Con := ⟨laws_eqReservation.ps, laws_eqReservation.rs, laws_eqReservation.f⟩
def laws_eqReservation.cx : Cx := { cx0 with con := look [], loop := look [] }
def laws_eqReservationS.ps : List PK := [.val (.sl TSubscriberID) false, .val (.sl TSubscriberID) false]
def laws_eqReservationS.rs : List RK := [⟨.bool, false, .own⟩]
def laws_eqReservationS.con : Con := ⟨laws_eqReservationS.ps, laws_eqReservationS.rs, laws_eqReservationS.f⟩
def laws_eqReservationS.cx : Cx := { cx0 with con := look [(196, laws_eqReservation.con)], loop := look [(4, ⟨⟨[(0, false, [.dat (.sl TSubscriberID) [0]]), (1, false, [.dat (.sl TSubscriberID) [0]]), (5, false, [.dat (.int .i64) []])], []⟩, [(.exit 0, ⟨[], []⟩), (.ret, ⟨[(4, false, [.dat .bool []])], []⟩)]⟩)] }
def laws_eqAccount.ps : List PK := [.val TAccount true, .val TAccount true]
def laws_eqAccount.rs : List RK := [⟨.bool, false, .own⟩]
def laws_eqAccount.con : Con := ⟨laws_eqAccount.ps, laws_eqAccount.rs, laws_eqAccount.f⟩
def laws_eqAccount.cx : Cx := { cx0 with con := look [(110, laws_eqReservationS.con)], loop := look [] }
def laws_markIntS.ps : List PK := [.lend (.sl (.int .i64)) false, .val (.int .i64) false]
def laws_markIntS.rs : List RK := [⟨(.int .i64), false, .own⟩]
def laws_markIntS.con : Con := ⟨laws_markIntS.ps, laws_markIntS.rs, laws_markIntS.f⟩
def laws_markIntS.cx : Cx := { cx0 with con := look [], loop := look [(2, ⟨⟨[(0, false, [.own 257]), (1, false, [.dat (.int .i64) []]), (5, false, [.dat (.int .i64) []])], [(257, .arr (.int .i64) true [])]⟩, [(.exit 0, ⟨[(0, false, [.own 257]), (1, false, [.dat (.int .i64) []])], [(257, .arr (.int .i64) true [])]⟩)]⟩)] }
def laws_markSubscription.ps : List PK := [.lend TSubscription true, .val (.int .i64) false]
def laws_markSubscription.rs : List RK := [⟨(.int .i64), false, .own⟩]
def laws_markSubscription.con : Con := ⟨laws_markSubscription.ps, laws_markSubscription.rs, laws_markSubscription.f⟩
def laws_markSubscription.cx : Cx := { cx0 with con := look [(197, laws_markIntS.con)], loop := look [] }
def laws_markByteS.ps : List PK := [.lend (.sl (.int .u8)) false, .val (.int .i64) false]
def laws_markByteS.rs : List RK := [⟨(.int .i64), false, .own⟩]
def laws_markByteS.con : Con := ⟨laws_markByteS.ps, laws_markByteS.rs, laws_markByteS.f⟩
def laws_markByteS.cx : Cx := { cx0 with con := look [], loop := look [(2, ⟨⟨[(0, false, [.own 257]), (1, false, [.dat (.int .i64) []]), (5, false, [.dat (.int .i64) []])], [(257, .arr (.int .u8) true [])]⟩, [(.exit 0, ⟨[(0, false, [.own 257]), (1, false, [.dat (.int .i64) []])], [(257, .arr (.int .u8) true [])]⟩)]⟩)] }
def laws_markPayloadS.ps : List PK := [.lend (.sl (.sl (.int .u8))) false, .val (.int .i64) false]
def laws_markPayloadS.rs : List RK := [⟨(.int .i64), false, .own⟩]
def laws_markPayloadS.con : Con := ⟨laws_markPayloadS.ps, laws_markPayloadS.rs, laws_markPayloadS.f⟩
def laws_markPayloadS.cx : Cx := { cx0 with con := look [(172, laws_markByteS.con)], loop := look [(2, ⟨⟨[(0, false, [.own 257]), (1, false, [.dat (.int .i64) []]), (5, false, [.dat (.int .i64) []])], [(257, .arr (.sl (.int .u8)) true [])]⟩, [(.exit 0, ⟨[(0, false, [.own 257]), (1, false, [.dat (.int .i64) []])], [(257, .arr (.sl (.int .u8)) true [])]⟩)]⟩)] }
def laws_markNumberedPacketS.ps : List PK := [.lend (.sl TNumberedPacket) false, .val (.int .i64) false]
def laws_markNumberedPacketS.rs : List RK := [⟨(.int .i64), false, .own⟩]
def laws_markNumberedPacketS.con : Con := ⟨laws_markNumberedPacketS.ps, laws_markNumberedPacketS.rs, laws_markNumberedPacketS.f⟩
def laws_markNumberedPacketS.cx : Cx := { cx0 with con := look [(172, laws_markByteS.con)], loop := look [(2, ⟨⟨[(0, false, [.own 257]), (1, false, [.dat (.int .i64) []]), (5, false, [.dat (.int .i64) []])], [(257, .arr TNumberedPacket true [])]⟩, [(.exit 0, ⟨[(0, false, [.own 257]), (1, false, [.dat (.int .i64) []])], [(257, .arr TNumberedPacket true [])]⟩)]⟩)] }
def laws_markSendWindow.ps : List PK := [.lend TSendWindow true, .val (.int .i64) false]
def laws_markSendWindow.rs : List RK := [⟨(.int .i64), false, .own⟩]
def laws_markSendWindow.con : Con := ⟨laws_markSendWindow.ps, laws_markSendWindow.rs, laws_markSendWindow.f⟩
def laws_markSendWindow.cx : Cx := { cx0 with con := look [(155, laws_markNumberedPacketS.con)], loop := look [] }
def laws_markSession.ps : List PK := [.lend TSession true, .val (.int .i64) false]
def laws_markSession.rs : List RK := [⟨(.int .i64), false, .own⟩]
def laws_markSession.con : Con := ⟨laws_markSession.ps, laws_markSession.rs, laws_markSession.f⟩
def laws_markSession.cx : Cx := { cx0 with con := look [(111, laws_markSubscription.con), (112, laws_markPayloadS.con), (113, laws_markSendWindow.con)], loop := look [] }
def laws_markReservationS.ps : List PK := [.lend (.sl TSubscriberID) false, .val (.int .i64) false]
def laws_markReservationS.rs : List RK := [⟨(.int .i64), false, .own⟩]
def laws_markReservationS.con : Con := ⟨laws_markReservationS.ps, laws_markReservationS.rs, laws_markReservationS.f⟩
def laws_markReservationS.cx : Cx := { cx0 with con := look [], loop := look [(2, ⟨⟨[(0, false, [.own 257]), (1, false, [.dat (.int .i64) []]), (5, false, [.dat (.int .i64) []])], [(257, .arr TSubscriberID true [])]⟩, [(.exit 0, ⟨[(0, false, [.own 257]), (1, false, [.dat (.int .i64) []])], [(257, .arr TSubscriberID true [])]⟩)]⟩)] }
def laws_markAccount.ps : List PK := [.lend TAccount true, .val (.int .i64) false]
def laws_markAccount.rs : List RK := [⟨(.int .i64), false, .own⟩]
def laws_markAccount.con : Con := ⟨laws_markAccount.ps, laws_markAccount.rs, laws_markAccount.f⟩
def laws_markAccount.cx : Cx := { cx0 with con := look [(114, laws_markReservationS.con)], loop := look [] }
def spec_l30Plan.ps : List PK := [.val TSubscription true]
def spec_l30Plan.rs : List RK := [⟨TSubscription, true, .own⟩]
def spec_l30Plan.con : Con := ⟨spec_l30Plan.ps, spec_l30Plan.rs, spec_l30Plan.f⟩
def spec_l30Plan.cx : Cx := { cx0 with con := look [], loop := look [] }
def spec_l15Bodies.ps : List PK := [.val (.sl (.sl (.int .u8))) false]
def spec_l15Bodies.rs : List RK := [⟨(.sl (.sl (.int .u8))), false, .own⟩]
def spec_l15Bodies.con : Con := ⟨spec_l15Bodies.ps, spec_l15Bodies.rs, spec_l15Bodies.f⟩
def spec_l15Bodies.cx : Cx := { cx0 with con := look [], loop := look [(3, ⟨⟨[(0, false, [.dat (.sl (.sl (.int .u8))) [0]]), (3, false, [.own 1279]), (4, false, [.dat (.int .i64) []])], [(1279, .arr (.sl (.int .u8)) true [])]⟩, [(.exit 0, ⟨[(3, false, [.own 1279])], [(1279, .arr (.sl (.int .u8)) true [])]⟩)]⟩)] }
def spec_l24Sents.ps : List PK := [.val (.sl TNumberedPacket) false]
def spec_l24Sents.rs : List RK := [⟨(.sl TNumberedPacket), false, .own⟩]
def spec_l24Sents.con : Con := ⟨spec_l24Sents.ps, spec_l24Sents.rs, spec_l24Sents.f⟩
def spec_l24Sents.cx : Cx := { cx0 with con := look [], loop := look [(3, ⟨⟨[(0, false, [.dat (.sl TNumberedPacket) [0]]), (3, false, [.own 1279]), (4, false, [.dat (.int .i64) []])], [(1279, .arr TNumberedPacket true [])]⟩, [(.exit 0, ⟨[(3, false, [.own 1279])], [(1279, .arr TNumberedPacket true [])]⟩)]⟩)] }
def spec_l24Sender.ps : List PK := [.val TSendWindow true]
def spec_l24Sender.rs : List RK := [⟨TSendWindow, true, .own⟩]
def spec_l24Sender.con : Con := ⟨spec_l24Sender.ps, spec_l24Sender.rs, spec_l24Sender.f⟩
def spec_l24Sender.cx : Cx := { cx0 with con := look [(227, spec_l24Sents.con)], loop := look [] }
def spec_l30Copy.ps : List PK := [.val TSession true]
def spec_l30Copy.rs : List RK := [⟨TSession, true, .own⟩]
def spec_l30Copy.con : Con := ⟨spec_l30Copy.ps, spec_l30Copy.rs, spec_l30Copy.f⟩
def spec_l30Copy.cx : Cx := { cx0 with con := look [(175, spec_l30Plan.con), (176, spec_l15Bodies.con), (177, spec_l24Sender.con)], loop := look [] }
def spec_Max.ps : List PK := [.val (.int .i64) false, .val (.int .i64) false]
def spec_Max.rs : List RK := [⟨(.int .i64), false, .own⟩]
def spec_Max.con : Con := ⟨spec_Max.ps, spec_Max.rs, spec_Max.f⟩
def spec_Max.cx : Cx := { cx0 with con := look [], loop := look [] }
def spec_l30Bytes.ps : List PK := [.val (.sl TNumberedPacket) false]
def spec_l30Bytes.rs : List RK := [⟨(.int .i64), false, .own⟩]
def spec_l30Bytes.con : Con := ⟨spec_l30Bytes.ps, spec_l30Bytes.rs, spec_l30Bytes.f⟩
def spec_l30Bytes.cx : Cx := { cx0 with con := look [], loop := look [(3, ⟨⟨[(0, false, [.dat (.sl TNumberedPacket) [0]]), (3, false, [.dat (.int .i64) []]), (4, false, [.dat (.int .i64) []])], []⟩, [(.exit 0, ⟨[(3, false, [.dat (.int .i64) []])], []⟩)]⟩)] }
def spec_OutstandingBytes.ps : List PK := [.val TSession true]
def spec_OutstandingBytes.rs : List RK := [⟨(.int .i64), false, .own⟩]
def spec_OutstandingBytes.con : Con := ⟨spec_OutstandingBytes.ps, spec_OutstandingBytes.rs, spec_OutstandingBytes.f⟩
def spec_OutstandingBytes.cx : Cx := { cx0 with con := look [(208, spec_l30Bytes.con)], loop := look [] }
def spec_l1In.ps : List PK := [.val (.int .i64) false, .val (.int .i64) false, .val (.int .i64) false]
def spec_l1In.rs : List RK := [⟨.bool, false, .own⟩]
def spec_l1In.con : Con := ⟨spec_l1In.ps, spec_l1In.rs, spec_l1In.f⟩
def spec_l1In.cx : Cx := { cx0 with con := look [], loop := look [] }
def spec_IsValidQuota.ps : List PK := [.val TQuota true]
def spec_IsValidQuota.rs : List RK := [⟨.bool, false, .own⟩]
def spec_IsValidQuota.con : Con := ⟨spec_IsValidQuota.ps, spec_IsValidQuota.rs, spec_IsValidQuota.f⟩
def spec_IsValidQuota.cx : Cx := { cx0 with con := look [(140, spec_l1In.con)], loop := look [] }
def spec_RemainingQuota.ps : List PK := [.val TQuota true]
def spec_RemainingQuota.rs : List RK := [⟨(.int .i64), false, .own⟩]
def spec_RemainingQuota.con : Con := ⟨spec_RemainingQuota.ps, spec_RemainingQuota.rs, spec_RemainingQuota.f⟩
def spec_RemainingQuota.cx : Cx := { cx0 with con := look [(182, spec_IsValidQuota.con)], loop := look [] }
def spec_QuotaNeeded.ps : List PK := [.val TSession true, .val (.int .i64) false]
def spec_QuotaNeeded.rs : List RK := [⟨(.int .i64), false, .own⟩]
def spec_QuotaNeeded.con : Con := ⟨spec_QuotaNeeded.ps, spec_QuotaNeeded.rs, spec_QuotaNeeded.f⟩
def spec_QuotaNeeded.cx : Cx := { cx0 with con := look [(90, spec_Max.con), (178, spec_OutstandingBytes.con), (179, spec_RemainingQuota.con)], loop := look [] }
def spec_l16Copy.ps : List PK := [.val TAccount true]
def spec_l16Copy.rs : List RK := [⟨TAccount, true, .own⟩]
def spec_l16Copy.con : Con := ⟨spec_l16Copy.ps, spec_l16Copy.rs, spec_l16Copy.f⟩
def spec_l16Copy.cx : Cx := { cx0 with con := look [], loop := look [] }
def spec_TotalReserved.ps : List PK := [.val TAccount true]
def spec_TotalReserved.rs : List RK := [⟨(.int .i64), false, .own⟩]
def spec_TotalReserved.con : Con := ⟨spec_TotalReserved.ps, spec_TotalReserved.rs, spec_TotalReserved.f⟩
def spec_TotalReserved.cx : Cx := { cx0 with con := look [], loop := look [(3, ⟨⟨[(1, false, [.ptr 512 0]), (3, false, [.dat (.int .i64) []]), (4, false, [.dat (.int .i64) []])], [(512, .box [.dat TAccount [0]])]⟩, [(.exit 0, ⟨[(3, false, [.dat (.int .i64) []])], []⟩)]⟩)] }
def spec_IsValidAccount.ps : List PK := [.val TAccount true]
def spec_IsValidAccount.rs : List RK := [⟨.bool, false, .own⟩]
def spec_IsValidAccount.con : Con := ⟨spec_IsValidAccount.ps, spec_IsValidAccount.rs, spec_IsValidAccount.f⟩
def spec_IsValidAccount.cx : Cx := { cx0 with con := look [(140, spec_l1In.con), (287, spec_TotalReserved.con)], loop := look [(2, ⟨⟨[(1, false, [.ptr 512 0]), (3, false, [.dat (.int .i64) []])], [(512, .box [.dat TAccount [0]])]⟩, [(.exit 0, ⟨[(1, false, [.ptr 512 0])], [(512, .box [.dat TAccount [0]])]⟩), (.ret, ⟨[(2, false, [.dat .bool []])], []⟩)]⟩)] }
def spec_l16Find.ps : List PK := [.val TAccount true, .val (.int .i64) false]
def spec_l16Find.rs : List RK := [⟨(.int .i64), false, .own⟩]
def spec_l16Find.con : Con := ⟨spec_l16Find.ps, spec_l16Find.rs, spec_l16Find.f⟩
def spec_l16Find.cx : Cx := { cx0 with con := look [], loop := look [(2, ⟨⟨[(1, false, [.dat (.int .i64) []]), (2, false, [.ptr 768 0]), (5, false, [.dat (.int .i64) []])], [(768, .box [.dat TAccount [0]])]⟩, [(.exit 0, ⟨[], []⟩), (.ret, ⟨[(4, false, [.dat (.int .i64) []])], []⟩)]⟩)] }
def spec_Min.ps : List PK := [.val (.int .i64) false, .val (.int .i64) false]
def spec_Min.rs : List RK := [⟨(.int .i64), false, .own⟩]
def spec_Min.con : Con := ⟨spec_Min.ps, spec_Min.rs, spec_Min.f⟩
def spec_Min.cx : Cx := { cx0 with con := look [], loop := look [] }
def spec_l16Add.ps : List PK := [.val (.sl TSubscriberID) false, .val (.int .i64) false, .val (.int .i64) false]
def spec_l16Add.rs : List RK := [⟨(.sl TSubscriberID), false, .own⟩]
def spec_l16Add.con : Con := ⟨spec_l16Add.ps, spec_l16Add.rs, spec_l16Add.f⟩
def spec_l16Add.cx : Cx := { cx0 with con := look [], loop := look [(2, ⟨⟨[(0, false, [.dat (.sl TSubscriberID) [0]]), (1, false, [.dat (.int .i64) []]), (2, false, [.dat (.int .i64) []]), (7, false, [.dat (.int .i64) []])], []⟩, [(.exit 0, ⟨[(0, false, [.dat (.sl TSubscriberID) [0]]), (1, false, [.dat (.int .i64) []]), (2, false, [.dat (.int .i64) []]), (7, false, [.dat (.int .i64) []])], []⟩)]⟩)] }
def spec_Reserve.ps : List PK := [.val TAccount true, .val (.int .i64) false, .val (.int .i64) false]
def spec_Reserve.rs : List RK := [⟨TAccount, true, .own⟩, ⟨(.int .i64), false, .own⟩]
def spec_Reserve.con : Con := ⟨spec_Reserve.ps, spec_Reserve.rs, spec_Reserve.f⟩
def spec_Reserve.cx : Cx := { cx0 with con := look [(88, spec_l16Copy.con), (140, spec_l1In.con), (257, spec_IsValidAccount.con), (258, spec_l16Find.con), (259, spec_Min.con), (260, spec_l16Add.con)], loop := look [] }
def spec_ReservedFor.ps : List PK := [.val TAccount true, .val (.int .i64) false]
def spec_ReservedFor.rs : List RK := [⟨(.int .i64), false, .own⟩]
def spec_ReservedFor.con : Con := ⟨spec_ReservedFor.ps, spec_ReservedFor.rs, spec_ReservedFor.f⟩
def spec_ReservedFor.cx : Cx := { cx0 with con := look [(258, spec_l16Find.con)], loop := look [] }
def spec_QuotaMatchesAccount.ps : List PK := [.val TAccount true, .val TQuota true]
def spec_QuotaMatchesAccount.rs : List RK := [⟨.bool, false, .own⟩]
def spec_QuotaMatchesAccount.con : Con := ⟨spec_QuotaMatchesAccount.ps, spec_QuotaMatchesAccount.rs, spec_QuotaMatchesAccount.f⟩
def spec_QuotaMatchesAccount.cx : Cx := { cx0 with con := look [(182, spec_IsValidQuota.con), (257, spec_IsValidAccount.con), (261, spec_ReservedFor.con)], loop := look [] }
def spec_RequestQuota.ps : List PK := [.val TAccount true, .val TQuota true, .val (.int .i64) false]
def spec_RequestQuota.rs : List RK := [⟨TAccount, true, .own⟩, ⟨TQuota, true, .own⟩]
def spec_RequestQuota.con : Con := ⟨spec_RequestQuota.ps, spec_RequestQuota.rs, spec_RequestQuota.f⟩
def spec_RequestQuota.cx : Cx := { cx0 with con := look [(88, spec_l16Copy.con), (180, spec_Reserve.con), (181, spec_QuotaMatchesAccount.con), (182, spec_IsValidQuota.con)], loop := look [] }
def spec_EnsureQuota.ps : List PK := [.val TSession true, .val TAccount true, .val (.int .i64) false]
def spec_EnsureQuota.rs : List RK := [⟨TSession, true, .own⟩, ⟨TAccount, true, .own⟩]
def spec_EnsureQuota.con : Con := ⟨spec_EnsureQuota.ps, spec_EnsureQuota.rs, spec_EnsureQuota.f⟩
def spec_EnsureQuota.cx : Cx := { cx0 with con := look [(86, spec_l30Copy.con), (87, spec_QuotaNeeded.con), (88, spec_l16Copy.con), (89, spec_RequestQuota.con), (90, spec_Max.con)], loop := look [] }
def spec_l31None.ps : List PK := [.val TSession true, .val TAccount true]
def spec_l31None.rs : List RK := [⟨TTransmission, true, .own⟩]
def spec_l31None.con : Con := ⟨spec_l31None.ps, spec_l31None.rs, spec_l31None.f⟩
def spec_l31None.cx : Cx := { cx0 with con := look [(86, spec_l30Copy.con), (88, spec_l16Copy.con)], loop := look [] }
def spec_IsValidKey.ps : List PK := [.val (.int .i64) false]
def spec_IsValidKey.rs : List RK := [⟨.bool, false, .own⟩]
def spec_IsValidKey.con : Con := ⟨spec_IsValidKey.ps, spec_IsValidKey.rs, spec_IsValidKey.f⟩
def spec_IsValidKey.cx : Cx := { cx0 with con := look [(140, spec_l1In.con)], loop := look [] }
def spec_IsValidSubscriberID.ps : List PK := [.val TSubscriberID true]
def spec_IsValidSubscriberID.rs : List RK := [⟨.bool, false, .own⟩]
def spec_IsValidSubscriberID.con : Con := ⟨spec_IsValidSubscriberID.ps, spec_IsValidSubscriberID.rs, spec_IsValidSubscriberID.f⟩
def spec_IsValidSubscriberID.cx : Cx := { cx0 with con := look [(140, spec_l1In.con)], loop := look [] }
def spec_IsValidSubscriberRecord.ps : List PK := [.val TUSIM true]
def spec_IsValidSubscriberRecord.rs : List RK := [⟨.bool, false, .own⟩]
def spec_IsValidSubscriberRecord.con : Con := ⟨spec_IsValidSubscriberRecord.ps, spec_IsValidSubscriberRecord.rs, spec_IsValidSubscriberRecord.f⟩
def spec_IsValidSubscriberRecord.cx : Cx := { cx0 with con := look [(51, spec_IsValidKey.con), (140, spec_l1In.con), (278, spec_IsValidSubscriberID.con)], loop := look [] }
def spec_IsValidSubscription.ps : List PK := [.val TSubscription true]
def spec_IsValidSubscription.rs : List RK := [⟨.bool, false, .own⟩]
def spec_IsValidSubscription.con : Con := ⟨spec_IsValidSubscription.ps, spec_IsValidSubscription.rs, spec_IsValidSubscription.f⟩
def spec_IsValidSubscription.cx : Cx := { cx0 with con := look [(140, spec_l1In.con)], loop := look [(2, ⟨⟨[(1, false, [.ptr 512 0]), (3, false, [.dat (.int .i64) []])], [(512, .box [.dat TSubscription [0]])]⟩, [(.exit 0, ⟨[(1, false, [.ptr 512 0])], [(512, .box [.dat TSubscription [0]])]⟩), (.ret, ⟨[(2, false, [.dat .bool []])], []⟩)]⟩)] }
def spec_IsValidPaging.ps : List PK := [.val TQuota true]
def spec_IsValidPaging.rs : List RK := [⟨.bool, false, .own⟩]
def spec_IsValidPaging.con : Con := ⟨spec_IsValidPaging.ps, spec_IsValidPaging.rs, spec_IsValidPaging.f⟩
def spec_IsValidPaging.cx : Cx := { cx0 with con := look [(140, spec_l1In.con)], loop := look [] }
def spec_IsValidSender.ps : List PK := [.val TSendWindow true]
def spec_IsValidSender.rs : List RK := [⟨.bool, false, .own⟩]
def spec_IsValidSender.con : Con := ⟨spec_IsValidSender.ps, spec_IsValidSender.rs, spec_IsValidSender.f⟩
def spec_IsValidSender.cx : Cx := { cx0 with con := look [(140, spec_l1In.con)], loop := look [(2, ⟨⟨[(1, false, [.ptr 512 0]), (3, false, [.dat (.int .i64) []])], [(512, .box [.dat TSendWindow [0]])]⟩, [(.exit 0, ⟨[(1, false, [.ptr 512 0])], [(512, .box [.dat TSendWindow [0]])]⟩), (.ret, ⟨[(2, false, [.dat .bool []])], []⟩)]⟩)] }
def spec_EqualBytes.ps : List PK := [.val (.sl (.int .u8)) false, .val (.sl (.int .u8)) false]
def spec_EqualBytes.rs : List RK := [⟨.bool, false, .own⟩]
def spec_EqualBytes.con : Con := ⟨spec_EqualBytes.ps, spec_EqualBytes.rs, spec_EqualBytes.f⟩
def spec_EqualBytes.cx : Cx := { cx0 with con := look [], loop := look [] }
def spec_l30Stream.ps : List PK := [.val TSession true]
def spec_l30Stream.rs : List RK := [⟨.bool, false, .own⟩]
def spec_l30Stream.con : Con := ⟨spec_l30Stream.ps, spec_l30Stream.rs, spec_l30Stream.f⟩
def spec_l30Stream.cx : Cx := { cx0 with con := look [(179, spec_RemainingQuota.con), (208, spec_l30Bytes.con), (216, spec_IsValidSender.con), (289, spec_EqualBytes.con)], loop := look [(2, ⟨⟨[(1, false, [.ptr 512 0]), (3, false, [.dat (.int .i64) []])], [(512, .box [.dat TSession [0]])]⟩, [(.exit 0, ⟨[(1, false, [.ptr 512 0])], [(512, .box [.dat TSession [0]])]⟩), (.ret, ⟨[(2, false, [.dat .bool []])], []⟩)]⟩),
    (9, ⟨⟨[(1, false, [.ptr 512 0]), (4, false, [.dat (.int .i64) []])], [(512, .box [.dat TSession [0]])]⟩, [(.exit 2, ⟨[(1, false, [.ptr 512 0])], [(512, .box [.dat TSession [0]])]⟩), (.ret, ⟨[(2, false, [.dat .bool []])], []⟩)]⟩)] }
def spec_IsValidSession.ps : List PK := [.val TSession true]
def spec_IsValidSession.rs : List RK := [⟨.bool, false, .own⟩]
def spec_IsValidSession.con : Con := ⟨spec_IsValidSession.ps, spec_IsValidSession.rs, spec_IsValidSession.f⟩
def spec_IsValidSession.cx : Cx := { cx0 with con := look [(51, spec_IsValidKey.con), (140, spec_l1In.con), (182, spec_IsValidQuota.con), (268, spec_IsValidSubscriberRecord.con), (269, spec_IsValidSubscription.con), (270, spec_IsValidPaging.con), (271, spec_l30Stream.con)], loop := look [] }
def spec_l31Idle.ps : List PK := [.val TSession true]
def spec_l31Idle.rs : List RK := [⟨.bool, false, .own⟩]
def spec_l31Idle.con : Con := ⟨spec_l31Idle.ps, spec_l31Idle.rs, spec_l31Idle.f⟩
def spec_l31Idle.cx : Cx := { cx0 with con := look [(215, spec_IsValidSession.con)], loop := look [] }
def spec_SendPacket.ps : List PK := [.val TSendWindow true, .val (.sl (.int .u8)) false]
def spec_SendPacket.rs : List RK := [⟨TSendWindow, true, .own⟩, ⟨TNumberedPacket, true, .own⟩, ⟨.bool, false, .own⟩]
def spec_SendPacket.con : Con := ⟨spec_SendPacket.ps, spec_SendPacket.rs, spec_SendPacket.f⟩
def spec_SendPacket.cx : Cx := { cx0 with con := look [(177, spec_l24Sender.con), (216, spec_IsValidSender.con)], loop := look [] }
def spec_Mod.ps : List PK := [.val (.int .i64) false, .val (.int .i64) false]
def spec_Mod.rs : List RK := [⟨(.int .i64), false, .own⟩]
def spec_Mod.con : Con := ⟨spec_Mod.ps, spec_Mod.rs, spec_Mod.f⟩
def spec_Mod.cx : Cx := { cx0 with con := look [(140, spec_l1In.con)], loop := look [] }
def spec_Hash.ps : List PK := [.val (.sl (.int .i64)) false]
def spec_Hash.rs : List RK := [⟨(.int .i64), false, .own⟩]
def spec_Hash.con : Con := ⟨spec_Hash.ps, spec_Hash.rs, spec_Hash.f⟩
def spec_Hash.cx : Cx := { cx0 with con := look [(279, spec_Mod.con)], loop := look [(3, ⟨⟨[(0, false, [.dat (.sl (.int .i64)) [0]]), (3, false, [.dat (.int .i64) []]), (4, false, [.dat (.int .i64) []])], []⟩, [(.exit 0, ⟨[(3, false, [.dat (.int .i64) []])], []⟩)]⟩)] }
def spec_KeyedHash.ps : List PK := [.val (.int .i64) false, .val (.sl (.int .i64)) false]
def spec_KeyedHash.rs : List RK := [⟨(.int .i64), false, .own⟩]
def spec_KeyedHash.con : Con := ⟨spec_KeyedHash.ps, spec_KeyedHash.rs, spec_KeyedHash.f⟩
def spec_KeyedHash.cx : Cx := { cx0 with con := look [(281, spec_Hash.con)], loop := look [] }
def spec_DeriveKey.ps : List PK := [.val (.int .i64) false, .val (.int .i64) false]
def spec_DeriveKey.rs : List RK := [⟨(.int .i64), false, .own⟩]
def spec_DeriveKey.con : Con := ⟨spec_DeriveKey.ps, spec_DeriveKey.rs, spec_DeriveKey.f⟩
def spec_DeriveKey.cx : Cx := { cx0 with con := look [(90, spec_Max.con), (231, spec_KeyedHash.con)], loop := look [] }
def spec_KeyForPath.ps : List PK := [.val (.int .i64) false, .val (.sl (.int .i64)) true]
def spec_KeyForPath.rs : List RK := [⟨(.int .i64), false, .own⟩]
def spec_KeyForPath.con : Con := ⟨spec_KeyForPath.ps, spec_KeyForPath.rs, spec_KeyForPath.f⟩
def spec_KeyForPath.cx : Cx := { cx0 with con := look [(249, spec_DeriveKey.con)], loop := look [(3, ⟨⟨[(3, false, [.ptr 1024 0]), (5, false, [.dat (.int .i64) []]), (6, false, [.dat (.int .i64) []])], [(1024, .box [.dat (.sl (.int .i64)) [0]])]⟩, [(.exit 0, ⟨[(5, false, [.dat (.int .i64) []])], []⟩)]⟩)] }
def spec_RadioKeyPath.ps : List PK := [.val (.int .i64) false]
def spec_RadioKeyPath.rs : List RK := [⟨(.sl (.int .i64)), true, .own⟩]
def spec_RadioKeyPath.con : Con := ⟨spec_RadioKeyPath.ps, spec_RadioKeyPath.rs, spec_RadioKeyPath.f⟩
def spec_RadioKeyPath.cx : Cx := { cx0 with con := look [], loop := look [] }
def spec_RadioKey.ps : List PK := [.val (.int .i64) false, .val (.int .i64) false]
def spec_RadioKey.rs : List RK := [⟨(.int .i64), false, .own⟩]
def spec_RadioKey.con : Con := ⟨spec_RadioKey.ps, spec_RadioKey.rs, spec_RadioKey.f⟩
def spec_RadioKey.cx : Cx := { cx0 with con := look [(234, spec_KeyForPath.con), (250, spec_RadioKeyPath.con)], loop := look [] }
def spec_BytesToInts.ps : List PK := [.val (.sl (.int .u8)) false]
def spec_BytesToInts.rs : List RK := [⟨(.sl (.int .i64)), false, .own⟩]
def spec_BytesToInts.con : Con := ⟨spec_BytesToInts.ps, spec_BytesToInts.rs, spec_BytesToInts.f⟩
def spec_BytesToInts.cx : Cx := { cx0 with con := look [], loop := look [(3, ⟨⟨[(0, false, [.dat (.sl (.int .u8)) [0]]), (3, false, [.own 1279]), (4, false, [.dat (.int .i64) []])], [(1279, .arr (.int .i64) true [])]⟩, [(.exit 0, ⟨[(3, false, [.own 1279])], [(1279, .arr (.int .i64) true [])]⟩)]⟩)] }
def spec_l8Mac.ps : List PK := [.val (.int .i64) false, .val TSecuredMessage true]
def spec_l8Mac.rs : List RK := [⟨(.int .i64), false, .own⟩]
def spec_l8Mac.con : Con := ⟨spec_l8Mac.ps, spec_l8Mac.rs, spec_l8Mac.f⟩
def spec_l8Mac.cx : Cx := { cx0 with con := look [(231, spec_KeyedHash.con), (292, spec_BytesToInts.con)], loop := look [] }
def spec_Encrypt.ps : List PK := [.val (.int .i64) false, .val (.sl (.int .u8)) false]
def spec_Encrypt.rs : List RK := [⟨(.sl (.int .u8)), false, .own⟩]
def spec_Encrypt.con : Con := ⟨spec_Encrypt.ps, spec_Encrypt.rs, spec_Encrypt.f⟩
def spec_Encrypt.cx : Cx := { cx0 with con := look [(231, spec_KeyedHash.con)], loop := look [(3, ⟨⟨[(0, false, [.dat (.int .i64) []]), (1, false, [.dat (.sl (.int .u8)) [0]]), (5, false, [.own 1791]), (6, false, [.dat (.int .i64) []])], [(1791, .arr (.int .u8) true [])]⟩, [(.exit 0, ⟨[(5, false, [.own 1791])], [(1791, .arr (.int .u8) true [])]⟩)]⟩)] }
def spec_Protect.ps : List PK := [.val (.int .i64) false, .val (.int .i64) false, .val (.int .i64) false, .val (.sl (.int .u8)) false]
def spec_Protect.rs : List RK := [⟨TSecuredMessage, true, .own⟩]
def spec_Protect.con : Con := ⟨spec_Protect.ps, spec_Protect.rs, spec_Protect.f⟩
def spec_Protect.cx : Cx := { cx0 with con := look [(249, spec_DeriveKey.con), (286, spec_l8Mac.con), (290, spec_Encrypt.con)], loop := look [] }
def spec_SealRadio.ps : List PK := [.val (.int .i64) false, .val (.int .i64) false, .val (.int .i64) false, .val TNumberedPacket true]
def spec_SealRadio.rs : List RK := [⟨TRadioPacket, true, .own⟩]
def spec_SealRadio.con : Con := ⟨spec_SealRadio.ps, spec_SealRadio.rs, spec_SealRadio.f⟩
def spec_SealRadio.cx : Cx := { cx0 with con := look [(160, spec_RadioKey.con), (272, spec_Protect.con)], loop := look [] }
def spec_l31Seal.ps : List PK := [.val TSession true, .val TNumberedPacket true]
def spec_l31Seal.rs : List RK := [⟨TRadioPacket, true, .own⟩]
def spec_l31Seal.con : Con := ⟨spec_l31Seal.ps, spec_l31Seal.rs, spec_l31Seal.f⟩
def spec_l31Seal.cx : Cx := { cx0 with con := look [(217, spec_SealRadio.con)], loop := look [] }
def spec_SendNew.ps : List PK := [.val TSession true, .val TAccount true]
def spec_SendNew.rs : List RK := [⟨TTransmission, true, .own⟩]
def spec_SendNew.con : Con := ⟨spec_SendNew.ps, spec_SendNew.rs, spec_SendNew.f⟩
def spec_SendNew.cx : Cx := { cx0 with con := look [(26, spec_EnsureQuota.con), (87, spec_QuotaNeeded.con), (129, spec_l31None.con), (130, spec_l31Idle.con), (131, spec_SendPacket.con), (132, spec_l31Seal.con)], loop := look [(5, ⟨⟨[(2, false, [.ptr 768 0]), (4, false, [.ptr 1280 0]), (5, false, [.ptr 1536 0]), (6, false, [.dat (.int .i64) []])], [(768, .box [.dat TSession [0]]), (1280, .box [.dat TTransmission []]), (1536, .box [.dat TUSIM [], .dat (.int .i64) [], .dat (.int .i64) [], .dat (.int .i64) [], .own 1671, .dat (.int .i64) [], .dat TAuthVector [], .dat (.int .i64) [], .dat (.int .i64) [], .dat (.int .i64) [], .dat (.int .i64) [], .dat (.int .i64) [], .dat (.int .i64) [], .dat TQuota [], .own 1687, .dat (.int .i64) [], .own 1689, .dat TAuthResponse [], .dat (.int .i64) [], .dat (.int .i64) [], .dat (.int .i64) [], .own 1697, .own 1698, .own 1699]), (1671, .arr (.int .i64) true []), (1687, .arr (.sl (.int .u8)) true []), (1689, .arr TNumberedPacket true []), (1697, .arr TSubscriberID true []), (1698, .arr TSignal true []), (1699, .arr TRadioPacket true [])]⟩, [(.exit 0, ⟨[(4, false, [.ptr 1280 0]), (5, false, [.ptr 1536 0])], [(1280, .box [.dat TTransmission []]), (1536, .box [.dat TUSIM [], .dat (.int .i64) [], .dat (.int .i64) [], .dat (.int .i64) [], .own 1671, .dat (.int .i64) [], .dat TAuthVector [], .dat (.int .i64) [], .dat (.int .i64) [], .dat (.int .i64) [], .dat (.int .i64) [], .dat (.int .i64) [], .dat (.int .i64) [], .dat TQuota [], .own 1687, .dat (.int .i64) [], .own 1689, .dat TAuthResponse [], .dat (.int .i64) [], .dat (.int .i64) [], .dat (.int .i64) [], .own 1697, .own 1698, .own 1699]), (1671, .arr (.int .i64) true []), (1687, .arr (.sl (.int .u8)) true []), (1689, .arr TNumberedPacket true []), (1697, .arr TSubscriberID true []), (1698, .arr TSignal true []), (1699, .arr TRadioPacket true [])]⟩), (.ret, ⟨[(4, false, [.ptr 1280 0])], [(1280, .box [.dat TUSIM [], .dat (.int .i64) [], .dat (.int .i64) [], .dat (.int .i64) [], .own 1415, .dat (.int .i64) [], .dat TAuthVector [], .dat (.int .i64) [], .dat (.int .i64) [], .dat (.int .i64) [], .dat (.int .i64) [], .dat (.int .i64) [], .dat (.int .i64) [], .dat TQuota [], .own 1431, .dat (.int .i64) [], .own 1433, .dat TAuthResponse [], .dat (.int .i64) [], .dat (.int .i64) [], .dat (.int .i64) [], .own 1441, .own 1442, .own 1443]), (1415, .arr (.int .i64) true []), (1431, .arr (.sl (.int .u8)) true []), (1433, .arr TNumberedPacket true []), (1441, .arr TSubscriberID true []), (1442, .arr TSignal true []), (1443, .arr TRadioPacket true [])]⟩)]⟩)] }
def impl_copyInts.ps : List PK := [.val (.sl (.int .i64)) false]
def impl_copyInts.rs : List RK := [⟨(.sl (.int .i64)), false, .own⟩]
def impl_copyInts.con : Con := ⟨impl_copyInts.ps, impl_copyInts.rs, impl_copyInts.f⟩
def impl_copyInts.cx : Cx := { cx0 with con := look [], loop := look [] }
def impl_copySubscription.ps : List PK := [.val TSubscription true]
def impl_copySubscription.rs : List RK := [⟨TSubscription, true, .own⟩]
def impl_copySubscription.con : Con := ⟨impl_copySubscription.ps, impl_copySubscription.rs, impl_copySubscription.f⟩
def impl_copySubscription.cx : Cx := { cx0 with con := look [(262, impl_copyInts.con)], loop := look [] }
def impl_copyBytes.ps : List PK := [.val (.sl (.int .u8)) false]
def impl_copyBytes.rs : List RK := [⟨(.sl (.int .u8)), false, .own⟩]
def impl_copyBytes.con : Con := ⟨impl_copyBytes.ps, impl_copyBytes.rs, impl_copyBytes.f⟩
def impl_copyBytes.cx : Cx := { cx0 with con := look [], loop := look [] }
def impl_copyPayloads.ps : List PK := [.val (.sl (.sl (.int .u8))) false]
def impl_copyPayloads.rs : List RK := [⟨(.sl (.sl (.int .u8))), false, .own⟩]
def impl_copyPayloads.con : Con := ⟨impl_copyPayloads.ps, impl_copyPayloads.rs, impl_copyPayloads.f⟩
def impl_copyPayloads.cx : Cx := { cx0 with con := look [(170, impl_copyBytes.con)], loop := look [(3, ⟨⟨[(3, false, [.own 1279]), (9, false, [.dat (.sl (.sl (.int .u8))) [0]]), (10, false, [.dat (.int .i64) []]), (11, false, [.dat (.int .i64) []])], [(1279, .arr (.sl (.int .u8)) true [])]⟩, [(.exit 0, ⟨[(3, false, [.own 1279])], [(1279, .arr (.sl (.int .u8)) true [])]⟩)]⟩)] }
def impl_copyNumbered.ps : List PK := [.val (.sl TNumberedPacket) false]
def impl_copyNumbered.rs : List RK := [⟨(.sl TNumberedPacket), false, .own⟩]
def impl_copyNumbered.con : Con := ⟨impl_copyNumbered.ps, impl_copyNumbered.rs, impl_copyNumbered.f⟩
def impl_copyNumbered.cx : Cx := { cx0 with con := look [(170, impl_copyBytes.con)], loop := look [(3, ⟨⟨[(3, false, [.own 1279]), (9, false, [.dat (.sl TNumberedPacket) [0]]), (10, false, [.dat (.int .i64) []]), (11, false, [.dat (.int .i64) []])], [(1279, .arr TNumberedPacket true [])]⟩, [(.exit 0, ⟨[(3, false, [.own 1279])], [(1279, .arr TNumberedPacket true [])]⟩)]⟩)] }
def impl_copySender.ps : List PK := [.val TSendWindow true]
def impl_copySender.rs : List RK := [⟨TSendWindow, true, .own⟩]
def impl_copySender.con : Con := ⟨impl_copySender.ps, impl_copySender.rs, impl_copySender.f⟩
def impl_copySender.cx : Cx := { cx0 with con := look [(256, impl_copyNumbered.con)], loop := look [] }
def impl_copySession.ps : List PK := [.val TSession true]
def impl_copySession.rs : List RK := [⟨TSession, true, .own⟩]
def impl_copySession.con : Con := ⟨impl_copySession.ps, impl_copySession.rs, impl_copySession.f⟩
def impl_copySession.cx : Cx := { cx0 with con := look [(186, impl_copySubscription.con), (187, impl_copyPayloads.con), (188, impl_copySender.con)], loop := look [] }
def impl_Max.ps : List PK := [.val (.int .i64) false, .val (.int .i64) false]
def impl_Max.rs : List RK := [⟨(.int .i64), false, .own⟩]
def impl_Max.con : Con := ⟨impl_Max.ps, impl_Max.rs, impl_Max.f⟩
def impl_Max.cx : Cx := { cx0 with con := look [], loop := look [] }
def impl_numberedBytes.ps : List PK := [.val (.sl TNumberedPacket) false]
def impl_numberedBytes.rs : List RK := [⟨(.int .i64), false, .own⟩]
def impl_numberedBytes.con : Con := ⟨impl_numberedBytes.ps, impl_numberedBytes.rs, impl_numberedBytes.f⟩
def impl_numberedBytes.cx : Cx := { cx0 with con := look [], loop := look [(3, ⟨⟨[(3, false, [.dat (.int .i64) []]), (6, false, [.dat (.sl TNumberedPacket) [0]]), (7, false, [.dat (.int .i64) []]), (8, false, [.dat (.int .i64) []])], []⟩, [(.exit 0, ⟨[(3, false, [.dat (.int .i64) []])], []⟩)]⟩)] }
def impl_OutstandingBytes.ps : List PK := [.val TSession true]
def impl_OutstandingBytes.rs : List RK := [⟨(.int .i64), false, .own⟩]
def impl_OutstandingBytes.con : Con := ⟨impl_OutstandingBytes.ps, impl_OutstandingBytes.rs, impl_OutstandingBytes.f⟩
def impl_OutstandingBytes.cx : Cx := { cx0 with con := look [(263, impl_numberedBytes.con)], loop := look [] }
def impl_IsValidQuota.ps : List PK := [.val TQuota true]
def impl_IsValidQuota.rs : List RK := [⟨.bool, false, .own⟩]
def impl_IsValidQuota.con : Con := ⟨impl_IsValidQuota.ps, impl_IsValidQuota.rs, impl_IsValidQuota.f⟩
def impl_IsValidQuota.cx : Cx := { cx0 with con := look [], loop := look [] }
def impl_RemainingQuota.ps : List PK := [.val TQuota true]
def impl_RemainingQuota.rs : List RK := [⟨(.int .i64), false, .own⟩]
def impl_RemainingQuota.con : Con := ⟨impl_RemainingQuota.ps, impl_RemainingQuota.rs, impl_RemainingQuota.f⟩
def impl_RemainingQuota.cx : Cx := { cx0 with con := look [(222, impl_IsValidQuota.con)], loop := look [] }
def impl_QuotaNeeded.ps : List PK := [.val TSession true, .val (.int .i64) false]
def impl_QuotaNeeded.rs : List RK := [⟨(.int .i64), false, .own⟩]
def impl_QuotaNeeded.con : Con := ⟨impl_QuotaNeeded.ps, impl_QuotaNeeded.rs, impl_QuotaNeeded.f⟩
def impl_QuotaNeeded.cx : Cx := { cx0 with con := look [(102, impl_Max.con), (189, impl_OutstandingBytes.con), (190, impl_RemainingQuota.con)], loop := look [] }
def impl_copyItems_impl_Reservation.ps : List PK := [.val (.sl TSubscriberID) false]
def impl_copyItems_impl_Reservation.rs : List RK := [⟨(.sl TSubscriberID), false, .own⟩]
def impl_copyItems_impl_Reservation.con : Con := ⟨impl_copyItems_impl_Reservation.ps, impl_copyItems_impl_Reservation.rs, impl_copyItems_impl_Reservation.f⟩
def impl_copyItems_impl_Reservation.cx : Cx := { cx0 with con := look [], loop := look [] }
def impl_copyAccount.ps : List PK := [.val TAccount true]
def impl_copyAccount.rs : List RK := [⟨TAccount, true, .own⟩]
def impl_copyAccount.con : Con := ⟨impl_copyAccount.ps, impl_copyAccount.rs, impl_copyAccount.f⟩
def impl_copyAccount.cx : Cx := { cx0 with con := look [(191, impl_copyItems_impl_Reservation.con)], loop := look [] }
def impl_InRange.ps : List PK := [.val (.int .i64) false, .val (.int .i64) false, .val (.int .i64) false]
def impl_InRange.rs : List RK := [⟨.bool, false, .own⟩]
def impl_InRange.con : Con := ⟨impl_InRange.ps, impl_InRange.rs, impl_InRange.f⟩
def impl_InRange.cx : Cx := { cx0 with con := look [], loop := look [] }
def impl_TotalReserved.ps : List PK := [.val TAccount true]
def impl_TotalReserved.rs : List RK := [⟨(.int .i64), false, .own⟩]
def impl_TotalReserved.con : Con := ⟨impl_TotalReserved.ps, impl_TotalReserved.rs, impl_TotalReserved.f⟩
def impl_TotalReserved.cx : Cx := { cx0 with con := look [], loop := look [(3, ⟨⟨[(3, false, [.dat (.int .i64) []]), (7, false, [.dat (.sl TSubscriberID) [0]]), (8, false, [.dat (.int .i64) []]), (9, false, [.dat (.int .i64) []])], []⟩, [(.exit 0, ⟨[(3, false, [.dat (.int .i64) []])], []⟩)]⟩)] }
def impl_IsValidAccount.ps : List PK := [.val TAccount true]
def impl_IsValidAccount.rs : List RK := [⟨.bool, false, .own⟩]
def impl_IsValidAccount.con : Con := ⟨impl_IsValidAccount.ps, impl_IsValidAccount.rs, impl_IsValidAccount.f⟩
def impl_IsValidAccount.cx : Cx := { cx0 with con := look [(146, impl_InRange.con), (288, impl_TotalReserved.con)], loop := look [(6, ⟨⟨[(1, false, [.ptr 512 0]), (30, false, [.dat (.sl TSubscriberID) [0]]), (31, false, [.dat (.int .i64) []]), (32, false, [.dat (.int .i64) []])], [(512, .box [.dat TAccount [0]])]⟩, [(.exit 0, ⟨[(1, false, [.ptr 512 0])], [(512, .box [.dat TAccount [0]])]⟩), (.ret, ⟨[(2, false, [.dat .bool []])], []⟩)]⟩)] }
def impl_reservationIndex.ps : List PK := [.val TAccount true, .val (.int .i64) false]
def impl_reservationIndex.rs : List RK := [⟨(.int .i64), false, .own⟩]
def impl_reservationIndex.con : Con := ⟨impl_reservationIndex.ps, impl_reservationIndex.rs, impl_reservationIndex.f⟩
def impl_reservationIndex.cx : Cx := { cx0 with con := look [], loop := look [(2, ⟨⟨[(1, false, [.dat (.int .i64) []]), (8, false, [.dat (.sl TSubscriberID) [0]]), (9, false, [.dat (.int .i64) []]), (10, false, [.dat (.int .i64) []])], []⟩, [(.exit 0, ⟨[], []⟩), (.ret, ⟨[(4, false, [.dat (.int .i64) []])], []⟩)]⟩)] }
def impl_ReservedFor.ps : List PK := [.val TAccount true, .val (.int .i64) false]
def impl_ReservedFor.rs : List RK := [⟨(.int .i64), false, .own⟩]
def impl_ReservedFor.con : Con := ⟨impl_ReservedFor.ps, impl_ReservedFor.rs, impl_ReservedFor.f⟩
def impl_ReservedFor.cx : Cx := { cx0 with con := look [(267, impl_reservationIndex.con)], loop := look [] }
def impl_QuotaMatchesAccount.ps : List PK := [.val TAccount true, .val TQuota true]
def impl_QuotaMatchesAccount.rs : List RK := [⟨.bool, false, .own⟩]
def impl_QuotaMatchesAccount.con : Con := ⟨impl_QuotaMatchesAccount.ps, impl_QuotaMatchesAccount.rs, impl_QuotaMatchesAccount.f⟩
def impl_QuotaMatchesAccount.cx : Cx := { cx0 with con := look [(222, impl_IsValidQuota.con), (264, impl_IsValidAccount.con), (265, impl_ReservedFor.con)], loop := look [] }
def impl_Min.ps : List PK := [.val (.int .i64) false, .val (.int .i64) false]
def impl_Min.rs : List RK := [⟨(.int .i64), false, .own⟩]
def impl_Min.con : Con := ⟨impl_Min.ps, impl_Min.rs, impl_Min.f⟩
def impl_Min.cx : Cx := { cx0 with con := look [], loop := look [] }
def impl_Reserve.ps : List PK := [.val TAccount true, .val (.int .i64) false, .val (.int .i64) false]
def impl_Reserve.rs : List RK := [⟨TAccount, true, .own⟩, ⟨(.int .i64), false, .own⟩]
def impl_Reserve.con : Con := ⟨impl_Reserve.ps, impl_Reserve.rs, impl_Reserve.f⟩
def impl_Reserve.cx : Cx := { cx0 with con := look [(100, impl_copyAccount.con), (146, impl_InRange.con), (264, impl_IsValidAccount.con), (266, impl_Min.con), (267, impl_reservationIndex.con)], loop := look [(13, ⟨⟨[(1, false, [.dat (.int .i64) []]), (6, false, [.ptr 1792 0]), (8, false, [.ptr 2304 0]), (9, false, [.dat (.int .i64) []]), (11, false, [.dat (.int .i64) []])], [(1792, .box [.dat TAccount []]), (2304, .box [.dat (.int .i64) [], .dat (.int .i64) [], .dat (.int .i64) [], .own 2435]), (2435, .arr TSubscriberID true [])]⟩, [(.exit 0, ⟨[(1, false, [.dat (.int .i64) []]), (6, false, [.ptr 1792 0]), (8, false, [.ptr 2304 0]), (9, false, [.dat (.int .i64) []]), (11, false, [.dat (.int .i64) []])], [(1792, .box [.dat TAccount []]), (2304, .box [.dat (.int .i64) [], .dat (.int .i64) [], .dat (.int .i64) [], .own 2435]), (2435, .arr TSubscriberID true [])]⟩)]⟩)] }
def impl_RequestQuota.ps : List PK := [.val TAccount true, .val TQuota true, .val (.int .i64) false]
def impl_RequestQuota.rs : List RK := [⟨TAccount, true, .own⟩, ⟨TQuota, true, .own⟩]
def impl_RequestQuota.con : Con := ⟨impl_RequestQuota.ps, impl_RequestQuota.rs, impl_RequestQuota.f⟩
def impl_RequestQuota.cx : Cx := { cx0 with con := look [(100, impl_copyAccount.con), (192, impl_QuotaMatchesAccount.con), (193, impl_Reserve.con)], loop := look [] }
def impl_EnsureQuota.ps : List PK := [.val TSession true, .val TAccount true, .val (.int .i64) false]
def impl_EnsureQuota.rs : List RK := [⟨TSession, true, .own⟩, ⟨TAccount, true, .own⟩]
def impl_EnsureQuota.con : Con := ⟨impl_EnsureQuota.ps, impl_EnsureQuota.rs, impl_EnsureQuota.f⟩
def impl_EnsureQuota.cx : Cx := { cx0 with con := look [(98, impl_copySession.con), (99, impl_QuotaNeeded.con), (100, impl_copyAccount.con), (101, impl_RequestQuota.con), (102, impl_Max.con)], loop := look [] }
def impl_IsValidKey.ps : List PK := [.val (.int .i64) false]
def impl_IsValidKey.rs : List RK := [⟨.bool, false, .own⟩]
def impl_IsValidKey.con : Con := ⟨impl_IsValidKey.ps, impl_IsValidKey.rs, impl_IsValidKey.f⟩
def impl_IsValidKey.cx : Cx := { cx0 with con := look [(146, impl_InRange.con)], loop := look [] }
def impl_IsValidSubscriberID.ps : List PK := [.val TSubscriberID true]
def impl_IsValidSubscriberID.rs : List RK := [⟨.bool, false, .own⟩]
def impl_IsValidSubscriberID.con : Con := ⟨impl_IsValidSubscriberID.ps, impl_IsValidSubscriberID.rs, impl_IsValidSubscriberID.f⟩
def impl_IsValidSubscriberID.cx : Cx := { cx0 with con := look [(146, impl_InRange.con)], loop := look [] }
def impl_IsValidSubscriberRecord.ps : List PK := [.val TUSIM true]
def impl_IsValidSubscriberRecord.rs : List RK := [⟨.bool, false, .own⟩]
def impl_IsValidSubscriberRecord.con : Con := ⟨impl_IsValidSubscriberRecord.ps, impl_IsValidSubscriberRecord.rs, impl_IsValidSubscriberRecord.f⟩
def impl_IsValidSubscriberRecord.cx : Cx := { cx0 with con := look [(62, impl_IsValidKey.con), (146, impl_InRange.con), (273, impl_IsValidSubscriberID.con)], loop := look [] }
def impl_isAscending.ps : List PK := [.val (.sl (.int .i64)) false]
def impl_isAscending.rs : List RK := [⟨.bool, false, .own⟩]
def impl_isAscending.con : Con := ⟨impl_isAscending.ps, impl_isAscending.rs, impl_isAscending.f⟩
def impl_isAscending.cx : Cx := { cx0 with con := look [], loop := look [(2, ⟨⟨[(0, false, [.dat (.sl (.int .i64)) [0]]), (3, false, [.dat (.int .i64) []])], []⟩, [(.exit 0, ⟨[], []⟩), (.ret, ⟨[(2, false, [.dat .bool []])], []⟩)]⟩)] }
def impl_IsValidSubscription.ps : List PK := [.val TSubscription true]
def impl_IsValidSubscription.rs : List RK := [⟨.bool, false, .own⟩]
def impl_IsValidSubscription.con : Con := ⟨impl_IsValidSubscription.ps, impl_IsValidSubscription.rs, impl_IsValidSubscription.f⟩
def impl_IsValidSubscription.cx : Cx := { cx0 with con := look [(146, impl_InRange.con), (274, impl_isAscending.con)], loop := look [(4, ⟨⟨[(1, false, [.ptr 512 0]), (22, false, [.dat (.sl (.int .i64)) [0]]), (23, false, [.dat (.int .i64) []]), (24, false, [.dat (.int .i64) []])], [(512, .box [.dat TSubscription [0]])]⟩, [(.exit 0, ⟨[(1, false, [.ptr 512 0])], [(512, .box [.dat TSubscription [0]])]⟩), (.ret, ⟨[(2, false, [.dat .bool []])], []⟩)]⟩)] }
def impl_IsValidPaging.ps : List PK := [.val TQuota true]
def impl_IsValidPaging.rs : List RK := [⟨.bool, false, .own⟩]
def impl_IsValidPaging.con : Con := ⟨impl_IsValidPaging.ps, impl_IsValidPaging.rs, impl_IsValidPaging.f⟩
def impl_IsValidPaging.cx : Cx := { cx0 with con := look [(146, impl_InRange.con)], loop := look [] }
def impl_IsValidSender.ps : List PK := [.val TSendWindow true]
def impl_IsValidSender.rs : List RK := [⟨.bool, false, .own⟩]
def impl_IsValidSender.con : Con := ⟨impl_IsValidSender.ps, impl_IsValidSender.rs, impl_IsValidSender.f⟩
def impl_IsValidSender.cx : Cx := { cx0 with con := look [(146, impl_InRange.con)], loop := look [(7, ⟨⟨[(3, false, [.dat (.int .i64) []]), (25, false, [.dat (.sl TNumberedPacket) [0]]), (26, false, [.dat (.int .i64) []]), (27, false, [.dat (.int .i64) []])], []⟩, [(.exit 0, ⟨[], []⟩), (.ret, ⟨[(2, false, [.dat .bool []])], []⟩)]⟩)] }
def impl_fitPayload.ps : List PK := [.val (.sl (.sl (.int .u8))) false]
def impl_fitPayload.rs : List RK := [⟨.bool, false, .own⟩]
def impl_fitPayload.con : Con := ⟨impl_fitPayload.ps, impl_fitPayload.rs, impl_fitPayload.f⟩
def impl_fitPayload.cx : Cx := { cx0 with con := look [], loop := look [(2, ⟨⟨[(5, false, [.dat (.sl (.sl (.int .u8))) [0]]), (6, false, [.dat (.int .i64) []]), (7, false, [.dat (.int .i64) []])], []⟩, [(.exit 0, ⟨[], []⟩), (.ret, ⟨[(2, false, [.dat .bool []])], []⟩)]⟩)] }
def bytes_Equal.ps : List PK := [.val (.sl (.int .u8)) false, .val (.sl (.int .u8)) false]
def bytes_Equal.rs : List RK := [⟨.bool, false, .own⟩]
def bytes_Equal.con : Con := ⟨bytes_Equal.ps, bytes_Equal.rs, bytes_Equal.f⟩
def bytes_Equal.cx : Cx := { cx0 with con := look [], loop := look [] }
def impl_EqualBytes.ps : List PK := [.val (.sl (.int .u8)) false, .val (.sl (.int .u8)) false]
def impl_EqualBytes.rs : List RK := [⟨.bool, false, .own⟩]
def impl_EqualBytes.con : Con := ⟨impl_EqualBytes.ps, impl_EqualBytes.rs, impl_EqualBytes.f⟩
def impl_EqualBytes.cx : Cx := { cx0 with con := look [(275, bytes_Equal.con)], loop := look [] }
def impl_IsValidSession.ps : List PK := [.val TSession true]
def impl_IsValidSession.rs : List RK := [⟨.bool, false, .own⟩]
def impl_IsValidSession.con : Con := ⟨impl_IsValidSession.ps, impl_IsValidSession.rs, impl_IsValidSession.f⟩
def impl_IsValidSession.cx : Cx := { cx0 with con := look [(62, impl_IsValidKey.con), (146, impl_InRange.con), (189, impl_OutstandingBytes.con), (190, impl_RemainingQuota.con), (218, impl_IsValidSubscriberRecord.con), (219, impl_IsValidSubscription.con), (220, impl_IsValidPaging.con), (221, impl_IsValidSender.con), (222, impl_IsValidQuota.con), (223, impl_fitPayload.con), (224, impl_EqualBytes.con)], loop := look [(14, ⟨⟨[(1, false, [.ptr 512 0]), (122, false, [.dat (.sl TNumberedPacket) [0]]), (123, false, [.dat (.int .i64) []]), (124, false, [.dat (.int .i64) []])], [(512, .box [.dat TSession [0]])]⟩, [(.exit 0, ⟨[(1, false, [.ptr 512 0])], [(512, .box [.dat TSession [0]])]⟩), (.ret, ⟨[(2, false, [.dat .bool []])], []⟩)]⟩)] }
def impl_SendPacket.ps : List PK := [.val TSendWindow true, .val (.sl (.int .u8)) false]
def impl_SendPacket.rs : List RK := [⟨TSendWindow, true, .own⟩, ⟨TNumberedPacket, true, .own⟩, ⟨.bool, false, .own⟩]
def impl_SendPacket.con : Con := ⟨impl_SendPacket.ps, impl_SendPacket.rs, impl_SendPacket.f⟩
def impl_SendPacket.cx : Cx := { cx0 with con := look [(170, impl_copyBytes.con), (188, impl_copySender.con), (221, impl_IsValidSender.con)], loop := look [] }
def impl_Mod.ps : List PK := [.val (.int .i64) false, .val (.int .i64) false]
def impl_Mod.rs : List RK := [⟨(.int .i64), false, .own⟩]
def impl_Mod.con : Con := ⟨impl_Mod.ps, impl_Mod.rs, impl_Mod.f⟩
def impl_Mod.cx : Cx := { cx0 with con := look [(146, impl_InRange.con)], loop := look [] }
def impl_hashStep.ps : List PK := [.val (.int .i64) false, .val (.int .i64) false]
def impl_hashStep.rs : List RK := [⟨(.int .i64), false, .own⟩]
def impl_hashStep.con : Con := ⟨impl_hashStep.ps, impl_hashStep.rs, impl_hashStep.f⟩
def impl_hashStep.cx : Cx := { cx0 with con := look [(282, impl_Mod.con)], loop := look [] }
def impl_KeyedHash.ps : List PK := [.val (.int .i64) false, .val (.sl (.int .i64)) false]
def impl_KeyedHash.rs : List RK := [⟨(.int .i64), false, .own⟩]
def impl_KeyedHash.con : Con := ⟨impl_KeyedHash.ps, impl_KeyedHash.rs, impl_KeyedHash.f⟩
def impl_KeyedHash.cx : Cx := { cx0 with con := look [(284, impl_hashStep.con)], loop := look [(3, ⟨⟨[(0, false, [.dat (.int .i64) []]), (5, false, [.dat (.int .i64) []]), (10, false, [.dat (.sl (.int .i64)) [0]]), (11, false, [.dat (.int .i64) []]), (12, false, [.dat (.int .i64) []])], []⟩, [(.exit 0, ⟨[(0, false, [.dat (.int .i64) []]), (5, false, [.dat (.int .i64) []])], []⟩)]⟩)] }
def impl_DeriveKey.ps : List PK := [.val (.int .i64) false, .val (.int .i64) false]
def impl_DeriveKey.rs : List RK := [⟨(.int .i64), false, .own⟩]
def impl_DeriveKey.con : Con := ⟨impl_DeriveKey.ps, impl_DeriveKey.rs, impl_DeriveKey.f⟩
def impl_DeriveKey.cx : Cx := { cx0 with con := look [(240, impl_KeyedHash.con)], loop := look [] }
def impl_deriveSteps.ps : List PK := [.val (.int .i64) false, .val (.sl (.int .i64)) false]
def impl_deriveSteps.rs : List RK := [⟨(.int .i64), false, .own⟩]
def impl_deriveSteps.con : Con := ⟨impl_deriveSteps.ps, impl_deriveSteps.rs, impl_deriveSteps.f⟩
def impl_deriveSteps.cx : Cx := { cx0 with con := look [(254, impl_DeriveKey.con)], loop := look [(2, ⟨⟨[(0, false, [.dat (.int .i64) []]), (7, false, [.dat (.sl (.int .i64)) [0]]), (8, false, [.dat (.int .i64) []]), (9, false, [.dat (.int .i64) []])], []⟩, [(.exit 0, ⟨[(0, false, [.dat (.int .i64) []])], []⟩)]⟩)] }
def impl_KeyForPath.ps : List PK := [.val (.int .i64) false, .val (.sl (.int .i64)) true]
def impl_KeyForPath.rs : List RK := [⟨(.int .i64), false, .own⟩]
def impl_KeyForPath.con : Con := ⟨impl_KeyForPath.ps, impl_KeyForPath.rs, impl_KeyForPath.f⟩
def impl_KeyForPath.cx : Cx := { cx0 with con := look [(285, impl_deriveSteps.con)], loop := look [] }
def impl_RadioKeyPath.ps : List PK := [.val (.int .i64) false]
def impl_RadioKeyPath.rs : List RK := [⟨(.sl (.int .i64)), true, .own⟩]
def impl_RadioKeyPath.con : Con := ⟨impl_RadioKeyPath.ps, impl_RadioKeyPath.rs, impl_RadioKeyPath.f⟩
def impl_RadioKeyPath.cx : Cx := { cx0 with con := look [], loop := look [] }
def impl_RadioKey.ps : List PK := [.val (.int .i64) false, .val (.int .i64) false]
def impl_RadioKey.rs : List RK := [⟨(.int .i64), false, .own⟩]
def impl_RadioKey.con : Con := ⟨impl_RadioKey.ps, impl_RadioKey.rs, impl_RadioKey.f⟩
def impl_RadioKey.cx : Cx := { cx0 with con := look [(243, impl_KeyForPath.con), (255, impl_RadioKeyPath.con)], loop := look [] }
def impl_Encrypt.ps : List PK := [.val (.int .i64) false, .val (.sl (.int .u8)) false]
def impl_Encrypt.rs : List RK := [⟨(.sl (.int .u8)), false, .own⟩]
def impl_Encrypt.con : Con := ⟨impl_Encrypt.ps, impl_Encrypt.rs, impl_Encrypt.f⟩
def impl_Encrypt.cx : Cx := { cx0 with con := look [(170, impl_copyBytes.con), (240, impl_KeyedHash.con)], loop := look [(3, ⟨⟨[(0, false, [.dat (.int .i64) []]), (5, false, [.own 1791]), (10, false, [.dat (.int .i64) []]), (11, false, [.dat (.int .i64) []])], [(1791, .arr (.int .u8) true [])]⟩, [(.exit 0, ⟨[(5, false, [.own 1791])], [(1791, .arr (.int .u8) true [])]⟩)]⟩)] }
def impl_BytesToInts.ps : List PK := [.val (.sl (.int .u8)) false]
def impl_BytesToInts.rs : List RK := [⟨(.sl (.int .i64)), false, .own⟩]
def impl_BytesToInts.con : Con := ⟨impl_BytesToInts.ps, impl_BytesToInts.rs, impl_BytesToInts.f⟩
def impl_BytesToInts.cx : Cx := { cx0 with con := look [], loop := look [(4, ⟨⟨[(3, false, [.own 1279]), (15, false, [.dat (.sl (.int .u8)) [0]]), (16, false, [.dat (.int .i64) []]), (17, false, [.dat (.int .i64) []])], [(1279, .arr (.int .i64) true [])]⟩, [(.exit 0, ⟨[(3, false, [.own 1279])], [(1279, .arr (.int .i64) true [])]⟩)]⟩)] }
def impl_securedMAC.ps : List PK := [.val (.int .i64) false, .val (.int .i64) false, .val (.int .i64) false, .val (.sl (.int .u8)) false]
def impl_securedMAC.rs : List RK := [⟨(.int .i64), false, .own⟩]
def impl_securedMAC.con : Con := ⟨impl_securedMAC.ps, impl_securedMAC.rs, impl_securedMAC.f⟩
def impl_securedMAC.cx : Cx := { cx0 with con := look [(240, impl_KeyedHash.con), (291, impl_BytesToInts.con)], loop := look [] }
def impl_Protect.ps : List PK := [.val (.int .i64) false, .val (.int .i64) false, .val (.int .i64) false, .val (.sl (.int .u8)) false]
def impl_Protect.rs : List RK := [⟨TSecuredMessage, true, .own⟩]
def impl_Protect.con : Con := ⟨impl_Protect.ps, impl_Protect.rs, impl_Protect.f⟩
def impl_Protect.cx : Cx := { cx0 with con := look [(254, impl_DeriveKey.con), (276, impl_Encrypt.con), (277, impl_securedMAC.con)], loop := look [] }
def impl_SealRadio.ps : List PK := [.val (.int .i64) false, .val (.int .i64) false, .val (.int .i64) false, .val TNumberedPacket true]
def impl_SealRadio.rs : List RK := [⟨TRadioPacket, true, .own⟩]
def impl_SealRadio.con : Con := ⟨impl_SealRadio.ps, impl_SealRadio.rs, impl_SealRadio.f⟩
def impl_SealRadio.cx : Cx := { cx0 with con := look [(166, impl_RadioKey.con), (225, impl_Protect.con)], loop := look [] }
def impl_SendNew.ps : List PK := [.val TSession true, .val TAccount true]
def impl_SendNew.rs : List RK := [⟨TTransmission, true, .own⟩]
def impl_SendNew.con : Con := ⟨impl_SendNew.ps, impl_SendNew.rs, impl_SendNew.f⟩
def impl_SendNew.cx : Cx := { cx0 with con := look [(29, impl_EnsureQuota.con), (98, impl_copySession.con), (99, impl_QuotaNeeded.con), (100, impl_copyAccount.con), (133, impl_IsValidSession.con), (134, impl_SendPacket.con), (135, impl_SealRadio.con)], loop := look [(5, ⟨⟨[(4, false, [.ptr 1280 0]), (5, false, [.ptr 1536 0]), (6, false, [.dat (.int .i64) []])], [(1280, .box [.dat TUSIM [], .dat (.int .i64) [], .dat (.int .i64) [], .dat (.int .i64) [], .own 1415, .dat (.int .i64) [], .dat TAuthVector [], .dat (.int .i64) [], .dat (.int .i64) [], .dat (.int .i64) [], .dat (.int .i64) [], .dat (.int .i64) [], .dat (.int .i64) [], .dat TQuota [], .own 1431, .dat (.int .i64) [], .own 1433, .dat TAuthResponse [], .dat (.int .i64) [], .dat (.int .i64) [], .dat (.int .i64) [], .own 1441, .own 1442, .own 1443]), (1536, .box [.dat TUSIM [], .dat (.int .i64) [], .dat (.int .i64) [], .dat (.int .i64) [], .own 1671, .dat (.int .i64) [], .dat TAuthVector [], .dat (.int .i64) [], .dat (.int .i64) [], .dat (.int .i64) [], .dat (.int .i64) [], .dat (.int .i64) [], .dat (.int .i64) [], .dat TQuota [], .own 1687, .dat (.int .i64) [], .own 1689, .dat TAuthResponse [], .dat (.int .i64) [], .dat (.int .i64) [], .dat (.int .i64) [], .own 1697, .own 1698, .own 1699]), (1415, .arr (.int .i64) true []), (1431, .arr (.sl (.int .u8)) true []), (1433, .arr TNumberedPacket true []), (1441, .arr TSubscriberID true []), (1442, .arr TSignal true []), (1443, .arr TRadioPacket true []), (1671, .arr (.int .i64) true []), (1687, .arr (.sl (.int .u8)) true []), (1689, .arr TNumberedPacket true []), (1697, .arr TSubscriberID true []), (1698, .arr TSignal true []), (1699, .arr TRadioPacket true [])]⟩, [(.exit 0, ⟨[(4, false, [.ptr 1280 0]), (5, false, [.ptr 1536 0])], [(1280, .box [.dat TUSIM [], .dat (.int .i64) [], .dat (.int .i64) [], .dat (.int .i64) [], .own 1415, .dat (.int .i64) [], .dat TAuthVector [], .dat (.int .i64) [], .dat (.int .i64) [], .dat (.int .i64) [], .dat (.int .i64) [], .dat (.int .i64) [], .dat (.int .i64) [], .dat TQuota [], .own 1431, .dat (.int .i64) [], .own 1433, .dat TAuthResponse [], .dat (.int .i64) [], .dat (.int .i64) [], .dat (.int .i64) [], .own 1441, .own 1442, .own 1443]), (1536, .box [.dat TUSIM [], .dat (.int .i64) [], .dat (.int .i64) [], .dat (.int .i64) [], .own 1671, .dat (.int .i64) [], .dat TAuthVector [], .dat (.int .i64) [], .dat (.int .i64) [], .dat (.int .i64) [], .dat (.int .i64) [], .dat (.int .i64) [], .dat (.int .i64) [], .dat TQuota [], .own 1687, .dat (.int .i64) [], .own 1689, .dat TAuthResponse [], .dat (.int .i64) [], .dat (.int .i64) [], .dat (.int .i64) [], .own 1697, .own 1698, .own 1699]), (1415, .arr (.int .i64) true []), (1431, .arr (.sl (.int .u8)) true []), (1433, .arr TNumberedPacket true []), (1441, .arr TSubscriberID true []), (1442, .arr TSignal true []), (1443, .arr TRadioPacket true []), (1671, .arr (.int .i64) true []), (1687, .arr (.sl (.int .u8)) true []), (1689, .arr TNumberedPacket true []), (1697, .arr TSubscriberID true []), (1698, .arr TSignal true []), (1699, .arr TRadioPacket true [])]⟩)]⟩)] }
def laws_eqSignal.ps : List PK := [.val TSignal true, .val TSignal true]
def laws_eqSignal.rs : List RK := [⟨.bool, false, .own⟩]
def laws_eqSignal.con : Con := ⟨laws_eqSignal.ps, laws_eqSignal.rs, laws_eqSignal.f⟩
def laws_eqSignal.cx : Cx := { cx0 with con := look [(105, laws_eqAuthVector.con)], loop := look [] }
def laws_eqSignalS.ps : List PK := [.val (.sl TSignal) false, .val (.sl TSignal) false]
def laws_eqSignalS.rs : List RK := [⟨.bool, false, .own⟩]
def laws_eqSignalS.con : Con := ⟨laws_eqSignalS.ps, laws_eqSignalS.rs, laws_eqSignalS.f⟩
def laws_eqSignalS.cx : Cx := { cx0 with con := look [(152, laws_eqSignal.con)], loop := look [(4, ⟨⟨[(0, false, [.dat (.sl TSignal) [0]]), (1, false, [.dat (.sl TSignal) [0]]), (5, false, [.dat (.int .i64) []])], []⟩, [(.exit 0, ⟨[], []⟩), (.ret, ⟨[(4, false, [.dat .bool []])], []⟩)]⟩)] }
def laws_eqSecuredMessage.ps : List PK := [.val TSecuredMessage true, .val TSecuredMessage true]
def laws_eqSecuredMessage.rs : List RK := [⟨.bool, false, .own⟩]
def laws_eqSecuredMessage.con : Con := ⟨laws_eqSecuredMessage.ps, laws_eqSecuredMessage.rs, laws_eqSecuredMessage.f⟩
def laws_eqSecuredMessage.cx : Cx := { cx0 with con := look [(171, laws_eqByteS.con)], loop := look [] }
def laws_eqRadioPacket.ps : List PK := [.val TRadioPacket true, .val TRadioPacket true]
def laws_eqRadioPacket.rs : List RK := [⟨.bool, false, .own⟩]
def laws_eqRadioPacket.con : Con := ⟨laws_eqRadioPacket.ps, laws_eqRadioPacket.rs, laws_eqRadioPacket.f⟩
def laws_eqRadioPacket.cx : Cx := { cx0 with con := look [(80, laws_eqSecuredMessage.con)], loop := look [] }
def laws_eqRadioPacketS.ps : List PK := [.val (.sl TRadioPacket) false, .val (.sl TRadioPacket) false]
def laws_eqRadioPacketS.rs : List RK := [⟨.bool, false, .own⟩]
def laws_eqRadioPacketS.con : Con := ⟨laws_eqRadioPacketS.ps, laws_eqRadioPacketS.rs, laws_eqRadioPacketS.f⟩
def laws_eqRadioPacketS.cx : Cx := { cx0 with con := look [(22, laws_eqRadioPacket.con)], loop := look [(4, ⟨⟨[(0, false, [.dat (.sl TRadioPacket) [0]]), (1, false, [.dat (.sl TRadioPacket) [0]]), (5, false, [.dat (.int .i64) []])], []⟩, [(.exit 0, ⟨[], []⟩), (.ret, ⟨[(4, false, [.dat .bool []])], []⟩)]⟩)] }
def laws_eqTransmission.ps : List PK := [.val TTransmission true, .val TTransmission true]
def laws_eqTransmission.rs : List RK := [⟨.bool, false, .own⟩]
def laws_eqTransmission.con : Con := ⟨laws_eqTransmission.ps, laws_eqTransmission.rs, laws_eqTransmission.f⟩
def laws_eqTransmission.cx : Cx := { cx0 with con := look [(30, laws_eqSession.con), (31, laws_eqAccount.con), (65, laws_eqSignalS.con), (136, laws_eqRadioPacketS.con)], loop := look [] }
def laws_markSignalS.ps : List PK := [.lend (.sl TSignal) false, .val (.int .i64) false]
def laws_markSignalS.rs : List RK := [⟨(.int .i64), false, .own⟩]
def laws_markSignalS.con : Con := ⟨laws_markSignalS.ps, laws_markSignalS.rs, laws_markSignalS.f⟩
def laws_markSignalS.cx : Cx := { cx0 with con := look [], loop := look [(2, ⟨⟨[(0, false, [.own 257]), (1, false, [.dat (.int .i64) []]), (5, false, [.dat (.int .i64) []])], [(257, .arr TSignal true [])]⟩, [(.exit 0, ⟨[(0, false, [.own 257]), (1, false, [.dat (.int .i64) []])], [(257, .arr TSignal true [])]⟩)]⟩)] }
def laws_markRadioPacketS.ps : List PK := [.lend (.sl TRadioPacket) false, .val (.int .i64) false]
def laws_markRadioPacketS.rs : List RK := [⟨(.int .i64), false, .own⟩]
def laws_markRadioPacketS.con : Con := ⟨laws_markRadioPacketS.ps, laws_markRadioPacketS.rs, laws_markRadioPacketS.f⟩
def laws_markRadioPacketS.cx : Cx := { cx0 with con := look [(172, laws_markByteS.con)], loop := look [(2, ⟨⟨[(0, false, [.own 257]), (1, false, [.dat (.int .i64) []]), (5, false, [.dat (.int .i64) []])], [(257, .arr TRadioPacket true [])]⟩, [(.exit 0, ⟨[(0, false, [.own 257]), (1, false, [.dat (.int .i64) []])], [(257, .arr TRadioPacket true [])]⟩)]⟩)] }
def laws_markTransmission.ps : List PK := [.lend TTransmission true, .val (.int .i64) false]
def laws_markTransmission.rs : List RK := [⟨(.int .i64), false, .own⟩]
def laws_markTransmission.con : Con := ⟨laws_markTransmission.ps, laws_markTransmission.rs, laws_markTransmission.f⟩
def laws_markTransmission.cx : Cx := { cx0 with con := look [(32, laws_markSession.con), (33, laws_markAccount.con), (69, laws_markSignalS.con), (137, laws_markRadioPacketS.con)], loop := look [] }
def laws_heldIntS.ps : List PK := [.val (.sl (.int .i64)) false, .val (.int .i64) false]
def laws_heldIntS.rs : List RK := [⟨(.int .i64), false, .own⟩]
def laws_heldIntS.con : Con := ⟨laws_heldIntS.ps, laws_heldIntS.rs, laws_heldIntS.f⟩
def laws_heldIntS.cx : Cx := { cx0 with con := look [], loop := look [(2, ⟨⟨[(0, false, [.dat (.sl (.int .i64)) [0]]), (1, false, [.dat (.int .i64) []]), (5, false, [.dat (.int .i64) []])], []⟩, [(.exit 0, ⟨[(1, false, [.dat (.int .i64) []])], []⟩), (.ret, ⟨[(4, false, [.dat (.int .i64) []])], []⟩)]⟩)] }
def laws_heldSubscription.ps : List PK := [.val TSubscription true, .val (.int .i64) false]
def laws_heldSubscription.rs : List RK := [⟨(.int .i64), false, .own⟩]
def laws_heldSubscription.con : Con := ⟨laws_heldSubscription.ps, laws_heldSubscription.rs, laws_heldSubscription.f⟩
def laws_heldSubscription.cx : Cx := { cx0 with con := look [(198, laws_heldIntS.con)], loop := look [] }
def laws_heldByteS.ps : List PK := [.val (.sl (.int .u8)) false, .val (.int .i64) false]
def laws_heldByteS.rs : List RK := [⟨(.int .i64), false, .own⟩]
def laws_heldByteS.con : Con := ⟨laws_heldByteS.ps, laws_heldByteS.rs, laws_heldByteS.f⟩
def laws_heldByteS.cx : Cx := { cx0 with con := look [], loop := look [(2, ⟨⟨[(0, false, [.dat (.sl (.int .u8)) [0]]), (1, false, [.dat (.int .i64) []]), (5, false, [.dat (.int .i64) []])], []⟩, [(.exit 0, ⟨[(1, false, [.dat (.int .i64) []])], []⟩), (.ret, ⟨[(4, false, [.dat (.int .i64) []])], []⟩)]⟩)] }
def laws_heldPayloadS.ps : List PK := [.val (.sl (.sl (.int .u8))) false, .val (.int .i64) false]
def laws_heldPayloadS.rs : List RK := [⟨(.int .i64), false, .own⟩]
def laws_heldPayloadS.con : Con := ⟨laws_heldPayloadS.ps, laws_heldPayloadS.rs, laws_heldPayloadS.f⟩
def laws_heldPayloadS.cx : Cx := { cx0 with con := look [(199, laws_heldByteS.con)], loop := look [(2, ⟨⟨[(0, false, [.dat (.sl (.sl (.int .u8))) [0]]), (1, false, [.dat (.int .i64) []]), (5, false, [.dat (.int .i64) []])], []⟩, [(.exit 0, ⟨[(1, false, [.dat (.int .i64) []])], []⟩), (.ret, ⟨[(4, false, [.dat (.int .i64) []])], []⟩)]⟩)] }
def laws_heldNumberedPacketS.ps : List PK := [.val (.sl TNumberedPacket) false, .val (.int .i64) false]
def laws_heldNumberedPacketS.rs : List RK := [⟨(.int .i64), false, .own⟩]
def laws_heldNumberedPacketS.con : Con := ⟨laws_heldNumberedPacketS.ps, laws_heldNumberedPacketS.rs, laws_heldNumberedPacketS.f⟩
def laws_heldNumberedPacketS.cx : Cx := { cx0 with con := look [(199, laws_heldByteS.con)], loop := look [(2, ⟨⟨[(0, false, [.dat (.sl TNumberedPacket) [0]]), (1, false, [.dat (.int .i64) []]), (5, false, [.dat (.int .i64) []])], []⟩, [(.exit 0, ⟨[(1, false, [.dat (.int .i64) []])], []⟩), (.ret, ⟨[(4, false, [.dat (.int .i64) []])], []⟩)]⟩)] }
def laws_heldSendWindow.ps : List PK := [.val TSendWindow true, .val (.int .i64) false]
def laws_heldSendWindow.rs : List RK := [⟨(.int .i64), false, .own⟩]
def laws_heldSendWindow.con : Con := ⟨laws_heldSendWindow.ps, laws_heldSendWindow.rs, laws_heldSendWindow.f⟩
def laws_heldSendWindow.cx : Cx := { cx0 with con := look [(200, laws_heldNumberedPacketS.con)], loop := look [] }
def laws_heldSession.ps : List PK := [.val TSession true, .val (.int .i64) false]
def laws_heldSession.rs : List RK := [⟨(.int .i64), false, .own⟩]
def laws_heldSession.con : Con := ⟨laws_heldSession.ps, laws_heldSession.rs, laws_heldSession.f⟩
def laws_heldSession.cx : Cx := { cx0 with con := look [(115, laws_heldSubscription.con), (116, laws_heldPayloadS.con), (117, laws_heldSendWindow.con)], loop := look [] }
def laws_heldReservationS.ps : List PK := [.val (.sl TSubscriberID) false, .val (.int .i64) false]
def laws_heldReservationS.rs : List RK := [⟨(.int .i64), false, .own⟩]
def laws_heldReservationS.con : Con := ⟨laws_heldReservationS.ps, laws_heldReservationS.rs, laws_heldReservationS.f⟩
def laws_heldReservationS.cx : Cx := { cx0 with con := look [], loop := look [(2, ⟨⟨[(0, false, [.dat (.sl TSubscriberID) [0]]), (1, false, [.dat (.int .i64) []]), (5, false, [.dat (.int .i64) []])], []⟩, [(.exit 0, ⟨[(1, false, [.dat (.int .i64) []])], []⟩), (.ret, ⟨[(4, false, [.dat (.int .i64) []])], []⟩)]⟩)] }
def laws_heldAccount.ps : List PK := [.val TAccount true, .val (.int .i64) false]
def laws_heldAccount.rs : List RK := [⟨(.int .i64), false, .own⟩]
def laws_heldAccount.con : Con := ⟨laws_heldAccount.ps, laws_heldAccount.rs, laws_heldAccount.f⟩
def laws_heldAccount.cx : Cx := { cx0 with con := look [(118, laws_heldReservationS.con)], loop := look [] }
def laws_heldSignalS.ps : List PK := [.val (.sl TSignal) false, .val (.int .i64) false]
def laws_heldSignalS.rs : List RK := [⟨(.int .i64), false, .own⟩]
def laws_heldSignalS.con : Con := ⟨laws_heldSignalS.ps, laws_heldSignalS.rs, laws_heldSignalS.f⟩
def laws_heldSignalS.cx : Cx := { cx0 with con := look [], loop := look [(2, ⟨⟨[(0, false, [.dat (.sl TSignal) [0]]), (1, false, [.dat (.int .i64) []]), (5, false, [.dat (.int .i64) []])], []⟩, [(.exit 0, ⟨[(1, false, [.dat (.int .i64) []])], []⟩), (.ret, ⟨[(4, false, [.dat (.int .i64) []])], []⟩)]⟩)] }
def laws_heldRadioPacketS.ps : List PK := [.val (.sl TRadioPacket) false, .val (.int .i64) false]
def laws_heldRadioPacketS.rs : List RK := [⟨(.int .i64), false, .own⟩]
def laws_heldRadioPacketS.con : Con := ⟨laws_heldRadioPacketS.ps, laws_heldRadioPacketS.rs, laws_heldRadioPacketS.f⟩
def laws_heldRadioPacketS.cx : Cx := { cx0 with con := look [(199, laws_heldByteS.con)], loop := look [(2, ⟨⟨[(0, false, [.dat (.sl TRadioPacket) [0]]), (1, false, [.dat (.int .i64) []]), (5, false, [.dat (.int .i64) []])], []⟩, [(.exit 0, ⟨[(1, false, [.dat (.int .i64) []])], []⟩), (.ret, ⟨[(4, false, [.dat (.int .i64) []])], []⟩)]⟩)] }
def laws_heldTransmission.ps : List PK := [.val TTransmission true, .val (.int .i64) false]
def laws_heldTransmission.rs : List RK := [⟨(.int .i64), false, .own⟩]
def laws_heldTransmission.con : Con := ⟨laws_heldTransmission.ps, laws_heldTransmission.rs, laws_heldTransmission.f⟩
def laws_heldTransmission.cx : Cx := { cx0 with con := look [(34, laws_heldSession.con), (35, laws_heldAccount.con), (71, laws_heldSignalS.con), (138, laws_heldRadioPacketS.con)], loop := look [] }
def laws_FnExactSendNew.ps : List PK := [.val TSession true, .val TAccount true]
def laws_FnExactSendNew.rs : List RK := [⟨.bool, false, .own⟩]
def laws_FnExactSendNew.con : Con := ⟨laws_FnExactSendNew.ps, laws_FnExactSendNew.rs, laws_FnExactSendNew.f⟩
def laws_FnExactSendNew.cx : Cx := { cx0 with con := look [(24, laws_szSession.con), (25, laws_szAccount.con), (27, laws_toSession.con), (28, laws_toAccount.con), (30, laws_eqSession.con), (31, laws_eqAccount.con), (32, laws_markSession.con), (33, laws_markAccount.con), (41, spec_SendNew.con), (42, impl_SendNew.con), (43, laws_eqTransmission.con), (44, laws_markTransmission.con), (45, laws_heldTransmission.con)], loop := look [] }
end Go.Proofs.YtbgkgnhlfmidhaaGreat.XS
/- Each function, evaluated, is the plain Lean one. -/
set_option linter.unusedVariables false
set_option maxRecDepth 100000
namespace Go.Proofs.YtbgkgnhlfmidhaaGreat.XS
open Go Go.Proofs.XTv Go.Proofs.XF
theorem laws_markSignalS.eq : evFun laws_markSignalS.cx Tryz.f69 laws_markSignalS.ps laws_markSignalS.rs = laws_markSignalS.f := by kernel_rfl
theorem laws_eqSecuredMessage.eq : evFun laws_eqSecuredMessage.cx Tryz.f80 laws_eqSecuredMessage.ps laws_eqSecuredMessage.rs = laws_eqSecuredMessage.f := by kernel_rfl
theorem impl_Mod.eq : evFun impl_Mod.cx Tryz.f282 impl_Mod.ps impl_Mod.rs = impl_Mod.f := by kernel_rfl
theorem spec_Mod.eq : evFun spec_Mod.cx Tryz.f279 spec_Mod.ps spec_Mod.rs = spec_Mod.f := by kernel_rfl
theorem impl_hashStep.eq : evFun impl_hashStep.cx Tryz.f284 impl_hashStep.ps impl_hashStep.rs = impl_hashStep.f := by kernel_rfl
theorem spec_ReservedFor.eq : evFun spec_ReservedFor.cx Tryz.f261 spec_ReservedFor.ps spec_ReservedFor.rs = spec_ReservedFor.f := by kernel_rfl
theorem impl_SealRadio.eq : evFun impl_SealRadio.cx Tryz.f135 impl_SealRadio.ps impl_SealRadio.rs = impl_SealRadio.f := by kernel_rfl
theorem impl_copyBytes.eq : evFun impl_copyBytes.cx Tryz.f170 impl_copyBytes.ps impl_copyBytes.rs = impl_copyBytes.f := by kernel_rfl
theorem laws_heldSendWindow.eq : evFun laws_heldSendWindow.cx Tryz.f117 laws_heldSendWindow.ps laws_heldSendWindow.rs = laws_heldSendWindow.f := by kernel_rfl
theorem impl_copyAccount.eq : evFun impl_copyAccount.cx Tryz.f100 impl_copyAccount.ps impl_copyAccount.rs = impl_copyAccount.f := by kernel_rfl
theorem laws_szIntS.eq : evFun laws_szIntS.cx Tryz.f173 laws_szIntS.ps laws_szIntS.rs = laws_szIntS.f := by kernel_rfl
theorem spec_OutstandingBytes.eq : evFun spec_OutstandingBytes.cx Tryz.f178 spec_OutstandingBytes.ps spec_OutstandingBytes.rs = spec_OutstandingBytes.f := by kernel_rfl
theorem laws_eqPayload.eq : evFun laws_eqPayload.cx Tryz.f195 laws_eqPayload.ps laws_eqPayload.rs = laws_eqPayload.f := by kernel_rfl
theorem spec_l24Sender.eq : evFun spec_l24Sender.cx Tryz.f177 spec_l24Sender.ps spec_l24Sender.rs = spec_l24Sender.f := by kernel_rfl
theorem impl_KeyForPath.eq : evFun impl_KeyForPath.cx Tryz.f243 impl_KeyForPath.ps impl_KeyForPath.rs = impl_KeyForPath.f := by kernel_rfl
theorem impl_Max.eq : evFun impl_Max.cx Tryz.f102 impl_Max.ps impl_Max.rs = impl_Max.f := by kernel_rfl
theorem impl_RadioKeyPath.eq : evFun impl_RadioKeyPath.cx Tryz.f255 impl_RadioKeyPath.ps impl_RadioKeyPath.rs = impl_RadioKeyPath.f := by kernel_rfl
end Go.Proofs.YtbgkgnhlfmidhaaGreat.XS
/- Each function, evaluated, is the plain Lean one. -/
set_option linter.unusedVariables false
set_option maxRecDepth 100000
namespace Go.Proofs.YtbgkgnhlfmidhaaGreat.XS
open Go Go.Proofs.XTv Go.Proofs.XF
theorem impl_SendNew.eq : evFun impl_SendNew.cx Tryz.f42 impl_SendNew.ps impl_SendNew.rs = impl_SendNew.f := by kernel_rfl
theorem spec_IsValidAccount.eq : evFun spec_IsValidAccount.cx Tryz.f257 spec_IsValidAccount.ps spec_IsValidAccount.rs = spec_IsValidAccount.f := by kernel_rfl
theorem spec_IsValidSubscription.eq : evFun spec_IsValidSubscription.cx Tryz.f269 spec_IsValidSubscription.ps spec_IsValidSubscription.rs = spec_IsValidSubscription.f := by kernel_rfl
theorem impl_IsValidSubscription.eq : evFun impl_IsValidSubscription.cx Tryz.f219 impl_IsValidSubscription.ps impl_IsValidSubscription.rs = impl_IsValidSubscription.f := by kernel_rfl
theorem impl_IsValidSender.eq : evFun impl_IsValidSender.cx Tryz.f221 impl_IsValidSender.ps impl_IsValidSender.rs = impl_IsValidSender.f := by kernel_rfl
theorem laws_heldNumberedPacketS.eq : evFun laws_heldNumberedPacketS.cx Tryz.f200 laws_heldNumberedPacketS.ps laws_heldNumberedPacketS.rs = laws_heldNumberedPacketS.f := by kernel_rfl
theorem laws_heldReservationS.eq : evFun laws_heldReservationS.cx Tryz.f118 laws_heldReservationS.ps laws_heldReservationS.rs = laws_heldReservationS.f := by kernel_rfl
theorem laws_toNumberedPacketS.eq : evFun laws_toNumberedPacketS.cx Tryz.f145 laws_toNumberedPacketS.ps laws_toNumberedPacketS.rs = laws_toNumberedPacketS.f := by kernel_rfl
theorem laws_toPayloadS.eq : evFun laws_toPayloadS.cx Tryz.f94 laws_toPayloadS.ps laws_toPayloadS.rs = laws_toPayloadS.f := by kernel_rfl
theorem spec_SendPacket.eq : evFun spec_SendPacket.cx Tryz.f131 spec_SendPacket.ps spec_SendPacket.rs = spec_SendPacket.f := by kernel_rfl
theorem laws_toByteS.eq : evFun laws_toByteS.cx Tryz.f163 laws_toByteS.ps laws_toByteS.rs = laws_toByteS.f := by kernel_rfl
theorem laws_markPayloadS.eq : evFun laws_markPayloadS.cx Tryz.f112 laws_markPayloadS.ps laws_markPayloadS.rs = laws_markPayloadS.f := by kernel_rfl
theorem impl_fitPayload.eq : evFun impl_fitPayload.cx Tryz.f223 impl_fitPayload.ps impl_fitPayload.rs = impl_fitPayload.f := by kernel_rfl
theorem impl_RequestQuota.eq : evFun impl_RequestQuota.cx Tryz.f101 impl_RequestQuota.ps impl_RequestQuota.rs = impl_RequestQuota.f := by kernel_rfl
theorem laws_heldTransmission.eq : evFun laws_heldTransmission.cx Tryz.f45 laws_heldTransmission.ps laws_heldTransmission.rs = laws_heldTransmission.f := by kernel_rfl
theorem laws_eqAuthVector.eq : evFun laws_eqAuthVector.cx Tryz.f105 laws_eqAuthVector.ps laws_eqAuthVector.rs = laws_eqAuthVector.f := by kernel_rfl
theorem spec_IsValidSubscriberRecord.eq : evFun spec_IsValidSubscriberRecord.cx Tryz.f268 spec_IsValidSubscriberRecord.ps spec_IsValidSubscriberRecord.rs = spec_IsValidSubscriberRecord.f := by kernel_rfl
theorem spec_IsValidQuota.eq : evFun spec_IsValidQuota.cx Tryz.f182 spec_IsValidQuota.ps spec_IsValidQuota.rs = spec_IsValidQuota.f := by kernel_rfl
theorem spec_l8Mac.eq : evFun spec_l8Mac.cx Tryz.f286 spec_l8Mac.ps spec_l8Mac.rs = spec_l8Mac.f := by kernel_rfl
theorem spec_KeyedHash.eq : evFun spec_KeyedHash.cx Tryz.f231 spec_KeyedHash.ps spec_KeyedHash.rs = spec_KeyedHash.f := by kernel_rfl
theorem laws_eqSendWindow.eq : evFun laws_eqSendWindow.cx Tryz.f108 laws_eqSendWindow.ps laws_eqSendWindow.rs = laws_eqSendWindow.f := by kernel_rfl
theorem laws_markSubscription.eq : evFun laws_markSubscription.cx Tryz.f111 laws_markSubscription.ps laws_markSubscription.rs = laws_markSubscription.f := by kernel_rfl
theorem laws_szReservationS.eq : evFun laws_szReservationS.cx Tryz.f85 laws_szReservationS.ps laws_szReservationS.rs = laws_szReservationS.f := by kernel_rfl
theorem spec_l30Plan.eq : evFun spec_l30Plan.cx Tryz.f175 spec_l30Plan.ps spec_l30Plan.rs = spec_l30Plan.f := by kernel_rfl
theorem laws_szAccount.eq : evFun laws_szAccount.cx Tryz.f25 laws_szAccount.ps laws_szAccount.rs = laws_szAccount.f := by kernel_rfl
theorem laws_toSubscription.eq : evFun laws_toSubscription.cx Tryz.f92 laws_toSubscription.ps laws_toSubscription.rs = laws_toSubscription.f := by kernel_rfl
theorem spec_RadioKey.eq : evFun spec_RadioKey.cx Tryz.f160 spec_RadioKey.ps spec_RadioKey.rs = spec_RadioKey.f := by kernel_rfl
theorem laws_toNumberedPacket.eq : evFun laws_toNumberedPacket.cx Tryz.f236 laws_toNumberedPacket.ps laws_toNumberedPacket.rs = laws_toNumberedPacket.f := by kernel_rfl
theorem impl_IsValidKey.eq : evFun impl_IsValidKey.cx Tryz.f62 impl_IsValidKey.ps impl_IsValidKey.rs = impl_IsValidKey.f := by kernel_rfl
theorem spec_Max.eq : evFun spec_Max.cx Tryz.f90 spec_Max.ps spec_Max.rs = spec_Max.f := by kernel_rfl
theorem laws_toReservation.eq : evFun laws_toReservation.cx Tryz.f185 laws_toReservation.ps laws_toReservation.rs = laws_toReservation.f := by kernel_rfl
end Go.Proofs.YtbgkgnhlfmidhaaGreat.XS
/- Each function, evaluated, is the plain Lean one. -/
set_option linter.unusedVariables false
set_option maxRecDepth 100000
namespace Go.Proofs.YtbgkgnhlfmidhaaGreat.XS
open Go Go.Proofs.XTv Go.Proofs.XF
theorem spec_SendNew.eq : evFun spec_SendNew.cx Tryz.f41 spec_SendNew.ps spec_SendNew.rs = spec_SendNew.f := by kernel_rfl
theorem laws_eqSession.eq : evFun laws_eqSession.cx Tryz.f30 laws_eqSession.ps laws_eqSession.rs = laws_eqSession.f := by kernel_rfl
theorem laws_markTransmission.eq : evFun laws_markTransmission.cx Tryz.f44 laws_markTransmission.ps laws_markTransmission.rs = laws_markTransmission.f := by kernel_rfl
theorem spec_Reserve.eq : evFun spec_Reserve.cx Tryz.f180 spec_Reserve.ps spec_Reserve.rs = spec_Reserve.f := by kernel_rfl
theorem laws_markNumberedPacketS.eq : evFun laws_markNumberedPacketS.cx Tryz.f155 laws_markNumberedPacketS.ps laws_markNumberedPacketS.rs = laws_markNumberedPacketS.f := by kernel_rfl
theorem laws_eqNumberedPacketS.eq : evFun laws_eqNumberedPacketS.cx Tryz.f154 laws_eqNumberedPacketS.ps laws_eqNumberedPacketS.rs = laws_eqNumberedPacketS.f := by kernel_rfl
theorem laws_eqRadioPacketS.eq : evFun laws_eqRadioPacketS.cx Tryz.f136 laws_eqRadioPacketS.ps laws_eqRadioPacketS.rs = laws_eqRadioPacketS.f := by kernel_rfl
theorem laws_eqSignalS.eq : evFun laws_eqSignalS.cx Tryz.f65 laws_eqSignalS.ps laws_eqSignalS.rs = laws_eqSignalS.f := by kernel_rfl
theorem laws_szPayloadS.eq : evFun laws_szPayloadS.cx Tryz.f83 laws_szPayloadS.ps laws_szPayloadS.rs = laws_szPayloadS.f := by kernel_rfl
theorem impl_reservationIndex.eq : evFun impl_reservationIndex.cx Tryz.f267 impl_reservationIndex.ps impl_reservationIndex.rs = impl_reservationIndex.f := by kernel_rfl
theorem spec_Hash.eq : evFun spec_Hash.cx Tryz.f281 spec_Hash.ps spec_Hash.rs = spec_Hash.f := by kernel_rfl
theorem spec_BytesToInts.eq : evFun spec_BytesToInts.cx Tryz.f292 spec_BytesToInts.ps spec_BytesToInts.rs = spec_BytesToInts.f := by kernel_rfl
theorem impl_numberedBytes.eq : evFun impl_numberedBytes.cx Tryz.f263 impl_numberedBytes.ps impl_numberedBytes.rs = impl_numberedBytes.f := by kernel_rfl
theorem laws_heldIntS.eq : evFun laws_heldIntS.cx Tryz.f198 laws_heldIntS.ps laws_heldIntS.rs = laws_heldIntS.f := by kernel_rfl
theorem spec_l30Bytes.eq : evFun spec_l30Bytes.cx Tryz.f208 spec_l30Bytes.ps spec_l30Bytes.rs = spec_l30Bytes.f := by kernel_rfl
theorem laws_szSession.eq : evFun laws_szSession.cx Tryz.f24 laws_szSession.ps laws_szSession.rs = laws_szSession.f := by kernel_rfl
theorem impl_QuotaMatchesAccount.eq : evFun impl_QuotaMatchesAccount.cx Tryz.f192 impl_QuotaMatchesAccount.ps impl_QuotaMatchesAccount.rs = impl_QuotaMatchesAccount.f := by kernel_rfl
theorem spec_IsValidPaging.eq : evFun spec_IsValidPaging.cx Tryz.f270 spec_IsValidPaging.ps spec_IsValidPaging.rs = spec_IsValidPaging.f := by kernel_rfl
theorem impl_QuotaNeeded.eq : evFun impl_QuotaNeeded.cx Tryz.f99 impl_QuotaNeeded.ps impl_QuotaNeeded.rs = impl_QuotaNeeded.f := by kernel_rfl
theorem impl_ReservedFor.eq : evFun impl_ReservedFor.cx Tryz.f265 impl_ReservedFor.ps impl_ReservedFor.rs = impl_ReservedFor.f := by kernel_rfl
theorem spec_SealRadio.eq : evFun spec_SealRadio.cx Tryz.f217 spec_SealRadio.ps spec_SealRadio.rs = spec_SealRadio.f := by kernel_rfl
theorem laws_markAccount.eq : evFun laws_markAccount.cx Tryz.f33 laws_markAccount.ps laws_markAccount.rs = laws_markAccount.f := by kernel_rfl
theorem spec_l31None.eq : evFun spec_l31None.cx Tryz.f129 spec_l31None.ps spec_l31None.rs = spec_l31None.f := by kernel_rfl
theorem laws_szSubscription.eq : evFun laws_szSubscription.cx Tryz.f82 laws_szSubscription.ps laws_szSubscription.rs = laws_szSubscription.f := by kernel_rfl
theorem laws_szByteS.eq : evFun laws_szByteS.cx Tryz.f157 laws_szByteS.ps laws_szByteS.rs = laws_szByteS.f := by kernel_rfl
theorem laws_eqSubscriberID.eq : evFun laws_eqSubscriberID.cx Tryz.f153 laws_eqSubscriberID.ps laws_eqSubscriberID.rs = laws_eqSubscriberID.f := by kernel_rfl
theorem impl_RadioKey.eq : evFun impl_RadioKey.cx Tryz.f166 impl_RadioKey.ps impl_RadioKey.rs = impl_RadioKey.f := by kernel_rfl
theorem impl_copySender.eq : evFun impl_copySender.cx Tryz.f188 impl_copySender.ps impl_copySender.rs = impl_copySender.f := by kernel_rfl
theorem spec_l1In.eq : evFun spec_l1In.cx Tryz.f140 spec_l1In.ps spec_l1In.rs = spec_l1In.f := by kernel_rfl
theorem bytes_Equal.eq : evFun bytes_Equal.cx Tryz.f275 bytes_Equal.ps bytes_Equal.rs = bytes_Equal.f := by kernel_rfl
theorem laws_toAuthVector.eq : evFun laws_toAuthVector.cx Tryz.f58 laws_toAuthVector.ps laws_toAuthVector.rs = laws_toAuthVector.f := by kernel_rfl
theorem laws_toQuota.eq : evFun laws_toQuota.cx Tryz.f96 laws_toQuota.ps laws_toQuota.rs = laws_toQuota.f := by kernel_rfl
end Go.Proofs.YtbgkgnhlfmidhaaGreat.XS
/- Each function, evaluated, is the plain Lean one. -/
set_option linter.unusedVariables false
set_option maxRecDepth 100000
namespace Go.Proofs.YtbgkgnhlfmidhaaGreat.XS
open Go Go.Proofs.XTv Go.Proofs.XF
theorem laws_heldSignalS.eq : evFun laws_heldSignalS.cx Tryz.f71 laws_heldSignalS.ps laws_heldSignalS.rs = laws_heldSignalS.f := by kernel_rfl
theorem impl_Reserve.eq : evFun impl_Reserve.cx Tryz.f193 impl_Reserve.ps impl_Reserve.rs = impl_Reserve.f := by kernel_rfl
theorem impl_IsValidAccount.eq : evFun impl_IsValidAccount.cx Tryz.f264 impl_IsValidAccount.ps impl_IsValidAccount.rs = impl_IsValidAccount.f := by kernel_rfl
theorem spec_IsValidSender.eq : evFun spec_IsValidSender.cx Tryz.f216 spec_IsValidSender.ps spec_IsValidSender.rs = spec_IsValidSender.f := by kernel_rfl
theorem impl_EnsureQuota.eq : evFun impl_EnsureQuota.cx Tryz.f29 impl_EnsureQuota.ps impl_EnsureQuota.rs = impl_EnsureQuota.f := by kernel_rfl
theorem impl_copyNumbered.eq : evFun impl_copyNumbered.cx Tryz.f256 impl_copyNumbered.ps impl_copyNumbered.rs = impl_copyNumbered.f := by kernel_rfl
theorem laws_eqReservationS.eq : evFun laws_eqReservationS.cx Tryz.f110 laws_eqReservationS.ps laws_eqReservationS.rs = laws_eqReservationS.f := by kernel_rfl
theorem impl_copyPayloads.eq : evFun impl_copyPayloads.cx Tryz.f187 impl_copyPayloads.ps impl_copyPayloads.rs = impl_copyPayloads.f := by kernel_rfl
theorem laws_toReservationS.eq : evFun laws_toReservationS.cx Tryz.f97 laws_toReservationS.ps laws_toReservationS.rs = laws_toReservationS.f := by kernel_rfl
theorem impl_KeyedHash.eq : evFun impl_KeyedHash.cx Tryz.f240 impl_KeyedHash.ps impl_KeyedHash.rs = impl_KeyedHash.f := by kernel_rfl
theorem impl_isAscending.eq : evFun impl_isAscending.cx Tryz.f274 impl_isAscending.ps impl_isAscending.rs = impl_isAscending.f := by kernel_rfl
theorem laws_toIntS.eq : evFun laws_toIntS.cx Tryz.f183 laws_toIntS.ps laws_toIntS.rs = laws_toIntS.f := by kernel_rfl
theorem spec_l16Find.eq : evFun spec_l16Find.cx Tryz.f258 spec_l16Find.ps spec_l16Find.rs = spec_l16Find.f := by kernel_rfl
theorem laws_eqTransmission.eq : evFun laws_eqTransmission.cx Tryz.f43 laws_eqTransmission.ps laws_eqTransmission.rs = laws_eqTransmission.f := by kernel_rfl
theorem laws_markByteS.eq : evFun laws_markByteS.cx Tryz.f172 laws_markByteS.ps laws_markByteS.rs = laws_markByteS.f := by kernel_rfl
theorem laws_heldSession.eq : evFun laws_heldSession.cx Tryz.f34 laws_heldSession.ps laws_heldSession.rs = laws_heldSession.f := by kernel_rfl
theorem spec_QuotaMatchesAccount.eq : evFun spec_QuotaMatchesAccount.cx Tryz.f181 spec_QuotaMatchesAccount.ps spec_QuotaMatchesAccount.rs = spec_QuotaMatchesAccount.f := by kernel_rfl
theorem impl_Protect.eq : evFun impl_Protect.cx Tryz.f225 impl_Protect.ps impl_Protect.rs = impl_Protect.f := by kernel_rfl
theorem spec_QuotaNeeded.eq : evFun spec_QuotaNeeded.cx Tryz.f87 spec_QuotaNeeded.ps spec_QuotaNeeded.rs = spec_QuotaNeeded.f := by kernel_rfl
theorem spec_l31Seal.eq : evFun spec_l31Seal.cx Tryz.f132 spec_l31Seal.ps spec_l31Seal.rs = spec_l31Seal.f := by kernel_rfl
theorem laws_eqNumberedPacket.eq : evFun laws_eqNumberedPacket.cx Tryz.f245 laws_eqNumberedPacket.ps laws_eqNumberedPacket.rs = laws_eqNumberedPacket.f := by kernel_rfl
theorem spec_IsValidSubscriberID.eq : evFun spec_IsValidSubscriberID.cx Tryz.f278 spec_IsValidSubscriberID.ps spec_IsValidSubscriberID.rs = spec_IsValidSubscriberID.f := by kernel_rfl
theorem spec_l31Idle.eq : evFun spec_l31Idle.cx Tryz.f130 spec_l31Idle.ps spec_l31Idle.rs = spec_l31Idle.f := by kernel_rfl
theorem laws_heldAccount.eq : evFun laws_heldAccount.cx Tryz.f35 laws_heldAccount.ps laws_heldAccount.rs = laws_heldAccount.f := by kernel_rfl
theorem laws_szSendWindow.eq : evFun laws_szSendWindow.cx Tryz.f84 laws_szSendWindow.ps laws_szSendWindow.rs = laws_szSendWindow.f := by kernel_rfl
theorem impl_OutstandingBytes.eq : evFun impl_OutstandingBytes.cx Tryz.f189 impl_OutstandingBytes.ps impl_OutstandingBytes.rs = impl_OutstandingBytes.f := by kernel_rfl
theorem spec_DeriveKey.eq : evFun spec_DeriveKey.cx Tryz.f249 spec_DeriveKey.ps spec_DeriveKey.rs = spec_DeriveKey.f := by kernel_rfl
theorem laws_szPayload.eq : evFun laws_szPayload.cx Tryz.f174 laws_szPayload.ps laws_szPayload.rs = laws_szPayload.f := by kernel_rfl
theorem impl_InRange.eq : evFun impl_InRange.cx Tryz.f146 impl_InRange.ps impl_InRange.rs = impl_InRange.f := by kernel_rfl
theorem spec_IsValidKey.eq : evFun spec_IsValidKey.cx Tryz.f51 spec_IsValidKey.ps spec_IsValidKey.rs = spec_IsValidKey.f := by kernel_rfl
theorem impl_Min.eq : evFun impl_Min.cx Tryz.f266 impl_Min.ps impl_Min.rs = impl_Min.f := by kernel_rfl
theorem laws_toPagingState.eq : evFun laws_toPagingState.cx Tryz.f93 laws_toPagingState.ps laws_toPagingState.rs = laws_toPagingState.f := by kernel_rfl
end Go.Proofs.YtbgkgnhlfmidhaaGreat.XS
/- Each function, evaluated, is the plain Lean one. -/
set_option linter.unusedVariables false
set_option maxRecDepth 100000
namespace Go.Proofs.YtbgkgnhlfmidhaaGreat.XS
open Go Go.Proofs.XTv Go.Proofs.XF
theorem laws_FnExactSendNew.eq : evFun laws_FnExactSendNew.cx Tryz.f7 laws_FnExactSendNew.ps laws_FnExactSendNew.rs = laws_FnExactSendNew.f := by kernel_rfl
theorem spec_IsValidSession.eq : evFun spec_IsValidSession.cx Tryz.f215 spec_IsValidSession.ps spec_IsValidSession.rs = spec_IsValidSession.f := by kernel_rfl
theorem spec_l30Stream.eq : evFun spec_l30Stream.cx Tryz.f271 spec_l30Stream.ps spec_l30Stream.rs = spec_l30Stream.f := by kernel_rfl
theorem spec_l16Add.eq : evFun spec_l16Add.cx Tryz.f260 spec_l16Add.ps spec_l16Add.rs = spec_l16Add.f := by kernel_rfl
theorem spec_l24Sents.eq : evFun spec_l24Sents.cx Tryz.f227 spec_l24Sents.ps spec_l24Sents.rs = spec_l24Sents.f := by kernel_rfl
theorem laws_toSession.eq : evFun laws_toSession.cx Tryz.f27 laws_toSession.ps laws_toSession.rs = laws_toSession.f := by kernel_rfl
theorem impl_Encrypt.eq : evFun impl_Encrypt.cx Tryz.f276 impl_Encrypt.ps impl_Encrypt.rs = impl_Encrypt.f := by kernel_rfl
theorem laws_markReservationS.eq : evFun laws_markReservationS.cx Tryz.f114 laws_markReservationS.ps laws_markReservationS.rs = laws_markReservationS.f := by kernel_rfl
theorem spec_l15Bodies.eq : evFun spec_l15Bodies.cx Tryz.f176 spec_l15Bodies.ps spec_l15Bodies.rs = spec_l15Bodies.f := by kernel_rfl
theorem laws_eqByteS.eq : evFun laws_eqByteS.cx Tryz.f171 laws_eqByteS.ps laws_eqByteS.rs = laws_eqByteS.f := by kernel_rfl
theorem laws_eqSignal.eq : evFun laws_eqSignal.cx Tryz.f152 laws_eqSignal.ps laws_eqSignal.rs = laws_eqSignal.f := by kernel_rfl
theorem spec_l30Copy.eq : evFun spec_l30Copy.cx Tryz.f86 spec_l30Copy.ps spec_l30Copy.rs = spec_l30Copy.f := by kernel_rfl
theorem spec_RequestQuota.eq : evFun spec_RequestQuota.cx Tryz.f89 spec_RequestQuota.ps spec_RequestQuota.rs = spec_RequestQuota.f := by kernel_rfl
theorem impl_TotalReserved.eq : evFun impl_TotalReserved.cx Tryz.f288 impl_TotalReserved.ps impl_TotalReserved.rs = impl_TotalReserved.f := by kernel_rfl
theorem spec_TotalReserved.eq : evFun spec_TotalReserved.cx Tryz.f287 spec_TotalReserved.ps spec_TotalReserved.rs = spec_TotalReserved.f := by kernel_rfl
theorem spec_KeyForPath.eq : evFun spec_KeyForPath.cx Tryz.f234 spec_KeyForPath.ps spec_KeyForPath.rs = spec_KeyForPath.f := by kernel_rfl
theorem laws_eqSubscription.eq : evFun laws_eqSubscription.cx Tryz.f104 laws_eqSubscription.ps laws_eqSubscription.rs = laws_eqSubscription.f := by kernel_rfl
theorem impl_IsValidSubscriberRecord.eq : evFun impl_IsValidSubscriberRecord.cx Tryz.f218 impl_IsValidSubscriberRecord.ps impl_IsValidSubscriberRecord.rs = impl_IsValidSubscriberRecord.f := by kernel_rfl
theorem spec_Protect.eq : evFun spec_Protect.cx Tryz.f272 spec_Protect.ps spec_Protect.rs = spec_Protect.f := by kernel_rfl
theorem laws_eqSubscriberRecord.eq : evFun laws_eqSubscriberRecord.cx Tryz.f103 laws_eqSubscriberRecord.ps laws_eqSubscriberRecord.rs = laws_eqSubscriberRecord.f := by kernel_rfl
theorem laws_eqPagingState.eq : evFun laws_eqPagingState.cx Tryz.f106 laws_eqPagingState.ps laws_eqPagingState.rs = laws_eqPagingState.f := by kernel_rfl
theorem impl_IsValidSubscriberID.eq : evFun impl_IsValidSubscriberID.cx Tryz.f273 impl_IsValidSubscriberID.ps impl_IsValidSubscriberID.rs = impl_IsValidSubscriberID.f := by kernel_rfl
theorem impl_copyInts.eq : evFun impl_copyInts.cx Tryz.f262 impl_copyInts.ps impl_copyInts.rs = impl_copyInts.f := by kernel_rfl
theorem laws_markSendWindow.eq : evFun laws_markSendWindow.cx Tryz.f113 laws_markSendWindow.ps laws_markSendWindow.rs = laws_markSendWindow.f := by kernel_rfl
theorem spec_RemainingQuota.eq : evFun spec_RemainingQuota.cx Tryz.f179 spec_RemainingQuota.ps spec_RemainingQuota.rs = spec_RemainingQuota.f := by kernel_rfl
theorem laws_szNumberedPacket.eq : evFun laws_szNumberedPacket.cx Tryz.f226 laws_szNumberedPacket.ps laws_szNumberedPacket.rs = laws_szNumberedPacket.f := by kernel_rfl
theorem laws_eqReservation.eq : evFun laws_eqReservation.cx Tryz.f196 laws_eqReservation.ps laws_eqReservation.rs = laws_eqReservation.f := by kernel_rfl
theorem laws_toAccount.eq : evFun laws_toAccount.cx Tryz.f28 laws_toAccount.ps laws_toAccount.rs = laws_toAccount.f := by kernel_rfl
theorem laws_toSendWindow.eq : evFun laws_toSendWindow.cx Tryz.f95 laws_toSendWindow.ps laws_toSendWindow.rs = laws_toSendWindow.f := by kernel_rfl
theorem spec_EqualBytes.eq : evFun spec_EqualBytes.cx Tryz.f289 spec_EqualBytes.ps spec_EqualBytes.rs = spec_EqualBytes.f := by kernel_rfl
theorem laws_toPayload.eq : evFun laws_toPayload.cx Tryz.f184 laws_toPayload.ps laws_toPayload.rs = laws_toPayload.f := by kernel_rfl
theorem laws_toSubscriberID.eq : evFun laws_toSubscriberID.cx Tryz.f144 laws_toSubscriberID.ps laws_toSubscriberID.rs = laws_toSubscriberID.f := by kernel_rfl
end Go.Proofs.YtbgkgnhlfmidhaaGreat.XS
/- Each function, evaluated, is the plain Lean one. -/
set_option linter.unusedVariables false
set_option maxRecDepth 100000
namespace Go.Proofs.YtbgkgnhlfmidhaaGreat.XS
open Go Go.Proofs.XTv Go.Proofs.XF
theorem impl_IsValidSession.eq : evFun impl_IsValidSession.cx Tryz.f133 impl_IsValidSession.ps impl_IsValidSession.rs = impl_IsValidSession.f := by kernel_rfl
theorem laws_markRadioPacketS.eq : evFun laws_markRadioPacketS.cx Tryz.f137 laws_markRadioPacketS.ps laws_markRadioPacketS.rs = laws_markRadioPacketS.f := by kernel_rfl
theorem laws_heldRadioPacketS.eq : evFun laws_heldRadioPacketS.cx Tryz.f138 laws_heldRadioPacketS.ps laws_heldRadioPacketS.rs = laws_heldRadioPacketS.f := by kernel_rfl
theorem spec_Encrypt.eq : evFun spec_Encrypt.cx Tryz.f290 spec_Encrypt.ps spec_Encrypt.rs = spec_Encrypt.f := by kernel_rfl
theorem spec_EnsureQuota.eq : evFun spec_EnsureQuota.cx Tryz.f26 spec_EnsureQuota.ps spec_EnsureQuota.rs = spec_EnsureQuota.f := by kernel_rfl
theorem laws_markSession.eq : evFun laws_markSession.cx Tryz.f32 laws_markSession.ps laws_markSession.rs = laws_markSession.f := by kernel_rfl
theorem laws_eqPayloadS.eq : evFun laws_eqPayloadS.cx Tryz.f107 laws_eqPayloadS.ps laws_eqPayloadS.rs = laws_eqPayloadS.f := by kernel_rfl
theorem impl_BytesToInts.eq : evFun impl_BytesToInts.cx Tryz.f291 impl_BytesToInts.ps impl_BytesToInts.rs = impl_BytesToInts.f := by kernel_rfl
theorem laws_szNumberedPacketS.eq : evFun laws_szNumberedPacketS.cx Tryz.f139 laws_szNumberedPacketS.ps laws_szNumberedPacketS.rs = laws_szNumberedPacketS.f := by kernel_rfl
theorem laws_eqIntS.eq : evFun laws_eqIntS.cx Tryz.f194 laws_eqIntS.ps laws_eqIntS.rs = laws_eqIntS.f := by kernel_rfl
theorem impl_copySession.eq : evFun impl_copySession.cx Tryz.f98 impl_copySession.ps impl_copySession.rs = impl_copySession.f := by kernel_rfl
theorem laws_heldPayloadS.eq : evFun laws_heldPayloadS.cx Tryz.f116 laws_heldPayloadS.ps laws_heldPayloadS.rs = laws_heldPayloadS.f := by kernel_rfl
theorem impl_SendPacket.eq : evFun impl_SendPacket.cx Tryz.f134 impl_SendPacket.ps impl_SendPacket.rs = impl_SendPacket.f := by kernel_rfl
theorem laws_heldByteS.eq : evFun laws_heldByteS.cx Tryz.f199 laws_heldByteS.ps laws_heldByteS.rs = laws_heldByteS.f := by kernel_rfl
theorem impl_deriveSteps.eq : evFun impl_deriveSteps.cx Tryz.f285 impl_deriveSteps.ps impl_deriveSteps.rs = impl_deriveSteps.f := by kernel_rfl
theorem laws_markIntS.eq : evFun laws_markIntS.cx Tryz.f197 laws_markIntS.ps laws_markIntS.rs = laws_markIntS.f := by kernel_rfl
theorem laws_eqAccount.eq : evFun laws_eqAccount.cx Tryz.f31 laws_eqAccount.ps laws_eqAccount.rs = laws_eqAccount.f := by kernel_rfl
theorem impl_IsValidPaging.eq : evFun impl_IsValidPaging.cx Tryz.f220 impl_IsValidPaging.ps impl_IsValidPaging.rs = impl_IsValidPaging.f := by kernel_rfl
theorem laws_eqRadioPacket.eq : evFun laws_eqRadioPacket.cx Tryz.f22 laws_eqRadioPacket.ps laws_eqRadioPacket.rs = laws_eqRadioPacket.f := by kernel_rfl
theorem impl_securedMAC.eq : evFun impl_securedMAC.cx Tryz.f277 impl_securedMAC.ps impl_securedMAC.rs = impl_securedMAC.f := by kernel_rfl
theorem laws_eqQuota.eq : evFun laws_eqQuota.cx Tryz.f109 laws_eqQuota.ps laws_eqQuota.rs = laws_eqQuota.f := by kernel_rfl
theorem impl_copyItems_impl_Reservation.eq : evFun impl_copyItems_impl_Reservation.cx Tryz.f191 impl_copyItems_impl_Reservation.ps impl_copyItems_impl_Reservation.rs = impl_copyItems_impl_Reservation.f := by kernel_rfl
theorem impl_IsValidQuota.eq : evFun impl_IsValidQuota.cx Tryz.f222 impl_IsValidQuota.ps impl_IsValidQuota.rs = impl_IsValidQuota.f := by kernel_rfl
theorem laws_heldSubscription.eq : evFun laws_heldSubscription.cx Tryz.f115 laws_heldSubscription.ps laws_heldSubscription.rs = laws_heldSubscription.f := by kernel_rfl
theorem impl_RemainingQuota.eq : evFun impl_RemainingQuota.cx Tryz.f190 impl_RemainingQuota.ps impl_RemainingQuota.rs = impl_RemainingQuota.f := by kernel_rfl
theorem impl_copySubscription.eq : evFun impl_copySubscription.cx Tryz.f186 impl_copySubscription.ps impl_copySubscription.rs = impl_copySubscription.f := by kernel_rfl
theorem spec_l16Copy.eq : evFun spec_l16Copy.cx Tryz.f88 spec_l16Copy.ps spec_l16Copy.rs = spec_l16Copy.f := by kernel_rfl
theorem impl_DeriveKey.eq : evFun impl_DeriveKey.cx Tryz.f254 impl_DeriveKey.ps impl_DeriveKey.rs = impl_DeriveKey.f := by kernel_rfl
theorem laws_toSubscriberRecord.eq : evFun laws_toSubscriberRecord.cx Tryz.f91 laws_toSubscriberRecord.ps laws_toSubscriberRecord.rs = laws_toSubscriberRecord.f := by kernel_rfl
theorem impl_EqualBytes.eq : evFun impl_EqualBytes.cx Tryz.f224 impl_EqualBytes.ps impl_EqualBytes.rs = impl_EqualBytes.f := by kernel_rfl
theorem spec_Min.eq : evFun spec_Min.cx Tryz.f259 spec_Min.ps spec_Min.rs = spec_Min.f := by kernel_rfl
theorem spec_RadioKeyPath.eq : evFun spec_RadioKeyPath.cx Tryz.f250 spec_RadioKeyPath.ps spec_RadioKeyPath.rs = spec_RadioKeyPath.f := by kernel_rfl
end Go.Proofs.YtbgkgnhlfmidhaaGreat.XS
