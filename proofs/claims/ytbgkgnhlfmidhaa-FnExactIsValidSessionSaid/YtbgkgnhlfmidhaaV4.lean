/- What the law rests on: part 5 of 5. -/
import Derived.Test.YtbgkgnhlfmidhaaRows
import Derived.Test.YtbgkgnhlfmidhaaV3
set_option linter.unusedVariables false
set_option linter.unusedSimpArgs false
set_option linter.unusedSectionVars false
/- Plain laws: devices: power on, tick, move; sessions: submit, failover. -/
set_option linter.unusedVariables false
set_option linter.unusedSimpArgs false
set_option linter.unusedSectionVars false
set_option maxRecDepth 4000
namespace Go.Proofs.XF
open Go Go.Proofs.XTv
section
variable {k : Nat} (hk : FU ≤ k)
theorem i_dres (hk : FU ≤ k) {d : DDevice} {l : List DSignal} (h : Ok TDevice d) (hl : l.length ≤ 4294967296) : impl_deviceResult.f k (d, l) = some (d, l) := by
  unfold impl_deviceResult.f
  simp only [i_copyDevice hk h, i_copySignals hk hl, ob_some]
theorem cnt_dres (d : DDevice) (l : List DSignal) : cnt TDeviceResult (d, l) = cnt TDevice d + l.length := by
  show cnt TDevice d + (l.length + (l.map fun _ => 0).sum) = _
  rw [sum_zero]; omega
theorem ok_dres0 {d : DDevice} (h : Ok TDevice d) : Ok TDeviceResult (d, []) := ⟨h, ok_nil _⟩
theorem ok_dres1 {d : DDevice} {s : DSignal} (h : Ok TDevice d) (hs : Ok TSignal s) : Ok TDeviceResult (d, [s]) := ⟨h, ok_one hs⟩
def attG (n : Int) : DSignal := (1, n, 0, 0, 0, (0, 0, 0, 0, 0), 0)
theorem ok_att {n : Int} (h : Ok (.int .i64) n) : Ok TSignal (attG n) :=
  have z : Ok (.int .i64) (0 : Int) := okn (by omega)
  ⟨okn (n := 1) (by omega), h, z, z, z, ⟨z, z, z, z, z⟩, z⟩
def pathG (x : DDevice) : DSignal := (5, x.2.2.1, x.2.2.2.1, x.2.2.2.2.2.1, 0, (0, 0, 0, 0, 0), macF x.2.2.2.2.1 (5, x.2.2.1, x.2.2.2.1, x.2.2.2.2.2.1, 0, (0, 0, 0, 0, 0), 0))
theorem ok_pathG {x : DDevice} (h : Ok TDevice x) : Ok TSignal (pathG x) :=
  have z : Ok (.int .i64) (0 : Int) := okn (by omega)
  ⟨okn (n := 5) (by omega), h.2.2.1, h.2.2.2.1, h.2.2.2.2.2.1, z, ⟨z, z, z, z, z⟩, ok_khash _ _⟩
theorem i_pathG (hk : FU ≤ k) (x : DDevice) : impl_pathUpdate.f k x = some (pathG x) := by
  unfold impl_pathUpdate.f
  rw [i_sign hk, ob_some]; rfl
theorem s_pathG (hk : FU ≤ k) (x : DDevice) : spec_l29Path.f k x = some (pathG x) := by
  unfold spec_l29Path.f
  rw [s_sign hk, ob_some]; rfl
theorem ok_wait {x : DDevice} (h : Ok TDevice x) {n : Int} (hn : Ok (.int .i64) n) : Ok TDevice (x.1, x.2.1, x.2.2.1, x.2.2.2.1, x.2.2.2.2.1, x.2.2.2.2.2.1, x.2.2.2.2.2.2.1, n, x.2.2.2.2.2.2.2.2) :=
  ⟨h.1, h.2.1, h.2.2.1, h.2.2.2.1, h.2.2.2.2.1, h.2.2.2.2.2.1, h.2.2.2.2.2.2.1, hn, h.2.2.2.2.2.2.2.2⟩
theorem ok_three : Ok (.int .i64) (3 : Int) := okn (by omega)
theorem both_PowerOn (hk : FU ≤ k) {x : DDevice} (h : Ok TDevice x) (hn : cnt TDevice x ≤ 1048576) :
    ∃ r, spec_PowerOn.f k x = some r ∧ impl_PowerOn.f k x = some r ∧ Ok TDeviceResult r ∧ cnt TDeviceResult r ≤ 67108864 := by
  cases hc : ine x.2.1 0
  · have h3 : Ok TDevice (x.1, 1, x.2.2.1, x.2.2.2.1, x.2.2.2.2.1, x.2.2.2.2.2.1, x.2.2.2.2.2.2.1, 3, x.2.2.2.2.2.2.2.2) := ok_wait (x := (x.1, 1, x.2.2)) ⟨h.1, okn (n := 1) (by omega), h.2.2⟩ ok_three
    refine ⟨(_, [attG x.2.2.1]), ?_, ?_, ok_dres1 h3 (ok_att h.2.2.1), ?_⟩
    · unfold spec_PowerOn.f spec_l29Attach.f spec_l29Send.f
      simp only [s_copyDevice hk h, ob_some, hc, cond_false]
      rfl
    · unfold impl_PowerOn.f impl_attachSignal.f
      simp only [ob_some, hc, cond_false]
      rw [i_dres hk h3 (by show (1 : Nat) ≤ _; omega), ob_some]; rfl
    · rw [cnt_dres]
      have : cnt TDevice (x.1, 1, x.2.2.1, x.2.2.2.1, x.2.2.2.2.1, x.2.2.2.2.2.1, x.2.2.2.2.2.2.1, 3, x.2.2.2.2.2.2.2.2) = cnt TDevice x := rfl
      rw [this]
      show _ + 1 ≤ _
      omega
  · refine ⟨(x, []), ?_, ?_, ok_dres0 h, ?_⟩
    · unfold spec_PowerOn.f spec_l29None.f
      simp only [s_copyDevice hk h, ob_some, hc, cond_true]
    · unfold impl_PowerOn.f
      simp only [i_dres hk h (show ([] : List DSignal).length ≤ 4294967296 by simp), ob_some, hc, cond_true]
    · rw [cnt_dres]; show _ + 0 ≤ _; omega
theorem both_TickDevice (hk : FU ≤ k) {x : DDevice} (h : Ok TDevice x) (hn : cnt TDevice x ≤ 1048576) :
    ∃ r, spec_TickDevice.f k x = some r ∧ impl_TickDevice.f k x = some r ∧ Ok TDeviceResult r ∧ cnt TDeviceResult r ≤ 67108864 := by
  have l0 : ([] : List DSignal).length ≤ 4294967296 := by simp
  have l1 : ∀ s : DSignal, [s].length ≤ 4294967296 := by simp
  have w3 := ok_wait h ok_three
  cases h1 : ilt 0 x.2.2.2.2.2.2.2.1
  · cases h2 : ieq x.2.1 1
    · cases h3 : (bif ieq x.2.1 2 then dnot x.2.2.2.2.2.2.1 else false)
      · refine ⟨(x, []), ?_, ?_, ok_dres0 h, ?_⟩
        · unfold spec_TickDevice.f
          simp only [s_copyDevice hk h, ob_some, h1, h2, h3, cond_false]
        · unfold impl_TickDevice.f
          simp only [h1, h2, h3, cond_false, i_dres hk h l0, ob_some]
        · rw [cnt_dres]; show _ + 0 ≤ _; omega
      · refine ⟨(_, [pathG x]), ?_, ?_, ok_dres1 w3 (ok_pathG h), ?_⟩
        · unfold spec_TickDevice.f spec_l29Send.f
          simp only [s_copyDevice hk h, s_pathG hk, ob_some, h1, h2, h3, cond_false, cond_true]
        · unfold impl_TickDevice.f
          simp only [h1, h2, h3, cond_false, cond_true, i_pathG hk, ob_some]
          rw [i_dres hk w3 (l1 _), ob_some]; rfl
        · rw [cnt_dres]
          have : cnt TDevice (x.1, x.2.1, x.2.2.1, x.2.2.2.1, x.2.2.2.2.1, x.2.2.2.2.2.1, x.2.2.2.2.2.2.1, 3, x.2.2.2.2.2.2.2.2) = cnt TDevice x := rfl
          rw [this]; show _ + 1 ≤ _; omega
    · refine ⟨(_, [attG x.2.2.1]), ?_, ?_, ok_dres1 w3 (ok_att h.2.2.1), ?_⟩
      · unfold spec_TickDevice.f spec_l29Send.f spec_l29Attach.f
        simp only [s_copyDevice hk h, ob_some, h1, h2, cond_false, cond_true]; rfl
      · unfold impl_TickDevice.f impl_attachSignal.f
        simp only [h1, h2, cond_false, cond_true, ob_some]
        rw [i_dres hk w3 (l1 _), ob_some]; rfl
      · rw [cnt_dres]
        have : cnt TDevice (x.1, x.2.1, x.2.2.1, x.2.2.2.1, x.2.2.2.2.1, x.2.2.2.2.2.1, x.2.2.2.2.2.2.1, 3, x.2.2.2.2.2.2.2.2) = cnt TDevice x := rfl
        rw [this]; show _ + 1 ≤ _; omega
  · have w := ok_wait h (ok_sub x.2.2.2.2.2.2.2.1 1)
    refine ⟨(_, []), ?_, ?_, ok_dres0 w, ?_⟩
    · unfold spec_TickDevice.f
      simp only [s_copyDevice hk h, ob_some, h1, cond_true]
    · unfold impl_TickDevice.f
      simp only [h1, cond_true]
      rw [i_dres hk w l0, ob_some]
    · rw [cnt_dres]
      have : cnt TDevice (x.1, x.2.1, x.2.2.1, x.2.2.2.1, x.2.2.2.2.1, x.2.2.2.2.2.1, x.2.2.2.2.2.2.1, isub .i64 x.2.2.2.2.2.2.2.1 1, x.2.2.2.2.2.2.2.2) = cnt TDevice x := rfl
      rw [this]; show _ + 0 ≤ _; omega
theorem move_cond (a b : Int) : (bif bif ine a 2 then true else ile 999999 b then true else false) = dnot (bif ieq a 2 then ilt b 999999 else false) := by
  by_cases h1 : a = 2
  · subst h1
    by_cases h2 : b < 999999
    · have h3 : ¬ 999999 ≤ b := by omega
      simp [ine, ieq, ile, ilt, dnot, h2, h3]
    · have h3 : 999999 ≤ b := by omega
      simp [ine, ieq, ile, ilt, dnot, h2, h3]
  · have e1 : (a != 2) = true := by simp [h1]
    have e2 : (a == 2) = false := by simp [h1]
    simp [ine, ieq, ile, ilt, dnot, e1, e2]
theorem both_MoveDevice (hk : FU ≤ k) {x : (.pair TDevice (.int .i64) : Ty).den} (h : Ok (.pair TDevice (.int .i64)) x) (hn : cnt (.pair TDevice (.int .i64)) x ≤ 1048576) :
    ∃ r, spec_MoveDevice.f k x = some r ∧ impl_MoveDevice.f k x = some r ∧ Ok TDeviceResult r ∧ cnt TDeviceResult r ≤ 67108864 := by
  have l0 : ([] : List DSignal).length ≤ 4294967296 := by simp
  have l1 : ∀ s : DSignal, [s].length ≤ 4294967296 := by simp
  obtain ⟨d, n⟩ := x
  obtain ⟨h, hq⟩ := h
  have hc0 : cnt TDevice d ≤ 1048576 := by
    have : cnt (.pair TDevice (.int .i64)) (d, n) = cnt TDevice d := by simp [cnt]
    omega
  have mv : Ok TDevice (d.1, d.2.1, n, d.2.2.2) := ⟨h.1, h.2.1, hq, h.2.2.2⟩
  have e0 : (obind (bif dnot (ieq n d.2.2.1) then spec_l1In.f k (n, 0, 5) else some false) fun v0 => some (bif ieq n d.2.2.1 then true else dnot v0)) = some (bif ieq n d.2.2.1 then true else dnot (inB n 0 5)) := by
    cases ieq n d.2.2.1 <;> rfl
  by_cases hb : (bif ieq n d.2.2.1 then true else dnot (inB n 0 5)) = true
  · refine ⟨(d, []), ?_, ?_, ok_dres0 h, ?_⟩
    · unfold spec_MoveDevice.f spec_l29None.f
      simp only [s_in, s_copyDevice hk h, ob_some]
      cases hq2 : ieq n d.2.2.1 <;> simp only [hq2, dnot_t, dnot_f, cond_true, cond_false, ob_some] at hb ⊢
      · rw [hb]; rfl
    · unfold impl_MoveDevice.f
      simp only [i_in, i_dres hk h l0, ob_some]
      cases hq2 : ieq n d.2.2.1 <;> simp only [hq2, dnot_t, dnot_f, cond_true, cond_false, ob_some] at hb ⊢
      · rw [hb]; rfl
    · rw [cnt_dres]; show _ + 0 ≤ _; omega
  · have hq2 : ieq n d.2.2.1 = false := by
      cases hq2 : ieq n d.2.2.1
      · rfl
      · rw [hq2] at hb; exact absurd rfl hb
    have hi : inB n 0 5 = true := by
      rw [hq2] at hb
      cases hi : inB n 0 5
      · rw [hi] at hb; exact absurd rfl hb
      · rfl
    have hm := move_cond d.2.1 d.2.2.2.2.2.1
    cases hu : (bif ieq d.2.1 2 then ilt d.2.2.2.2.2.1 999999 else false)
    · have hv : (bif ine d.2.1 2 then true else ile 999999 d.2.2.2.2.2.1) = true := by
        rw [hu] at hm
        cases hw : (bif ine d.2.1 2 then true else ile 999999 d.2.2.2.2.2.1)
        · rw [hw] at hm; cases hm
        · rfl
      refine ⟨(_, []), ?_, ?_, ok_dres0 mv, ?_⟩
      · unfold spec_MoveDevice.f
        simp only [s_in, s_copyDevice hk h, ob_some, hq2, hi, dnot_t, dnot_f, cond_true, cond_false, hu]
      · unfold impl_MoveDevice.f
        simp only [i_in, ob_some, hq2, hi, dnot_t, dnot_f, cond_true, cond_false, hv]
        rw [i_dres hk mv l0, ob_some]
      · rw [cnt_dres]
        have : cnt TDevice (d.1, d.2.1, n, d.2.2.2) = cnt TDevice d := rfl
        rw [this]; show _ + 0 ≤ _; omega
    · have hv : (bif ine d.2.1 2 then true else ile 999999 d.2.2.2.2.2.1) = false := by
        rw [hu] at hm
        cases hw : (bif ine d.2.1 2 then true else ile 999999 d.2.2.2.2.2.1)
        · rfl
        · rw [hw] at hm; cases hm
      have mw : Ok TDevice (d.1, d.2.1, n, d.2.2.2.1, d.2.2.2.2.1, iadd .i64 d.2.2.2.2.2.1 1, false, 3, d.2.2.2.2.2.2.2.2) :=
        ⟨h.1, h.2.1, hq, h.2.2.2.1, h.2.2.2.2.1, ok_add _ _, trivial, ok_three, h.2.2.2.2.2.2.2.2⟩
      refine ⟨(_, [pathG (d.1, d.2.1, n, d.2.2.2.1, d.2.2.2.2.1, iadd .i64 d.2.2.2.2.2.1 1, false, 3, d.2.2.2.2.2.2.2.2)]), ?_, ?_, ok_dres1 mw (ok_pathG mw), ?_⟩
      · unfold spec_MoveDevice.f spec_l29Next.f spec_l29Send.f
        simp only [s_in, s_copyDevice hk h, s_pathG hk, ob_some, hq2, hi, dnot_t, dnot_f, cond_true, cond_false, hu]
        rfl
      · unfold impl_MoveDevice.f impl_announcePath.f
        simp only [i_in, i_pathG hk, ob_some, hq2, hi, dnot_t, dnot_f, cond_true, cond_false, hv]
        rw [i_dres hk mw (l1 _), ob_some, ob_some]
      · rw [cnt_dres]
        have : cnt TDevice (d.1, d.2.1, n, d.2.2.2.1, d.2.2.2.2.1, iadd .i64 d.2.2.2.2.2.1 1, false, 3, d.2.2.2.2.2.2.2.2) = cnt TDevice d := rfl
        rw [this]; show _ + 1 ≤ _; omega
theorem both_Failover (hk : FU ≤ k) {x : DSession} (h : Ok TSession x) (hn : cnt TSession x ≤ 1048576) :
    ∃ r, spec_Failover.f k x = some r ∧ impl_Failover.f k x = some r ∧ Ok TSession r ∧ cnt TSession r ≤ 67108864 := by
  have z : Ok (.int .i64) (0 : Int) := okn (by omega)
  refine ⟨(x.1, x.2.1, x.2.2.1, (0, 0, 0, 0, 0), 0, x.2.2.2.2.2.1, x.2.2.2.2.2.2.1, x.2.2.2.2.2.2.2.1, x.2.2.2.2.2.2.2.2.1, 0, (0, 0, 0),
      x.2.2.2.2.2.2.2.2.2.2.2.1, x.2.2.2.2.2.2.2.2.2.2.2.2.1, 0, x.2.2.2.2.2.2.2.2.2.2.2.2.2.2), ?_, ?_, ⟨h.1, h.2.1, h.2.2.1, ⟨z, z, z, z, z⟩, z, h.2.2.2.2.2.1, h.2.2.2.2.2.2.1, h.2.2.2.2.2.2.2.1, h.2.2.2.2.2.2.2.2.1, z, ⟨z, z, z⟩, h.2.2.2.2.2.2.2.2.2.2.2.1, h.2.2.2.2.2.2.2.2.2.2.2.2.1, z, h.2.2.2.2.2.2.2.2.2.2.2.2.2.2⟩, ?_⟩
  · unfold spec_Failover.f; rw [s_copySession hk h, ob_some]
  · unfold impl_Failover.f; rw [i_copySession hk h, ob_some]
  · refine Nat.le_trans (Nat.le_of_eq ?_) (Nat.le_trans hn (by omega))
    rfl
theorem cnt_payl {s : DSession} (P : List (List Int)) : cnt TSession (s.1, s.2.1, s.2.2.1, s.2.2.2.1, s.2.2.2.2.1, s.2.2.2.2.2.1, s.2.2.2.2.2.2.1, s.2.2.2.2.2.2.2.1, s.2.2.2.2.2.2.2.2.1, s.2.2.2.2.2.2.2.2.2.1, s.2.2.2.2.2.2.2.2.2.2.1, P, s.2.2.2.2.2.2.2.2.2.2.2.2) = cnt TSession (s.1, s.2.1, s.2.2.1, s.2.2.2.1, s.2.2.2.2.1, s.2.2.2.2.2.1, s.2.2.2.2.2.2.1, s.2.2.2.2.2.2.2.1, s.2.2.2.2.2.2.2.2.1, s.2.2.2.2.2.2.2.2.2.1, s.2.2.2.2.2.2.2.2.2.2.1, [], s.2.2.2.2.2.2.2.2.2.2.2.2) + cnt (.sl (.sl (.int .u8))) P := by
  simp only [cnt, List.length_nil, List.map_nil, List.sum_nil]
  omega
theorem both_SubmitPacket (hk : FU ≤ k) {x : (.pair TSession (.sl (.int .u8)) : Ty).den} (h : Ok (.pair TSession (.sl (.int .u8))) x) (hn : cnt (.pair TSession (.sl (.int .u8))) x ≤ 2097152) :
    ∃ r, spec_SubmitPacket.f k x = some r ∧ impl_SubmitPacket.f k x = some r ∧ Ok (.pair TSession .bool) r ∧ cnt (.pair TSession .bool) r ≤ 67108864 := by
  obtain ⟨s, l⟩ := x
  obtain ⟨h, hl⟩ := h
  have hc0 : cnt TSession s + l.length ≤ 2097152 := by
    refine Nat.le_trans (Nat.le_of_eq ?_) hn
    show _ = cnt TSession s + (l.length + (l.map fun _ => 0).sum)
    rw [sum_zero]; omega
  refine ⟨_, s_submit hk h hl, i_submit hk h hl, ?_, ?_⟩
  · cases hc : subC s l
    · obtain ⟨h1, h2⟩ := subC_len hc
      refine ⟨?_, trivial⟩
      show Ok TSession (subF s l)
      refine ⟨h.1, h.2.1, h.2.2.1, h.2.2.2.1, h.2.2.2.2.1, h.2.2.2.2.2.1, h.2.2.2.2.2.2.1, h.2.2.2.2.2.2.2.1, h.2.2.2.2.2.2.2.2.1, h.2.2.2.2.2.2.2.2.2.1, h.2.2.2.2.2.2.2.2.2.2.1, ok_app h.2.2.2.2.2.2.2.2.2.2.2.1 (ok_one hl) (by simp; omega), h.2.2.2.2.2.2.2.2.2.2.2.2⟩
    · exact ⟨h, trivial⟩
  · cases hc : subC s l
    · show cnt TSession (subF s l) + 0 ≤ _
      have e : cnt (.sl (.sl (.int .u8))) (s.2.2.2.2.2.2.2.2.2.2.2.1 ++ [l]) = cnt (.sl (.sl (.int .u8))) s.2.2.2.2.2.2.2.2.2.2.2.1 + 1 + l.length := by
        have e0 : cnt (.sl (.int .u8)) l = l.length := by
          show l.length + (l.map fun _ => 0).sum = _
          rw [sum_zero]; rfl
        show (s.2.2.2.2.2.2.2.2.2.2.2.1 ++ [l]).length + ((s.2.2.2.2.2.2.2.2.2.2.2.1 ++ [l]).map (cnt (.sl (.int .u8)))).sum = (s.2.2.2.2.2.2.2.2.2.2.2.1.length + (s.2.2.2.2.2.2.2.2.2.2.2.1.map (cnt (.sl (.int .u8)))).sum) + 1 + l.length
        rw [List.length_append, List.map_append, List.sum_append, List.map_cons, List.map_nil, List.sum_cons, List.sum_nil, e0]
        show _ + 1 + _ = _
        omega
      have : ∀ P Q : List (List Int), cnt TSession (s.1, s.2.1, s.2.2.1, s.2.2.2.1, s.2.2.2.2.1, s.2.2.2.2.2.1, s.2.2.2.2.2.2.1, s.2.2.2.2.2.2.2.1, s.2.2.2.2.2.2.2.2.1, s.2.2.2.2.2.2.2.2.2.1, s.2.2.2.2.2.2.2.2.2.2.1, P, s.2.2.2.2.2.2.2.2.2.2.2.2) + cnt (.sl (.sl (.int .u8))) Q = cnt TSession (s.1, s.2.1, s.2.2.1, s.2.2.2.1, s.2.2.2.2.1, s.2.2.2.2.2.1, s.2.2.2.2.2.2.1, s.2.2.2.2.2.2.2.1, s.2.2.2.2.2.2.2.2.1, s.2.2.2.2.2.2.2.2.2.1, s.2.2.2.2.2.2.2.2.2.2.1, Q, s.2.2.2.2.2.2.2.2.2.2.2.2) + cnt (.sl (.sl (.int .u8))) P := by
        intro P Q
        rw [cnt_payl P, cnt_payl Q]; omega
      have e3 := this (s.2.2.2.2.2.2.2.2.2.2.2.1 ++ [l]) s.2.2.2.2.2.2.2.2.2.2.2.1
      have e4 : cnt TSession (subF s l) = cnt TSession (s.1, s.2.1, s.2.2.1, s.2.2.2.1, s.2.2.2.2.1, s.2.2.2.2.2.1, s.2.2.2.2.2.2.1, s.2.2.2.2.2.2.2.1, s.2.2.2.2.2.2.2.2.1, s.2.2.2.2.2.2.2.2.2.1, s.2.2.2.2.2.2.2.2.2.2.1, s.2.2.2.2.2.2.2.2.2.2.2.1 ++ [l], s.2.2.2.2.2.2.2.2.2.2.2.2) := rfl
      have e5 : cnt TSession s = cnt TSession (s.1, s.2.1, s.2.2.1, s.2.2.2.1, s.2.2.2.2.1, s.2.2.2.2.2.1, s.2.2.2.2.2.2.1, s.2.2.2.2.2.2.2.1, s.2.2.2.2.2.2.2.2.1, s.2.2.2.2.2.2.2.2.2.1, s.2.2.2.2.2.2.2.2.2.2.1, s.2.2.2.2.2.2.2.2.2.2.2.1, s.2.2.2.2.2.2.2.2.2.2.2.2) := rfl
      omega
    · show cnt TSession s + 0 ≤ _; omega
end
theorem law_ln {α : Type} {xs : List α} {L : Int} {e : Option Bool} (h : (xs.length : Int) ≤ L → e = some true) : (bif ilt L (llen xs) then some true else e) = some true := by
  by_cases hc : (xs.length : Int) ≤ L
  · rw [ilt_f (by show ¬ L < (xs.length : Int); omega), cond_false]; exact h hc
  · rw [ilt_t (by show L < (xs.length : Int); omega), cond_true]
end Go.Proofs.XF
/- Plain laws: encryption, sealing, retransmission. -/
set_option linter.unusedVariables false
set_option linter.unusedSimpArgs false
set_option linter.unusedSectionVars false
set_option maxRecDepth 4000
namespace Go.Proofs.XF
open Go Go.Proofs.XTv
/-! ### Mixed lists: the first of one, the rest of the other -/
theorem mix_get {α : Type} (a b : List α) (h : a.length = b.length) {i : Nat} (hi : i < b.length) (hm : i < (a.take i ++ b.drop i).length) : (a.take i ++ b.drop i)[i] = b[i] := by
  rw [List.getElem_append_right (by simp; omega)]
  simp
  congr 1
  omega
theorem mix_set {α : Type} (a b : List α) (h : a.length = b.length) {i : Nat} (hi : i < a.length) : (a.take i ++ b.drop i).set i a[i] = a.take (i + 1) ++ b.drop (i + 1) := by
  refine List.ext_getElem (by simp; omega) fun n h1 h2 => ?_
  simp only [List.getElem_set, List.getElem_append, List.getElem_take, List.getElem_drop, List.length_take]
  simp at h1 h2
  by_cases h3 : i = n
  · subst h3
    rw [if_pos rfl, dif_pos (by omega)]
  · rw [if_neg h3]
    by_cases h4 : n < i
    · rw [dif_pos (by omega), dif_pos (by omega)]
    · rw [dif_neg (by omega), dif_neg (by omega)]
      congr 1
      omega
theorem mem_cnt {e : Ty} : ∀ {xs : List e.den} {x : e.den}, x ∈ xs → cnt e x ≤ (xs.map (cnt e)).sum
  | [], x, h => by cases h
  | y :: ys, x, h => by
    rw [List.map_cons, List.sum_cons]
    rcases List.mem_cons.1 h with rfl | h
    · omega
    · have := mem_cnt h; omega
theorem cnt_u8 (l : List Int) : cnt (.sl (.int .u8)) l = l.length := by
  show l.length + (l.map fun _ => 0).sum = _
  rw [sum_zero]; rfl
/-! ### Encryption -/
def encB (key : Int) (i : Nat) (b : Int) : Int := icast .u8 (irem .i64 (iadd .i64 (icast .i64 b) (irem .i64 (khash key [(i : Int)]) 256)) 256)
def encL (key : Int) (l : List Int) : List Int := l.mapIdx (encB key)
theorem encL_len (key : Int) (l : List Int) : (encL key l).length = l.length := by simp [encL]
theorem encL_get (key : Int) (l : List Int) {i : Nat} (h : i < (encL key l).length) (h2 : i < l.length) : (encL key l)[i] = encB key i l[i] := by simp [encL]
theorem u8_wrap (x : Int) : IntKind.u8.wrap x = x % 256 := rfl
theorem encB_i (key : Int) (i : Nat) {b : Int} (h0 : 0 ≤ b) (h1 : b ≤ 255) : iadd .u8 b (icast .u8 (irem .i64 (khash key [(i : Int)]) 256)) = encB key i b := by
  have hk := khash_bd key [(i : Int)]
  have e1 : irem .i64 (khash key [(i : Int)]) 256 = khash key [(i : Int)] % 256 := Int.tmod_eq_emod_of_nonneg hk.1
  have e3 : icast .i64 b = b := by
    have := iadd_eq (x := b) (y := 0) (by omega) (by omega)
    unfold iadd at this
    rw [Int.add_zero] at this; exact this
  unfold encB
  rw [e1, e3, iadd_eq (by omega) (by omega)]
  unfold icast iadd irem
  rw [u8_wrap, u8_wrap, u8_wrap, Int.tmod_eq_emod_of_nonneg (by omega)]
  omega
theorem encB_bd (key : Int) (i : Nat) (b : Int) : 0 ≤ encB key i b ∧ encB key i b ≤ 255 := by
  unfold encB icast
  rw [u8_wrap]
  omega
theorem ok_enc (key : Int) {l : List Int} (hl : l.length ≤ 4294967296) : Ok (.sl (.int .u8)) (encL key l) :=
  ⟨by rw [encL_len]; exact hl, fun x hx => by
    obtain ⟨i, hi, rfl⟩ := List.getElem_of_mem hx
    rw [encL_get key l hi (by rw [encL_len] at hi; exact hi)]
    exact encB_bd _ _ _⟩
def b2i (l : List Int) : List Int := (l.length : Int) :: l.map (icast .i64)
def sealK (key d n : Int) (l : List Int) : Int := khash key ([d, n] ++ b2i l)
def protF (key d n : Int) (l : List Int) : DSecuredMessage :=
  (d, n, encL (derive key (iadd .i64 (imul .i64 2 n) d)) l, sealK key d n (encL (derive key (iadd .i64 (imul .i64 2 n) d)) l))
def sealF (key a b : Int) (p : DNumberedPacket) : DRadioPacket := (a, b, protF (pathKey key [1, 3, b]) 1 p.1 p.2)
section
variable {k : Nat} (hk : FU ≤ k)
theorem i_encrypt (hk : FU ≤ k) {key : Int} {l : List Int} (h : Ok (.sl (.int .u8)) l) : impl_Encrypt.f k (key, l) = some (encL key l) := by
  have hl := ok_len h
  have := loop_up (step := impl_Encrypt.s0 k) (e := encL key l) l.length k (fun i => ((key, (l.length : Int), (i : Int)), (encL key l).take i ++ l.drop i)) (by unfold FU at hk; omega)
    (fun i hi => by
      have hle := encL_len key l
      have hm : i < ((encL key l).take i ++ l.drop i).length := by simp; omega
      have hb := h.2 _ (List.getElem_mem hi)
      simp only [impl_Encrypt.s0, ilt_nat, idx_len, decide_eq_true hi, decide_eq_true hm, cond_true, i_khash hk (show ([(i : Int)] : List Int).length ≤ 8589934592 by simp), ob_some, iadd_nat (show i < 9223372036854775807 by omega), lget_nat (e := .int .u8) _ hm, lset_nat]
      rw [mix_get _ _ hle hi hm, encB_i key i hb.1 hb.2, ← encL_get key l (by omega) hi, mix_set _ _ hle]
      rfl)
    (by
      simp only [impl_Encrypt.s0, ilt_nat, Nat.lt_irrefl, decide_false, cond_false]
      rw [List.drop_length, List.append_nil, ← encL_len key l, List.take_length])
  unfold impl_Encrypt.f
  simp only [i_copyBytes hk hl, ob_some]
  rw [llen_eq, show loopN (impl_Encrypt.s0 k) k ((key, (l.length : Int), 0), l) = some (encL key l) by simpa using this, ob_some]
theorem s_encrypt (hk : FU ≤ k) {key : Int} {l : List Int} (h : Ok (.sl (.int .u8)) l) : spec_Encrypt.f k (key, l) = some (encL key l) := by
  have hl := ok_len h
  have := loop_up (step := spec_Encrypt.s0 k) (e := encL key l) l.length k (fun i => ((key, l, (i : Int)), (encL key l).take i)) (by unfold FU at hk; omega)
    (fun i hi => by
      have hle := encL_len key l
      have hi2 : i < (encL key l).length := by omega
      have ha : ∀ v : Int, appOk ((encL key l).take i) [v] 1 = true := fun v => app_ok (by simp; omega)
      simp only [spec_Encrypt.s0, ilt_len, idx_len, decide_eq_true hi, cond_true, s_khash hk (show ([(i : Int)] : List Int).length ≤ 8589934000 by simp), ob_some, iadd_nat (show i < 9223372036854775807 by omega), lget_nat (e := .int .u8) _ hi, ha]
      rw [← take_snoc _ hi2, encL_get key l hi2 hi]
      rfl)
    (by
      simp only [spec_Encrypt.s0, ilt_len, Nat.lt_irrefl, decide_false, cond_false]
      rw [← encL_len key l, List.take_length])
  unfold spec_Encrypt.f
  rw [show loopN (spec_Encrypt.s0 k) k ((key, l, 0), []) = some (encL key l) by simpa using this, ob_some]
theorem i_b2i (hk : FU ≤ k) {l : List Int} (hl : l.length ≤ 4294967296) : impl_BytesToInts.f k l = some (b2i l) := by
  have := loop_up (step := impl_BytesToInts.s0) (e := b2i l) l.length k (fun i => ((l, (l.length : Int), (i : Int)), (l.length : Int) :: (l.take i).map (icast .i64))) (by unfold FU at hk; omega)
    (fun i hi => by
      have ha : ∀ v : Int, appOk ((l.length : Int) :: (l.take i).map (icast .i64)) [v] 8 = true := fun v => app_ok (by simp; omega)
      simp only [impl_BytesToInts.s0, ilt_nat, idx_len, decide_eq_true hi, cond_true, iadd_nat (show i < 9223372036854775807 by omega), lget_nat (e := .int .u8) _ hi, ha]
      rw [← take_snoc l hi, List.map_append]; rfl)
    (by simp only [impl_BytesToInts.s0, ilt_nat, Nat.lt_irrefl, decide_false, cond_false, List.take_length]; rfl)
  unfold impl_BytesToInts.f
  have h1 : makeOk 0 (iadd .i64 (llen l) 1) 8 = true := by
    rw [llen_eq, iadd_nat (by omega)]
    exact decide_eq_true ⟨by omega, by omega, by omega⟩
  have h2 : lrep (.int .i64) 0 = [] := rfl
  rw [h1, cond_true, h2, lcat_nil, app_ok (by simp), cond_true, llen_eq, show loopN impl_BytesToInts.s0 k ((l, (l.length : Int), 0), [(l.length : Int)]) = some (b2i l) by simpa using this, ob_some]
theorem s_b2i (hk : FU ≤ k) {l : List Int} (hl : l.length ≤ 4294967296) : spec_BytesToInts.f k l = some (b2i l) := by
  have := loop_up (step := spec_BytesToInts.s0) (e := b2i l) l.length k (fun i => ((l, (i : Int)), (l.length : Int) :: (l.take i).map (icast .i64))) (by unfold FU at hk; omega)
    (fun i hi => by
      have ha : ∀ v : Int, appOk ((l.length : Int) :: (l.take i).map (icast .i64)) [v] 8 = true := fun v => app_ok (by simp; omega)
      simp only [spec_BytesToInts.s0, ilt_len, idx_len, decide_eq_true hi, cond_true, iadd_nat (show i < 9223372036854775807 by omega), lget_nat (e := .int .u8) _ hi, ha]
      rw [← take_snoc l hi, List.map_append]; rfl)
    (by simp only [spec_BytesToInts.s0, ilt_len, Nat.lt_irrefl, decide_false, cond_false, List.take_length]; rfl)
  unfold spec_BytesToInts.f
  rw [llen_eq, show loopN spec_BytesToInts.s0 k ((l, 0), [(l.length : Int)]) = some (b2i l) by simpa using this, ob_some]
theorem b2i_len (l : List Int) : (b2i l).length = l.length + 1 := by simp [b2i]
theorem i_secMac (hk : FU ≤ k) {key d n : Int} {l : List Int} (hl : l.length ≤ 4294967296) : impl_securedMAC.f k (key, d, n, l) = some (sealK key d n l) := by
  unfold impl_securedMAC.f
  simp only [i_b2i hk hl, ob_some]
  rw [app_ok (by simp [b2i_len]; omega), cond_true, i_khash hk (by simp [lcat, b2i_len]; omega), ob_some]; rfl
theorem s_secMac (hk : FU ≤ k) {key d n z : Int} {l : List Int} (hl : l.length ≤ 4294967296) : spec_l8Mac.f k (key, d, n, l, z) = some (sealK key d n l) := by
  unfold spec_l8Mac.f
  simp only [s_b2i hk hl, ob_some]
  rw [app_ok (by simp [b2i_len]; omega), cond_true, s_khash hk (by simp [lcat, b2i_len]; omega), ob_some]; rfl
theorem i_protect (hk : FU ≤ k) {key d n : Int} {l : List Int} (h : Ok (.sl (.int .u8)) l) : impl_Protect.f k (key, d, n, l) = some (protF key d n l) := by
  unfold impl_Protect.f
  simp only [i_derive hk, i_encrypt hk h, ob_some]
  rw [i_secMac hk (by rw [encL_len]; exact ok_len h), ob_some]; rfl
theorem s_protect (hk : FU ≤ k) {key d n : Int} {l : List Int} (h : Ok (.sl (.int .u8)) l) : spec_Protect.f k (key, d, n, l) = some (protF key d n l) := by
  unfold spec_Protect.f
  simp only [s_derive hk, s_encrypt hk h, ob_some]
  rw [s_secMac hk (by rw [encL_len]; exact ok_len h), ob_some]; rfl
theorem i_seal (hk : FU ≤ k) {key a b : Int} {p : DNumberedPacket} (h : Ok TNumberedPacket p) : impl_SealRadio.f k (key, a, b, p) = some (sealF key a b p) := by
  unfold impl_SealRadio.f impl_RadioKey.f impl_RadioKeyPath.f
  simp only [ob_some, i_pathKey hk (show ([1, 3, b] : List Int).length ≤ 4294967296 by simp)]
  rw [i_protect hk h.2, ob_some]; rfl
theorem s_seal (hk : FU ≤ k) {key a b : Int} {p : DNumberedPacket} (h : Ok TNumberedPacket p) : spec_SealRadio.f k (key, a, b, p) = some (sealF key a b p) := by
  unfold spec_SealRadio.f spec_RadioKey.f spec_RadioKeyPath.f
  simp only [ob_some, s_pathKey hk (show ([1, 3, b] : List Int).length ≤ 4294967296 by simp)]
  rw [s_protect hk h.2, ob_some]; rfl
theorem ok_sealK (key d n : Int) (l : List Int) : Ok (.int .i64) (sealK key d n l) := ok_khash _ _
theorem ok_seal {key a b : Int} {p : DNumberedPacket} (h : Ok TNumberedPacket p) (ha : Ok (.int .i64) a) (hb : Ok (.int .i64) b) : Ok TRadioPacket (sealF key a b p) := by
  have e1 : Ok (.int .i64) (1 : Int) := okn (by omega)
  have h2 : p.2.length ≤ 4294967296 := ok_len h.2
  have h1 : Ok (.int .i64) p.1 := h.1
  unfold sealF protF
  generalize derive (pathKey key [1, 3, b]) (iadd .i64 (imul .i64 2 p.1) 1) = dk
  have e2 := ok_enc dk h2
  have e3 := ok_sealK (pathKey key [1, 3, b]) 1 p.1 (encL dk p.2)
  generalize sealK (pathKey key [1, 3, b]) 1 p.1 (encL dk p.2) = sk at e3
  generalize encL dk p.2 = el at e2
  exact ⟨ha, hb, e1, h1, e2, e3⟩
theorem cnt_seal (key a b : Int) (p : DNumberedPacket) : cnt TRadioPacket (sealF key a b p) = p.2.length := by
  show 0 + (0 + (0 + (0 + (cnt (.sl (.int .u8)) (encL _ p.2) + 0)))) = _
  rw [cnt_u8, encL_len]; omega
def sealS (s : DSession) (p : DNumberedPacket) : DRadioPacket := sealF s.2.2.2.2.2.2.1 s.2.2.2.2.2.1 s.2.2.2.2.2.2.2.1 p
theorem s_sealS (hk : FU ≤ k) {s : DSession} {p : DNumberedPacket} (h : Ok TNumberedPacket p) : spec_l31Seal.f k (s, p) = some (sealS s p) := by
  unfold spec_l31Seal.f
  rw [s_seal hk h, ob_some]; rfl
def retrF (s : DSession) : List DRadioPacket := bif ieq s.2.2.1 1 then (s.2.2.2.2.2.2.2.2.2.2.2.2.1.2.take 2).map (sealS s) else []
theorem both_Retransmit (hk : FU ≤ k) {x : DSession} (h : Ok TSession x) (hn : cnt TSession x ≤ 1048576) :
    ∃ r, spec_Retransmit.f k x = some r ∧ impl_Retransmit.f k x = some r ∧ Ok (.sl TRadioPacket) r ∧ cnt (.sl TRadioPacket) r ≤ 67108864 := by
  have hW : Ok (.sl TNumberedPacket) x.2.2.2.2.2.2.2.2.2.2.2.2.1.2 := h.2.2.2.2.2.2.2.2.2.2.2.2.1.2
  have hA : Ok (.int .i64) x.2.2.2.2.2.1 := h.2.2.2.2.2.1
  have hB : Ok (.int .i64) x.2.2.2.2.2.2.2.1 := h.2.2.2.2.2.2.2.1
  have hcW : cnt (.sl TNumberedPacket) x.2.2.2.2.2.2.2.2.2.2.2.2.1.2 ≤ cnt TSession x := by simp only [cnt]; omega
  have hf : retrF x = bif ieq x.2.2.1 1 then (x.2.2.2.2.2.2.2.2.2.2.2.2.1.2.take 2).map (sealS x) else [] := rfl
  have es : spec_Retransmit.f k x = (obind (loopN (spec_Retransmit.s0 k) k (0, x, [])) fun v2 => some v2) := rfl
  generalize hw : x.2.2.2.2.2.2.2.2.2.2.2.2.1.2 = W at *
  have hl := ok_len hW
  have hmem : ∀ {i : Nat} (hi : i < W.length), Ok TNumberedPacket W[i] := fun hi => ok_get hW hi
  have hsm : ∀ p ∈ W, p.2.length ≤ 1048576 := fun p hp => by
    have e1 : cnt TNumberedPacket p ≤ (W.map (cnt TNumberedPacket)).sum := mem_cnt hp
    have e2 : cnt TNumberedPacket p = 0 + cnt (.sl (.int .u8)) p.2 := rfl
    have e3 : cnt (.sl TNumberedPacket) W = W.length + (W.map (cnt TNumberedPacket)).sum := rfl
    rw [cnt_u8] at e2
    omega
  refine ⟨retrF x, ?_, ?_, ?_, ?_⟩
  · cases hc : ieq x.2.2.1 1
    · have := loop_up (step := spec_Retransmit.s0 k) (e := ([] : List DRadioPacket)) 0 k (fun i => (0, x, [])) (by unfold FU at hk; omega) (fun i hi => absurd hi (Nat.not_lt_zero _))
        (by
          simp only [spec_Retransmit.s0, hc]
          cases (bif ilt 0 (llen x.2.2.2.2.2.2.2.2.2.2.2.2.1.2) then ilt (0 : Int) 2 else false) <;> rfl)
      rw [es, this, ob_some, hf, hc]; rfl
    · have := loop_up (step := spec_Retransmit.s0 k) (e := (W.take 2).map (sealS x)) (min 2 W.length) k (fun i => ((i : Int), x, (W.take i).map (sealS x))) (by unfold FU at hk; omega)
        (fun i hi => by
          have hi1 : i < W.length := by omega
          have ha : ∀ v : DRadioPacket, appOk ((W.take i).map (sealS x)) [v] 64 = true := fun v => app_ok (by simp; omega)
          simp only [spec_Retransmit.s0, hw, ilt_len, idx_len, decide_eq_true hi1, ilt_t (show (i : Int) < 2 by omega), hc, cond_true, lget_nat (e := TNumberedPacket) _ hi1, s_sealS hk (hmem hi1), ob_some, ha, iadd_nat (show i < 9223372036854775807 by omega)]
          rw [← take_snoc W hi1, List.map_append]; rfl)
        (by
          have e : (bif ilt ((min 2 W.length : Nat) : Int) (llen W) then ilt ((min 2 W.length : Nat) : Int) 2 else false) = false := by
            by_cases h2 : 2 ≤ W.length
            · rw [ilt_f (x := ((min 2 W.length : Nat) : Int)) (y := 2) (by omega)]; cases ilt ((min 2 W.length : Nat) : Int) (llen W) <;> rfl
            · rw [llen_eq, ilt_f (show ¬ ((min 2 W.length : Nat) : Int) < (W.length : Int) by omega)]; rfl
          simp only [spec_Retransmit.s0, hw, e, cond_false]
          congr 3
          by_cases h2 : 2 ≤ W.length
          · rw [Nat.min_eq_left h2]
          · rw [Nat.min_eq_right (by omega), List.take_length, List.take_of_length_le (by omega)])
      rw [es, show loopN (spec_Retransmit.s0 k) k (0, x, []) = some ((W.take 2).map (sealS x)) by simpa using this, ob_some, hf, hc]; rfl
  · unfold impl_Retransmit.f
    cases hc : ieq x.2.2.1 1
    · rw [ine_not, hc, hf, hc]; rfl
    · rw [ine_not, hc, dnot_t, cond_false, hf, hc, cond_true, hw]
      have hmin : impl_Min.f k (2, llen W) = some (((W.take 2).length : Nat) : Int) := by
        unfold impl_Min.f
        rw [llen_eq]
        by_cases h2 : W.length < 2
        · rw [ilt_t (show (W.length : Int) < 2 by omega), cond_true, List.length_take]; congr 1; omega
        · rw [ilt_f (show ¬ (W.length : Int) < 2 by omega), cond_false, List.length_take]; congr 1; omega
      rw [hmin, ob_some]
      have hcut : cutOk 0 (((W.take 2).length : Nat) : Int) (llen W) = true := decide_eq_true ⟨by omega, by omega, by rw [llen_eq, List.length_take]; omega⟩
      have ht : ltake W (((W.take 2).length : Nat) : Int) = W.take 2 := by
        unfold ltake
        rw [Int.toNat_natCast, List.length_take]
        by_cases h2 : 2 ≤ W.length
        · rw [Nat.min_eq_left h2]
        · rw [Nat.min_eq_right (by omega), List.take_length, List.take_of_length_le (by omega)]
      rw [hcut, cond_true, ht]
      have hlt : (W.take 2).length ≤ W.length := by rw [List.length_take]; omega
      have := loop_up (step := impl_Retransmit.s0 k) (e := (W.take 2).map (sealS x)) (W.take 2).length k (fun i => ((W.take 2, ((W.take 2).length : Int), (i : Int)), x, ((W.take 2).take i).map (sealS x))) (by unfold FU at hk; omega)
        (fun i hi => by
          have ha : ∀ v : DRadioPacket, appOk (((W.take 2).take i).map (sealS x)) [v] 64 = true := fun v => app_ok (by simp; omega)
          have hpk : Ok TNumberedPacket (W.take 2)[i] := by rw [List.getElem_take]; exact hmem (by omega)
          simp only [impl_Retransmit.s0, ilt_nat, idx_len, decide_eq_true hi, cond_true, lget_nat (e := TNumberedPacket) _ hi, i_seal hk hpk, ob_some, ha, iadd_nat (show i < 9223372036854775807 by omega)]
          rw [← take_snoc _ hi, List.map_append]; rfl)
        (by simp only [impl_Retransmit.s0, ilt_nat, Nat.lt_irrefl, decide_false, cond_false, List.take_length])
      rw [llen_eq, show loopN (impl_Retransmit.s0 k) k ((W.take 2, ((W.take 2).length : Int), 0), x, []) = some ((W.take 2).map (sealS x)) by simpa using this, ob_some]
  · rw [hf]
    cases ieq x.2.2.1 1
    · exact ok_nil _
    · refine ⟨by show ((W.take 2).map (sealS x)).length ≤ _; simp; omega, fun y hy => ?_⟩
      obtain ⟨p, hp, rfl⟩ := List.mem_map.1 hy
      exact ok_seal (hW.2 _ (List.mem_of_mem_take hp)) hA hB
  · rw [hf]
    cases ieq x.2.2.1 1
    · show 0 + 0 ≤ _; omega
    · show ((W.take 2).map (sealS x)).length + (((W.take 2).map (sealS x)).map (cnt TRadioPacket)).sum ≤ _
      have hsum : ∀ l : List DNumberedPacket, (∀ p ∈ l, p.2.length ≤ 1048576) → ((l.map (sealS x)).map (cnt TRadioPacket)).sum ≤ l.length * 1048576 := by
        intro l
        induction l with
        | nil => intro _; simp
        | cons p l ih =>
          intro hp
          have h1 := ih fun q hq => hp q (List.mem_cons_of_mem _ hq)
          have h2 := hp p List.mem_cons_self
          rw [List.map_cons, List.map_cons, List.sum_cons, List.length_cons, show cnt TRadioPacket (sealS x p) = p.2.length from cnt_seal _ _ _ _]
          omega
      have h1 := hsum (W.take 2) fun p hp => hsm p (List.mem_of_mem_take hp)
      rw [List.length_map]
      have h2 : (W.take 2).length ≤ 2 := by rw [List.length_take]; omega
      omega
end
end Go.Proofs.XF
/- Plain laws: which sessions are valid. -/
set_option linter.unusedVariables false
set_option linter.unusedSimpArgs false
set_option linter.unusedSectionVars false
set_option maxRecDepth 4000
namespace Go.Proofs.XF
open Go Go.Proofs.XTv
def recB (x : DUSIM) : Bool := inB x.1.1 0 3 && inB x.1.2 0 99 && inB x.2.1 1 2147483646 && inB x.2.2 0 999999
def pagB (x : DQuota) : Bool := inB x.1 0 2 && inB x.2.1 0 4 && inB x.2.2 0 3
def quoB (q : DQuota) : Bool := ile 0 q.1 && inB q.2.1 0 100000 && inB q.2.2 0 q.2.1
def subEl (l : List Int) (i : Nat) : Bool := inB (lget (.int .i64) l (i : Int)) 0 3
def ascEl (l : List Int) (i : Nat) : Bool := dnot (ile (lget (.int .i64) l ((i + 1 : Nat) : Int)) (lget (.int .i64) l (i : Int)))
def subB (x : DSubscription) : Bool :=
  decide ((inB x.1 1 1000 && inB x.2.1 1 4 && inB x.2.2.1 1 100000) = true ∧ (∀ i, i < x.2.2.2.length → subEl x.2.2.2 i = true) ∧ ∀ i, i < x.2.2.2.length - 1 → ascEl x.2.2.2 i = true)
def sndEl (x : DSendWindow) (i : Nat) : Bool := dnot (bif ine (lget TNumberedPacket x.2 (i : Int)).1 (iadd .i64 (isub .i64 x.1 (llen x.2)) (i : Int)) then true else ilt 60 (llen (lget TNumberedPacket x.2 (i : Int)).2))
def sndB (x : DSendWindow) : Bool :=
  decide (inB x.1 1 100000 = true ∧ ile (llen x.2) 8 = true ∧ ile 1 (isub .i64 x.1 (llen x.2)) = true ∧ ∀ i, i < x.2.length → sndEl x i = true)
def fitAll (l : List (List Int)) : Bool := decide (∀ j, j < l.length → fitB l j = true)
def pktEl (w : List DNumberedPacket) (l : List (List Int)) (i : Nat) : Bool := seq' (sofbytes (lget TNumberedPacket w (i : Int)).2) (sofbytes (lget (.sl (.int .u8)) l (isub .i64 (lget TNumberedPacket w (i : Int)).1 1)))
def pktB (w : List DNumberedPacket) (l : List (List Int)) : Bool := decide (∀ i, i < w.length → pktEl w l i = true)
theorem idx_pkt {s : DSendWindow} {l : List (List Int)} (h1 : sndB s = true) (hw : s.2.length ≤ 4294967296) (hl : l.length ≤ 4294967296) (h2 : ilt (iadd .i64 (llen l) 1) s.1 = false) {i : Nat} (hi : i < s.2.length) :
    idxOk (isub .i64 (lget TNumberedPacket s.2 (i : Int)).1 1) (llen l) = true := by
  obtain ⟨a, b, c, d⟩ := of_decide_eq_true h1
  have d := d i hi
  have a1 : 1 ≤ s.1 ∧ s.1 ≤ 100000 := by
    unfold inB at a
    cases h : ile 1 s.1
    · rw [h] at a; cases a
    · rw [h] at a; exact ⟨of_decide_eq_true h, of_decide_eq_true a⟩
  have b1 : (s.2.length : Int) ≤ 8 := of_decide_eq_true b
  rw [llen_eq, isub_eq (by omega) (by omega)] at c
  have c1 : 1 ≤ s.1 - (s.2.length : Int) := of_decide_eq_true c
  rw [llen_eq, iadd_nat (by omega)] at h2
  have h3 : ¬ ((l.length + 1 : Nat) : Int) < s.1 := of_decide_eq_false h2
  have e : (lget TNumberedPacket s.2 (i : Int)).1 = s.1 - (s.2.length : Int) + i := by
    unfold sndEl at d
    cases hh : ine (lget TNumberedPacket s.2 (i : Int)).1 (iadd .i64 (isub .i64 s.1 (llen s.2)) (i : Int))
    · have : (lget TNumberedPacket s.2 (i : Int)).1 = iadd .i64 (isub .i64 s.1 (llen s.2)) (i : Int) := by
        unfold ine at hh
        simpa using hh
      rw [this, llen_eq, isub_eq (by omega) (by omega), iadd_eq (by omega) (by omega)]
    · rw [hh] at d; cases d
  rw [e, isub_eq (by omega) (by omega)]
  exact decide_eq_true ⟨by omega, by rw [llen_eq]; omega⟩
section
variable {k : Nat} (hk : FU ≤ k)
theorem i_rec (x : DUSIM) : impl_IsValidSubscriberRecord.f k x = some (recB x) := by
  unfold impl_IsValidSubscriberRecord.f impl_IsValidKey.f impl_IsValidSubscriberID.f recB
  simp only [i_in, ob_some, ob_pick]
  generalize inB x.1.1 0 3 = a
  generalize inB x.1.2 0 99 = b
  generalize inB x.2.1 1 2147483646 = c
  generalize inB x.2.2 0 999999 = d
  revert a b c d
  decide
theorem s_rec (x : DUSIM) : spec_IsValidSubscriberRecord.f k x = some (recB x) := by
  unfold spec_IsValidSubscriberRecord.f spec_IsValidKey.f spec_IsValidSubscriberID.f recB
  simp only [s_in, ob_some, ob_pick]
  generalize inB x.1.1 0 3 = a
  generalize inB x.1.2 0 99 = b
  generalize inB x.2.1 1 2147483646 = c
  generalize inB x.2.2 0 999999 = d
  revert a b c d
  decide
theorem i_pag (x : DQuota) : impl_IsValidPaging.f k x = some (pagB x) := by
  unfold impl_IsValidPaging.f pagB
  simp only [i_in, ob_some, ob_pick]
  generalize inB x.1 0 2 = a
  generalize inB x.2.1 0 4 = b
  generalize inB x.2.2 0 3 = c
  revert a b c
  decide
theorem s_pag (x : DQuota) : spec_IsValidPaging.f k x = some (pagB x) := by
  unfold spec_IsValidPaging.f pagB
  simp only [s_in, ob_some, ob_pick]
  generalize inB x.1 0 2 = a
  generalize inB x.2.1 0 4 = b
  generalize inB x.2.2 0 3 = c
  revert a b c
  decide
theorem i_quo (q : DQuota) : impl_IsValidQuota.f k q = some (quoB q) := by
  unfold impl_IsValidQuota.f quoB inB
  simp only [bif_and, ile]
  congr 1
  rw [Bool.eq_iff_iff]
  simp only [Bool.and_eq_true, decide_eq_true_eq]
  omega
theorem i_rem (q : DQuota) : impl_RemainingQuota.f k q = some (remF q) := by
  unfold impl_RemainingQuota.f
  rw [i_quo, ob_some]
  unfold remF quoB
  cases (ile 0 q.1 && inB q.2.1 0 100000 && inB q.2.2 0 q.2.1) <;> rfl
theorem i_asc (hk : FU ≤ k) {l : List Int} (hl : l.length ≤ 4294967296) : impl_isAscending.f k l = some (decide (∀ i, i < l.length - 1 → ascEl l i = true)) := by
  have := all_loop (step := impl_isAscending.s0) (ascEl l) (fin := .inl ()) (bad := .inr false) (fun i => (l, ((i + 1 : Nat) : Int))) (l.length - 1)
    (fun i hi => by
      have hi1 : i < l.length := by omega
      have hi2 : i + 1 < l.length := by omega
      have e : isub .i64 ((i + 1 : Nat) : Int) 1 = (i : Int) := by rw [isub_eq (by omega) (by omega)]; omega
      simp only [impl_isAscending.s0, ilt_len, e, idx_len, decide_eq_true hi1, decide_eq_true hi2, cond_true, iadd_nat (show i + 1 < 9223372036854775807 by omega), ascEl]
      cases ile (lget (.int .i64) l ((i + 1 : Nat) : Int)) (lget (.int .i64) l (i : Int)) <;> rfl)
    (by
      have hn : ¬ (l.length - 1 + 1) < l.length := by omega
      simp only [impl_isAscending.s0, ilt_len, decide_eq_false hn, cond_false]) (N := k) (by unfold FU at hk; omega)
  unfold impl_isAscending.f
  rw [show loopN impl_isAscending.s0 k (l, 1) = _ from this, ob_some]
  by_cases h : ∀ i, i < l.length - 1 → ascEl l i = true
  · rw [if_pos h, decide_eq_true h]; rfl
  · rw [if_neg h, decide_eq_false h]; rfl
theorem i_sub (hk : FU ≤ k) {x : DSubscription} (h : Ok TSubscription x) : impl_IsValidSubscription.f k x = some (subB x) := by
  have hl := ok_len h.2.2.2
  have := all_loop (step := impl_IsValidSubscription.s0 k) (subEl x.2.2.2) (fin := .inl x) (bad := .inr false) (fun i => ((x.2.2.2, (x.2.2.2.length : Int), (i : Int)), x)) x.2.2.2.length
    (fun i hi => by
      simp only [impl_IsValidSubscription.s0, ilt_nat, idx_len, decide_eq_true hi, cond_true, i_in, ob_some, iadd_nat (show i < 9223372036854775807 by omega), subEl]
      cases inB (lget (.int .i64) x.2.2.2 (i : Int)) 0 3 <;> rfl)
    (by simp only [impl_IsValidSubscription.s0, ilt_nat, Nat.lt_irrefl, decide_false, cond_false]) (N := k) (by unfold FU at hk; omega)
  unfold impl_IsValidSubscription.f
  rw [llen_eq, show loopN (impl_IsValidSubscription.s0 k) k ((x.2.2.2, (x.2.2.2.length : Int), 0), x) = _ from this]
  simp only [i_in, ob_some, ob_pick]
  unfold subB
  cases inB x.1 1 1000
  · rfl
  · cases inB x.2.1 1 4
    · rfl
    · cases inB x.2.2.1 1 100000
      · rfl
      · simp only [dnot_t, dnot_f, cond_true, cond_false]
        by_cases h1 : ∀ i, i < x.2.2.2.length → subEl x.2.2.2 i = true
        · rw [if_pos h1, sel_l, i_asc hk hl, ob_some]
          by_cases h2 : ∀ i, i < x.2.2.2.length - 1 → ascEl x.2.2.2 i = true
          · rw [decide_eq_true h2, decide_eq_true ⟨rfl, h1, h2⟩]
          · rw [decide_eq_false h2, decide_eq_false (p := _ ∧ _) (fun hh => h2 hh.2.2)]
        · rw [if_neg h1, sel_r, decide_eq_false (p := _ ∧ _) (fun hh => h1 hh.2.1)]
theorem s_sub (hk : FU ≤ k) {x : DSubscription} (h : Ok TSubscription x) : spec_IsValidSubscription.f k x = some (subB x) := by
  have hl := ok_len h.2.2.2
  have := all_loop (step := spec_IsValidSubscription.s0 k) (fun i => subEl x.2.2.2 i && dnot (ilt 0 (i : Int) && ile (lget (.int .i64) x.2.2.2 (i : Int)) (lget (.int .i64) x.2.2.2 (isub .i64 (i : Int) 1)))) (fin := .inl x) (bad := .inr false) (fun i => ((i : Int), x)) x.2.2.2.length
    (fun i hi => by
      have hE := idx_pred hi hl
      simp only [spec_IsValidSubscription.s0, ilt_len, idx_len, decide_eq_true hi, cond_true, s_in, ob_some, iadd_nat (show i < 9223372036854775807 by omega), subEl]
      generalize inB (lget (.int .i64) x.2.2.2 (i : Int)) 0 3 = a
      generalize ile (lget (.int .i64) x.2.2.2 (i : Int)) (lget (.int .i64) x.2.2.2 (isub .i64 (i : Int) 1)) = d
      generalize idxOk (isub .i64 (i : Int) 1) (llen x.2.2.2) = e at hE ⊢
      generalize ilt 0 (i : Int) = c at hE ⊢
      cases a <;> cases c <;> cases d <;> cases e <;> simp_all [dnot, dand])
    (by simp only [spec_IsValidSubscription.s0, ilt_len, Nat.lt_irrefl, decide_false, cond_false]) (N := k) (by unfold FU at hk; omega)
  unfold spec_IsValidSubscription.f
  rw [show loopN (spec_IsValidSubscription.s0 k) k (0, x) = _ from this, ob_some]
  have key : (∀ i, i < x.2.2.2.length → (subEl x.2.2.2 i && dnot (ilt 0 (i : Int) && ile (lget (.int .i64) x.2.2.2 (i : Int)) (lget (.int .i64) x.2.2.2 (isub .i64 (i : Int) 1)))) = true) ↔ ((∀ i, i < x.2.2.2.length → subEl x.2.2.2 i = true) ∧ ∀ i, i < x.2.2.2.length - 1 → ascEl x.2.2.2 i = true) := by
    constructor
    · intro hh
      refine ⟨fun i hi => (Bool.and_eq_true _ _ ▸ hh i hi).1, fun i hi => ?_⟩
      have h1 := (Bool.and_eq_true _ _ ▸ hh (i + 1) (by omega)).2
      rw [ilt_t (show (0 : Int) < ((i + 1 : Nat) : Int) by omega), Bool.true_and, isub_eq (by omega) (by omega)] at h1
      unfold ascEl
      rw [show ((i + 1 : Nat) : Int) - 1 = (i : Int) by omega] at h1
      exact h1
    · rintro ⟨h1, h2⟩ i hi
      rw [h1 i hi, Bool.true_and]
      cases i with
      | zero => rfl
      | succ i =>
        have h3 := h2 i (by omega)
        unfold ascEl at h3
        rw [ilt_t (show (0 : Int) < ((i + 1 : Nat) : Int) by omega), Bool.true_and, isub_eq (by omega) (by omega), show ((i + 1 : Nat) : Int) - 1 = (i : Int) by omega]
        exact h3
  unfold subB
  by_cases hq : ∀ i, i < x.2.2.2.length → (subEl x.2.2.2 i && dnot (ilt 0 (i : Int) && ile (lget (.int .i64) x.2.2.2 (i : Int)) (lget (.int .i64) x.2.2.2 (isub .i64 (i : Int) 1)))) = true
  · rw [if_pos hq, sel_l]
    obtain ⟨h1, h2⟩ := key.1 hq
    simp only [s_in, ob_some, ob_pick]
    cases inB x.1 1 1000
    · rfl
    · cases inB x.2.1 1 4
      · rfl
      · cases inB x.2.2.1 1 100000
        · rfl
        · rw [decide_eq_true ⟨rfl, h1, h2⟩]; rfl
  · rw [if_neg hq, sel_r, decide_eq_false (p := _ ∧ _) (fun hh => hq (key.2 hh.2))]
theorem i_snd (hk : FU ≤ k) {x : DSendWindow} (h : Ok TSendWindow x) : impl_IsValidSender.f k x = some (sndB x) := by
  have hl := ok_len h.2
  have := all_loop (step := impl_IsValidSender.s0) (sndEl x) (fin := .inl ()) (bad := .inr false) (fun i => (isub .i64 x.1 (llen x.2), x.2, (x.2.length : Int), (i : Int))) x.2.length
    (fun i hi => by
      simp only [impl_IsValidSender.s0, ilt_nat, idx_len, decide_eq_true hi, cond_true, iadd_nat (show i < 9223372036854775807 by omega), sndEl]
      generalize (bif ine (lget TNumberedPacket x.2 (i : Int)).1 (iadd .i64 (isub .i64 x.1 (llen x.2)) (i : Int)) then true else ilt 60 (llen (lget TNumberedPacket x.2 (i : Int)).2)) = b
      cases b <;> rfl)
    (by simp only [impl_IsValidSender.s0, ilt_nat, Nat.lt_irrefl, decide_false, cond_false]) (N := k) (by unfold FU at hk; omega)
  have hloop : loopN impl_IsValidSender.s0 k (isub .i64 x.1 (llen x.2), x.2, llen x.2, 0) = _ := this
  unfold impl_IsValidSender.f
  rw [hloop]
  simp only [i_in, ob_some]
  unfold sndB
  have e8 := not_ilt_ile 8 (llen x.2)
  have e1 := not_ilt_ile (isub .i64 x.1 (llen x.2)) 1
  rw [← e8, ← e1]
  cases inB x.1 1 100000
  · rfl
  · cases ilt 8 (llen x.2)
    · cases ilt (isub .i64 x.1 (llen x.2)) 1
      · simp only [dnot_t, dnot_f, cond_true, cond_false]
        by_cases h1 : ∀ i, i < x.2.length → sndEl x i = true
        · rw [if_pos h1, decide_eq_true ⟨trivial, trivial, trivial, h1⟩]; rfl
        · rw [if_neg h1, decide_eq_false (p := _ ∧ _) (fun hh => h1 hh.2.2.2)]; rfl
      · rfl
    · rfl
theorem s_snd (hk : FU ≤ k) {x : DSendWindow} (h : Ok TSendWindow x) : spec_IsValidSender.f k x = some (sndB x) := by
  have hl := ok_len h.2
  have := all_loop (step := spec_IsValidSender.s0) (sndEl x) (fin := .inl x) (bad := .inr false) (fun i => ((i : Int), x)) x.2.length
    (fun i hi => by
      simp only [spec_IsValidSender.s0, ilt_len, idx_len, decide_eq_true hi, cond_true, iadd_nat (show i < 9223372036854775807 by omega), sndEl]
      generalize (bif ine (lget TNumberedPacket x.2 (i : Int)).1 (iadd .i64 (isub .i64 x.1 (llen x.2)) (i : Int)) then true else ilt 60 (llen (lget TNumberedPacket x.2 (i : Int)).2)) = b
      cases b <;> rfl)
    (by simp only [spec_IsValidSender.s0, ilt_len, Nat.lt_irrefl, decide_false, cond_false]) (N := k) (by unfold FU at hk; omega)
  unfold spec_IsValidSender.f
  rw [show loopN spec_IsValidSender.s0 k (0, x) = _ from this, ob_some]
  unfold sndB
  by_cases h1 : ∀ i, i < x.2.length → sndEl x i = true
  · rw [if_pos h1, sel_l]
    simp only [s_in, ob_some]
    cases inB x.1 1 100000
    · rfl
    · cases ile (llen x.2) 8
      · rfl
      · cases ile 1 (isub .i64 x.1 (llen x.2))
        · rfl
        · rw [decide_eq_true ⟨rfl, rfl, rfl, h1⟩]; rfl
  · rw [if_neg h1, sel_r, decide_eq_false (p := _ ∧ _) (fun hh => h1 hh.2.2.2)]
def strB (x : DSession) : Bool :=
  fitAll x.2.2.2.2.2.2.2.2.2.2.2.1 && (dnot (ilt 24 (llen x.2.2.2.2.2.2.2.2.2.2.2.1)) && (sndB x.2.2.2.2.2.2.2.2.2.2.2.2.1 && (dnot (ilt (iadd .i64 (llen x.2.2.2.2.2.2.2.2.2.2.2.1) 1) x.2.2.2.2.2.2.2.2.2.2.2.2.1.1) && (pktB x.2.2.2.2.2.2.2.2.2.2.2.2.1.2 x.2.2.2.2.2.2.2.2.2.2.2.1 && ile (bytesFrom x.2.2.2.2.2.2.2.2.2.2.2.2.1.2 0) (remF x.2.2.2.2.2.2.2.2.2.2.2.2.2.2)))))
theorem s_stream (hk : FU ≤ k) {x : DSession} (h : Ok TSession x) : spec_l30Stream.f k x = some (strB x) := by
  have hP : Ok (.sl (.sl (.int .u8))) x.2.2.2.2.2.2.2.2.2.2.2.1 := h.2.2.2.2.2.2.2.2.2.2.2.1
  have hS : Ok TSendWindow x.2.2.2.2.2.2.2.2.2.2.2.2.1 := h.2.2.2.2.2.2.2.2.2.2.2.2.1
  have hl := ok_len hP
  have hw := ok_len hS.2
  have l1 := all_loop (step := spec_l30Stream.s0) (fitB x.2.2.2.2.2.2.2.2.2.2.2.1) (fin := .inl x) (bad := .inr false) (fun i => ((i : Int), x)) x.2.2.2.2.2.2.2.2.2.2.2.1.length
    (fun i hi => by
      simp only [spec_l30Stream.s0, ilt_len, idx_len, decide_eq_true hi, cond_true, iadd_nat (show i < 9223372036854775807 by omega), fitB]
      cases ilt 60 (llen (lget (.sl (.int .u8)) x.2.2.2.2.2.2.2.2.2.2.2.1 (i : Int))) <;> rfl)
    (by simp only [spec_l30Stream.s0, ilt_len, Nat.lt_irrefl, decide_false, cond_false]) (N := k) (by unfold FU at hk; omega)
  have l2 : sndB x.2.2.2.2.2.2.2.2.2.2.2.2.1 = true → ilt (iadd .i64 (llen x.2.2.2.2.2.2.2.2.2.2.2.1) 1) x.2.2.2.2.2.2.2.2.2.2.2.2.1.1 = false → loopN (spec_l30Stream.s1 k) k (0, x) = some (if ∀ i, i < x.2.2.2.2.2.2.2.2.2.2.2.2.1.2.length → pktEl x.2.2.2.2.2.2.2.2.2.2.2.2.1.2 x.2.2.2.2.2.2.2.2.2.2.2.1 i = true then .inl x else .inr false) := fun c1 c2 =>
    all_loop (step := spec_l30Stream.s1 k) (pktEl x.2.2.2.2.2.2.2.2.2.2.2.2.1.2 x.2.2.2.2.2.2.2.2.2.2.2.1) (fin := .inl x) (bad := .inr false) (fun i => ((i : Int), x)) x.2.2.2.2.2.2.2.2.2.2.2.2.1.2.length
      (fun i hi => by
        have hix := idx_pkt c1 hw hl c2 hi
        simp only [spec_l30Stream.s1, spec_EqualBytes.f, ilt_len, idx_len, decide_eq_true hi, hix, cond_true, ob_some, iadd_nat (show i < 9223372036854775807 by omega), pktEl]
        generalize seq' _ _ = b
        cases b <;> rfl)
      (by simp only [spec_l30Stream.s1, ilt_len, Nat.lt_irrefl, decide_false, cond_false]) (N := k) (by unfold FU at hk; omega)
  unfold spec_l30Stream.f
  rw [show loopN spec_l30Stream.s0 k (0, x) = _ from l1, ob_some]
  unfold strB fitAll
  by_cases h1 : ∀ j, j < x.2.2.2.2.2.2.2.2.2.2.2.1.length → fitB x.2.2.2.2.2.2.2.2.2.2.2.1 j = true
  · rw [if_pos h1, sel_l, decide_eq_true h1, s_snd hk hS]
    simp only [ob_pick]
    cases c0 : ilt 24 (llen x.2.2.2.2.2.2.2.2.2.2.2.1)
    · cases c1 : sndB x.2.2.2.2.2.2.2.2.2.2.2.2.1
      · rfl
      · cases c2 : ilt (iadd .i64 (llen x.2.2.2.2.2.2.2.2.2.2.2.1) 1) x.2.2.2.2.2.2.2.2.2.2.2.2.1.1
        · simp only [dnot_t, dnot_f, cond_true, cond_false, Bool.true_and, Bool.false_and]
          rw [l2 c1 c2, ob_some]
          unfold pktB
          by_cases h3 : ∀ i, i < x.2.2.2.2.2.2.2.2.2.2.2.2.1.2.length → pktEl x.2.2.2.2.2.2.2.2.2.2.2.2.1.2 x.2.2.2.2.2.2.2.2.2.2.2.1 i = true
          · rw [if_pos h3, sel_l, decide_eq_true h3, s_bytes hk hw, ob_some, s_remaining, ob_some]; rfl
          · rw [if_neg h3, sel_r, decide_eq_false h3]; rfl
        · rfl
    · rfl
  · rw [if_neg h1, sel_r, decide_eq_false h1]; rfl
theorem both_IsValidSession (hk : FU ≤ k) {x : DSession} (h : Ok TSession x) (hn : cnt TSession x ≤ 1048576) : ∃ r, spec_IsValidSession.f k x = some r ∧ impl_IsValidSession.f k x = some r := by
  have hP : Ok (.sl (.sl (.int .u8))) x.2.2.2.2.2.2.2.2.2.2.2.1 := h.2.2.2.2.2.2.2.2.2.2.2.1
  have hS : Ok TSendWindow x.2.2.2.2.2.2.2.2.2.2.2.2.1 := h.2.2.2.2.2.2.2.2.2.2.2.2.1
  have hU : Ok TSubscription x.2.1 := h.2.1
  have hl := ok_len hP
  have hw := ok_len hS.2
  have hst := s_stream hk h
  have hss := s_sub hk hU
  have his := i_sub hk hU
  have hin := i_snd hk hS
  have hfp := i_fitPayload hk hl
  have e01 : (bif ine x.2.2.1 0 then ine x.2.2.1 1 else false) = dnot (inB x.2.2.1 0 1) := by
    unfold inB
    by_cases h0 : x.2.2.1 = 0
    · rw [h0]; rfl
    · by_cases h1 : x.2.2.1 = 1
      · rw [h1]; rfl
      · rw [ine_not, ine_not, ieq_f h0, ieq_f h1]
        by_cases h2 : 0 ≤ x.2.2.1
        · rw [ile_t h2, ile_f (by omega)]; rfl
        · rw [ile_f h2]; rfl
  have l2 : sndB x.2.2.2.2.2.2.2.2.2.2.2.2.1 = true → ilt (iadd .i64 (llen x.2.2.2.2.2.2.2.2.2.2.2.1) 1) x.2.2.2.2.2.2.2.2.2.2.2.2.1.1 = false → loopN (impl_IsValidSession.s0 k) k ((x.2.2.2.2.2.2.2.2.2.2.2.2.1.2, llen x.2.2.2.2.2.2.2.2.2.2.2.2.1.2, 0), x) = some (if ∀ i, i < x.2.2.2.2.2.2.2.2.2.2.2.2.1.2.length → pktEl x.2.2.2.2.2.2.2.2.2.2.2.2.1.2 x.2.2.2.2.2.2.2.2.2.2.2.1 i = true then .inl x else .inr false) := fun c1 c2 =>
    all_loop (step := impl_IsValidSession.s0 k) (pktEl x.2.2.2.2.2.2.2.2.2.2.2.2.1.2 x.2.2.2.2.2.2.2.2.2.2.2.1) (fin := .inl x) (bad := .inr false) (fun i => ((x.2.2.2.2.2.2.2.2.2.2.2.2.1.2, (x.2.2.2.2.2.2.2.2.2.2.2.2.1.2.length : Int), (i : Int)), x)) x.2.2.2.2.2.2.2.2.2.2.2.2.1.2.length
      (fun i hi => by
        have hix := idx_pkt c1 hw hl c2 hi
        simp only [impl_IsValidSession.s0, impl_EqualBytes.f, bytes_Equal.f, ilt_nat, idx_len, decide_eq_true hi, hix, cond_true, ob_some, iadd_nat (show i < 9223372036854775807 by omega), pktEl]
        generalize seq' _ _ = b
        cases b <;> rfl)
      (by simp only [impl_IsValidSession.s0, ilt_nat, Nat.lt_irrefl, decide_false, cond_false]) (N := k) (by unfold FU at hk; omega)
  have l3 : (obind (impl_OutstandingBytes.f k x) fun v19 => obind (impl_RemainingQuota.f k x.2.2.2.2.2.2.2.2.2.2.2.2.2.2) fun v20 => some (ile v19 v20)) = some (ile (bytesFrom x.2.2.2.2.2.2.2.2.2.2.2.2.1.2 0) (remF x.2.2.2.2.2.2.2.2.2.2.2.2.2.2)) := by
    unfold impl_OutstandingBytes.f
    rw [i_numberedBytes hk hw, ob_some, i_rem, ob_some, ob_some]
  refine ⟨recB x.1 && (subB x.2.1 && (pagB x.2.2.2.2.2.2.2.2.2.2.1 && (quoB x.2.2.2.2.2.2.2.2.2.2.2.2.2.2 && (inB x.2.2.1 0 1 && (dnot (ieq x.2.2.1 1 && dnot (inB x.2.2.2.2.2.2.1 1 2147483646)) && (dnot (ilt 0 x.2.2.2.2.1 && dnot (inB x.2.2.2.1.2.2.2.2 1 2147483646)) && (inB x.2.2.2.2.1 0 999999 && (inB x.2.2.2.2.2.1 0 999999 && (inB x.2.2.2.2.2.2.2.1 0 999999 && (inB x.2.2.2.2.2.2.1 0 2147483646 && (inB x.2.2.2.2.2.2.2.2.1 0 5 && (inB x.2.2.2.2.2.2.2.2.2.1 0 5 && (inB x.2.2.2.2.2.2.2.2.2.2.2.2.2.1 0 3 && strB x))))))))))))), ?_, ?_⟩
  · unfold spec_IsValidSession.f spec_IsValidKey.f
    simp only [s_in, s_rec, hss, s_pag, s_quotaOk, hst, ob_some, ob_pick]
    rw [show (ile 0 x.2.2.2.2.2.2.2.2.2.2.2.2.2.2.1 && inB x.2.2.2.2.2.2.2.2.2.2.2.2.2.2.2.1 0 100000 && inB x.2.2.2.2.2.2.2.2.2.2.2.2.2.2.2.2 0 x.2.2.2.2.2.2.2.2.2.2.2.2.2.2.2.1) = quoB x.2.2.2.2.2.2.2.2.2.2.2.2.2.2 from rfl]
    generalize strB x = b0
    generalize recB x.1 = b1
    generalize subB x.2.1 = b2
    generalize pagB x.2.2.2.2.2.2.2.2.2.2.1 = b3
    generalize quoB x.2.2.2.2.2.2.2.2.2.2.2.2.2.2 = b4
    generalize inB x.2.2.1 0 1 = b5
    generalize ieq x.2.2.1 1 = b6
    generalize inB x.2.2.2.2.2.2.1 1 2147483646 = b7
    generalize ilt 0 x.2.2.2.2.1 = b8
    generalize inB x.2.2.2.1.2.2.2.2 1 2147483646 = b9
    generalize inB x.2.2.2.2.1 0 999999 = c1
    generalize inB x.2.2.2.2.2.1 0 999999 = c2
    generalize inB x.2.2.2.2.2.2.2.1 0 999999 = c3
    generalize inB x.2.2.2.2.2.2.1 0 2147483646 = c4
    generalize inB x.2.2.2.2.2.2.2.2.1 0 5 = c5
    generalize inB x.2.2.2.2.2.2.2.2.2.1 0 5 = c6
    generalize inB x.2.2.2.2.2.2.2.2.2.2.2.2.2.1 0 3 = c7
    clear hst hss his hin hfp e01 l2 l3
    cases b6 <;> cases b7 <;> cases b8 <;> cases b9 <;> simp only [dnot, dand, Bool.not_true, Bool.not_false, cond_true, cond_false, Bool.and_true, Bool.true_and, Bool.and_false, Bool.false_and] <;> cases b5 <;> cases b1 <;> (try rfl) <;> cases b2 <;> (try rfl) <;> cases b3 <;> (try rfl) <;> cases b4 <;> (try rfl) <;> cases b0 <;> (try rfl) <;> cases c1 <;> (try rfl) <;> cases c2 <;> (try rfl) <;> cases c3 <;> (try rfl) <;> cases c4 <;> (try rfl) <;> cases c5 <;> (try rfl) <;> cases c6 <;> (try rfl) <;> cases c7 <;> rfl
  · unfold impl_IsValidSession.f impl_IsValidKey.f
    simp only [i_in, i_rec, his, i_pag, hin, i_quo, hfp, e01, ob_some, ob_pick]
    rw [show decide (∀ j, j < x.2.2.2.2.2.2.2.2.2.2.2.1.length → fitB x.2.2.2.2.2.2.2.2.2.2.2.1 j = true) = fitAll x.2.2.2.2.2.2.2.2.2.2.2.1 from rfl]
    unfold strB
    generalize recB x.1 = b1
    generalize subB x.2.1 = b2
    generalize pagB x.2.2.2.2.2.2.2.2.2.2.1 = b3
    generalize quoB x.2.2.2.2.2.2.2.2.2.2.2.2.2.2 = b4
    generalize inB x.2.2.1 0 1 = b5
    generalize ieq x.2.2.1 1 = b6
    generalize inB x.2.2.2.2.2.2.1 1 2147483646 = b7
    generalize ilt 0 x.2.2.2.2.1 = b8
    generalize inB x.2.2.2.1.2.2.2.2 1 2147483646 = b9
    generalize inB x.2.2.2.2.1 0 999999 = c1
    generalize inB x.2.2.2.2.2.1 0 999999 = c2
    generalize inB x.2.2.2.2.2.2.2.1 0 999999 = c3
    generalize inB x.2.2.2.2.2.2.1 0 2147483646 = c4
    generalize inB x.2.2.2.2.2.2.2.2.1 0 5 = c5
    generalize inB x.2.2.2.2.2.2.2.2.2.1 0 5 = c6
    generalize inB x.2.2.2.2.2.2.2.2.2.2.2.2.2.1 0 3 = c7
    generalize fitAll x.2.2.2.2.2.2.2.2.2.2.2.1 = d1
    generalize ilt 24 (llen x.2.2.2.2.2.2.2.2.2.2.2.1) = d2
    generalize hd3 : sndB x.2.2.2.2.2.2.2.2.2.2.2.2.1 = d3 at l2 ⊢
    generalize hd4 : ilt (iadd .i64 (llen x.2.2.2.2.2.2.2.2.2.2.2.1) 1) x.2.2.2.2.2.2.2.2.2.2.2.2.1.1 = d4 at l2 ⊢
    have l4 : d3 = true → d4 = false → (obind (loopN (impl_IsValidSession.s0 k) k ((x.2.2.2.2.2.2.2.2.2.2.2.2.1.2, llen x.2.2.2.2.2.2.2.2.2.2.2.2.1.2, 0), x)) fun v17 =>
        selim (fun v18 => obind (impl_OutstandingBytes.f k v18) fun v19 => obind (impl_RemainingQuota.f k v18.2.2.2.2.2.2.2.2.2.2.2.2.2.2) fun v20 => some (ile v19 v20)) (fun v21 => some v21) v17) = some (pktB x.2.2.2.2.2.2.2.2.2.2.2.2.1.2 x.2.2.2.2.2.2.2.2.2.2.2.1 && ile (bytesFrom x.2.2.2.2.2.2.2.2.2.2.2.2.1.2 0) (remF x.2.2.2.2.2.2.2.2.2.2.2.2.2.2)) := by
      intro c1 c2
      rw [l2 c1 c2, ob_some]
      unfold pktB
      by_cases h3 : ∀ i, i < x.2.2.2.2.2.2.2.2.2.2.2.2.1.2.length → pktEl x.2.2.2.2.2.2.2.2.2.2.2.2.1.2 x.2.2.2.2.2.2.2.2.2.2.2.1 i = true
      · rw [if_pos h3, sel_l, decide_eq_true h3, l3]; rfl
      · rw [if_neg h3, sel_r, decide_eq_false h3]; rfl
    generalize (pktB x.2.2.2.2.2.2.2.2.2.2.2.2.1.2 x.2.2.2.2.2.2.2.2.2.2.2.1 && ile (bytesFrom x.2.2.2.2.2.2.2.2.2.2.2.2.1.2 0) (remF x.2.2.2.2.2.2.2.2.2.2.2.2.2.2)) = d5 at l4 ⊢
    generalize (obind (loopN (impl_IsValidSession.s0 k) k ((x.2.2.2.2.2.2.2.2.2.2.2.2.1.2, llen x.2.2.2.2.2.2.2.2.2.2.2.2.1.2, 0), x)) fun v17 =>
        selim (fun v18 => obind (impl_OutstandingBytes.f k v18) fun v19 => obind (impl_RemainingQuota.f k v18.2.2.2.2.2.2.2.2.2.2.2.2.2.2) fun v20 => some (ile v19 v20)) (fun v21 => some v21) v17) = lp at l4 ⊢
    clear hst hss his hin hfp e01 l2 l3 hd3 hd4
    cases b1 <;> (try rfl) <;> cases b2 <;> (try rfl) <;> cases b3 <;> (try rfl) <;> cases d3 <;> (try (clear l4; simp [dnot, dand]; done)) <;> cases b4 <;> (try rfl) <;> cases b5 <;> (try rfl) <;> cases b6 <;> cases b7 <;> (try rfl) <;> cases b8 <;> cases b9 <;> (try rfl) <;> cases c1 <;> (try rfl) <;> cases c2 <;> (try rfl) <;> cases c3 <;> (try rfl) <;> cases c4 <;> (try rfl) <;> cases c5 <;> (try rfl) <;> cases c6 <;> (try rfl) <;> cases c7 <;> (try rfl) <;> cases d1 <;> cases d2 <;> (try rfl) <;> cases d4 <;> (try rfl) <;> exact l4 rfl rfl
end
end Go.Proofs.XF
/- The exact laws. -/
set_option linter.unusedVariables false
set_option linter.unusedSimpArgs false
set_option maxRecDepth 4000
namespace Go.Proofs.XF
open Go Go.Proofs.XTv
theorem law_IsValidSession {k : Nat} (hk : FU ≤ k) {x : (TSession : Ty).den} (hg : Good' TSession x) : laws_FnExactIsValidSession.f k x = some true := by
  unfold laws_FnExactIsValidSession.f
  refine law_sz (by omega) (szSession hk hg (by omega) (by omega)) fun hc0 => ?_
  have ho0 : Ok TSession x := ok_of_cnt _ _ hg (by omega)
  have hn : cnt TSession x ≤ 1048576 := by omega
  obtain ⟨r, hs, hi⟩ := both_IsValidSession hk (x := x) ho0 hn
  refine ob_of (toSession hk ho0) ?_
  refine ob_of hs ?_
  refine ob_of (toSession hk ho0) ?_
  refine ob_of hi ?_
  refine bif_f (by simp only [ilt_nn, dnot_t, dnot_f, cond_true, cond_false, ine_self, bne_self, seq_self]) ?_
  refine ob_of (toSession hk ho0) ?_
  refine ob_of (eqSession hk ho0) ?_
  refine bif_f (by simp only [ilt_nn, dnot_t, dnot_f, cond_true, cond_false, ine_self, bne_self, seq_self]) ?_
  rfl
end Go.Proofs.XF
/- What the program says of its types. -/
set_option linter.unusedVariables false
set_option maxRecDepth 100000
namespace Go.Proofs.Ytbgkgnhlfmidhaa.XS
open Go Go.Proofs.XTv Go.Proofs.XF
def look {α : Type} (l : List (Nat × α)) (n : Nat) : Option α := match l with
  | [] => none
  | (m, a) :: r => bif Nat.beq m n then some a else look r n
theorem look_mem {α : Type} : ∀ {l : List (Nat × α)} {n : Nat} {a : α}, look l n = some a → (n, a) ∈ l
  | (m, b) :: r, n, a, h => by
    unfold look at h
    cases hb : Nat.beq m n
    · simp only [hb, cond_false] at h; exact List.mem_cons_of_mem _ (look_mem h)
    · simp only [hb, cond_true, Option.some.injEq] at h
      rw [Nat.eq_of_beq_eq_true hb, h]; exact List.mem_cons_self ..
def tis : List (Nat × TInfo) := [
  (3, ⟨(.int .i64), false, 8, [], 0⟩),
  (4, ⟨.bool, false, 1, [], 0⟩),
  (5, ⟨(.int .u8), false, 1, [], 0⟩),
  (9, ⟨.str, false, 16, [], 0⟩),
  (23, ⟨TSubscriberID, true, 16, [(0, 3), (1, 3)], 0⟩),
  (25, ⟨TUSIM, true, 32, [(0, 23), (2, 3), (3, 3)], 0⟩),
  (26, ⟨(.sl TNumberedPacket), false, 24, [], 180⟩),
  (27, ⟨(.sl (.sl (.int .u8))), false, 24, [], 165⟩),
  (29, ⟨TReceiveWindow, true, 56, [(0, 3), (1, 26), (2, 27)], 0⟩),
  (31, ⟨TDevice, true, 144, [(0, 25), (4, 3), (5, 3), (6, 3), (7, 3), (8, 3), (9, 4), (10, 3), (11, 29)], 0⟩),
  (33, ⟨TSubscriberID, true, 16, [(0, 3), (1, 3)], 0⟩),
  (35, ⟨TUSIM, true, 32, [(0, 33), (2, 3), (3, 3)], 0⟩),
  (36, ⟨(.sl TNumberedPacket), false, 24, [], 130⟩),
  (37, ⟨(.sl (.sl (.int .u8))), false, 24, [], 132⟩),
  (39, ⟨TReceiveWindow, true, 56, [(0, 3), (1, 36), (2, 37)], 0⟩),
  (41, ⟨TDevice, true, 144, [(0, 35), (4, 3), (5, 3), (6, 3), (7, 3), (8, 3), (9, 4), (10, 3), (11, 39)], 0⟩),
  (42, ⟨(.sl TSignal), false, 24, [], 101⟩),
  (44, ⟨TDeviceResult, true, 168, [(0, 41), (14, 42)], 0⟩),
  (53, ⟨TUSIM, true, 32, [(0, 23), (2, 3), (3, 3)], 0⟩),
  (54, ⟨(.sl (.int .i64)), false, 24, [], 3⟩),
  (56, ⟨TSubscription, true, 48, [(0, 3), (1, 3), (2, 3), (3, 54)], 0⟩),
  (58, ⟨TAuthVector, true, 40, [(0, 3), (1, 3), (2, 3), (3, 3), (4, 3)], 0⟩),
  (60, ⟨TQuota, true, 24, [(0, 3), (1, 3), (2, 3)], 0⟩),
  (62, ⟨TSendWindow, true, 32, [(0, 3), (1, 26)], 0⟩),
  (64, ⟨TQuota, true, 24, [(0, 3), (1, 3), (2, 3)], 0⟩),
  (66, ⟨TSession, true, 288, [(0, 53), (4, 56), (8, 3), (9, 58), (14, 3), (15, 3), (16, 3), (17, 3), (18, 3), (19, 3), (20, 60), (23, 27), (24, 62), (26, 3), (27, 64)], 0⟩),
  (70, ⟨TUSIM, true, 32, [(0, 33), (2, 3), (3, 3)], 0⟩),
  (71, ⟨TSubscription, true, 48, [(0, 3), (1, 3), (2, 3), (3, 54)], 0⟩),
  (72, ⟨TAuthVector, true, 40, [(0, 3), (1, 3), (2, 3), (3, 3), (4, 3)], 0⟩),
  (73, ⟨TQuota, true, 24, [(0, 3), (1, 3), (2, 3)], 0⟩),
  (75, ⟨TSendWindow, true, 32, [(0, 3), (1, 36)], 0⟩),
  (76, ⟨TQuota, true, 24, [(0, 3), (1, 3), (2, 3)], 0⟩),
  (78, ⟨TSession, true, 288, [(0, 70), (4, 71), (8, 3), (9, 72), (14, 3), (15, 3), (16, 3), (17, 3), (18, 3), (19, 3), (20, 73), (23, 37), (24, 75), (26, 3), (27, 76)], 0⟩),
  (82, ⟨(.sl (.int .u8)), false, 24, [], 5⟩),
  (93, ⟨(.sl TRadioPacket), false, 24, [], 149⟩),
  (101, ⟨TSignal, true, 88, [(0, 3), (1, 3), (2, 3), (3, 3), (4, 3), (5, 72), (10, 3)], 0⟩),
  (130, ⟨TNumberedPacket, true, 32, [(0, 3), (1, 82)], 0⟩),
  (132, ⟨(.sl (.int .u8)), true, 24, [(0, 82)], 0⟩),
  (147, ⟨TSecuredMessage, true, 48, [(0, 3), (1, 3), (2, 82), (3, 3)], 0⟩),
  (149, ⟨TRadioPacket, true, 64, [(0, 3), (1, 3), (2, 147)], 0⟩),
  (165, ⟨(.sl (.int .u8)), true, 24, [(0, 82)], 0⟩),
  (180, ⟨TNumberedPacket, true, 32, [(0, 3), (1, 82)], 0⟩),
  (189, ⟨(.sl (.int .i64)), true, 24, [(0, 54)], 0⟩)]
def eqs : List Nat := []
def cx0 : Cx := { ti := look tis, eq := fun t => nmem t eqs, con := fun _ => none, loop := fun _ => none }
theorem tis_ok : tis.all (fun p => tyChk Try.prog cx0 p.1 p.2 && openChk cx0 p.2) = true := by kernel_rfl
theorem eqs_ok : eqs.all (fun t => !(Try.prog.eqGuardType Try.prog.depth t) && (match look tis t with | some ti => (match eqTyChk Try.prog 100 t (flatTy ti.ty) with | some [] => true | _ => false) | none => false)) = true := by kernel_rfl
theorem ty_ok : ∀ T ti, cx0.ti T = some ti → TyOk Try.prog cx0 T ti := fun T ti h => by
  have h1 := List.all_eq_true.1 tis_ok (T, ti) (look_mem h)
  rw [Bool.and_eq_true] at h1
  exact tyChk_ok h1.1
theorem open_ok : ∀ T ti, cx0.ti T = some ti → openChk cx0 ti = true := fun T ti h => by
  have h1 := List.all_eq_true.1 tis_ok (T, ti) (look_mem h)
  rw [Bool.and_eq_true] at h1
  exact h1.2
theorem cx_ok : CxOk Try.prog cx0 := ⟨ty_ok, fun T h => by
  have h1 := List.all_eq_true.1 eqs_ok T (nmem_iff.1 h)
  rw [Bool.and_eq_true, Bool.not_eq_true'] at h1
  refine ⟨h1.1, ?_⟩
  cases ht : look tis T with
  | none => simp [ht] at h1
  | some ti =>
    refine ⟨ti, ht, ?_⟩
    have h2 := h1.2
    rw [ht] at h2
    simp only at h2
    split at h2
    · assumption
    · cases h2⟩
end Go.Proofs.Ytbgkgnhlfmidhaa.XS
/- What each function is to be given and gives. -/
set_option linter.unusedVariables false
set_option maxRecDepth 100000
namespace Go.Proofs.Ytbgkgnhlfmidhaa.XS
open Go Go.Proofs.XTv Go.Proofs.XF
def laws_szByteS.ps : List PK := [.val (.sl (.int .u8)) false, .val (.int .i64) false]
def laws_szByteS.rs : List RK := [⟨(.int .i64), false, .own⟩]
def laws_szByteS.con : Con := ⟨laws_szByteS.ps, laws_szByteS.rs, laws_szByteS.f⟩
def laws_szByteS.cx : Cx := { cx0 with con := look [], loop := look [] }
def laws_szPayload.ps : List PK := [.val (.sl (.int .u8)) true, .val (.int .i64) false]
def laws_szPayload.rs : List RK := [⟨(.int .i64), false, .own⟩]
def laws_szPayload.con : Con := ⟨laws_szPayload.ps, laws_szPayload.rs, laws_szPayload.f⟩
def laws_szPayload.cx : Cx := { cx0 with con := look [(158, laws_szByteS.con)], loop := look [] }
def laws_szPayloadS.ps : List PK := [.val (.sl (.sl (.int .u8))) false, .val (.int .i64) false]
def laws_szPayloadS.rs : List RK := [⟨(.int .i64), false, .own⟩]
def laws_szPayloadS.con : Con := ⟨laws_szPayloadS.ps, laws_szPayloadS.rs, laws_szPayloadS.f⟩
def laws_szPayloadS.cx : Cx := { cx0 with con := look [(124, laws_szPayload.con)], loop := look [(5, ⟨⟨[(0, false, [.dat (.sl (.sl (.int .u8))) [0]]), (1, false, [.dat (.int .i64) []]), (5, false, [.dat (.int .i64) []])], []⟩, [(.exit 0, ⟨[(1, false, [.dat (.int .i64) []])], []⟩), (.ret, ⟨[(4, false, [.dat (.int .i64) []])], []⟩)]⟩)] }
def laws_szNumberedPacket.ps : List PK := [.val TNumberedPacket true, .val (.int .i64) false]
def laws_szNumberedPacket.rs : List RK := [⟨(.int .i64), false, .own⟩]
def laws_szNumberedPacket.con : Con := ⟨laws_szNumberedPacket.ps, laws_szNumberedPacket.rs, laws_szNumberedPacket.f⟩
def laws_szNumberedPacket.cx : Cx := { cx0 with con := look [(158, laws_szByteS.con)], loop := look [] }
def laws_szNumberedPacketS.ps : List PK := [.val (.sl TNumberedPacket) false, .val (.int .i64) false]
def laws_szNumberedPacketS.rs : List RK := [⟨(.int .i64), false, .own⟩]
def laws_szNumberedPacketS.con : Con := ⟨laws_szNumberedPacketS.ps, laws_szNumberedPacketS.rs, laws_szNumberedPacketS.f⟩
def laws_szNumberedPacketS.cx : Cx := { cx0 with con := look [(153, laws_szNumberedPacket.con)], loop := look [(5, ⟨⟨[(0, false, [.dat (.sl TNumberedPacket) [0]]), (1, false, [.dat (.int .i64) []]), (5, false, [.dat (.int .i64) []])], []⟩, [(.exit 0, ⟨[(1, false, [.dat (.int .i64) []])], []⟩), (.ret, ⟨[(4, false, [.dat (.int .i64) []])], []⟩)]⟩)] }
def laws_szReceiveWindow.ps : List PK := [.val TReceiveWindow true, .val (.int .i64) false]
def laws_szReceiveWindow.rs : List RK := [⟨(.int .i64), false, .own⟩]
def laws_szReceiveWindow.con : Con := ⟨laws_szReceiveWindow.ps, laws_szReceiveWindow.rs, laws_szReceiveWindow.f⟩
def laws_szReceiveWindow.cx : Cx := { cx0 with con := look [(59, laws_szPayloadS.con), (112, laws_szNumberedPacketS.con)], loop := look [] }
def laws_szDevice.ps : List PK := [.val TDevice true, .val (.int .i64) false]
def laws_szDevice.rs : List RK := [⟨(.int .i64), false, .own⟩]
def laws_szDevice.con : Con := ⟨laws_szDevice.ps, laws_szDevice.rs, laws_szDevice.f⟩
def laws_szDevice.cx : Cx := { cx0 with con := look [(42, laws_szReceiveWindow.con)], loop := look [] }
def spec_l15Bodies.ps : List PK := [.val (.sl (.sl (.int .u8))) false]
def spec_l15Bodies.rs : List RK := [⟨(.sl (.sl (.int .u8))), false, .own⟩]
def spec_l15Bodies.con : Con := ⟨spec_l15Bodies.ps, spec_l15Bodies.rs, spec_l15Bodies.f⟩
def spec_l15Bodies.cx : Cx := { cx0 with con := look [], loop := look [(3, ⟨⟨[(0, false, [.dat (.sl (.sl (.int .u8))) [0]]), (3, false, [.own 1279]), (4, false, [.dat (.int .i64) []])], [(1279, .arr (.sl (.int .u8)) true [])]⟩, [(.exit 0, ⟨[(3, false, [.own 1279])], [(1279, .arr (.sl (.int .u8)) true [])]⟩)]⟩)] }
def spec_l24Sents.ps : List PK := [.val (.sl TNumberedPacket) false]
def spec_l24Sents.rs : List RK := [⟨(.sl TNumberedPacket), false, .own⟩]
def spec_l24Sents.con : Con := ⟨spec_l24Sents.ps, spec_l24Sents.rs, spec_l24Sents.f⟩
def spec_l24Sents.cx : Cx := { cx0 with con := look [], loop := look [(3, ⟨⟨[(0, false, [.dat (.sl TNumberedPacket) [0]]), (3, false, [.own 1279]), (4, false, [.dat (.int .i64) []])], [(1279, .arr TNumberedPacket true [])]⟩, [(.exit 0, ⟨[(3, false, [.own 1279])], [(1279, .arr TNumberedPacket true [])]⟩)]⟩)] }
def spec_l24Recv.ps : List PK := [.val TReceiveWindow true]
def spec_l24Recv.rs : List RK := [⟨TReceiveWindow, true, .own⟩]
def spec_l24Recv.con : Con := ⟨spec_l24Recv.ps, spec_l24Recv.rs, spec_l24Recv.f⟩
def spec_l24Recv.cx : Cx := { cx0 with con := look [(139, spec_l15Bodies.con), (154, spec_l24Sents.con)], loop := look [] }
def spec_l29Copy.ps : List PK := [.val TDevice true]
def spec_l29Copy.rs : List RK := [⟨TDevice, true, .own⟩]
def spec_l29Copy.con : Con := ⟨spec_l29Copy.ps, spec_l29Copy.rs, spec_l29Copy.f⟩
def spec_l29Copy.cx : Cx := { cx0 with con := look [(113, spec_l24Recv.con)], loop := look [] }
def spec_l29None.ps : List PK := [.val TDevice true]
def spec_l29None.rs : List RK := [⟨TDeviceResult, true, .own⟩]
def spec_l29None.con : Con := ⟨spec_l29None.ps, spec_l29None.rs, spec_l29None.f⟩
def spec_l29None.cx : Cx := { cx0 with con := look [(44, spec_l29Copy.con)], loop := look [] }
def spec_l29Send.ps : List PK := [.take TDevice true, .val TSignal true]
def spec_l29Send.rs : List RK := [⟨TDeviceResult, true, .own⟩]
def spec_l29Send.con : Con := ⟨spec_l29Send.ps, spec_l29Send.rs, spec_l29Send.f⟩
def spec_l29Send.cx : Cx := { cx0 with con := look [], loop := look [] }
def spec_l29Attach.ps : List PK := [.val TDevice true]
def spec_l29Attach.rs : List RK := [⟨TSignal, true, .own⟩]
def spec_l29Attach.con : Con := ⟨spec_l29Attach.ps, spec_l29Attach.rs, spec_l29Attach.f⟩
def spec_l29Attach.cx : Cx := { cx0 with con := look [], loop := look [] }
def spec_PowerOn.ps : List PK := [.val TDevice true]
def spec_PowerOn.rs : List RK := [⟨TDeviceResult, true, .own⟩]
def spec_PowerOn.con : Con := ⟨spec_PowerOn.ps, spec_PowerOn.rs, spec_PowerOn.f⟩
def spec_PowerOn.cx : Cx := { cx0 with con := look [(43, spec_l29None.con), (44, spec_l29Copy.con), (45, spec_l29Send.con), (46, spec_l29Attach.con)], loop := look [] }
def laws_toSubscriberID.ps : List PK := [.val TSubscriberID true]
def laws_toSubscriberID.rs : List RK := [⟨TSubscriberID, true, .own⟩]
def laws_toSubscriberID.con : Con := ⟨laws_toSubscriberID.ps, laws_toSubscriberID.rs, laws_toSubscriberID.f⟩
def laws_toSubscriberID.cx : Cx := { cx0 with con := look [], loop := look [] }
def laws_toUSIM.ps : List PK := [.val TUSIM true]
def laws_toUSIM.rs : List RK := [⟨TUSIM, true, .own⟩]
def laws_toUSIM.con : Con := ⟨laws_toUSIM.ps, laws_toUSIM.rs, laws_toUSIM.f⟩
def laws_toUSIM.cx : Cx := { cx0 with con := look [(114, laws_toSubscriberID.con)], loop := look [] }
def laws_toByteS.ps : List PK := [.val (.sl (.int .u8)) false]
def laws_toByteS.rs : List RK := [⟨(.sl (.int .u8)), false, .own⟩]
def laws_toByteS.con : Con := ⟨laws_toByteS.ps, laws_toByteS.rs, laws_toByteS.f⟩
def laws_toByteS.cx : Cx := { cx0 with con := look [], loop := look [(3, ⟨⟨[(0, false, [.dat (.sl (.int .u8)) [0]]), (3, false, [.own 1279]), (4, false, [.dat (.int .i64) []])], [(1279, .arr (.int .u8) true [])]⟩, [(.exit 0, ⟨[(3, false, [.own 1279])], [(1279, .arr (.int .u8) true [])]⟩)]⟩)] }
def laws_toPayload.ps : List PK := [.val (.sl (.int .u8)) true]
def laws_toPayload.rs : List RK := [⟨(.sl (.int .u8)), true, .own⟩]
def laws_toPayload.con : Con := ⟨laws_toPayload.ps, laws_toPayload.rs, laws_toPayload.f⟩
def laws_toPayload.cx : Cx := { cx0 with con := look [(25, laws_toByteS.con)], loop := look [] }
def laws_toPayloadS.ps : List PK := [.val (.sl (.sl (.int .u8))) false]
def laws_toPayloadS.rs : List RK := [⟨(.sl (.sl (.int .u8))), false, .own⟩]
def laws_toPayloadS.con : Con := ⟨laws_toPayloadS.ps, laws_toPayloadS.rs, laws_toPayloadS.f⟩
def laws_toPayloadS.cx : Cx := { cx0 with con := look [(131, laws_toPayload.con)], loop := look [(3, ⟨⟨[(0, false, [.dat (.sl (.sl (.int .u8))) [0]]), (3, false, [.own 1279]), (4, false, [.dat (.int .i64) []])], [(1279, .arr (.sl (.int .u8)) true [])]⟩, [(.exit 0, ⟨[(3, false, [.own 1279])], [(1279, .arr (.sl (.int .u8)) true [])]⟩)]⟩)] }
def laws_toNumberedPacket.ps : List PK := [.val TNumberedPacket true]
def laws_toNumberedPacket.rs : List RK := [⟨TNumberedPacket, true, .own⟩]
def laws_toNumberedPacket.con : Con := ⟨laws_toNumberedPacket.ps, laws_toNumberedPacket.rs, laws_toNumberedPacket.f⟩
def laws_toNumberedPacket.cx : Cx := { cx0 with con := look [(25, laws_toByteS.con)], loop := look [] }
def laws_toNumberedPacketS.ps : List PK := [.val (.sl TNumberedPacket) false]
def laws_toNumberedPacketS.rs : List RK := [⟨(.sl TNumberedPacket), false, .own⟩]
def laws_toNumberedPacketS.con : Con := ⟨laws_toNumberedPacketS.ps, laws_toNumberedPacketS.rs, laws_toNumberedPacketS.f⟩
def laws_toNumberedPacketS.cx : Cx := { cx0 with con := look [(155, laws_toNumberedPacket.con)], loop := look [(3, ⟨⟨[(0, false, [.dat (.sl TNumberedPacket) [0]]), (3, false, [.own 1279]), (4, false, [.dat (.int .i64) []])], [(1279, .arr TNumberedPacket true [])]⟩, [(.exit 0, ⟨[(3, false, [.own 1279])], [(1279, .arr TNumberedPacket true [])]⟩)]⟩)] }
def laws_toReceiveWindow.ps : List PK := [.val TReceiveWindow true]
def laws_toReceiveWindow.rs : List RK := [⟨TReceiveWindow, true, .own⟩]
def laws_toReceiveWindow.con : Con := ⟨laws_toReceiveWindow.ps, laws_toReceiveWindow.rs, laws_toReceiveWindow.f⟩
def laws_toReceiveWindow.cx : Cx := { cx0 with con := look [(72, laws_toPayloadS.con), (115, laws_toNumberedPacketS.con)], loop := look [] }
def laws_toDevice.ps : List PK := [.val TDevice true]
def laws_toDevice.rs : List RK := [⟨TDevice, true, .own⟩]
def laws_toDevice.con : Con := ⟨laws_toDevice.ps, laws_toDevice.rs, laws_toDevice.f⟩
def laws_toDevice.cx : Cx := { cx0 with con := look [(47, laws_toUSIM.con), (48, laws_toReceiveWindow.con)], loop := look [] }
def impl_copyBytes.ps : List PK := [.val (.sl (.int .u8)) false]
def impl_copyBytes.rs : List RK := [⟨(.sl (.int .u8)), false, .own⟩]
def impl_copyBytes.con : Con := ⟨impl_copyBytes.ps, impl_copyBytes.rs, impl_copyBytes.f⟩
def impl_copyBytes.cx : Cx := { cx0 with con := look [], loop := look [] }
def impl_copyPayloads.ps : List PK := [.val (.sl (.sl (.int .u8))) false]
def impl_copyPayloads.rs : List RK := [⟨(.sl (.sl (.int .u8))), false, .own⟩]
def impl_copyPayloads.con : Con := ⟨impl_copyPayloads.ps, impl_copyPayloads.rs, impl_copyPayloads.f⟩
def impl_copyPayloads.cx : Cx := { cx0 with con := look [(96, impl_copyBytes.con)], loop := look [(3, ⟨⟨[(3, false, [.own 1279]), (9, false, [.dat (.sl (.sl (.int .u8))) [0]]), (10, false, [.dat (.int .i64) []]), (11, false, [.dat (.int .i64) []])], [(1279, .arr (.sl (.int .u8)) true [])]⟩, [(.exit 0, ⟨[(3, false, [.own 1279])], [(1279, .arr (.sl (.int .u8)) true [])]⟩)]⟩)] }
def impl_copyNumbered.ps : List PK := [.val (.sl TNumberedPacket) false]
def impl_copyNumbered.rs : List RK := [⟨(.sl TNumberedPacket), false, .own⟩]
def impl_copyNumbered.con : Con := ⟨impl_copyNumbered.ps, impl_copyNumbered.rs, impl_copyNumbered.f⟩
def impl_copyNumbered.cx : Cx := { cx0 with con := look [(96, impl_copyBytes.con)], loop := look [(3, ⟨⟨[(3, false, [.own 1279]), (9, false, [.dat (.sl TNumberedPacket) [0]]), (10, false, [.dat (.int .i64) []]), (11, false, [.dat (.int .i64) []])], [(1279, .arr TNumberedPacket true [])]⟩, [(.exit 0, ⟨[(3, false, [.own 1279])], [(1279, .arr TNumberedPacket true [])]⟩)]⟩)] }
def impl_copyReceiver.ps : List PK := [.val TReceiveWindow true]
def impl_copyReceiver.rs : List RK := [⟨TReceiveWindow, true, .own⟩]
def impl_copyReceiver.con : Con := ⟨impl_copyReceiver.ps, impl_copyReceiver.rs, impl_copyReceiver.f⟩
def impl_copyReceiver.cx : Cx := { cx0 with con := look [(142, impl_copyPayloads.con), (160, impl_copyNumbered.con)], loop := look [] }
def impl_copyDevice.ps : List PK := [.val TDevice true]
def impl_copyDevice.rs : List RK := [⟨TDevice, true, .own⟩]
def impl_copyDevice.con : Con := ⟨impl_copyDevice.ps, impl_copyDevice.rs, impl_copyDevice.f⟩
def impl_copyDevice.cx : Cx := { cx0 with con := look [(156, impl_copyReceiver.con)], loop := look [] }
def impl_copyItems_impl_Signal.ps : List PK := [.val (.sl TSignal) false]
def impl_copyItems_impl_Signal.rs : List RK := [⟨(.sl TSignal), false, .own⟩]
def impl_copyItems_impl_Signal.con : Con := ⟨impl_copyItems_impl_Signal.ps, impl_copyItems_impl_Signal.rs, impl_copyItems_impl_Signal.f⟩
def impl_copyItems_impl_Signal.cx : Cx := { cx0 with con := look [], loop := look [] }
def impl_deviceResult.ps : List PK := [.val TDevice true, .val (.sl TSignal) false]
def impl_deviceResult.rs : List RK := [⟨TDeviceResult, true, .own⟩]
def impl_deviceResult.con : Con := ⟨impl_deviceResult.ps, impl_deviceResult.rs, impl_deviceResult.f⟩
def impl_deviceResult.cx : Cx := { cx0 with con := look [(116, impl_copyDevice.con), (117, impl_copyItems_impl_Signal.con)], loop := look [] }
def impl_attachSignal.ps : List PK := [.val TDevice true]
def impl_attachSignal.rs : List RK := [⟨TSignal, true, .own⟩]
def impl_attachSignal.con : Con := ⟨impl_attachSignal.ps, impl_attachSignal.rs, impl_attachSignal.f⟩
def impl_attachSignal.cx : Cx := { cx0 with con := look [], loop := look [] }
def impl_PowerOn.ps : List PK := [.val TDevice true]
def impl_PowerOn.rs : List RK := [⟨TDeviceResult, true, .own⟩]
def impl_PowerOn.con : Con := ⟨impl_PowerOn.ps, impl_PowerOn.rs, impl_PowerOn.f⟩
def impl_PowerOn.cx : Cx := { cx0 with con := look [(49, impl_deviceResult.con), (50, impl_attachSignal.con)], loop := look [] }
def laws_eqSubscriberID.ps : List PK := [.val TSubscriberID true, .val TSubscriberID true]
def laws_eqSubscriberID.rs : List RK := [⟨.bool, false, .own⟩]
def laws_eqSubscriberID.con : Con := ⟨laws_eqSubscriberID.ps, laws_eqSubscriberID.rs, laws_eqSubscriberID.f⟩
def laws_eqSubscriberID.cx : Cx := { cx0 with con := look [], loop := look [] }
def laws_eqUSIM.ps : List PK := [.val TUSIM true, .val TUSIM true]
def laws_eqUSIM.rs : List RK := [⟨.bool, false, .own⟩]
def laws_eqUSIM.con : Con := ⟨laws_eqUSIM.ps, laws_eqUSIM.rs, laws_eqUSIM.f⟩
def laws_eqUSIM.cx : Cx := { cx0 with con := look [(119, laws_eqSubscriberID.con)], loop := look [] }
def laws_eqByteS.ps : List PK := [.val (.sl (.int .u8)) false, .val (.sl (.int .u8)) false]
def laws_eqByteS.rs : List RK := [⟨.bool, false, .own⟩]
def laws_eqByteS.con : Con := ⟨laws_eqByteS.ps, laws_eqByteS.rs, laws_eqByteS.f⟩
def laws_eqByteS.cx : Cx := { cx0 with con := look [], loop := look [(4, ⟨⟨[(0, false, [.dat (.sl (.int .u8)) [0]]), (1, false, [.dat (.sl (.int .u8)) [0]]), (5, false, [.dat (.int .i64) []])], []⟩, [(.exit 0, ⟨[], []⟩), (.ret, ⟨[(4, false, [.dat .bool []])], []⟩)]⟩)] }
def laws_eqPayload.ps : List PK := [.val (.sl (.int .u8)) true, .val (.sl (.int .u8)) true]
def laws_eqPayload.rs : List RK := [⟨.bool, false, .own⟩]
def laws_eqPayload.con : Con := ⟨laws_eqPayload.ps, laws_eqPayload.rs, laws_eqPayload.f⟩
def laws_eqPayload.cx : Cx := { cx0 with con := look [(27, laws_eqByteS.con)], loop := look [] }
def laws_eqPayloadS.ps : List PK := [.val (.sl (.sl (.int .u8))) false, .val (.sl (.sl (.int .u8))) false]
def laws_eqPayloadS.rs : List RK := [⟨.bool, false, .own⟩]
def laws_eqPayloadS.con : Con := ⟨laws_eqPayloadS.ps, laws_eqPayloadS.rs, laws_eqPayloadS.f⟩
def laws_eqPayloadS.cx : Cx := { cx0 with con := look [(137, laws_eqPayload.con)], loop := look [(4, ⟨⟨[(0, false, [.dat (.sl (.sl (.int .u8))) [0]]), (1, false, [.dat (.sl (.sl (.int .u8))) [0]]), (5, false, [.dat (.int .i64) []])], []⟩, [(.exit 0, ⟨[], []⟩), (.ret, ⟨[(4, false, [.dat .bool []])], []⟩)]⟩)] }
def laws_eqNumberedPacket.ps : List PK := [.val TNumberedPacket true, .val TNumberedPacket true]
def laws_eqNumberedPacket.rs : List RK := [⟨.bool, false, .own⟩]
def laws_eqNumberedPacket.con : Con := ⟨laws_eqNumberedPacket.ps, laws_eqNumberedPacket.rs, laws_eqNumberedPacket.f⟩
def laws_eqNumberedPacket.cx : Cx := { cx0 with con := look [(27, laws_eqByteS.con)], loop := look [] }
def laws_eqNumberedPacketS.ps : List PK := [.val (.sl TNumberedPacket) false, .val (.sl TNumberedPacket) false]
def laws_eqNumberedPacketS.rs : List RK := [⟨.bool, false, .own⟩]
def laws_eqNumberedPacketS.con : Con := ⟨laws_eqNumberedPacketS.ps, laws_eqNumberedPacketS.rs, laws_eqNumberedPacketS.f⟩
def laws_eqNumberedPacketS.cx : Cx := { cx0 with con := look [(157, laws_eqNumberedPacket.con)], loop := look [(4, ⟨⟨[(0, false, [.dat (.sl TNumberedPacket) [0]]), (1, false, [.dat (.sl TNumberedPacket) [0]]), (5, false, [.dat (.int .i64) []])], []⟩, [(.exit 0, ⟨[], []⟩), (.ret, ⟨[(4, false, [.dat .bool []])], []⟩)]⟩)] }
def laws_eqReceiveWindow.ps : List PK := [.val TReceiveWindow true, .val TReceiveWindow true]
def laws_eqReceiveWindow.rs : List RK := [⟨.bool, false, .own⟩]
def laws_eqReceiveWindow.con : Con := ⟨laws_eqReceiveWindow.ps, laws_eqReceiveWindow.rs, laws_eqReceiveWindow.f⟩
def laws_eqReceiveWindow.cx : Cx := { cx0 with con := look [(90, laws_eqPayloadS.con), (120, laws_eqNumberedPacketS.con)], loop := look [] }
def laws_eqDevice.ps : List PK := [.val TDevice true, .val TDevice true]
def laws_eqDevice.rs : List RK := [⟨.bool, false, .own⟩]
def laws_eqDevice.con : Con := ⟨laws_eqDevice.ps, laws_eqDevice.rs, laws_eqDevice.f⟩
def laws_eqDevice.cx : Cx := { cx0 with con := look [(52, laws_eqUSIM.con), (53, laws_eqReceiveWindow.con)], loop := look [] }
def laws_eqAuthVector.ps : List PK := [.val TAuthVector true, .val TAuthVector true]
def laws_eqAuthVector.rs : List RK := [⟨.bool, false, .own⟩]
def laws_eqAuthVector.con : Con := ⟨laws_eqAuthVector.ps, laws_eqAuthVector.rs, laws_eqAuthVector.f⟩
def laws_eqAuthVector.cx : Cx := { cx0 with con := look [], loop := look [] }
def laws_eqSignal.ps : List PK := [.val TSignal true, .val TSignal true]
def laws_eqSignal.rs : List RK := [⟨.bool, false, .own⟩]
def laws_eqSignal.con : Con := ⟨laws_eqSignal.ps, laws_eqSignal.rs, laws_eqSignal.f⟩
def laws_eqSignal.cx : Cx := { cx0 with con := look [(88, laws_eqAuthVector.con)], loop := look [] }
def laws_eqSignalS.ps : List PK := [.val (.sl TSignal) false, .val (.sl TSignal) false]
def laws_eqSignalS.rs : List RK := [⟨.bool, false, .own⟩]
def laws_eqSignalS.con : Con := ⟨laws_eqSignalS.ps, laws_eqSignalS.rs, laws_eqSignalS.f⟩
def laws_eqSignalS.cx : Cx := { cx0 with con := look [(118, laws_eqSignal.con)], loop := look [(4, ⟨⟨[(0, false, [.dat (.sl TSignal) [0]]), (1, false, [.dat (.sl TSignal) [0]]), (5, false, [.dat (.int .i64) []])], []⟩, [(.exit 0, ⟨[], []⟩), (.ret, ⟨[(4, false, [.dat .bool []])], []⟩)]⟩)] }
def laws_eqDeviceResult.ps : List PK := [.val TDeviceResult true, .val TDeviceResult true]
def laws_eqDeviceResult.rs : List RK := [⟨.bool, false, .own⟩]
def laws_eqDeviceResult.con : Con := ⟨laws_eqDeviceResult.ps, laws_eqDeviceResult.rs, laws_eqDeviceResult.f⟩
def laws_eqDeviceResult.cx : Cx := { cx0 with con := look [(15, laws_eqDevice.con), (51, laws_eqSignalS.con)], loop := look [] }
def laws_markByteS.ps : List PK := [.lend (.sl (.int .u8)) false, .val (.int .i64) false]
def laws_markByteS.rs : List RK := [⟨(.int .i64), false, .own⟩]
def laws_markByteS.con : Con := ⟨laws_markByteS.ps, laws_markByteS.rs, laws_markByteS.f⟩
def laws_markByteS.cx : Cx := { cx0 with con := look [], loop := look [(2, ⟨⟨[(0, false, [.own 257]), (1, false, [.dat (.int .i64) []]), (5, false, [.dat (.int .i64) []])], [(257, .arr (.int .u8) true [])]⟩, [(.exit 0, ⟨[(0, false, [.own 257]), (1, false, [.dat (.int .i64) []])], [(257, .arr (.int .u8) true [])]⟩)]⟩)] }
def laws_markPayloadS.ps : List PK := [.lend (.sl (.sl (.int .u8))) false, .val (.int .i64) false]
def laws_markPayloadS.rs : List RK := [⟨(.int .i64), false, .own⟩]
def laws_markPayloadS.con : Con := ⟨laws_markPayloadS.ps, laws_markPayloadS.rs, laws_markPayloadS.f⟩
def laws_markPayloadS.cx : Cx := { cx0 with con := look [(29, laws_markByteS.con)], loop := look [(2, ⟨⟨[(0, false, [.own 257]), (1, false, [.dat (.int .i64) []]), (5, false, [.dat (.int .i64) []])], [(257, .arr (.sl (.int .u8)) true [])]⟩, [(.exit 0, ⟨[(0, false, [.own 257]), (1, false, [.dat (.int .i64) []])], [(257, .arr (.sl (.int .u8)) true [])]⟩)]⟩)] }
def laws_markNumberedPacketS.ps : List PK := [.lend (.sl TNumberedPacket) false, .val (.int .i64) false]
def laws_markNumberedPacketS.rs : List RK := [⟨(.int .i64), false, .own⟩]
def laws_markNumberedPacketS.con : Con := ⟨laws_markNumberedPacketS.ps, laws_markNumberedPacketS.rs, laws_markNumberedPacketS.f⟩
def laws_markNumberedPacketS.cx : Cx := { cx0 with con := look [(29, laws_markByteS.con)], loop := look [(2, ⟨⟨[(0, false, [.own 257]), (1, false, [.dat (.int .i64) []]), (5, false, [.dat (.int .i64) []])], [(257, .arr TNumberedPacket true [])]⟩, [(.exit 0, ⟨[(0, false, [.own 257]), (1, false, [.dat (.int .i64) []])], [(257, .arr TNumberedPacket true [])]⟩)]⟩)] }
def laws_markReceiveWindow.ps : List PK := [.lend TReceiveWindow true, .val (.int .i64) false]
def laws_markReceiveWindow.rs : List RK := [⟨(.int .i64), false, .own⟩]
def laws_markReceiveWindow.con : Con := ⟨laws_markReceiveWindow.ps, laws_markReceiveWindow.rs, laws_markReceiveWindow.f⟩
def laws_markReceiveWindow.cx : Cx := { cx0 with con := look [(98, laws_markPayloadS.con), (121, laws_markNumberedPacketS.con)], loop := look [] }
def laws_markDevice.ps : List PK := [.lend TDevice true, .val (.int .i64) false]
def laws_markDevice.rs : List RK := [⟨(.int .i64), false, .own⟩]
def laws_markDevice.con : Con := ⟨laws_markDevice.ps, laws_markDevice.rs, laws_markDevice.f⟩
def laws_markDevice.cx : Cx := { cx0 with con := look [(54, laws_markReceiveWindow.con)], loop := look [] }
def laws_markSignalS.ps : List PK := [.lend (.sl TSignal) false, .val (.int .i64) false]
def laws_markSignalS.rs : List RK := [⟨(.int .i64), false, .own⟩]
def laws_markSignalS.con : Con := ⟨laws_markSignalS.ps, laws_markSignalS.rs, laws_markSignalS.f⟩
def laws_markSignalS.cx : Cx := { cx0 with con := look [], loop := look [(2, ⟨⟨[(0, false, [.own 257]), (1, false, [.dat (.int .i64) []]), (5, false, [.dat (.int .i64) []])], [(257, .arr TSignal true [])]⟩, [(.exit 0, ⟨[(0, false, [.own 257]), (1, false, [.dat (.int .i64) []])], [(257, .arr TSignal true [])]⟩)]⟩)] }
def laws_markDeviceResult.ps : List PK := [.lend TDeviceResult true, .val (.int .i64) false]
def laws_markDeviceResult.rs : List RK := [⟨(.int .i64), false, .own⟩]
def laws_markDeviceResult.con : Con := ⟨laws_markDeviceResult.ps, laws_markDeviceResult.rs, laws_markDeviceResult.f⟩
def laws_markDeviceResult.cx : Cx := { cx0 with con := look [(16, laws_markDevice.con), (55, laws_markSignalS.con)], loop := look [] }
def laws_heldByteS.ps : List PK := [.val (.sl (.int .u8)) false, .val (.int .i64) false]
def laws_heldByteS.rs : List RK := [⟨(.int .i64), false, .own⟩]
def laws_heldByteS.con : Con := ⟨laws_heldByteS.ps, laws_heldByteS.rs, laws_heldByteS.f⟩
def laws_heldByteS.cx : Cx := { cx0 with con := look [], loop := look [(2, ⟨⟨[(0, false, [.dat (.sl (.int .u8)) [0]]), (1, false, [.dat (.int .i64) []]), (5, false, [.dat (.int .i64) []])], []⟩, [(.exit 0, ⟨[(1, false, [.dat (.int .i64) []])], []⟩), (.ret, ⟨[(4, false, [.dat (.int .i64) []])], []⟩)]⟩)] }
def laws_heldPayloadS.ps : List PK := [.val (.sl (.sl (.int .u8))) false, .val (.int .i64) false]
def laws_heldPayloadS.rs : List RK := [⟨(.int .i64), false, .own⟩]
def laws_heldPayloadS.con : Con := ⟨laws_heldPayloadS.ps, laws_heldPayloadS.rs, laws_heldPayloadS.f⟩
def laws_heldPayloadS.cx : Cx := { cx0 with con := look [(111, laws_heldByteS.con)], loop := look [(2, ⟨⟨[(0, false, [.dat (.sl (.sl (.int .u8))) [0]]), (1, false, [.dat (.int .i64) []]), (5, false, [.dat (.int .i64) []])], []⟩, [(.exit 0, ⟨[(1, false, [.dat (.int .i64) []])], []⟩), (.ret, ⟨[(4, false, [.dat (.int .i64) []])], []⟩)]⟩)] }
def laws_heldNumberedPacketS.ps : List PK := [.val (.sl TNumberedPacket) false, .val (.int .i64) false]
def laws_heldNumberedPacketS.rs : List RK := [⟨(.int .i64), false, .own⟩]
def laws_heldNumberedPacketS.con : Con := ⟨laws_heldNumberedPacketS.ps, laws_heldNumberedPacketS.rs, laws_heldNumberedPacketS.f⟩
def laws_heldNumberedPacketS.cx : Cx := { cx0 with con := look [(111, laws_heldByteS.con)], loop := look [(2, ⟨⟨[(0, false, [.dat (.sl TNumberedPacket) [0]]), (1, false, [.dat (.int .i64) []]), (5, false, [.dat (.int .i64) []])], []⟩, [(.exit 0, ⟨[(1, false, [.dat (.int .i64) []])], []⟩), (.ret, ⟨[(4, false, [.dat (.int .i64) []])], []⟩)]⟩)] }
def laws_heldReceiveWindow.ps : List PK := [.val TReceiveWindow true, .val (.int .i64) false]
def laws_heldReceiveWindow.rs : List RK := [⟨(.int .i64), false, .own⟩]
def laws_heldReceiveWindow.con : Con := ⟨laws_heldReceiveWindow.ps, laws_heldReceiveWindow.rs, laws_heldReceiveWindow.f⟩
def laws_heldReceiveWindow.cx : Cx := { cx0 with con := look [(101, laws_heldPayloadS.con), (146, laws_heldNumberedPacketS.con)], loop := look [] }
def laws_heldDevice.ps : List PK := [.val TDevice true, .val (.int .i64) false]
def laws_heldDevice.rs : List RK := [⟨(.int .i64), false, .own⟩]
def laws_heldDevice.con : Con := ⟨laws_heldDevice.ps, laws_heldDevice.rs, laws_heldDevice.f⟩
def laws_heldDevice.cx : Cx := { cx0 with con := look [(122, laws_heldReceiveWindow.con)], loop := look [] }
def laws_heldSignalS.ps : List PK := [.val (.sl TSignal) false, .val (.int .i64) false]
def laws_heldSignalS.rs : List RK := [⟨(.int .i64), false, .own⟩]
def laws_heldSignalS.con : Con := ⟨laws_heldSignalS.ps, laws_heldSignalS.rs, laws_heldSignalS.f⟩
def laws_heldSignalS.cx : Cx := { cx0 with con := look [], loop := look [(2, ⟨⟨[(0, false, [.dat (.sl TSignal) [0]]), (1, false, [.dat (.int .i64) []]), (5, false, [.dat (.int .i64) []])], []⟩, [(.exit 0, ⟨[(1, false, [.dat (.int .i64) []])], []⟩), (.ret, ⟨[(4, false, [.dat (.int .i64) []])], []⟩)]⟩)] }
def laws_heldDeviceResult.ps : List PK := [.val TDeviceResult true, .val (.int .i64) false]
def laws_heldDeviceResult.rs : List RK := [⟨(.int .i64), false, .own⟩]
def laws_heldDeviceResult.con : Con := ⟨laws_heldDeviceResult.ps, laws_heldDeviceResult.rs, laws_heldDeviceResult.f⟩
def laws_heldDeviceResult.cx : Cx := { cx0 with con := look [(56, laws_heldDevice.con), (57, laws_heldSignalS.con)], loop := look [] }
def laws_FnExactPowerOn.ps : List PK := [.val TDevice true]
def laws_FnExactPowerOn.rs : List RK := [⟨.bool, false, .own⟩]
def laws_FnExactPowerOn.con : Con := ⟨laws_FnExactPowerOn.ps, laws_FnExactPowerOn.rs, laws_FnExactPowerOn.f⟩
def laws_FnExactPowerOn.cx : Cx := { cx0 with con := look [(10, laws_szDevice.con), (11, spec_PowerOn.con), (12, laws_toDevice.con), (13, impl_PowerOn.con), (14, laws_eqDeviceResult.con), (15, laws_eqDevice.con), (16, laws_markDevice.con), (17, laws_markDeviceResult.con), (18, laws_heldDeviceResult.con)], loop := look [] }
def laws_szIntS.ps : List PK := [.val (.sl (.int .i64)) false, .val (.int .i64) false]
def laws_szIntS.rs : List RK := [⟨(.int .i64), false, .own⟩]
def laws_szIntS.con : Con := ⟨laws_szIntS.ps, laws_szIntS.rs, laws_szIntS.f⟩
def laws_szIntS.cx : Cx := { cx0 with con := look [], loop := look [] }
def laws_szSubscription.ps : List PK := [.val TSubscription true, .val (.int .i64) false]
def laws_szSubscription.rs : List RK := [⟨(.int .i64), false, .own⟩]
def laws_szSubscription.con : Con := ⟨laws_szSubscription.ps, laws_szSubscription.rs, laws_szSubscription.f⟩
def laws_szSubscription.cx : Cx := { cx0 with con := look [(123, laws_szIntS.con)], loop := look [] }
def laws_szSendWindow.ps : List PK := [.val TSendWindow true, .val (.int .i64) false]
def laws_szSendWindow.rs : List RK := [⟨(.int .i64), false, .own⟩]
def laws_szSendWindow.con : Con := ⟨laws_szSendWindow.ps, laws_szSendWindow.rs, laws_szSendWindow.f⟩
def laws_szSendWindow.cx : Cx := { cx0 with con := look [(112, laws_szNumberedPacketS.con)], loop := look [] }
def laws_szSession.ps : List PK := [.val TSession true, .val (.int .i64) false]
def laws_szSession.rs : List RK := [⟨(.int .i64), false, .own⟩]
def laws_szSession.con : Con := ⟨laws_szSession.ps, laws_szSession.rs, laws_szSession.f⟩
def laws_szSession.cx : Cx := { cx0 with con := look [(58, laws_szSubscription.con), (59, laws_szPayloadS.con), (60, laws_szSendWindow.con)], loop := look [] }
def spec_l1In.ps : List PK := [.val (.int .i64) false, .val (.int .i64) false, .val (.int .i64) false]
def spec_l1In.rs : List RK := [⟨.bool, false, .own⟩]
def spec_l1In.con : Con := ⟨spec_l1In.ps, spec_l1In.rs, spec_l1In.f⟩
def spec_l1In.cx : Cx := { cx0 with con := look [], loop := look [] }
def spec_IsValidKey.ps : List PK := [.val (.int .i64) false]
def spec_IsValidKey.rs : List RK := [⟨.bool, false, .own⟩]
def spec_IsValidKey.con : Con := ⟨spec_IsValidKey.ps, spec_IsValidKey.rs, spec_IsValidKey.f⟩
def spec_IsValidKey.cx : Cx := { cx0 with con := look [(62, spec_l1In.con)], loop := look [] }
def spec_IsValidSubscriberID.ps : List PK := [.val TSubscriberID true]
def spec_IsValidSubscriberID.rs : List RK := [⟨.bool, false, .own⟩]
def spec_IsValidSubscriberID.con : Con := ⟨spec_IsValidSubscriberID.ps, spec_IsValidSubscriberID.rs, spec_IsValidSubscriberID.f⟩
def spec_IsValidSubscriberID.cx : Cx := { cx0 with con := look [(62, spec_l1In.con)], loop := look [] }
def spec_IsValidSubscriberRecord.ps : List PK := [.val TUSIM true]
def spec_IsValidSubscriberRecord.rs : List RK := [⟨.bool, false, .own⟩]
def spec_IsValidSubscriberRecord.con : Con := ⟨spec_IsValidSubscriberRecord.ps, spec_IsValidSubscriberRecord.rs, spec_IsValidSubscriberRecord.f⟩
def spec_IsValidSubscriberRecord.cx : Cx := { cx0 with con := look [(61, spec_IsValidKey.con), (62, spec_l1In.con), (125, spec_IsValidSubscriberID.con)], loop := look [] }
def spec_IsValidSubscription.ps : List PK := [.val TSubscription true]
def spec_IsValidSubscription.rs : List RK := [⟨.bool, false, .own⟩]
def spec_IsValidSubscription.con : Con := ⟨spec_IsValidSubscription.ps, spec_IsValidSubscription.rs, spec_IsValidSubscription.f⟩
def spec_IsValidSubscription.cx : Cx := { cx0 with con := look [(62, spec_l1In.con)], loop := look [(2, ⟨⟨[(1, false, [.ptr 512 0]), (3, false, [.dat (.int .i64) []])], [(512, .box [.dat TSubscription [0]])]⟩, [(.exit 0, ⟨[(1, false, [.ptr 512 0])], [(512, .box [.dat TSubscription [0]])]⟩), (.ret, ⟨[(2, false, [.dat .bool []])], []⟩)]⟩)] }
def spec_IsValidPaging.ps : List PK := [.val TQuota true]
def spec_IsValidPaging.rs : List RK := [⟨.bool, false, .own⟩]
def spec_IsValidPaging.con : Con := ⟨spec_IsValidPaging.ps, spec_IsValidPaging.rs, spec_IsValidPaging.f⟩
def spec_IsValidPaging.cx : Cx := { cx0 with con := look [(62, spec_l1In.con)], loop := look [] }
def spec_IsValidQuota.ps : List PK := [.val TQuota true]
def spec_IsValidQuota.rs : List RK := [⟨.bool, false, .own⟩]
def spec_IsValidQuota.con : Con := ⟨spec_IsValidQuota.ps, spec_IsValidQuota.rs, spec_IsValidQuota.f⟩
def spec_IsValidQuota.cx : Cx := { cx0 with con := look [(62, spec_l1In.con)], loop := look [] }
def spec_IsValidSender.ps : List PK := [.val TSendWindow true]
def spec_IsValidSender.rs : List RK := [⟨.bool, false, .own⟩]
def spec_IsValidSender.con : Con := ⟨spec_IsValidSender.ps, spec_IsValidSender.rs, spec_IsValidSender.f⟩
def spec_IsValidSender.cx : Cx := { cx0 with con := look [(62, spec_l1In.con)], loop := look [(2, ⟨⟨[(1, false, [.ptr 512 0]), (3, false, [.dat (.int .i64) []])], [(512, .box [.dat TSendWindow [0]])]⟩, [(.exit 0, ⟨[(1, false, [.ptr 512 0])], [(512, .box [.dat TSendWindow [0]])]⟩), (.ret, ⟨[(2, false, [.dat .bool []])], []⟩)]⟩)] }
def spec_EqualBytes.ps : List PK := [.val (.sl (.int .u8)) false, .val (.sl (.int .u8)) false]
def spec_EqualBytes.rs : List RK := [⟨.bool, false, .own⟩]
def spec_EqualBytes.con : Con := ⟨spec_EqualBytes.ps, spec_EqualBytes.rs, spec_EqualBytes.f⟩
def spec_EqualBytes.cx : Cx := { cx0 with con := look [], loop := look [] }
def spec_l30Bytes.ps : List PK := [.val (.sl TNumberedPacket) false]
def spec_l30Bytes.rs : List RK := [⟨(.int .i64), false, .own⟩]
def spec_l30Bytes.con : Con := ⟨spec_l30Bytes.ps, spec_l30Bytes.rs, spec_l30Bytes.f⟩
def spec_l30Bytes.cx : Cx := { cx0 with con := look [], loop := look [(3, ⟨⟨[(0, false, [.dat (.sl TNumberedPacket) [0]]), (3, false, [.dat (.int .i64) []]), (4, false, [.dat (.int .i64) []])], []⟩, [(.exit 0, ⟨[(3, false, [.dat (.int .i64) []])], []⟩)]⟩)] }
def spec_RemainingQuota.ps : List PK := [.val TQuota true]
def spec_RemainingQuota.rs : List RK := [⟨(.int .i64), false, .own⟩]
def spec_RemainingQuota.con : Con := ⟨spec_RemainingQuota.ps, spec_RemainingQuota.rs, spec_RemainingQuota.f⟩
def spec_RemainingQuota.cx : Cx := { cx0 with con := look [(66, spec_IsValidQuota.con)], loop := look [] }
def spec_l30Stream.ps : List PK := [.val TSession true]
def spec_l30Stream.rs : List RK := [⟨.bool, false, .own⟩]
def spec_l30Stream.con : Con := ⟨spec_l30Stream.ps, spec_l30Stream.rs, spec_l30Stream.f⟩
def spec_l30Stream.cx : Cx := { cx0 with con := look [(126, spec_IsValidSender.con), (127, spec_EqualBytes.con), (128, spec_l30Bytes.con), (129, spec_RemainingQuota.con)], loop := look [(2, ⟨⟨[(1, false, [.ptr 512 0]), (3, false, [.dat (.int .i64) []])], [(512, .box [.dat TSession [0]])]⟩, [(.exit 0, ⟨[(1, false, [.ptr 512 0])], [(512, .box [.dat TSession [0]])]⟩), (.ret, ⟨[(2, false, [.dat .bool []])], []⟩)]⟩),
    (9, ⟨⟨[(1, false, [.ptr 512 0]), (4, false, [.dat (.int .i64) []])], [(512, .box [.dat TSession [0]])]⟩, [(.exit 2, ⟨[(1, false, [.ptr 512 0])], [(512, .box [.dat TSession [0]])]⟩), (.ret, ⟨[(2, false, [.dat .bool []])], []⟩)]⟩)] }
def spec_IsValidSession.ps : List PK := [.val TSession true]
def spec_IsValidSession.rs : List RK := [⟨.bool, false, .own⟩]
def spec_IsValidSession.con : Con := ⟨spec_IsValidSession.ps, spec_IsValidSession.rs, spec_IsValidSession.f⟩
def spec_IsValidSession.cx : Cx := { cx0 with con := look [(61, spec_IsValidKey.con), (62, spec_l1In.con), (63, spec_IsValidSubscriberRecord.con), (64, spec_IsValidSubscription.con), (65, spec_IsValidPaging.con), (66, spec_IsValidQuota.con), (67, spec_l30Stream.con)], loop := look [] }
def laws_toSubscriberRecord.ps : List PK := [.val TUSIM true]
def laws_toSubscriberRecord.rs : List RK := [⟨TUSIM, true, .own⟩]
def laws_toSubscriberRecord.con : Con := ⟨laws_toSubscriberRecord.ps, laws_toSubscriberRecord.rs, laws_toSubscriberRecord.f⟩
def laws_toSubscriberRecord.cx : Cx := { cx0 with con := look [(114, laws_toSubscriberID.con)], loop := look [] }
def laws_toIntS.ps : List PK := [.val (.sl (.int .i64)) false]
def laws_toIntS.rs : List RK := [⟨(.sl (.int .i64)), false, .own⟩]
def laws_toIntS.con : Con := ⟨laws_toIntS.ps, laws_toIntS.rs, laws_toIntS.f⟩
def laws_toIntS.cx : Cx := { cx0 with con := look [], loop := look [(3, ⟨⟨[(0, false, [.dat (.sl (.int .i64)) [0]]), (3, false, [.own 1279]), (4, false, [.dat (.int .i64) []])], [(1279, .arr (.int .i64) true [])]⟩, [(.exit 0, ⟨[(3, false, [.own 1279])], [(1279, .arr (.int .i64) true [])]⟩)]⟩)] }
def laws_toSubscription.ps : List PK := [.val TSubscription true]
def laws_toSubscription.rs : List RK := [⟨TSubscription, true, .own⟩]
def laws_toSubscription.con : Con := ⟨laws_toSubscription.ps, laws_toSubscription.rs, laws_toSubscription.f⟩
def laws_toSubscription.cx : Cx := { cx0 with con := look [(130, laws_toIntS.con)], loop := look [] }
def laws_toAuthVector.ps : List PK := [.val TAuthVector true]
def laws_toAuthVector.rs : List RK := [⟨TAuthVector, true, .own⟩]
def laws_toAuthVector.con : Con := ⟨laws_toAuthVector.ps, laws_toAuthVector.rs, laws_toAuthVector.f⟩
def laws_toAuthVector.cx : Cx := { cx0 with con := look [], loop := look [] }
def laws_toPagingState.ps : List PK := [.val TQuota true]
def laws_toPagingState.rs : List RK := [⟨TQuota, true, .own⟩]
def laws_toPagingState.con : Con := ⟨laws_toPagingState.ps, laws_toPagingState.rs, laws_toPagingState.f⟩
def laws_toPagingState.cx : Cx := { cx0 with con := look [], loop := look [] }
def laws_toSendWindow.ps : List PK := [.val TSendWindow true]
def laws_toSendWindow.rs : List RK := [⟨TSendWindow, true, .own⟩]
def laws_toSendWindow.con : Con := ⟨laws_toSendWindow.ps, laws_toSendWindow.rs, laws_toSendWindow.f⟩
def laws_toSendWindow.cx : Cx := { cx0 with con := look [(115, laws_toNumberedPacketS.con)], loop := look [] }
def laws_toQuota.ps : List PK := [.val TQuota true]
def laws_toQuota.rs : List RK := [⟨TQuota, true, .own⟩]
def laws_toQuota.con : Con := ⟨laws_toQuota.ps, laws_toQuota.rs, laws_toQuota.f⟩
def laws_toQuota.cx : Cx := { cx0 with con := look [], loop := look [] }
def laws_toSession.ps : List PK := [.val TSession true]
def laws_toSession.rs : List RK := [⟨TSession, true, .own⟩]
def laws_toSession.con : Con := ⟨laws_toSession.ps, laws_toSession.rs, laws_toSession.f⟩
def laws_toSession.cx : Cx := { cx0 with con := look [(68, laws_toSubscriberRecord.con), (69, laws_toSubscription.con), (70, laws_toAuthVector.con), (71, laws_toPagingState.con), (72, laws_toPayloadS.con), (73, laws_toSendWindow.con), (74, laws_toQuota.con)], loop := look [] }
def impl_InRange.ps : List PK := [.val (.int .i64) false, .val (.int .i64) false, .val (.int .i64) false]
def impl_InRange.rs : List RK := [⟨.bool, false, .own⟩]
def impl_InRange.con : Con := ⟨impl_InRange.ps, impl_InRange.rs, impl_InRange.f⟩
def impl_InRange.cx : Cx := { cx0 with con := look [], loop := look [] }
def impl_IsValidKey.ps : List PK := [.val (.int .i64) false]
def impl_IsValidKey.rs : List RK := [⟨.bool, false, .own⟩]
def impl_IsValidKey.con : Con := ⟨impl_IsValidKey.ps, impl_IsValidKey.rs, impl_IsValidKey.f⟩
def impl_IsValidKey.cx : Cx := { cx0 with con := look [(81, impl_InRange.con)], loop := look [] }
def impl_IsValidSubscriberID.ps : List PK := [.val TSubscriberID true]
def impl_IsValidSubscriberID.rs : List RK := [⟨.bool, false, .own⟩]
def impl_IsValidSubscriberID.con : Con := ⟨impl_IsValidSubscriberID.ps, impl_IsValidSubscriberID.rs, impl_IsValidSubscriberID.f⟩
def impl_IsValidSubscriberID.cx : Cx := { cx0 with con := look [(81, impl_InRange.con)], loop := look [] }
def impl_IsValidSubscriberRecord.ps : List PK := [.val TUSIM true]
def impl_IsValidSubscriberRecord.rs : List RK := [⟨.bool, false, .own⟩]
def impl_IsValidSubscriberRecord.con : Con := ⟨impl_IsValidSubscriberRecord.ps, impl_IsValidSubscriberRecord.rs, impl_IsValidSubscriberRecord.f⟩
def impl_IsValidSubscriberRecord.cx : Cx := { cx0 with con := look [(80, impl_IsValidKey.con), (81, impl_InRange.con), (132, impl_IsValidSubscriberID.con)], loop := look [] }
def impl_isAscending.ps : List PK := [.val (.sl (.int .i64)) false]
def impl_isAscending.rs : List RK := [⟨.bool, false, .own⟩]
def impl_isAscending.con : Con := ⟨impl_isAscending.ps, impl_isAscending.rs, impl_isAscending.f⟩
def impl_isAscending.cx : Cx := { cx0 with con := look [], loop := look [(2, ⟨⟨[(0, false, [.dat (.sl (.int .i64)) [0]]), (3, false, [.dat (.int .i64) []])], []⟩, [(.exit 0, ⟨[], []⟩), (.ret, ⟨[(2, false, [.dat .bool []])], []⟩)]⟩)] }
def impl_IsValidSubscription.ps : List PK := [.val TSubscription true]
def impl_IsValidSubscription.rs : List RK := [⟨.bool, false, .own⟩]
def impl_IsValidSubscription.con : Con := ⟨impl_IsValidSubscription.ps, impl_IsValidSubscription.rs, impl_IsValidSubscription.f⟩
def impl_IsValidSubscription.cx : Cx := { cx0 with con := look [(81, impl_InRange.con), (133, impl_isAscending.con)], loop := look [(4, ⟨⟨[(1, false, [.ptr 512 0]), (22, false, [.dat (.sl (.int .i64)) [0]]), (23, false, [.dat (.int .i64) []]), (24, false, [.dat (.int .i64) []])], [(512, .box [.dat TSubscription [0]])]⟩, [(.exit 0, ⟨[(1, false, [.ptr 512 0])], [(512, .box [.dat TSubscription [0]])]⟩), (.ret, ⟨[(2, false, [.dat .bool []])], []⟩)]⟩)] }
def impl_IsValidPaging.ps : List PK := [.val TQuota true]
def impl_IsValidPaging.rs : List RK := [⟨.bool, false, .own⟩]
def impl_IsValidPaging.con : Con := ⟨impl_IsValidPaging.ps, impl_IsValidPaging.rs, impl_IsValidPaging.f⟩
def impl_IsValidPaging.cx : Cx := { cx0 with con := look [(81, impl_InRange.con)], loop := look [] }
def impl_IsValidSender.ps : List PK := [.val TSendWindow true]
def impl_IsValidSender.rs : List RK := [⟨.bool, false, .own⟩]
def impl_IsValidSender.con : Con := ⟨impl_IsValidSender.ps, impl_IsValidSender.rs, impl_IsValidSender.f⟩
def impl_IsValidSender.cx : Cx := { cx0 with con := look [(81, impl_InRange.con)], loop := look [(7, ⟨⟨[(3, false, [.dat (.int .i64) []]), (25, false, [.dat (.sl TNumberedPacket) [0]]), (26, false, [.dat (.int .i64) []]), (27, false, [.dat (.int .i64) []])], []⟩, [(.exit 0, ⟨[], []⟩), (.ret, ⟨[(2, false, [.dat .bool []])], []⟩)]⟩)] }
def impl_IsValidQuota.ps : List PK := [.val TQuota true]
def impl_IsValidQuota.rs : List RK := [⟨.bool, false, .own⟩]
def impl_IsValidQuota.con : Con := ⟨impl_IsValidQuota.ps, impl_IsValidQuota.rs, impl_IsValidQuota.f⟩
def impl_IsValidQuota.cx : Cx := { cx0 with con := look [], loop := look [] }
def impl_fitPayload.ps : List PK := [.val (.sl (.sl (.int .u8))) false]
def impl_fitPayload.rs : List RK := [⟨.bool, false, .own⟩]
def impl_fitPayload.con : Con := ⟨impl_fitPayload.ps, impl_fitPayload.rs, impl_fitPayload.f⟩
def impl_fitPayload.cx : Cx := { cx0 with con := look [], loop := look [(2, ⟨⟨[(5, false, [.dat (.sl (.sl (.int .u8))) [0]]), (6, false, [.dat (.int .i64) []]), (7, false, [.dat (.int .i64) []])], []⟩, [(.exit 0, ⟨[], []⟩), (.ret, ⟨[(2, false, [.dat .bool []])], []⟩)]⟩)] }
def bytes_Equal.ps : List PK := [.val (.sl (.int .u8)) false, .val (.sl (.int .u8)) false]
def bytes_Equal.rs : List RK := [⟨.bool, false, .own⟩]
def bytes_Equal.con : Con := ⟨bytes_Equal.ps, bytes_Equal.rs, bytes_Equal.f⟩
def bytes_Equal.cx : Cx := { cx0 with con := look [], loop := look [] }
def impl_EqualBytes.ps : List PK := [.val (.sl (.int .u8)) false, .val (.sl (.int .u8)) false]
def impl_EqualBytes.rs : List RK := [⟨.bool, false, .own⟩]
def impl_EqualBytes.con : Con := ⟨impl_EqualBytes.ps, impl_EqualBytes.rs, impl_EqualBytes.f⟩
def impl_EqualBytes.cx : Cx := { cx0 with con := look [(134, bytes_Equal.con)], loop := look [] }
def impl_numberedBytes.ps : List PK := [.val (.sl TNumberedPacket) false]
def impl_numberedBytes.rs : List RK := [⟨(.int .i64), false, .own⟩]
def impl_numberedBytes.con : Con := ⟨impl_numberedBytes.ps, impl_numberedBytes.rs, impl_numberedBytes.f⟩
def impl_numberedBytes.cx : Cx := { cx0 with con := look [], loop := look [(3, ⟨⟨[(3, false, [.dat (.int .i64) []]), (6, false, [.dat (.sl TNumberedPacket) [0]]), (7, false, [.dat (.int .i64) []]), (8, false, [.dat (.int .i64) []])], []⟩, [(.exit 0, ⟨[(3, false, [.dat (.int .i64) []])], []⟩)]⟩)] }
def impl_OutstandingBytes.ps : List PK := [.val TSession true]
def impl_OutstandingBytes.rs : List RK := [⟨(.int .i64), false, .own⟩]
def impl_OutstandingBytes.con : Con := ⟨impl_OutstandingBytes.ps, impl_OutstandingBytes.rs, impl_OutstandingBytes.f⟩
def impl_OutstandingBytes.cx : Cx := { cx0 with con := look [(135, impl_numberedBytes.con)], loop := look [] }
def impl_RemainingQuota.ps : List PK := [.val TQuota true]
def impl_RemainingQuota.rs : List RK := [⟨(.int .i64), false, .own⟩]
def impl_RemainingQuota.con : Con := ⟨impl_RemainingQuota.ps, impl_RemainingQuota.rs, impl_RemainingQuota.f⟩
def impl_RemainingQuota.cx : Cx := { cx0 with con := look [(79, impl_IsValidQuota.con)], loop := look [] }
def impl_IsValidSession.ps : List PK := [.val TSession true]
def impl_IsValidSession.rs : List RK := [⟨.bool, false, .own⟩]
def impl_IsValidSession.con : Con := ⟨impl_IsValidSession.ps, impl_IsValidSession.rs, impl_IsValidSession.f⟩
def impl_IsValidSession.cx : Cx := { cx0 with con := look [(75, impl_IsValidSubscriberRecord.con), (76, impl_IsValidSubscription.con), (77, impl_IsValidPaging.con), (78, impl_IsValidSender.con), (79, impl_IsValidQuota.con), (80, impl_IsValidKey.con), (81, impl_InRange.con), (82, impl_fitPayload.con), (83, impl_EqualBytes.con), (84, impl_OutstandingBytes.con), (85, impl_RemainingQuota.con)], loop := look [(14, ⟨⟨[(1, false, [.ptr 512 0]), (122, false, [.dat (.sl TNumberedPacket) [0]]), (123, false, [.dat (.int .i64) []]), (124, false, [.dat (.int .i64) []])], [(512, .box [.dat TSession [0]])]⟩, [(.exit 0, ⟨[(1, false, [.ptr 512 0])], [(512, .box [.dat TSession [0]])]⟩), (.ret, ⟨[(2, false, [.dat .bool []])], []⟩)]⟩)] }
def laws_eqSubscriberRecord.ps : List PK := [.val TUSIM true, .val TUSIM true]
def laws_eqSubscriberRecord.rs : List RK := [⟨.bool, false, .own⟩]
def laws_eqSubscriberRecord.con : Con := ⟨laws_eqSubscriberRecord.ps, laws_eqSubscriberRecord.rs, laws_eqSubscriberRecord.f⟩
def laws_eqSubscriberRecord.cx : Cx := { cx0 with con := look [(119, laws_eqSubscriberID.con)], loop := look [] }
def laws_eqIntS.ps : List PK := [.val (.sl (.int .i64)) false, .val (.sl (.int .i64)) false]
def laws_eqIntS.rs : List RK := [⟨.bool, false, .own⟩]
def laws_eqIntS.con : Con := ⟨laws_eqIntS.ps, laws_eqIntS.rs, laws_eqIntS.f⟩
def laws_eqIntS.cx : Cx := { cx0 with con := look [], loop := look [(4, ⟨⟨[(0, false, [.dat (.sl (.int .i64)) [0]]), (1, false, [.dat (.sl (.int .i64)) [0]]), (5, false, [.dat (.int .i64) []])], []⟩, [(.exit 0, ⟨[], []⟩), (.ret, ⟨[(4, false, [.dat .bool []])], []⟩)]⟩)] }
def laws_eqSubscription.ps : List PK := [.val TSubscription true, .val TSubscription true]
def laws_eqSubscription.rs : List RK := [⟨.bool, false, .own⟩]
def laws_eqSubscription.con : Con := ⟨laws_eqSubscription.ps, laws_eqSubscription.rs, laws_eqSubscription.f⟩
def laws_eqSubscription.cx : Cx := { cx0 with con := look [(136, laws_eqIntS.con)], loop := look [] }
def laws_eqPagingState.ps : List PK := [.val TQuota true, .val TQuota true]
def laws_eqPagingState.rs : List RK := [⟨.bool, false, .own⟩]
def laws_eqPagingState.con : Con := ⟨laws_eqPagingState.ps, laws_eqPagingState.rs, laws_eqPagingState.f⟩
def laws_eqPagingState.cx : Cx := { cx0 with con := look [], loop := look [] }
def laws_eqSendWindow.ps : List PK := [.val TSendWindow true, .val TSendWindow true]
def laws_eqSendWindow.rs : List RK := [⟨.bool, false, .own⟩]
def laws_eqSendWindow.con : Con := ⟨laws_eqSendWindow.ps, laws_eqSendWindow.rs, laws_eqSendWindow.f⟩
def laws_eqSendWindow.cx : Cx := { cx0 with con := look [(120, laws_eqNumberedPacketS.con)], loop := look [] }
def laws_eqQuota.ps : List PK := [.val TQuota true, .val TQuota true]
def laws_eqQuota.rs : List RK := [⟨.bool, false, .own⟩]
def laws_eqQuota.con : Con := ⟨laws_eqQuota.ps, laws_eqQuota.rs, laws_eqQuota.f⟩
def laws_eqQuota.cx : Cx := { cx0 with con := look [], loop := look [] }
def laws_eqSession.ps : List PK := [.val TSession true, .val TSession true]
def laws_eqSession.rs : List RK := [⟨.bool, false, .own⟩]
def laws_eqSession.con : Con := ⟨laws_eqSession.ps, laws_eqSession.rs, laws_eqSession.f⟩
def laws_eqSession.cx : Cx := { cx0 with con := look [(86, laws_eqSubscriberRecord.con), (87, laws_eqSubscription.con), (88, laws_eqAuthVector.con), (89, laws_eqPagingState.con), (90, laws_eqPayloadS.con), (91, laws_eqSendWindow.con), (92, laws_eqQuota.con)], loop := look [] }
def laws_FnExactIsValidSession.ps : List PK := [.val TSession true]
def laws_FnExactIsValidSession.rs : List RK := [⟨.bool, false, .own⟩]
def laws_FnExactIsValidSession.con : Con := ⟨laws_FnExactIsValidSession.ps, laws_FnExactIsValidSession.rs, laws_FnExactIsValidSession.f⟩
def laws_FnExactIsValidSession.cx : Cx := { cx0 with con := look [(19, laws_szSession.con), (20, spec_IsValidSession.con), (21, laws_toSession.con), (22, impl_IsValidSession.con), (23, laws_eqSession.con)], loop := look [] }
def spec_l30Plan.ps : List PK := [.val TSubscription true]
def spec_l30Plan.rs : List RK := [⟨TSubscription, true, .own⟩]
def spec_l30Plan.con : Con := ⟨spec_l30Plan.ps, spec_l30Plan.rs, spec_l30Plan.f⟩
def spec_l30Plan.cx : Cx := { cx0 with con := look [], loop := look [] }
def spec_l24Sender.ps : List PK := [.val TSendWindow true]
def spec_l24Sender.rs : List RK := [⟨TSendWindow, true, .own⟩]
def spec_l24Sender.con : Con := ⟨spec_l24Sender.ps, spec_l24Sender.rs, spec_l24Sender.f⟩
def spec_l24Sender.cx : Cx := { cx0 with con := look [(154, spec_l24Sents.con)], loop := look [] }
def spec_l30Copy.ps : List PK := [.val TSession true]
def spec_l30Copy.rs : List RK := [⟨TSession, true, .own⟩]
def spec_l30Copy.con : Con := ⟨spec_l30Copy.ps, spec_l30Copy.rs, spec_l30Copy.f⟩
def spec_l30Copy.cx : Cx := { cx0 with con := look [(138, spec_l30Plan.con), (139, spec_l15Bodies.con), (140, spec_l24Sender.con)], loop := look [] }
def spec_l25Body.ps : List PK := [.val (.sl (.int .u8)) false]
def spec_l25Body.rs : List RK := [⟨(.sl (.int .u8)), true, .own⟩]
def spec_l25Body.con : Con := ⟨spec_l25Body.ps, spec_l25Body.rs, spec_l25Body.f⟩
def spec_l25Body.cx : Cx := { cx0 with con := look [], loop := look [] }
def spec_SubmitPacket.ps : List PK := [.val TSession true, .val (.sl (.int .u8)) false]
def spec_SubmitPacket.rs : List RK := [⟨TSession, true, .own⟩, ⟨.bool, false, .own⟩]
def spec_SubmitPacket.con : Con := ⟨spec_SubmitPacket.ps, spec_SubmitPacket.rs, spec_SubmitPacket.f⟩
def spec_SubmitPacket.cx : Cx := { cx0 with con := look [(93, spec_l30Copy.con), (94, spec_l25Body.con)], loop := look [] }
def impl_copyInts.ps : List PK := [.val (.sl (.int .i64)) false]
def impl_copyInts.rs : List RK := [⟨(.sl (.int .i64)), false, .own⟩]
def impl_copyInts.con : Con := ⟨impl_copyInts.ps, impl_copyInts.rs, impl_copyInts.f⟩
def impl_copyInts.cx : Cx := { cx0 with con := look [], loop := look [] }
def impl_copySubscription.ps : List PK := [.val TSubscription true]
def impl_copySubscription.rs : List RK := [⟨TSubscription, true, .own⟩]
def impl_copySubscription.con : Con := ⟨impl_copySubscription.ps, impl_copySubscription.rs, impl_copySubscription.f⟩
def impl_copySubscription.cx : Cx := { cx0 with con := look [(159, impl_copyInts.con)], loop := look [] }
def impl_copySender.ps : List PK := [.val TSendWindow true]
def impl_copySender.rs : List RK := [⟨TSendWindow, true, .own⟩]
def impl_copySender.con : Con := ⟨impl_copySender.ps, impl_copySender.rs, impl_copySender.f⟩
def impl_copySender.cx : Cx := { cx0 with con := look [(160, impl_copyNumbered.con)], loop := look [] }
def impl_copySession.ps : List PK := [.val TSession true]
def impl_copySession.rs : List RK := [⟨TSession, true, .own⟩]
def impl_copySession.con : Con := ⟨impl_copySession.ps, impl_copySession.rs, impl_copySession.f⟩
def impl_copySession.cx : Cx := { cx0 with con := look [(141, impl_copySubscription.con), (142, impl_copyPayloads.con), (143, impl_copySender.con)], loop := look [] }
def impl_SubmitPacket.ps : List PK := [.val TSession true, .val (.sl (.int .u8)) false]
def impl_SubmitPacket.rs : List RK := [⟨TSession, true, .own⟩, ⟨.bool, false, .own⟩]
def impl_SubmitPacket.con : Con := ⟨impl_SubmitPacket.ps, impl_SubmitPacket.rs, impl_SubmitPacket.f⟩
def impl_SubmitPacket.cx : Cx := { cx0 with con := look [(95, impl_copySession.con), (96, impl_copyBytes.con)], loop := look [] }
def laws_markIntS.ps : List PK := [.lend (.sl (.int .i64)) false, .val (.int .i64) false]
def laws_markIntS.rs : List RK := [⟨(.int .i64), false, .own⟩]
def laws_markIntS.con : Con := ⟨laws_markIntS.ps, laws_markIntS.rs, laws_markIntS.f⟩
def laws_markIntS.cx : Cx := { cx0 with con := look [], loop := look [(2, ⟨⟨[(0, false, [.own 257]), (1, false, [.dat (.int .i64) []]), (5, false, [.dat (.int .i64) []])], [(257, .arr (.int .i64) true [])]⟩, [(.exit 0, ⟨[(0, false, [.own 257]), (1, false, [.dat (.int .i64) []])], [(257, .arr (.int .i64) true [])]⟩)]⟩)] }
def laws_markSubscription.ps : List PK := [.lend TSubscription true, .val (.int .i64) false]
def laws_markSubscription.rs : List RK := [⟨(.int .i64), false, .own⟩]
def laws_markSubscription.con : Con := ⟨laws_markSubscription.ps, laws_markSubscription.rs, laws_markSubscription.f⟩
def laws_markSubscription.cx : Cx := { cx0 with con := look [(144, laws_markIntS.con)], loop := look [] }
def laws_markSendWindow.ps : List PK := [.lend TSendWindow true, .val (.int .i64) false]
def laws_markSendWindow.rs : List RK := [⟨(.int .i64), false, .own⟩]
def laws_markSendWindow.con : Con := ⟨laws_markSendWindow.ps, laws_markSendWindow.rs, laws_markSendWindow.f⟩
def laws_markSendWindow.cx : Cx := { cx0 with con := look [(121, laws_markNumberedPacketS.con)], loop := look [] }
def laws_markSession.ps : List PK := [.lend TSession true, .val (.int .i64) false]
def laws_markSession.rs : List RK := [⟨(.int .i64), false, .own⟩]
def laws_markSession.con : Con := ⟨laws_markSession.ps, laws_markSession.rs, laws_markSession.f⟩
def laws_markSession.cx : Cx := { cx0 with con := look [(97, laws_markSubscription.con), (98, laws_markPayloadS.con), (99, laws_markSendWindow.con)], loop := look [] }
def laws_heldIntS.ps : List PK := [.val (.sl (.int .i64)) false, .val (.int .i64) false]
def laws_heldIntS.rs : List RK := [⟨(.int .i64), false, .own⟩]
def laws_heldIntS.con : Con := ⟨laws_heldIntS.ps, laws_heldIntS.rs, laws_heldIntS.f⟩
def laws_heldIntS.cx : Cx := { cx0 with con := look [], loop := look [(2, ⟨⟨[(0, false, [.dat (.sl (.int .i64)) [0]]), (1, false, [.dat (.int .i64) []]), (5, false, [.dat (.int .i64) []])], []⟩, [(.exit 0, ⟨[(1, false, [.dat (.int .i64) []])], []⟩), (.ret, ⟨[(4, false, [.dat (.int .i64) []])], []⟩)]⟩)] }
def laws_heldSubscription.ps : List PK := [.val TSubscription true, .val (.int .i64) false]
def laws_heldSubscription.rs : List RK := [⟨(.int .i64), false, .own⟩]
def laws_heldSubscription.con : Con := ⟨laws_heldSubscription.ps, laws_heldSubscription.rs, laws_heldSubscription.f⟩
def laws_heldSubscription.cx : Cx := { cx0 with con := look [(145, laws_heldIntS.con)], loop := look [] }
def laws_heldSendWindow.ps : List PK := [.val TSendWindow true, .val (.int .i64) false]
def laws_heldSendWindow.rs : List RK := [⟨(.int .i64), false, .own⟩]
def laws_heldSendWindow.con : Con := ⟨laws_heldSendWindow.ps, laws_heldSendWindow.rs, laws_heldSendWindow.f⟩
def laws_heldSendWindow.cx : Cx := { cx0 with con := look [(146, laws_heldNumberedPacketS.con)], loop := look [] }
def laws_heldSession.ps : List PK := [.val TSession true, .val (.int .i64) false]
def laws_heldSession.rs : List RK := [⟨(.int .i64), false, .own⟩]
def laws_heldSession.con : Con := ⟨laws_heldSession.ps, laws_heldSession.rs, laws_heldSession.f⟩
def laws_heldSession.cx : Cx := { cx0 with con := look [(100, laws_heldSubscription.con), (101, laws_heldPayloadS.con), (102, laws_heldSendWindow.con)], loop := look [] }
def laws_FnExactSubmitPacket.ps : List PK := [.val TSession true, .val (.sl (.int .u8)) false]
def laws_FnExactSubmitPacket.rs : List RK := [⟨.bool, false, .own⟩]
def laws_FnExactSubmitPacket.con : Con := ⟨laws_FnExactSubmitPacket.ps, laws_FnExactSubmitPacket.rs, laws_FnExactSubmitPacket.f⟩
def laws_FnExactSubmitPacket.cx : Cx := { cx0 with con := look [(19, laws_szSession.con), (21, laws_toSession.con), (23, laws_eqSession.con), (24, spec_SubmitPacket.con), (25, laws_toByteS.con), (26, impl_SubmitPacket.con), (27, laws_eqByteS.con), (28, laws_markSession.con), (29, laws_markByteS.con), (30, laws_heldSession.con)], loop := look [] }
def spec_Failover.ps : List PK := [.val TSession true]
def spec_Failover.rs : List RK := [⟨TSession, true, .own⟩]
def spec_Failover.con : Con := ⟨spec_Failover.ps, spec_Failover.rs, spec_Failover.f⟩
def spec_Failover.cx : Cx := { cx0 with con := look [(93, spec_l30Copy.con)], loop := look [] }
def impl_Failover.ps : List PK := [.val TSession true]
def impl_Failover.rs : List RK := [⟨TSession, true, .own⟩]
def impl_Failover.con : Con := ⟨impl_Failover.ps, impl_Failover.rs, impl_Failover.f⟩
def impl_Failover.cx : Cx := { cx0 with con := look [(95, impl_copySession.con)], loop := look [] }
def laws_FnExactFailover.ps : List PK := [.val TSession true]
def laws_FnExactFailover.rs : List RK := [⟨.bool, false, .own⟩]
def laws_FnExactFailover.con : Con := ⟨laws_FnExactFailover.ps, laws_FnExactFailover.rs, laws_FnExactFailover.f⟩
def laws_FnExactFailover.cx : Cx := { cx0 with con := look [(19, laws_szSession.con), (21, laws_toSession.con), (23, laws_eqSession.con), (28, laws_markSession.con), (30, laws_heldSession.con), (31, spec_Failover.con), (32, impl_Failover.con)], loop := look [] }
def spec_Mod.ps : List PK := [.val (.int .i64) false, .val (.int .i64) false]
def spec_Mod.rs : List RK := [⟨(.int .i64), false, .own⟩]
def spec_Mod.con : Con := ⟨spec_Mod.ps, spec_Mod.rs, spec_Mod.f⟩
def spec_Mod.cx : Cx := { cx0 with con := look [(62, spec_l1In.con)], loop := look [] }
def spec_Hash.ps : List PK := [.val (.sl (.int .i64)) false]
def spec_Hash.rs : List RK := [⟨(.int .i64), false, .own⟩]
def spec_Hash.con : Con := ⟨spec_Hash.ps, spec_Hash.rs, spec_Hash.f⟩
def spec_Hash.cx : Cx := { cx0 with con := look [(185, spec_Mod.con)], loop := look [(3, ⟨⟨[(0, false, [.dat (.sl (.int .i64)) [0]]), (3, false, [.dat (.int .i64) []]), (4, false, [.dat (.int .i64) []])], []⟩, [(.exit 0, ⟨[(3, false, [.dat (.int .i64) []])], []⟩)]⟩)] }
def spec_KeyedHash.ps : List PK := [.val (.int .i64) false, .val (.sl (.int .i64)) false]
def spec_KeyedHash.rs : List RK := [⟨(.int .i64), false, .own⟩]
def spec_KeyedHash.con : Con := ⟨spec_KeyedHash.ps, spec_KeyedHash.rs, spec_KeyedHash.f⟩
def spec_KeyedHash.cx : Cx := { cx0 with con := look [(181, spec_Hash.con)], loop := look [] }
def spec_Max.ps : List PK := [.val (.int .i64) false, .val (.int .i64) false]
def spec_Max.rs : List RK := [⟨(.int .i64), false, .own⟩]
def spec_Max.con : Con := ⟨spec_Max.ps, spec_Max.rs, spec_Max.f⟩
def spec_Max.cx : Cx := { cx0 with con := look [], loop := look [] }
def spec_DeriveKey.ps : List PK := [.val (.int .i64) false, .val (.int .i64) false]
def spec_DeriveKey.rs : List RK := [⟨(.int .i64), false, .own⟩]
def spec_DeriveKey.con : Con := ⟨spec_DeriveKey.ps, spec_DeriveKey.rs, spec_DeriveKey.f⟩
def spec_DeriveKey.cx : Cx := { cx0 with con := look [(170, spec_KeyedHash.con), (183, spec_Max.con)], loop := look [] }
def spec_KeyForPath.ps : List PK := [.val (.int .i64) false, .val (.sl (.int .i64)) true]
def spec_KeyForPath.rs : List RK := [⟨(.int .i64), false, .own⟩]
def spec_KeyForPath.con : Con := ⟨spec_KeyForPath.ps, spec_KeyForPath.rs, spec_KeyForPath.f⟩
def spec_KeyForPath.cx : Cx := { cx0 with con := look [(176, spec_DeriveKey.con)], loop := look [(3, ⟨⟨[(3, false, [.ptr 1024 0]), (5, false, [.dat (.int .i64) []]), (6, false, [.dat (.int .i64) []])], [(1024, .box [.dat (.sl (.int .i64)) [0]])]⟩, [(.exit 0, ⟨[(5, false, [.dat (.int .i64) []])], []⟩)]⟩)] }
def spec_SignalingKeyPath.ps : List PK := []
def spec_SignalingKeyPath.rs : List RK := [⟨(.sl (.int .i64)), true, .own⟩]
def spec_SignalingKeyPath.con : Con := ⟨spec_SignalingKeyPath.ps, spec_SignalingKeyPath.rs, spec_SignalingKeyPath.f⟩
def spec_SignalingKeyPath.cx : Cx := { cx0 with con := look [], loop := look [] }
def spec_SignalMAC.ps : List PK := [.val (.int .i64) false, .val TSignal true]
def spec_SignalMAC.rs : List RK := [⟨(.int .i64), false, .own⟩]
def spec_SignalMAC.con : Con := ⟨spec_SignalMAC.ps, spec_SignalMAC.rs, spec_SignalMAC.f⟩
def spec_SignalMAC.cx : Cx := { cx0 with con := look [(170, spec_KeyedHash.con), (171, spec_KeyForPath.con), (172, spec_SignalingKeyPath.con)], loop := look [] }
def spec_SignSignal.ps : List PK := [.val (.int .i64) false, .val TSignal true]
def spec_SignSignal.rs : List RK := [⟨TSignal, true, .own⟩]
def spec_SignSignal.con : Con := ⟨spec_SignSignal.ps, spec_SignSignal.rs, spec_SignSignal.f⟩
def spec_SignSignal.cx : Cx := { cx0 with con := look [(161, spec_SignalMAC.con)], loop := look [] }
def spec_l29Path.ps : List PK := [.val TDevice true]
def spec_l29Path.rs : List RK := [⟨TSignal, true, .own⟩]
def spec_l29Path.con : Con := ⟨spec_l29Path.ps, spec_l29Path.rs, spec_l29Path.f⟩
def spec_l29Path.cx : Cx := { cx0 with con := look [(147, spec_SignSignal.con)], loop := look [] }
def spec_TickDevice.ps : List PK := [.val TDevice true]
def spec_TickDevice.rs : List RK := [⟨TDeviceResult, true, .own⟩]
def spec_TickDevice.con : Con := ⟨spec_TickDevice.ps, spec_TickDevice.rs, spec_TickDevice.f⟩
def spec_TickDevice.cx : Cx := { cx0 with con := look [(44, spec_l29Copy.con), (45, spec_l29Send.con), (46, spec_l29Attach.con), (103, spec_l29Path.con)], loop := look [] }
def impl_Mod.ps : List PK := [.val (.int .i64) false, .val (.int .i64) false]
def impl_Mod.rs : List RK := [⟨(.int .i64), false, .own⟩]
def impl_Mod.con : Con := ⟨impl_Mod.ps, impl_Mod.rs, impl_Mod.f⟩
def impl_Mod.cx : Cx := { cx0 with con := look [(81, impl_InRange.con)], loop := look [] }
def impl_hashStep.ps : List PK := [.val (.int .i64) false, .val (.int .i64) false]
def impl_hashStep.rs : List RK := [⟨(.int .i64), false, .own⟩]
def impl_hashStep.con : Con := ⟨impl_hashStep.ps, impl_hashStep.rs, impl_hashStep.f⟩
def impl_hashStep.cx : Cx := { cx0 with con := look [(186, impl_Mod.con)], loop := look [] }
def impl_KeyedHash.ps : List PK := [.val (.int .i64) false, .val (.sl (.int .i64)) false]
def impl_KeyedHash.rs : List RK := [⟨(.int .i64), false, .own⟩]
def impl_KeyedHash.con : Con := ⟨impl_KeyedHash.ps, impl_KeyedHash.rs, impl_KeyedHash.f⟩
def impl_KeyedHash.cx : Cx := { cx0 with con := look [(182, impl_hashStep.con)], loop := look [(3, ⟨⟨[(0, false, [.dat (.int .i64) []]), (5, false, [.dat (.int .i64) []]), (10, false, [.dat (.sl (.int .i64)) [0]]), (11, false, [.dat (.int .i64) []]), (12, false, [.dat (.int .i64) []])], []⟩, [(.exit 0, ⟨[(0, false, [.dat (.int .i64) []]), (5, false, [.dat (.int .i64) []])], []⟩)]⟩)] }
def impl_DeriveKey.ps : List PK := [.val (.int .i64) false, .val (.int .i64) false]
def impl_DeriveKey.rs : List RK := [⟨(.int .i64), false, .own⟩]
def impl_DeriveKey.con : Con := ⟨impl_DeriveKey.ps, impl_DeriveKey.rs, impl_DeriveKey.f⟩
def impl_DeriveKey.cx : Cx := { cx0 with con := look [(174, impl_KeyedHash.con)], loop := look [] }
def impl_deriveSteps.ps : List PK := [.val (.int .i64) false, .val (.sl (.int .i64)) false]
def impl_deriveSteps.rs : List RK := [⟨(.int .i64), false, .own⟩]
def impl_deriveSteps.con : Con := ⟨impl_deriveSteps.ps, impl_deriveSteps.rs, impl_deriveSteps.f⟩
def impl_deriveSteps.cx : Cx := { cx0 with con := look [(166, impl_DeriveKey.con)], loop := look [(2, ⟨⟨[(0, false, [.dat (.int .i64) []]), (7, false, [.dat (.sl (.int .i64)) [0]]), (8, false, [.dat (.int .i64) []]), (9, false, [.dat (.int .i64) []])], []⟩, [(.exit 0, ⟨[(0, false, [.dat (.int .i64) []])], []⟩)]⟩)] }
def impl_KeyForPath.ps : List PK := [.val (.int .i64) false, .val (.sl (.int .i64)) true]
def impl_KeyForPath.rs : List RK := [⟨(.int .i64), false, .own⟩]
def impl_KeyForPath.con : Con := ⟨impl_KeyForPath.ps, impl_KeyForPath.rs, impl_KeyForPath.f⟩
def impl_KeyForPath.cx : Cx := { cx0 with con := look [(180, impl_deriveSteps.con)], loop := look [] }
def impl_SignalingKeyPath.ps : List PK := []
def impl_SignalingKeyPath.rs : List RK := [⟨(.sl (.int .i64)), true, .own⟩]
def impl_SignalingKeyPath.con : Con := ⟨impl_SignalingKeyPath.ps, impl_SignalingKeyPath.rs, impl_SignalingKeyPath.f⟩
def impl_SignalingKeyPath.cx : Cx := { cx0 with con := look [], loop := look [] }
def impl_SignalMAC.ps : List PK := [.val (.int .i64) false, .val TSignal true]
def impl_SignalMAC.rs : List RK := [⟨(.int .i64), false, .own⟩]
def impl_SignalMAC.con : Con := ⟨impl_SignalMAC.ps, impl_SignalMAC.rs, impl_SignalMAC.f⟩
def impl_SignalMAC.cx : Cx := { cx0 with con := look [(168, impl_KeyForPath.con), (173, impl_SignalingKeyPath.con), (174, impl_KeyedHash.con)], loop := look [] }
def impl_SignSignal.ps : List PK := [.val (.int .i64) false, .val TSignal true]
def impl_SignSignal.rs : List RK := [⟨TSignal, true, .own⟩]
def impl_SignSignal.con : Con := ⟨impl_SignSignal.ps, impl_SignSignal.rs, impl_SignSignal.f⟩
def impl_SignSignal.cx : Cx := { cx0 with con := look [(162, impl_SignalMAC.con)], loop := look [] }
def impl_pathUpdate.ps : List PK := [.val TDevice true]
def impl_pathUpdate.rs : List RK := [⟨TSignal, true, .own⟩]
def impl_pathUpdate.con : Con := ⟨impl_pathUpdate.ps, impl_pathUpdate.rs, impl_pathUpdate.f⟩
def impl_pathUpdate.cx : Cx := { cx0 with con := look [(148, impl_SignSignal.con)], loop := look [] }
def impl_TickDevice.ps : List PK := [.val TDevice true]
def impl_TickDevice.rs : List RK := [⟨TDeviceResult, true, .own⟩]
def impl_TickDevice.con : Con := ⟨impl_TickDevice.ps, impl_TickDevice.rs, impl_TickDevice.f⟩
def impl_TickDevice.cx : Cx := { cx0 with con := look [(49, impl_deviceResult.con), (50, impl_attachSignal.con), (104, impl_pathUpdate.con)], loop := look [] }
def laws_FnExactTickDevice.ps : List PK := [.val TDevice true]
def laws_FnExactTickDevice.rs : List RK := [⟨.bool, false, .own⟩]
def laws_FnExactTickDevice.con : Con := ⟨laws_FnExactTickDevice.ps, laws_FnExactTickDevice.rs, laws_FnExactTickDevice.f⟩
def laws_FnExactTickDevice.cx : Cx := { cx0 with con := look [(10, laws_szDevice.con), (12, laws_toDevice.con), (14, laws_eqDeviceResult.con), (15, laws_eqDevice.con), (16, laws_markDevice.con), (17, laws_markDeviceResult.con), (18, laws_heldDeviceResult.con), (33, spec_TickDevice.con), (34, impl_TickDevice.con)], loop := look [] }
def spec_l29Next.ps : List PK := [.take TDevice true]
def spec_l29Next.rs : List RK := [⟨TDeviceResult, true, .own⟩]
def spec_l29Next.con : Con := ⟨spec_l29Next.ps, spec_l29Next.rs, spec_l29Next.f⟩
def spec_l29Next.cx : Cx := { cx0 with con := look [(45, spec_l29Send.con), (103, spec_l29Path.con)], loop := look [] }
def spec_MoveDevice.ps : List PK := [.val TDevice true, .val (.int .i64) false]
def spec_MoveDevice.rs : List RK := [⟨TDeviceResult, true, .own⟩]
def spec_MoveDevice.con : Con := ⟨spec_MoveDevice.ps, spec_MoveDevice.rs, spec_MoveDevice.f⟩
def spec_MoveDevice.cx : Cx := { cx0 with con := look [(43, spec_l29None.con), (44, spec_l29Copy.con), (62, spec_l1In.con), (105, spec_l29Next.con)], loop := look [] }
def impl_announcePath.ps : List PK := [.val TDevice true]
def impl_announcePath.rs : List RK := [⟨TDeviceResult, true, .own⟩]
def impl_announcePath.con : Con := ⟨impl_announcePath.ps, impl_announcePath.rs, impl_announcePath.f⟩
def impl_announcePath.cx : Cx := { cx0 with con := look [(49, impl_deviceResult.con), (104, impl_pathUpdate.con)], loop := look [] }
def impl_MoveDevice.ps : List PK := [.val TDevice true, .val (.int .i64) false]
def impl_MoveDevice.rs : List RK := [⟨TDeviceResult, true, .own⟩]
def impl_MoveDevice.con : Con := ⟨impl_MoveDevice.ps, impl_MoveDevice.rs, impl_MoveDevice.f⟩
def impl_MoveDevice.cx : Cx := { cx0 with con := look [(49, impl_deviceResult.con), (81, impl_InRange.con), (106, impl_announcePath.con)], loop := look [] }
def laws_FnExactMoveDevice.ps : List PK := [.val TDevice true, .val (.int .i64) false]
def laws_FnExactMoveDevice.rs : List RK := [⟨.bool, false, .own⟩]
def laws_FnExactMoveDevice.con : Con := ⟨laws_FnExactMoveDevice.ps, laws_FnExactMoveDevice.rs, laws_FnExactMoveDevice.f⟩
def laws_FnExactMoveDevice.cx : Cx := { cx0 with con := look [(10, laws_szDevice.con), (12, laws_toDevice.con), (14, laws_eqDeviceResult.con), (15, laws_eqDevice.con), (16, laws_markDevice.con), (17, laws_markDeviceResult.con), (18, laws_heldDeviceResult.con), (35, spec_MoveDevice.con), (36, impl_MoveDevice.con)], loop := look [] }
def spec_Encrypt.ps : List PK := [.val (.int .i64) false, .val (.sl (.int .u8)) false]
def spec_Encrypt.rs : List RK := [⟨(.sl (.int .u8)), false, .own⟩]
def spec_Encrypt.con : Con := ⟨spec_Encrypt.ps, spec_Encrypt.rs, spec_Encrypt.f⟩
def spec_Encrypt.cx : Cx := { cx0 with con := look [(170, spec_KeyedHash.con)], loop := look [(3, ⟨⟨[(0, false, [.dat (.int .i64) []]), (1, false, [.dat (.sl (.int .u8)) [0]]), (5, false, [.own 1791]), (6, false, [.dat (.int .i64) []])], [(1791, .arr (.int .u8) true [])]⟩, [(.exit 0, ⟨[(5, false, [.own 1791])], [(1791, .arr (.int .u8) true [])]⟩)]⟩)] }
def spec_BytesToInts.ps : List PK := [.val (.sl (.int .u8)) false]
def spec_BytesToInts.rs : List RK := [⟨(.sl (.int .i64)), false, .own⟩]
def spec_BytesToInts.con : Con := ⟨spec_BytesToInts.ps, spec_BytesToInts.rs, spec_BytesToInts.f⟩
def spec_BytesToInts.cx : Cx := { cx0 with con := look [], loop := look [(3, ⟨⟨[(0, false, [.dat (.sl (.int .u8)) [0]]), (3, false, [.own 1279]), (4, false, [.dat (.int .i64) []])], [(1279, .arr (.int .i64) true [])]⟩, [(.exit 0, ⟨[(3, false, [.own 1279])], [(1279, .arr (.int .i64) true [])]⟩)]⟩)] }
def spec_l8Mac.ps : List PK := [.val (.int .i64) false, .val TSecuredMessage true]
def spec_l8Mac.rs : List RK := [⟨(.int .i64), false, .own⟩]
def spec_l8Mac.con : Con := ⟨spec_l8Mac.ps, spec_l8Mac.rs, spec_l8Mac.f⟩
def spec_l8Mac.cx : Cx := { cx0 with con := look [(170, spec_KeyedHash.con), (184, spec_BytesToInts.con)], loop := look [] }
def spec_Protect.ps : List PK := [.val (.int .i64) false, .val (.int .i64) false, .val (.int .i64) false, .val (.sl (.int .u8)) false]
def spec_Protect.rs : List RK := [⟨TSecuredMessage, true, .own⟩]
def spec_Protect.con : Con := ⟨spec_Protect.ps, spec_Protect.rs, spec_Protect.f⟩
def spec_Protect.cx : Cx := { cx0 with con := look [(175, spec_Encrypt.con), (176, spec_DeriveKey.con), (177, spec_l8Mac.con)], loop := look [] }
def spec_RadioKeyPath.ps : List PK := [.val (.int .i64) false]
def spec_RadioKeyPath.rs : List RK := [⟨(.sl (.int .i64)), true, .own⟩]
def spec_RadioKeyPath.con : Con := ⟨spec_RadioKeyPath.ps, spec_RadioKeyPath.rs, spec_RadioKeyPath.f⟩
def spec_RadioKeyPath.cx : Cx := { cx0 with con := look [], loop := look [] }
def spec_RadioKey.ps : List PK := [.val (.int .i64) false, .val (.int .i64) false]
def spec_RadioKey.rs : List RK := [⟨(.int .i64), false, .own⟩]
def spec_RadioKey.con : Con := ⟨spec_RadioKey.ps, spec_RadioKey.rs, spec_RadioKey.f⟩
def spec_RadioKey.cx : Cx := { cx0 with con := look [(171, spec_KeyForPath.con), (178, spec_RadioKeyPath.con)], loop := look [] }
def spec_SealRadio.ps : List PK := [.val (.int .i64) false, .val (.int .i64) false, .val (.int .i64) false, .val TNumberedPacket true]
def spec_SealRadio.rs : List RK := [⟨TRadioPacket, true, .own⟩]
def spec_SealRadio.con : Con := ⟨spec_SealRadio.ps, spec_SealRadio.rs, spec_SealRadio.f⟩
def spec_SealRadio.cx : Cx := { cx0 with con := look [(163, spec_Protect.con), (164, spec_RadioKey.con)], loop := look [] }
def spec_l31Seal.ps : List PK := [.val TSession true, .val TNumberedPacket true]
def spec_l31Seal.rs : List RK := [⟨TRadioPacket, true, .own⟩]
def spec_l31Seal.con : Con := ⟨spec_l31Seal.ps, spec_l31Seal.rs, spec_l31Seal.f⟩
def spec_l31Seal.cx : Cx := { cx0 with con := look [(149, spec_SealRadio.con)], loop := look [] }
def spec_Retransmit.ps : List PK := [.val TSession true]
def spec_Retransmit.rs : List RK := [⟨(.sl TRadioPacket), false, .own⟩]
def spec_Retransmit.con : Con := ⟨spec_Retransmit.ps, spec_Retransmit.rs, spec_Retransmit.f⟩
def spec_Retransmit.cx : Cx := { cx0 with con := look [(107, spec_l31Seal.con)], loop := look [(3, ⟨⟨[(1, false, [.ptr 512 0]), (3, false, [.own 1279]), (4, false, [.dat (.int .i64) []])], [(512, .box [.dat TSession [0]]), (1279, .arr TRadioPacket true [])]⟩, [(.exit 0, ⟨[(3, false, [.own 1279])], [(1279, .arr TRadioPacket true [])]⟩)]⟩)] }
def impl_Min.ps : List PK := [.val (.int .i64) false, .val (.int .i64) false]
def impl_Min.rs : List RK := [⟨(.int .i64), false, .own⟩]
def impl_Min.con : Con := ⟨impl_Min.ps, impl_Min.rs, impl_Min.f⟩
def impl_Min.cx : Cx := { cx0 with con := look [], loop := look [] }
def impl_Encrypt.ps : List PK := [.val (.int .i64) false, .val (.sl (.int .u8)) false]
def impl_Encrypt.rs : List RK := [⟨(.sl (.int .u8)), false, .own⟩]
def impl_Encrypt.con : Con := ⟨impl_Encrypt.ps, impl_Encrypt.rs, impl_Encrypt.f⟩
def impl_Encrypt.cx : Cx := { cx0 with con := look [(96, impl_copyBytes.con), (174, impl_KeyedHash.con)], loop := look [(3, ⟨⟨[(0, false, [.dat (.int .i64) []]), (5, false, [.own 1791]), (10, false, [.dat (.int .i64) []]), (11, false, [.dat (.int .i64) []])], [(1791, .arr (.int .u8) true [])]⟩, [(.exit 0, ⟨[(5, false, [.own 1791])], [(1791, .arr (.int .u8) true [])]⟩)]⟩)] }
def impl_BytesToInts.ps : List PK := [.val (.sl (.int .u8)) false]
def impl_BytesToInts.rs : List RK := [⟨(.sl (.int .i64)), false, .own⟩]
def impl_BytesToInts.con : Con := ⟨impl_BytesToInts.ps, impl_BytesToInts.rs, impl_BytesToInts.f⟩
def impl_BytesToInts.cx : Cx := { cx0 with con := look [], loop := look [(4, ⟨⟨[(3, false, [.own 1279]), (15, false, [.dat (.sl (.int .u8)) [0]]), (16, false, [.dat (.int .i64) []]), (17, false, [.dat (.int .i64) []])], [(1279, .arr (.int .i64) true [])]⟩, [(.exit 0, ⟨[(3, false, [.own 1279])], [(1279, .arr (.int .i64) true [])]⟩)]⟩)] }
def impl_securedMAC.ps : List PK := [.val (.int .i64) false, .val (.int .i64) false, .val (.int .i64) false, .val (.sl (.int .u8)) false]
def impl_securedMAC.rs : List RK := [⟨(.int .i64), false, .own⟩]
def impl_securedMAC.con : Con := ⟨impl_securedMAC.ps, impl_securedMAC.rs, impl_securedMAC.f⟩
def impl_securedMAC.cx : Cx := { cx0 with con := look [(174, impl_KeyedHash.con), (179, impl_BytesToInts.con)], loop := look [] }
def impl_Protect.ps : List PK := [.val (.int .i64) false, .val (.int .i64) false, .val (.int .i64) false, .val (.sl (.int .u8)) false]
def impl_Protect.rs : List RK := [⟨TSecuredMessage, true, .own⟩]
def impl_Protect.con : Con := ⟨impl_Protect.ps, impl_Protect.rs, impl_Protect.f⟩
def impl_Protect.cx : Cx := { cx0 with con := look [(165, impl_Encrypt.con), (166, impl_DeriveKey.con), (167, impl_securedMAC.con)], loop := look [] }
def impl_RadioKeyPath.ps : List PK := [.val (.int .i64) false]
def impl_RadioKeyPath.rs : List RK := [⟨(.sl (.int .i64)), true, .own⟩]
def impl_RadioKeyPath.con : Con := ⟨impl_RadioKeyPath.ps, impl_RadioKeyPath.rs, impl_RadioKeyPath.f⟩
def impl_RadioKeyPath.cx : Cx := { cx0 with con := look [], loop := look [] }
def impl_RadioKey.ps : List PK := [.val (.int .i64) false, .val (.int .i64) false]
def impl_RadioKey.rs : List RK := [⟨(.int .i64), false, .own⟩]
def impl_RadioKey.con : Con := ⟨impl_RadioKey.ps, impl_RadioKey.rs, impl_RadioKey.f⟩
def impl_RadioKey.cx : Cx := { cx0 with con := look [(168, impl_KeyForPath.con), (169, impl_RadioKeyPath.con)], loop := look [] }
def impl_SealRadio.ps : List PK := [.val (.int .i64) false, .val (.int .i64) false, .val (.int .i64) false, .val TNumberedPacket true]
def impl_SealRadio.rs : List RK := [⟨TRadioPacket, true, .own⟩]
def impl_SealRadio.con : Con := ⟨impl_SealRadio.ps, impl_SealRadio.rs, impl_SealRadio.f⟩
def impl_SealRadio.cx : Cx := { cx0 with con := look [(150, impl_Protect.con), (151, impl_RadioKey.con)], loop := look [] }
def impl_Retransmit.ps : List PK := [.val TSession true]
def impl_Retransmit.rs : List RK := [⟨(.sl TRadioPacket), false, .own⟩]
def impl_Retransmit.con : Con := ⟨impl_Retransmit.ps, impl_Retransmit.rs, impl_Retransmit.f⟩
def impl_Retransmit.cx : Cx := { cx0 with con := look [(108, impl_Min.con), (109, impl_SealRadio.con)], loop := look [(5, ⟨⟨[(1, false, [.ptr 512 0]), (3, false, [.own 1279]), (19, false, [.dat (.sl TNumberedPacket) [0]]), (20, false, [.dat (.int .i64) []]), (21, false, [.dat (.int .i64) []])], [(512, .box [.dat TSession [0]]), (1279, .arr TRadioPacket true [])]⟩, [(.exit 0, ⟨[(3, false, [.own 1279])], [(1279, .arr TRadioPacket true [])]⟩)]⟩)] }
def laws_eqSecuredMessage.ps : List PK := [.val TSecuredMessage true, .val TSecuredMessage true]
def laws_eqSecuredMessage.rs : List RK := [⟨.bool, false, .own⟩]
def laws_eqSecuredMessage.con : Con := ⟨laws_eqSecuredMessage.ps, laws_eqSecuredMessage.rs, laws_eqSecuredMessage.f⟩
def laws_eqSecuredMessage.cx : Cx := { cx0 with con := look [(27, laws_eqByteS.con)], loop := look [] }
def laws_eqRadioPacket.ps : List PK := [.val TRadioPacket true, .val TRadioPacket true]
def laws_eqRadioPacket.rs : List RK := [⟨.bool, false, .own⟩]
def laws_eqRadioPacket.con : Con := ⟨laws_eqRadioPacket.ps, laws_eqRadioPacket.rs, laws_eqRadioPacket.f⟩
def laws_eqRadioPacket.cx : Cx := { cx0 with con := look [(152, laws_eqSecuredMessage.con)], loop := look [] }
def laws_eqRadioPacketS.ps : List PK := [.val (.sl TRadioPacket) false, .val (.sl TRadioPacket) false]
def laws_eqRadioPacketS.rs : List RK := [⟨.bool, false, .own⟩]
def laws_eqRadioPacketS.con : Con := ⟨laws_eqRadioPacketS.ps, laws_eqRadioPacketS.rs, laws_eqRadioPacketS.f⟩
def laws_eqRadioPacketS.cx : Cx := { cx0 with con := look [(110, laws_eqRadioPacket.con)], loop := look [(4, ⟨⟨[(0, false, [.dat (.sl TRadioPacket) [0]]), (1, false, [.dat (.sl TRadioPacket) [0]]), (5, false, [.dat (.int .i64) []])], []⟩, [(.exit 0, ⟨[], []⟩), (.ret, ⟨[(4, false, [.dat .bool []])], []⟩)]⟩)] }
def laws_markRadioPacketS.ps : List PK := [.lend (.sl TRadioPacket) false, .val (.int .i64) false]
def laws_markRadioPacketS.rs : List RK := [⟨(.int .i64), false, .own⟩]
def laws_markRadioPacketS.con : Con := ⟨laws_markRadioPacketS.ps, laws_markRadioPacketS.rs, laws_markRadioPacketS.f⟩
def laws_markRadioPacketS.cx : Cx := { cx0 with con := look [(29, laws_markByteS.con)], loop := look [(2, ⟨⟨[(0, false, [.own 257]), (1, false, [.dat (.int .i64) []]), (5, false, [.dat (.int .i64) []])], [(257, .arr TRadioPacket true [])]⟩, [(.exit 0, ⟨[(0, false, [.own 257]), (1, false, [.dat (.int .i64) []])], [(257, .arr TRadioPacket true [])]⟩)]⟩)] }
def laws_heldRadioPacketS.ps : List PK := [.val (.sl TRadioPacket) false, .val (.int .i64) false]
def laws_heldRadioPacketS.rs : List RK := [⟨(.int .i64), false, .own⟩]
def laws_heldRadioPacketS.con : Con := ⟨laws_heldRadioPacketS.ps, laws_heldRadioPacketS.rs, laws_heldRadioPacketS.f⟩
def laws_heldRadioPacketS.cx : Cx := { cx0 with con := look [(111, laws_heldByteS.con)], loop := look [(2, ⟨⟨[(0, false, [.dat (.sl TRadioPacket) [0]]), (1, false, [.dat (.int .i64) []]), (5, false, [.dat (.int .i64) []])], []⟩, [(.exit 0, ⟨[(1, false, [.dat (.int .i64) []])], []⟩), (.ret, ⟨[(4, false, [.dat (.int .i64) []])], []⟩)]⟩)] }
def laws_FnExactRetransmit.ps : List PK := [.val TSession true]
def laws_FnExactRetransmit.rs : List RK := [⟨.bool, false, .own⟩]
def laws_FnExactRetransmit.con : Con := ⟨laws_FnExactRetransmit.ps, laws_FnExactRetransmit.rs, laws_FnExactRetransmit.f⟩
def laws_FnExactRetransmit.cx : Cx := { cx0 with con := look [(19, laws_szSession.con), (21, laws_toSession.con), (23, laws_eqSession.con), (28, laws_markSession.con), (37, spec_Retransmit.con), (38, impl_Retransmit.con), (39, laws_eqRadioPacketS.con), (40, laws_markRadioPacketS.con), (41, laws_heldRadioPacketS.con)], loop := look [] }
end Go.Proofs.Ytbgkgnhlfmidhaa.XS
/- Each function, evaluated, is the plain Lean one. -/
set_option linter.unusedVariables false
set_option maxRecDepth 100000
namespace Go.Proofs.Ytbgkgnhlfmidhaa.XS
open Go Go.Proofs.XTv Go.Proofs.XF
theorem laws_markSignalS.eq : evFun laws_markSignalS.cx Try.f55 laws_markSignalS.ps laws_markSignalS.rs = laws_markSignalS.f := by kernel_rfl
theorem impl_securedMAC.eq : evFun impl_securedMAC.cx Try.f167 impl_securedMAC.ps impl_securedMAC.rs = impl_securedMAC.f := by kernel_rfl
theorem spec_l31Seal.eq : evFun spec_l31Seal.cx Try.f107 spec_l31Seal.ps spec_l31Seal.rs = spec_l31Seal.f := by kernel_rfl
theorem impl_IsValidSubscriberID.eq : evFun impl_IsValidSubscriberID.cx Try.f132 impl_IsValidSubscriberID.ps impl_IsValidSubscriberID.rs = impl_IsValidSubscriberID.f := by kernel_rfl
theorem laws_markSubscription.eq : evFun laws_markSubscription.cx Try.f97 laws_markSubscription.ps laws_markSubscription.rs = laws_markSubscription.f := by kernel_rfl
theorem laws_heldDevice.eq : evFun laws_heldDevice.cx Try.f56 laws_heldDevice.ps laws_heldDevice.rs = laws_heldDevice.f := by kernel_rfl
theorem laws_heldSubscription.eq : evFun laws_heldSubscription.cx Try.f100 laws_heldSubscription.ps laws_heldSubscription.rs = laws_heldSubscription.f := by kernel_rfl
theorem laws_szSendWindow.eq : evFun laws_szSendWindow.cx Try.f60 laws_szSendWindow.ps laws_szSendWindow.rs = laws_szSendWindow.f := by kernel_rfl
theorem laws_eqSubscriberID.eq : evFun laws_eqSubscriberID.cx Try.f119 laws_eqSubscriberID.ps laws_eqSubscriberID.rs = laws_eqSubscriberID.f := by kernel_rfl
theorem laws_eqPayload.eq : evFun laws_eqPayload.cx Try.f137 laws_eqPayload.ps laws_eqPayload.rs = laws_eqPayload.f := by kernel_rfl
theorem spec_l24Sender.eq : evFun spec_l24Sender.cx Try.f140 spec_l24Sender.ps spec_l24Sender.rs = spec_l24Sender.f := by kernel_rfl
theorem impl_IsValidKey.eq : evFun impl_IsValidKey.cx Try.f80 impl_IsValidKey.ps impl_IsValidKey.rs = impl_IsValidKey.f := by kernel_rfl
theorem bytes_Equal.eq : evFun bytes_Equal.cx Try.f134 bytes_Equal.ps bytes_Equal.rs = bytes_Equal.f := by kernel_rfl
theorem spec_SignalingKeyPath.eq : evFun spec_SignalingKeyPath.cx Try.f172 spec_SignalingKeyPath.ps spec_SignalingKeyPath.rs = spec_SignalingKeyPath.f := by kernel_rfl
theorem laws_toQuota.eq : evFun laws_toQuota.cx Try.f74 laws_toQuota.ps laws_toQuota.rs = laws_toQuota.f := by kernel_rfl
end Go.Proofs.Ytbgkgnhlfmidhaa.XS
/- Each function, evaluated, is the plain Lean one. -/
set_option linter.unusedVariables false
set_option maxRecDepth 100000
namespace Go.Proofs.Ytbgkgnhlfmidhaa.XS
open Go Go.Proofs.XTv Go.Proofs.XF
theorem laws_heldSignalS.eq : evFun laws_heldSignalS.cx Try.f57 laws_heldSignalS.ps laws_heldSignalS.rs = laws_heldSignalS.f := by kernel_rfl
theorem laws_heldRadioPacketS.eq : evFun laws_heldRadioPacketS.cx Try.f41 laws_heldRadioPacketS.ps laws_heldRadioPacketS.rs = laws_heldRadioPacketS.f := by kernel_rfl
theorem spec_IsValidSubscription.eq : evFun spec_IsValidSubscription.cx Try.f64 spec_IsValidSubscription.ps spec_IsValidSubscription.rs = spec_IsValidSubscription.f := by kernel_rfl
theorem laws_eqDevice.eq : evFun laws_eqDevice.cx Try.f15 laws_eqDevice.ps laws_eqDevice.rs = laws_eqDevice.f := by kernel_rfl
theorem laws_markSession.eq : evFun laws_markSession.cx Try.f28 laws_markSession.ps laws_markSession.rs = laws_markSession.f := by kernel_rfl
theorem spec_Retransmit.eq : evFun spec_Retransmit.cx Try.f37 spec_Retransmit.ps spec_Retransmit.rs = spec_Retransmit.f := by kernel_rfl
theorem impl_BytesToInts.eq : evFun impl_BytesToInts.cx Try.f179 impl_BytesToInts.ps impl_BytesToInts.rs = impl_BytesToInts.f := by kernel_rfl
theorem laws_szNumberedPacketS.eq : evFun laws_szNumberedPacketS.cx Try.f112 laws_szNumberedPacketS.ps laws_szNumberedPacketS.rs = laws_szNumberedPacketS.f := by kernel_rfl
theorem laws_eqByteS.eq : evFun laws_eqByteS.cx Try.f27 laws_eqByteS.ps laws_eqByteS.rs = laws_eqByteS.f := by kernel_rfl
theorem impl_isAscending.eq : evFun impl_isAscending.cx Try.f133 impl_isAscending.ps impl_isAscending.rs = impl_isAscending.f := by kernel_rfl
theorem laws_toIntS.eq : evFun laws_toIntS.cx Try.f130 laws_toIntS.ps laws_toIntS.rs = laws_toIntS.f := by kernel_rfl
theorem impl_numberedBytes.eq : evFun impl_numberedBytes.cx Try.f135 impl_numberedBytes.ps impl_numberedBytes.rs = impl_numberedBytes.f := by kernel_rfl
theorem laws_heldIntS.eq : evFun laws_heldIntS.cx Try.f145 laws_heldIntS.ps laws_heldIntS.rs = laws_heldIntS.f := by kernel_rfl
theorem spec_l29Next.eq : evFun spec_l29Next.cx Try.f105 spec_l29Next.ps spec_l29Next.rs = spec_l29Next.f := by kernel_rfl
theorem laws_heldSession.eq : evFun laws_heldSession.cx Try.f30 laws_heldSession.ps laws_heldSession.rs = laws_heldSession.f := by kernel_rfl
theorem laws_eqReceiveWindow.eq : evFun laws_eqReceiveWindow.cx Try.f53 laws_eqReceiveWindow.ps laws_eqReceiveWindow.rs = laws_eqReceiveWindow.f := by kernel_rfl
theorem spec_Protect.eq : evFun spec_Protect.cx Try.f163 spec_Protect.ps spec_Protect.rs = spec_Protect.f := by kernel_rfl
theorem laws_eqRadioPacket.eq : evFun laws_eqRadioPacket.cx Try.f110 laws_eqRadioPacket.ps laws_eqRadioPacket.rs = laws_eqRadioPacket.f := by kernel_rfl
theorem laws_eqUSIM.eq : evFun laws_eqUSIM.cx Try.f52 laws_eqUSIM.ps laws_eqUSIM.rs = laws_eqUSIM.f := by kernel_rfl
theorem laws_eqDeviceResult.eq : evFun laws_eqDeviceResult.cx Try.f14 laws_eqDeviceResult.ps laws_eqDeviceResult.rs = laws_eqDeviceResult.f := by kernel_rfl
theorem impl_hashStep.eq : evFun impl_hashStep.cx Try.f182 impl_hashStep.ps impl_hashStep.rs = impl_hashStep.f := by kernel_rfl
theorem laws_eqSendWindow.eq : evFun laws_eqSendWindow.cx Try.f91 laws_eqSendWindow.ps laws_eqSendWindow.rs = laws_eqSendWindow.f := by kernel_rfl
theorem spec_SealRadio.eq : evFun spec_SealRadio.cx Try.f149 spec_SealRadio.ps spec_SealRadio.rs = spec_SealRadio.f := by kernel_rfl
theorem impl_IsValidQuota.eq : evFun impl_IsValidQuota.cx Try.f79 impl_IsValidQuota.ps impl_IsValidQuota.rs = impl_IsValidQuota.f := by kernel_rfl
theorem spec_l24Recv.eq : evFun spec_l24Recv.cx Try.f113 spec_l24Recv.ps spec_l24Recv.rs = spec_l24Recv.f := by kernel_rfl
theorem laws_heldSendWindow.eq : evFun laws_heldSendWindow.cx Try.f102 laws_heldSendWindow.ps laws_heldSendWindow.rs = laws_heldSendWindow.f := by kernel_rfl
theorem impl_copySubscription.eq : evFun impl_copySubscription.cx Try.f141 impl_copySubscription.ps impl_copySubscription.rs = impl_copySubscription.f := by kernel_rfl
theorem spec_RadioKey.eq : evFun spec_RadioKey.cx Try.f164 spec_RadioKey.ps spec_RadioKey.rs = spec_RadioKey.f := by kernel_rfl
theorem laws_toSendWindow.eq : evFun laws_toSendWindow.cx Try.f73 laws_toSendWindow.ps laws_toSendWindow.rs = laws_toSendWindow.f := by kernel_rfl
theorem impl_attachSignal.eq : evFun impl_attachSignal.cx Try.f50 impl_attachSignal.ps impl_attachSignal.rs = impl_attachSignal.f := by kernel_rfl
theorem spec_l29Attach.eq : evFun spec_l29Attach.cx Try.f46 spec_l29Attach.ps spec_l29Attach.rs = spec_l29Attach.f := by kernel_rfl
theorem impl_Min.eq : evFun impl_Min.cx Try.f108 impl_Min.ps impl_Min.rs = impl_Min.f := by kernel_rfl
theorem impl_RadioKeyPath.eq : evFun impl_RadioKeyPath.cx Try.f169 impl_RadioKeyPath.ps impl_RadioKeyPath.rs = impl_RadioKeyPath.f := by kernel_rfl
end Go.Proofs.Ytbgkgnhlfmidhaa.XS
/- Each function, evaluated, is the plain Lean one. -/
set_option linter.unusedVariables false
set_option maxRecDepth 100000
namespace Go.Proofs.Ytbgkgnhlfmidhaa.XS
open Go Go.Proofs.XTv Go.Proofs.XF
theorem impl_IsValidSession.eq : evFun impl_IsValidSession.cx Try.f22 impl_IsValidSession.ps impl_IsValidSession.rs = impl_IsValidSession.f := by kernel_rfl
theorem laws_eqSession.eq : evFun laws_eqSession.cx Try.f23 laws_eqSession.ps laws_eqSession.rs = laws_eqSession.f := by kernel_rfl
theorem impl_TickDevice.eq : evFun impl_TickDevice.cx Try.f34 impl_TickDevice.ps impl_TickDevice.rs = impl_TickDevice.f := by kernel_rfl
theorem impl_IsValidSubscription.eq : evFun impl_IsValidSubscription.cx Try.f76 impl_IsValidSubscription.ps impl_IsValidSubscription.rs = impl_IsValidSubscription.f := by kernel_rfl
theorem laws_toSession.eq : evFun laws_toSession.cx Try.f21 laws_toSession.ps laws_toSession.rs = laws_toSession.f := by kernel_rfl
theorem laws_eqNumberedPacketS.eq : evFun laws_eqNumberedPacketS.cx Try.f120 laws_eqNumberedPacketS.ps laws_eqNumberedPacketS.rs = laws_eqNumberedPacketS.f := by kernel_rfl
theorem laws_eqRadioPacketS.eq : evFun laws_eqRadioPacketS.cx Try.f39 laws_eqRadioPacketS.ps laws_eqRadioPacketS.rs = laws_eqRadioPacketS.f := by kernel_rfl
theorem spec_l15Bodies.eq : evFun spec_l15Bodies.cx Try.f139 spec_l15Bodies.ps spec_l15Bodies.rs = spec_l15Bodies.f := by kernel_rfl
theorem laws_toPayloadS.eq : evFun laws_toPayloadS.cx Try.f72 laws_toPayloadS.ps laws_toPayloadS.rs = laws_toPayloadS.f := by kernel_rfl
theorem impl_copySession.eq : evFun impl_copySession.cx Try.f95 impl_copySession.ps impl_copySession.rs = impl_copySession.f := by kernel_rfl
theorem laws_heldPayloadS.eq : evFun laws_heldPayloadS.cx Try.f101 laws_heldPayloadS.ps laws_heldPayloadS.rs = laws_heldPayloadS.f := by kernel_rfl
theorem laws_markPayloadS.eq : evFun laws_markPayloadS.cx Try.f98 laws_markPayloadS.ps laws_markPayloadS.rs = laws_markPayloadS.f := by kernel_rfl
theorem laws_heldByteS.eq : evFun laws_heldByteS.cx Try.f111 laws_heldByteS.ps laws_heldByteS.rs = laws_heldByteS.f := by kernel_rfl
theorem spec_KeyForPath.eq : evFun spec_KeyForPath.cx Try.f171 spec_KeyForPath.ps spec_KeyForPath.rs = spec_KeyForPath.f := by kernel_rfl
theorem impl_announcePath.eq : evFun impl_announcePath.cx Try.f106 impl_announcePath.ps impl_announcePath.rs = impl_announcePath.f := by kernel_rfl
theorem laws_eqAuthVector.eq : evFun laws_eqAuthVector.cx Try.f88 laws_eqAuthVector.ps laws_eqAuthVector.rs = laws_eqAuthVector.f := by kernel_rfl
theorem impl_IsValidSubscriberRecord.eq : evFun impl_IsValidSubscriberRecord.cx Try.f75 impl_IsValidSubscriberRecord.ps impl_IsValidSubscriberRecord.rs = impl_IsValidSubscriberRecord.f := by kernel_rfl
theorem impl_Mod.eq : evFun impl_Mod.cx Try.f186 impl_Mod.ps impl_Mod.rs = impl_Mod.f := by kernel_rfl
theorem impl_SignalMAC.eq : evFun impl_SignalMAC.cx Try.f162 impl_SignalMAC.ps impl_SignalMAC.rs = impl_SignalMAC.f := by kernel_rfl
theorem spec_l29Copy.eq : evFun spec_l29Copy.cx Try.f44 spec_l29Copy.ps spec_l29Copy.rs = spec_l29Copy.f := by kernel_rfl
theorem laws_heldReceiveWindow.eq : evFun laws_heldReceiveWindow.cx Try.f122 laws_heldReceiveWindow.ps laws_heldReceiveWindow.rs = laws_heldReceiveWindow.f := by kernel_rfl
theorem laws_heldDeviceResult.eq : evFun laws_heldDeviceResult.cx Try.f18 laws_heldDeviceResult.ps laws_heldDeviceResult.rs = laws_heldDeviceResult.f := by kernel_rfl
theorem laws_eqPagingState.eq : evFun laws_eqPagingState.cx Try.f89 laws_eqPagingState.ps laws_eqPagingState.rs = laws_eqPagingState.f := by kernel_rfl
theorem spec_l29Path.eq : evFun spec_l29Path.cx Try.f103 spec_l29Path.ps spec_l29Path.rs = spec_l29Path.f := by kernel_rfl
theorem impl_copyItems_impl_Signal.eq : evFun impl_copyItems_impl_Signal.cx Try.f117 impl_copyItems_impl_Signal.ps impl_copyItems_impl_Signal.rs = impl_copyItems_impl_Signal.f := by kernel_rfl
theorem impl_copyReceiver.eq : evFun impl_copyReceiver.cx Try.f156 impl_copyReceiver.ps impl_copyReceiver.rs = impl_copyReceiver.f := by kernel_rfl
theorem spec_RemainingQuota.eq : evFun spec_RemainingQuota.cx Try.f129 spec_RemainingQuota.ps spec_RemainingQuota.rs = spec_RemainingQuota.f := by kernel_rfl
theorem laws_szIntS.eq : evFun laws_szIntS.cx Try.f123 laws_szIntS.ps laws_szIntS.rs = laws_szIntS.f := by kernel_rfl
theorem impl_RadioKey.eq : evFun impl_RadioKey.cx Try.f151 impl_RadioKey.ps impl_RadioKey.rs = impl_RadioKey.f := by kernel_rfl
theorem impl_copySender.eq : evFun impl_copySender.cx Try.f143 impl_copySender.ps impl_copySender.rs = impl_copySender.f := by kernel_rfl
theorem laws_toUSIM.eq : evFun laws_toUSIM.cx Try.f47 laws_toUSIM.ps laws_toUSIM.rs = laws_toUSIM.f := by kernel_rfl
theorem spec_l29None.eq : evFun spec_l29None.cx Try.f43 spec_l29None.ps spec_l29None.rs = spec_l29None.f := by kernel_rfl
theorem spec_l25Body.eq : evFun spec_l25Body.cx Try.f94 spec_l25Body.ps spec_l25Body.rs = spec_l25Body.f := by kernel_rfl
theorem laws_toPagingState.eq : evFun laws_toPagingState.cx Try.f71 laws_toPagingState.ps laws_toPagingState.rs = laws_toPagingState.f := by kernel_rfl
end Go.Proofs.Ytbgkgnhlfmidhaa.XS
/- Each function, evaluated, is the plain Lean one. -/
set_option linter.unusedVariables false
set_option maxRecDepth 100000
namespace Go.Proofs.Ytbgkgnhlfmidhaa.XS
open Go Go.Proofs.XTv Go.Proofs.XF
theorem laws_FnExactSubmitPacket.eq : evFun laws_FnExactSubmitPacket.cx Try.f5 laws_FnExactSubmitPacket.ps laws_FnExactSubmitPacket.rs = laws_FnExactSubmitPacket.f := by kernel_rfl
theorem laws_FnExactTickDevice.eq : evFun laws_FnExactTickDevice.cx Try.f7 laws_FnExactTickDevice.ps laws_FnExactTickDevice.rs = laws_FnExactTickDevice.f := by kernel_rfl
theorem laws_FnExactRetransmit.eq : evFun laws_FnExactRetransmit.cx Try.f9 laws_FnExactRetransmit.ps laws_FnExactRetransmit.rs = laws_FnExactRetransmit.f := by kernel_rfl
theorem spec_IsValidSender.eq : evFun spec_IsValidSender.cx Try.f126 spec_IsValidSender.ps spec_IsValidSender.rs = spec_IsValidSender.f := by kernel_rfl
theorem impl_IsValidSender.eq : evFun impl_IsValidSender.cx Try.f78 impl_IsValidSender.ps impl_IsValidSender.rs = impl_IsValidSender.f := by kernel_rfl
theorem spec_SubmitPacket.eq : evFun spec_SubmitPacket.cx Try.f24 spec_SubmitPacket.ps spec_SubmitPacket.rs = spec_SubmitPacket.f := by kernel_rfl
theorem laws_eqPayloadS.eq : evFun laws_eqPayloadS.cx Try.f90 laws_eqPayloadS.ps laws_eqPayloadS.rs = laws_eqPayloadS.f := by kernel_rfl
theorem laws_toNumberedPacketS.eq : evFun laws_toNumberedPacketS.cx Try.f115 laws_toNumberedPacketS.ps laws_toNumberedPacketS.rs = laws_toNumberedPacketS.f := by kernel_rfl
theorem laws_szPayloadS.eq : evFun laws_szPayloadS.cx Try.f59 laws_szPayloadS.ps laws_szPayloadS.rs = laws_szPayloadS.f := by kernel_rfl
theorem laws_eqSignal.eq : evFun laws_eqSignal.cx Try.f118 laws_eqSignal.ps laws_eqSignal.rs = laws_eqSignal.f := by kernel_rfl
theorem laws_toByteS.eq : evFun laws_toByteS.cx Try.f25 laws_toByteS.ps laws_toByteS.rs = laws_toByteS.f := by kernel_rfl
theorem spec_BytesToInts.eq : evFun spec_BytesToInts.cx Try.f184 spec_BytesToInts.ps spec_BytesToInts.rs = spec_BytesToInts.f := by kernel_rfl
theorem laws_FnExactIsValidSession.eq : evFun laws_FnExactIsValidSession.cx Try.f4 laws_FnExactIsValidSession.ps laws_FnExactIsValidSession.rs = laws_FnExactIsValidSession.f := by kernel_rfl
theorem laws_markByteS.eq : evFun laws_markByteS.cx Try.f29 laws_markByteS.ps laws_markByteS.rs = laws_markByteS.f := by kernel_rfl
theorem spec_Failover.eq : evFun spec_Failover.cx Try.f31 spec_Failover.ps spec_Failover.rs = spec_Failover.f := by kernel_rfl
theorem laws_eqSubscription.eq : evFun laws_eqSubscription.cx Try.f87 laws_eqSubscription.ps laws_eqSubscription.rs = laws_eqSubscription.f := by kernel_rfl
theorem laws_eqSecuredMessage.eq : evFun laws_eqSecuredMessage.cx Try.f152 laws_eqSecuredMessage.ps laws_eqSecuredMessage.rs = laws_eqSecuredMessage.f := by kernel_rfl
theorem impl_IsValidPaging.eq : evFun impl_IsValidPaging.cx Try.f77 impl_IsValidPaging.ps impl_IsValidPaging.rs = impl_IsValidPaging.f := by kernel_rfl
theorem spec_SignalMAC.eq : evFun spec_SignalMAC.cx Try.f161 spec_SignalMAC.ps spec_SignalMAC.rs = spec_SignalMAC.f := by kernel_rfl
theorem spec_Mod.eq : evFun spec_Mod.cx Try.f185 spec_Mod.ps spec_Mod.rs = spec_Mod.f := by kernel_rfl
theorem laws_szReceiveWindow.eq : evFun laws_szReceiveWindow.cx Try.f42 laws_szReceiveWindow.ps laws_szReceiveWindow.rs = laws_szReceiveWindow.f := by kernel_rfl
theorem laws_markReceiveWindow.eq : evFun laws_markReceiveWindow.cx Try.f54 laws_markReceiveWindow.ps laws_markReceiveWindow.rs = laws_markReceiveWindow.f := by kernel_rfl
theorem laws_eqNumberedPacket.eq : evFun laws_eqNumberedPacket.cx Try.f157 laws_eqNumberedPacket.ps laws_eqNumberedPacket.rs = laws_eqNumberedPacket.f := by kernel_rfl
theorem impl_SealRadio.eq : evFun impl_SealRadio.cx Try.f109 impl_SealRadio.ps impl_SealRadio.rs = impl_SealRadio.f := by kernel_rfl
theorem impl_copyInts.eq : evFun impl_copyInts.cx Try.f159 impl_copyInts.ps impl_copyInts.rs = impl_copyInts.f := by kernel_rfl
theorem laws_markSendWindow.eq : evFun laws_markSendWindow.cx Try.f99 laws_markSendWindow.ps laws_markSendWindow.rs = laws_markSendWindow.f := by kernel_rfl
theorem spec_l30Plan.eq : evFun spec_l30Plan.cx Try.f138 spec_l30Plan.ps spec_l30Plan.rs = spec_l30Plan.f := by kernel_rfl
theorem laws_szByteS.eq : evFun laws_szByteS.cx Try.f158 laws_szByteS.ps laws_szByteS.rs = laws_szByteS.f := by kernel_rfl
theorem laws_toSubscription.eq : evFun laws_toSubscription.cx Try.f69 laws_toSubscription.ps laws_toSubscription.rs = laws_toSubscription.f := by kernel_rfl
theorem laws_toSubscriberRecord.eq : evFun laws_toSubscriberRecord.cx Try.f68 laws_toSubscriberRecord.ps laws_toSubscriberRecord.rs = laws_toSubscriberRecord.f := by kernel_rfl
theorem impl_InRange.eq : evFun impl_InRange.cx Try.f81 impl_InRange.ps impl_InRange.rs = impl_InRange.f := by kernel_rfl
theorem impl_EqualBytes.eq : evFun impl_EqualBytes.cx Try.f83 impl_EqualBytes.ps impl_EqualBytes.rs = impl_EqualBytes.f := by kernel_rfl
theorem laws_toPayload.eq : evFun laws_toPayload.cx Try.f131 laws_toPayload.ps laws_toPayload.rs = laws_toPayload.f := by kernel_rfl
theorem spec_RadioKeyPath.eq : evFun spec_RadioKeyPath.cx Try.f178 spec_RadioKeyPath.ps spec_RadioKeyPath.rs = spec_RadioKeyPath.f := by kernel_rfl
end Go.Proofs.Ytbgkgnhlfmidhaa.XS
/- Each function, evaluated, is the plain Lean one. -/
set_option linter.unusedVariables false
set_option maxRecDepth 100000
namespace Go.Proofs.Ytbgkgnhlfmidhaa.XS
open Go Go.Proofs.XTv Go.Proofs.XF
theorem laws_markRadioPacketS.eq : evFun laws_markRadioPacketS.cx Try.f40 laws_markRadioPacketS.ps laws_markRadioPacketS.rs = laws_markRadioPacketS.f := by kernel_rfl
theorem laws_FnExactMoveDevice.eq : evFun laws_FnExactMoveDevice.cx Try.f8 laws_FnExactMoveDevice.ps laws_FnExactMoveDevice.rs = laws_FnExactMoveDevice.f := by kernel_rfl
theorem spec_l30Stream.eq : evFun spec_l30Stream.cx Try.f67 spec_l30Stream.ps spec_l30Stream.rs = spec_l30Stream.f := by kernel_rfl
theorem impl_Retransmit.eq : evFun impl_Retransmit.cx Try.f38 impl_Retransmit.ps impl_Retransmit.rs = impl_Retransmit.f := by kernel_rfl
theorem laws_markNumberedPacketS.eq : evFun laws_markNumberedPacketS.cx Try.f121 laws_markNumberedPacketS.ps laws_markNumberedPacketS.rs = laws_markNumberedPacketS.f := by kernel_rfl
theorem impl_copyNumbered.eq : evFun impl_copyNumbered.cx Try.f160 impl_copyNumbered.ps impl_copyNumbered.rs = impl_copyNumbered.f := by kernel_rfl
theorem impl_Encrypt.eq : evFun impl_Encrypt.cx Try.f165 impl_Encrypt.ps impl_Encrypt.rs = impl_Encrypt.f := by kernel_rfl
theorem laws_eqSignalS.eq : evFun laws_eqSignalS.cx Try.f51 laws_eqSignalS.ps laws_eqSignalS.rs = laws_eqSignalS.f := by kernel_rfl
theorem impl_MoveDevice.eq : evFun impl_MoveDevice.cx Try.f36 impl_MoveDevice.ps impl_MoveDevice.rs = impl_MoveDevice.f := by kernel_rfl
theorem impl_KeyedHash.eq : evFun impl_KeyedHash.cx Try.f174 impl_KeyedHash.ps impl_KeyedHash.rs = impl_KeyedHash.f := by kernel_rfl
theorem spec_l30Copy.eq : evFun spec_l30Copy.cx Try.f93 spec_l30Copy.ps spec_l30Copy.rs = spec_l30Copy.f := by kernel_rfl
theorem impl_PowerOn.eq : evFun impl_PowerOn.cx Try.f13 impl_PowerOn.ps impl_PowerOn.rs = impl_PowerOn.f := by kernel_rfl
theorem spec_MoveDevice.eq : evFun spec_MoveDevice.cx Try.f35 spec_MoveDevice.ps spec_MoveDevice.rs = spec_MoveDevice.f := by kernel_rfl
theorem spec_l30Bytes.eq : evFun spec_l30Bytes.cx Try.f128 spec_l30Bytes.ps spec_l30Bytes.rs = spec_l30Bytes.f := by kernel_rfl
theorem impl_Failover.eq : evFun impl_Failover.cx Try.f32 impl_Failover.ps impl_Failover.rs = impl_Failover.f := by kernel_rfl
theorem laws_szSession.eq : evFun laws_szSession.cx Try.f19 laws_szSession.ps laws_szSession.rs = laws_szSession.f := by kernel_rfl
theorem spec_IsValidSubscriberRecord.eq : evFun spec_IsValidSubscriberRecord.cx Try.f63 spec_IsValidSubscriberRecord.ps spec_IsValidSubscriberRecord.rs = spec_IsValidSubscriberRecord.f := by kernel_rfl
theorem spec_IsValidPaging.eq : evFun spec_IsValidPaging.cx Try.f65 spec_IsValidPaging.ps spec_IsValidPaging.rs = spec_IsValidPaging.f := by kernel_rfl
theorem impl_copyDevice.eq : evFun impl_copyDevice.cx Try.f116 impl_copyDevice.ps impl_copyDevice.rs = impl_copyDevice.f := by kernel_rfl
theorem spec_l29Send.eq : evFun spec_l29Send.cx Try.f45 spec_l29Send.ps spec_l29Send.rs = spec_l29Send.f := by kernel_rfl
theorem spec_l8Mac.eq : evFun spec_l8Mac.cx Try.f177 spec_l8Mac.ps spec_l8Mac.rs = spec_l8Mac.f := by kernel_rfl
theorem spec_SignSignal.eq : evFun spec_SignSignal.cx Try.f147 spec_SignSignal.ps spec_SignSignal.rs = spec_SignSignal.f := by kernel_rfl
theorem spec_KeyedHash.eq : evFun spec_KeyedHash.cx Try.f170 spec_KeyedHash.ps spec_KeyedHash.rs = spec_KeyedHash.f := by kernel_rfl
theorem impl_pathUpdate.eq : evFun impl_pathUpdate.cx Try.f104 impl_pathUpdate.ps impl_pathUpdate.rs = impl_pathUpdate.f := by kernel_rfl
theorem impl_copyBytes.eq : evFun impl_copyBytes.cx Try.f96 impl_copyBytes.ps impl_copyBytes.rs = impl_copyBytes.f := by kernel_rfl
theorem impl_deviceResult.eq : evFun impl_deviceResult.cx Try.f49 impl_deviceResult.ps impl_deviceResult.rs = impl_deviceResult.f := by kernel_rfl
theorem laws_szSubscription.eq : evFun laws_szSubscription.cx Try.f58 laws_szSubscription.ps laws_szSubscription.rs = laws_szSubscription.f := by kernel_rfl
theorem laws_szNumberedPacket.eq : evFun laws_szNumberedPacket.cx Try.f153 laws_szNumberedPacket.ps laws_szNumberedPacket.rs = laws_szNumberedPacket.f := by kernel_rfl
theorem spec_DeriveKey.eq : evFun spec_DeriveKey.cx Try.f176 spec_DeriveKey.ps spec_DeriveKey.rs = spec_DeriveKey.f := by kernel_rfl
theorem laws_toNumberedPacket.eq : evFun laws_toNumberedPacket.cx Try.f155 laws_toNumberedPacket.ps laws_toNumberedPacket.rs = laws_toNumberedPacket.f := by kernel_rfl
theorem spec_EqualBytes.eq : evFun spec_EqualBytes.cx Try.f127 spec_EqualBytes.ps spec_EqualBytes.rs = spec_EqualBytes.f := by kernel_rfl
theorem spec_IsValidKey.eq : evFun spec_IsValidKey.cx Try.f61 spec_IsValidKey.ps spec_IsValidKey.rs = spec_IsValidKey.f := by kernel_rfl
theorem laws_toSubscriberID.eq : evFun laws_toSubscriberID.cx Try.f114 laws_toSubscriberID.ps laws_toSubscriberID.rs = laws_toSubscriberID.f := by kernel_rfl
theorem impl_SignalingKeyPath.eq : evFun impl_SignalingKeyPath.cx Try.f173 impl_SignalingKeyPath.ps impl_SignalingKeyPath.rs = impl_SignalingKeyPath.f := by kernel_rfl
end Go.Proofs.Ytbgkgnhlfmidhaa.XS
/- Each function, evaluated, is the plain Lean one. -/
set_option linter.unusedVariables false
set_option maxRecDepth 100000
namespace Go.Proofs.Ytbgkgnhlfmidhaa.XS
open Go Go.Proofs.XTv Go.Proofs.XF
theorem laws_FnExactFailover.eq : evFun laws_FnExactFailover.cx Try.f6 laws_FnExactFailover.ps laws_FnExactFailover.rs = laws_FnExactFailover.f := by kernel_rfl
theorem spec_IsValidSession.eq : evFun spec_IsValidSession.cx Try.f20 spec_IsValidSession.ps spec_IsValidSession.rs = spec_IsValidSession.f := by kernel_rfl
theorem laws_FnExactPowerOn.eq : evFun laws_FnExactPowerOn.cx Try.f3 laws_FnExactPowerOn.ps laws_FnExactPowerOn.rs = laws_FnExactPowerOn.f := by kernel_rfl
theorem spec_Encrypt.eq : evFun spec_Encrypt.cx Try.f175 spec_Encrypt.ps spec_Encrypt.rs = spec_Encrypt.f := by kernel_rfl
theorem spec_l24Sents.eq : evFun spec_l24Sents.cx Try.f154 spec_l24Sents.ps spec_l24Sents.rs = spec_l24Sents.f := by kernel_rfl
theorem impl_SubmitPacket.eq : evFun impl_SubmitPacket.cx Try.f26 impl_SubmitPacket.ps impl_SubmitPacket.rs = impl_SubmitPacket.f := by kernel_rfl
theorem laws_heldNumberedPacketS.eq : evFun laws_heldNumberedPacketS.cx Try.f146 laws_heldNumberedPacketS.ps laws_heldNumberedPacketS.rs = laws_heldNumberedPacketS.f := by kernel_rfl
theorem impl_copyPayloads.eq : evFun impl_copyPayloads.cx Try.f142 impl_copyPayloads.ps impl_copyPayloads.rs = impl_copyPayloads.f := by kernel_rfl
theorem spec_TickDevice.eq : evFun spec_TickDevice.cx Try.f33 spec_TickDevice.ps spec_TickDevice.rs = spec_TickDevice.f := by kernel_rfl
theorem laws_eqIntS.eq : evFun laws_eqIntS.cx Try.f136 laws_eqIntS.ps laws_eqIntS.rs = laws_eqIntS.f := by kernel_rfl
theorem spec_Hash.eq : evFun spec_Hash.cx Try.f181 spec_Hash.ps spec_Hash.rs = spec_Hash.f := by kernel_rfl
theorem laws_markDeviceResult.eq : evFun laws_markDeviceResult.cx Try.f17 laws_markDeviceResult.ps laws_markDeviceResult.rs = laws_markDeviceResult.f := by kernel_rfl
theorem impl_fitPayload.eq : evFun impl_fitPayload.cx Try.f82 impl_fitPayload.ps impl_fitPayload.rs = impl_fitPayload.f := by kernel_rfl
theorem impl_deriveSteps.eq : evFun impl_deriveSteps.cx Try.f180 impl_deriveSteps.ps impl_deriveSteps.rs = impl_deriveSteps.f := by kernel_rfl
theorem laws_markIntS.eq : evFun laws_markIntS.cx Try.f144 laws_markIntS.ps laws_markIntS.rs = laws_markIntS.f := by kernel_rfl
theorem laws_markDevice.eq : evFun laws_markDevice.cx Try.f16 laws_markDevice.ps laws_markDevice.rs = laws_markDevice.f := by kernel_rfl
theorem laws_toDevice.eq : evFun laws_toDevice.cx Try.f12 laws_toDevice.ps laws_toDevice.rs = laws_toDevice.f := by kernel_rfl
theorem impl_Protect.eq : evFun impl_Protect.cx Try.f150 impl_Protect.ps impl_Protect.rs = impl_Protect.f := by kernel_rfl
theorem spec_IsValidQuota.eq : evFun spec_IsValidQuota.cx Try.f66 spec_IsValidQuota.ps spec_IsValidQuota.rs = spec_IsValidQuota.f := by kernel_rfl
theorem laws_eqSubscriberRecord.eq : evFun laws_eqSubscriberRecord.cx Try.f86 laws_eqSubscriberRecord.ps laws_eqSubscriberRecord.rs = laws_eqSubscriberRecord.f := by kernel_rfl
theorem spec_PowerOn.eq : evFun spec_PowerOn.cx Try.f11 spec_PowerOn.ps spec_PowerOn.rs = spec_PowerOn.f := by kernel_rfl
theorem impl_SignSignal.eq : evFun impl_SignSignal.cx Try.f148 impl_SignSignal.ps impl_SignSignal.rs = impl_SignSignal.f := by kernel_rfl
theorem laws_eqQuota.eq : evFun laws_eqQuota.cx Try.f92 laws_eqQuota.ps laws_eqQuota.rs = laws_eqQuota.f := by kernel_rfl
theorem spec_IsValidSubscriberID.eq : evFun spec_IsValidSubscriberID.cx Try.f125 spec_IsValidSubscriberID.ps spec_IsValidSubscriberID.rs = spec_IsValidSubscriberID.f := by kernel_rfl
theorem laws_toReceiveWindow.eq : evFun laws_toReceiveWindow.cx Try.f48 laws_toReceiveWindow.ps laws_toReceiveWindow.rs = laws_toReceiveWindow.f := by kernel_rfl
theorem laws_szDevice.eq : evFun laws_szDevice.cx Try.f10 laws_szDevice.ps laws_szDevice.rs = laws_szDevice.f := by kernel_rfl
theorem impl_RemainingQuota.eq : evFun impl_RemainingQuota.cx Try.f85 impl_RemainingQuota.ps impl_RemainingQuota.rs = impl_RemainingQuota.f := by kernel_rfl
theorem impl_OutstandingBytes.eq : evFun impl_OutstandingBytes.cx Try.f84 impl_OutstandingBytes.ps impl_OutstandingBytes.rs = impl_OutstandingBytes.f := by kernel_rfl
theorem impl_DeriveKey.eq : evFun impl_DeriveKey.cx Try.f166 impl_DeriveKey.ps impl_DeriveKey.rs = impl_DeriveKey.f := by kernel_rfl
theorem laws_szPayload.eq : evFun laws_szPayload.cx Try.f124 laws_szPayload.ps laws_szPayload.rs = laws_szPayload.f := by kernel_rfl
theorem spec_l1In.eq : evFun spec_l1In.cx Try.f62 spec_l1In.ps spec_l1In.rs = spec_l1In.f := by kernel_rfl
theorem impl_KeyForPath.eq : evFun impl_KeyForPath.cx Try.f168 impl_KeyForPath.ps impl_KeyForPath.rs = impl_KeyForPath.f := by kernel_rfl
theorem spec_Max.eq : evFun spec_Max.cx Try.f183 spec_Max.ps spec_Max.rs = spec_Max.f := by kernel_rfl
theorem laws_toAuthVector.eq : evFun laws_toAuthVector.cx Try.f70 laws_toAuthVector.ps laws_toAuthVector.rs = laws_toAuthVector.f := by kernel_rfl
end Go.Proofs.Ytbgkgnhlfmidhaa.XS
/- Each function of the program does what the plain Lean one says. -/
set_option linter.unusedVariables false
set_option maxRecDepth 100000
namespace Go.Proofs.Ytbgkgnhlfmidhaa.XS
open Go Go.Proofs.XTv Go.Proofs.XF
def ConsOk (P : Program) (l : List (Nat × Con)) : Prop := ∀ p ∈ l, Sound P p.1 p.2
theorem con_nil {P : Program} : ConsOk P [] := fun p hp => by cases hp
theorem con_cons {P : Program} {n : Nat} {C : Con} {l : List (Nat × Con)} (h : Sound P n C) (hl : ConsOk P l) : ConsOk P ((n, C) :: l) := fun p hp => by
  rcases List.mem_cons.1 hp with rfl | hp
  · exact h
  · exact hl p hp
theorem con_look {P : Program} {l : List (Nat × Con)} (hl : ConsOk P l) {n : Nat} {C : Con} (h : look l n = some C) : Sound P n C := hl _ (look_mem h)
theorem laws_szByteS.sound : Sound Try.prog 158 laws_szByteS.con := by
  have h := fun_sound (Γ := laws_szByteS.cx) (cx_ok.same rfl rfl) (fun n C h => con_look (con_nil) h) Try.checked.mixed Try.func158 (by kernel_rfl) (ps := laws_szByteS.ps) (rs := laws_szByteS.rs) (by kernel_rfl) (by kernel_rfl) (by kernel_rfl)
  rw [laws_szByteS.eq] at h
  exact h
theorem laws_szPayload.sound : Sound Try.prog 124 laws_szPayload.con := by
  have h := fun_sound (Γ := laws_szPayload.cx) (cx_ok.same rfl rfl) (fun n C h => con_look (con_cons laws_szByteS.sound con_nil) h) Try.checked.mixed Try.func124 (by kernel_rfl) (ps := laws_szPayload.ps) (rs := laws_szPayload.rs) (by kernel_rfl) (by kernel_rfl) (by kernel_rfl)
  rw [laws_szPayload.eq] at h
  exact h
theorem laws_szPayloadS.sound : Sound Try.prog 59 laws_szPayloadS.con := by
  have h := fun_sound (Γ := laws_szPayloadS.cx) (cx_ok.same rfl rfl) (fun n C h => con_look (con_cons laws_szPayload.sound con_nil) h) Try.checked.mixed Try.func59 (by kernel_rfl) (ps := laws_szPayloadS.ps) (rs := laws_szPayloadS.rs) (by kernel_rfl) (by kernel_rfl) (by kernel_rfl)
  rw [laws_szPayloadS.eq] at h
  exact h
theorem laws_szNumberedPacket.sound : Sound Try.prog 153 laws_szNumberedPacket.con := by
  have h := fun_sound (Γ := laws_szNumberedPacket.cx) (cx_ok.same rfl rfl) (fun n C h => con_look (con_cons laws_szByteS.sound con_nil) h) Try.checked.mixed Try.func153 (by kernel_rfl) (ps := laws_szNumberedPacket.ps) (rs := laws_szNumberedPacket.rs) (by kernel_rfl) (by kernel_rfl) (by kernel_rfl)
  rw [laws_szNumberedPacket.eq] at h
  exact h
theorem laws_szNumberedPacketS.sound : Sound Try.prog 112 laws_szNumberedPacketS.con := by
  have h := fun_sound (Γ := laws_szNumberedPacketS.cx) (cx_ok.same rfl rfl) (fun n C h => con_look (con_cons laws_szNumberedPacket.sound con_nil) h) Try.checked.mixed Try.func112 (by kernel_rfl) (ps := laws_szNumberedPacketS.ps) (rs := laws_szNumberedPacketS.rs) (by kernel_rfl) (by kernel_rfl) (by kernel_rfl)
  rw [laws_szNumberedPacketS.eq] at h
  exact h
theorem laws_szReceiveWindow.sound : Sound Try.prog 42 laws_szReceiveWindow.con := by
  have h := fun_sound (Γ := laws_szReceiveWindow.cx) (cx_ok.same rfl rfl) (fun n C h => con_look (con_cons laws_szPayloadS.sound (con_cons laws_szNumberedPacketS.sound con_nil)) h) Try.checked.mixed Try.func42 (by kernel_rfl) (ps := laws_szReceiveWindow.ps) (rs := laws_szReceiveWindow.rs) (by kernel_rfl) (by kernel_rfl) (by kernel_rfl)
  rw [laws_szReceiveWindow.eq] at h
  exact h
theorem laws_szDevice.sound : Sound Try.prog 10 laws_szDevice.con := by
  have h := fun_sound (Γ := laws_szDevice.cx) (cx_ok.same rfl rfl) (fun n C h => con_look (con_cons laws_szReceiveWindow.sound con_nil) h) Try.checked.mixed Try.func10 (by kernel_rfl) (ps := laws_szDevice.ps) (rs := laws_szDevice.rs) (by kernel_rfl) (by kernel_rfl) (by kernel_rfl)
  rw [laws_szDevice.eq] at h
  exact h
theorem spec_l15Bodies.sound : Sound Try.prog 139 spec_l15Bodies.con := by
  have h := fun_sound (Γ := spec_l15Bodies.cx) (cx_ok.same rfl rfl) (fun n C h => con_look (con_nil) h) Try.checked.mixed Try.func139 (by kernel_rfl) (ps := spec_l15Bodies.ps) (rs := spec_l15Bodies.rs) (by kernel_rfl) (by kernel_rfl) (by kernel_rfl)
  rw [spec_l15Bodies.eq] at h
  exact h
theorem spec_l24Sents.sound : Sound Try.prog 154 spec_l24Sents.con := by
  have h := fun_sound (Γ := spec_l24Sents.cx) (cx_ok.same rfl rfl) (fun n C h => con_look (con_nil) h) Try.checked.mixed Try.func154 (by kernel_rfl) (ps := spec_l24Sents.ps) (rs := spec_l24Sents.rs) (by kernel_rfl) (by kernel_rfl) (by kernel_rfl)
  rw [spec_l24Sents.eq] at h
  exact h
theorem spec_l24Recv.sound : Sound Try.prog 113 spec_l24Recv.con := by
  have h := fun_sound (Γ := spec_l24Recv.cx) (cx_ok.same rfl rfl) (fun n C h => con_look (con_cons spec_l15Bodies.sound (con_cons spec_l24Sents.sound con_nil)) h) Try.checked.mixed Try.func113 (by kernel_rfl) (ps := spec_l24Recv.ps) (rs := spec_l24Recv.rs) (by kernel_rfl) (by kernel_rfl) (by kernel_rfl)
  rw [spec_l24Recv.eq] at h
  exact h
theorem spec_l29Copy.sound : Sound Try.prog 44 spec_l29Copy.con := by
  have h := fun_sound (Γ := spec_l29Copy.cx) (cx_ok.same rfl rfl) (fun n C h => con_look (con_cons spec_l24Recv.sound con_nil) h) Try.checked.mixed Try.func44 (by kernel_rfl) (ps := spec_l29Copy.ps) (rs := spec_l29Copy.rs) (by kernel_rfl) (by kernel_rfl) (by kernel_rfl)
  rw [spec_l29Copy.eq] at h
  exact h
theorem spec_l29None.sound : Sound Try.prog 43 spec_l29None.con := by
  have h := fun_sound (Γ := spec_l29None.cx) (cx_ok.same rfl rfl) (fun n C h => con_look (con_cons spec_l29Copy.sound con_nil) h) Try.checked.mixed Try.func43 (by kernel_rfl) (ps := spec_l29None.ps) (rs := spec_l29None.rs) (by kernel_rfl) (by kernel_rfl) (by kernel_rfl)
  rw [spec_l29None.eq] at h
  exact h
theorem spec_l29Send.sound : Sound Try.prog 45 spec_l29Send.con := by
  have h := fun_sound (Γ := spec_l29Send.cx) (cx_ok.same rfl rfl) (fun n C h => con_look (con_nil) h) Try.checked.mixed Try.func45 (by kernel_rfl) (ps := spec_l29Send.ps) (rs := spec_l29Send.rs) (by kernel_rfl) (by kernel_rfl) (by kernel_rfl)
  rw [spec_l29Send.eq] at h
  exact h
theorem spec_l29Attach.sound : Sound Try.prog 46 spec_l29Attach.con := by
  have h := fun_sound (Γ := spec_l29Attach.cx) (cx_ok.same rfl rfl) (fun n C h => con_look (con_nil) h) Try.checked.mixed Try.func46 (by kernel_rfl) (ps := spec_l29Attach.ps) (rs := spec_l29Attach.rs) (by kernel_rfl) (by kernel_rfl) (by kernel_rfl)
  rw [spec_l29Attach.eq] at h
  exact h
theorem spec_PowerOn.sound : Sound Try.prog 11 spec_PowerOn.con := by
  have h := fun_sound (Γ := spec_PowerOn.cx) (cx_ok.same rfl rfl) (fun n C h => con_look (con_cons spec_l29None.sound (con_cons spec_l29Copy.sound (con_cons spec_l29Send.sound (con_cons spec_l29Attach.sound con_nil)))) h) Try.checked.mixed Try.func11 (by kernel_rfl) (ps := spec_PowerOn.ps) (rs := spec_PowerOn.rs) (by kernel_rfl) (by kernel_rfl) (by kernel_rfl)
  rw [spec_PowerOn.eq] at h
  exact h
theorem laws_toSubscriberID.sound : Sound Try.prog 114 laws_toSubscriberID.con := by
  have h := fun_sound (Γ := laws_toSubscriberID.cx) (cx_ok.same rfl rfl) (fun n C h => con_look (con_nil) h) Try.checked.mixed Try.func114 (by kernel_rfl) (ps := laws_toSubscriberID.ps) (rs := laws_toSubscriberID.rs) (by kernel_rfl) (by kernel_rfl) (by kernel_rfl)
  rw [laws_toSubscriberID.eq] at h
  exact h
theorem laws_toUSIM.sound : Sound Try.prog 47 laws_toUSIM.con := by
  have h := fun_sound (Γ := laws_toUSIM.cx) (cx_ok.same rfl rfl) (fun n C h => con_look (con_cons laws_toSubscriberID.sound con_nil) h) Try.checked.mixed Try.func47 (by kernel_rfl) (ps := laws_toUSIM.ps) (rs := laws_toUSIM.rs) (by kernel_rfl) (by kernel_rfl) (by kernel_rfl)
  rw [laws_toUSIM.eq] at h
  exact h
theorem laws_toByteS.sound : Sound Try.prog 25 laws_toByteS.con := by
  have h := fun_sound (Γ := laws_toByteS.cx) (cx_ok.same rfl rfl) (fun n C h => con_look (con_nil) h) Try.checked.mixed Try.func25 (by kernel_rfl) (ps := laws_toByteS.ps) (rs := laws_toByteS.rs) (by kernel_rfl) (by kernel_rfl) (by kernel_rfl)
  rw [laws_toByteS.eq] at h
  exact h
theorem laws_toPayload.sound : Sound Try.prog 131 laws_toPayload.con := by
  have h := fun_sound (Γ := laws_toPayload.cx) (cx_ok.same rfl rfl) (fun n C h => con_look (con_cons laws_toByteS.sound con_nil) h) Try.checked.mixed Try.func131 (by kernel_rfl) (ps := laws_toPayload.ps) (rs := laws_toPayload.rs) (by kernel_rfl) (by kernel_rfl) (by kernel_rfl)
  rw [laws_toPayload.eq] at h
  exact h
theorem laws_toPayloadS.sound : Sound Try.prog 72 laws_toPayloadS.con := by
  have h := fun_sound (Γ := laws_toPayloadS.cx) (cx_ok.same rfl rfl) (fun n C h => con_look (con_cons laws_toPayload.sound con_nil) h) Try.checked.mixed Try.func72 (by kernel_rfl) (ps := laws_toPayloadS.ps) (rs := laws_toPayloadS.rs) (by kernel_rfl) (by kernel_rfl) (by kernel_rfl)
  rw [laws_toPayloadS.eq] at h
  exact h
theorem laws_toNumberedPacket.sound : Sound Try.prog 155 laws_toNumberedPacket.con := by
  have h := fun_sound (Γ := laws_toNumberedPacket.cx) (cx_ok.same rfl rfl) (fun n C h => con_look (con_cons laws_toByteS.sound con_nil) h) Try.checked.mixed Try.func155 (by kernel_rfl) (ps := laws_toNumberedPacket.ps) (rs := laws_toNumberedPacket.rs) (by kernel_rfl) (by kernel_rfl) (by kernel_rfl)
  rw [laws_toNumberedPacket.eq] at h
  exact h
theorem laws_toNumberedPacketS.sound : Sound Try.prog 115 laws_toNumberedPacketS.con := by
  have h := fun_sound (Γ := laws_toNumberedPacketS.cx) (cx_ok.same rfl rfl) (fun n C h => con_look (con_cons laws_toNumberedPacket.sound con_nil) h) Try.checked.mixed Try.func115 (by kernel_rfl) (ps := laws_toNumberedPacketS.ps) (rs := laws_toNumberedPacketS.rs) (by kernel_rfl) (by kernel_rfl) (by kernel_rfl)
  rw [laws_toNumberedPacketS.eq] at h
  exact h
theorem laws_toReceiveWindow.sound : Sound Try.prog 48 laws_toReceiveWindow.con := by
  have h := fun_sound (Γ := laws_toReceiveWindow.cx) (cx_ok.same rfl rfl) (fun n C h => con_look (con_cons laws_toPayloadS.sound (con_cons laws_toNumberedPacketS.sound con_nil)) h) Try.checked.mixed Try.func48 (by kernel_rfl) (ps := laws_toReceiveWindow.ps) (rs := laws_toReceiveWindow.rs) (by kernel_rfl) (by kernel_rfl) (by kernel_rfl)
  rw [laws_toReceiveWindow.eq] at h
  exact h
theorem laws_toDevice.sound : Sound Try.prog 12 laws_toDevice.con := by
  have h := fun_sound (Γ := laws_toDevice.cx) (cx_ok.same rfl rfl) (fun n C h => con_look (con_cons laws_toUSIM.sound (con_cons laws_toReceiveWindow.sound con_nil)) h) Try.checked.mixed Try.func12 (by kernel_rfl) (ps := laws_toDevice.ps) (rs := laws_toDevice.rs) (by kernel_rfl) (by kernel_rfl) (by kernel_rfl)
  rw [laws_toDevice.eq] at h
  exact h
theorem impl_copyBytes.sound : Sound Try.prog 96 impl_copyBytes.con := by
  have h := fun_sound (Γ := impl_copyBytes.cx) (cx_ok.same rfl rfl) (fun n C h => con_look (con_nil) h) Try.checked.mixed Try.func96 (by kernel_rfl) (ps := impl_copyBytes.ps) (rs := impl_copyBytes.rs) (by kernel_rfl) (by kernel_rfl) (by kernel_rfl)
  rw [impl_copyBytes.eq] at h
  exact h
theorem impl_copyPayloads.sound : Sound Try.prog 142 impl_copyPayloads.con := by
  have h := fun_sound (Γ := impl_copyPayloads.cx) (cx_ok.same rfl rfl) (fun n C h => con_look (con_cons impl_copyBytes.sound con_nil) h) Try.checked.mixed Try.func142 (by kernel_rfl) (ps := impl_copyPayloads.ps) (rs := impl_copyPayloads.rs) (by kernel_rfl) (by kernel_rfl) (by kernel_rfl)
  rw [impl_copyPayloads.eq] at h
  exact h
theorem impl_copyNumbered.sound : Sound Try.prog 160 impl_copyNumbered.con := by
  have h := fun_sound (Γ := impl_copyNumbered.cx) (cx_ok.same rfl rfl) (fun n C h => con_look (con_cons impl_copyBytes.sound con_nil) h) Try.checked.mixed Try.func160 (by kernel_rfl) (ps := impl_copyNumbered.ps) (rs := impl_copyNumbered.rs) (by kernel_rfl) (by kernel_rfl) (by kernel_rfl)
  rw [impl_copyNumbered.eq] at h
  exact h
theorem impl_copyReceiver.sound : Sound Try.prog 156 impl_copyReceiver.con := by
  have h := fun_sound (Γ := impl_copyReceiver.cx) (cx_ok.same rfl rfl) (fun n C h => con_look (con_cons impl_copyPayloads.sound (con_cons impl_copyNumbered.sound con_nil)) h) Try.checked.mixed Try.func156 (by kernel_rfl) (ps := impl_copyReceiver.ps) (rs := impl_copyReceiver.rs) (by kernel_rfl) (by kernel_rfl) (by kernel_rfl)
  rw [impl_copyReceiver.eq] at h
  exact h
theorem impl_copyDevice.sound : Sound Try.prog 116 impl_copyDevice.con := by
  have h := fun_sound (Γ := impl_copyDevice.cx) (cx_ok.same rfl rfl) (fun n C h => con_look (con_cons impl_copyReceiver.sound con_nil) h) Try.checked.mixed Try.func116 (by kernel_rfl) (ps := impl_copyDevice.ps) (rs := impl_copyDevice.rs) (by kernel_rfl) (by kernel_rfl) (by kernel_rfl)
  rw [impl_copyDevice.eq] at h
  exact h
theorem impl_copyItems_impl_Signal.sound : Sound Try.prog 117 impl_copyItems_impl_Signal.con := by
  have h := fun_sound (Γ := impl_copyItems_impl_Signal.cx) (cx_ok.same rfl rfl) (fun n C h => con_look (con_nil) h) Try.checked.mixed Try.func117 (by kernel_rfl) (ps := impl_copyItems_impl_Signal.ps) (rs := impl_copyItems_impl_Signal.rs) (by kernel_rfl) (by kernel_rfl) (by kernel_rfl)
  rw [impl_copyItems_impl_Signal.eq] at h
  exact h
theorem impl_deviceResult.sound : Sound Try.prog 49 impl_deviceResult.con := by
  have h := fun_sound (Γ := impl_deviceResult.cx) (cx_ok.same rfl rfl) (fun n C h => con_look (con_cons impl_copyDevice.sound (con_cons impl_copyItems_impl_Signal.sound con_nil)) h) Try.checked.mixed Try.func49 (by kernel_rfl) (ps := impl_deviceResult.ps) (rs := impl_deviceResult.rs) (by kernel_rfl) (by kernel_rfl) (by kernel_rfl)
  rw [impl_deviceResult.eq] at h
  exact h
theorem impl_attachSignal.sound : Sound Try.prog 50 impl_attachSignal.con := by
  have h := fun_sound (Γ := impl_attachSignal.cx) (cx_ok.same rfl rfl) (fun n C h => con_look (con_nil) h) Try.checked.mixed Try.func50 (by kernel_rfl) (ps := impl_attachSignal.ps) (rs := impl_attachSignal.rs) (by kernel_rfl) (by kernel_rfl) (by kernel_rfl)
  rw [impl_attachSignal.eq] at h
  exact h
theorem impl_PowerOn.sound : Sound Try.prog 13 impl_PowerOn.con := by
  have h := fun_sound (Γ := impl_PowerOn.cx) (cx_ok.same rfl rfl) (fun n C h => con_look (con_cons impl_deviceResult.sound (con_cons impl_attachSignal.sound con_nil)) h) Try.checked.mixed Try.func13 (by kernel_rfl) (ps := impl_PowerOn.ps) (rs := impl_PowerOn.rs) (by kernel_rfl) (by kernel_rfl) (by kernel_rfl)
  rw [impl_PowerOn.eq] at h
  exact h
theorem laws_eqSubscriberID.sound : Sound Try.prog 119 laws_eqSubscriberID.con := by
  have h := fun_sound (Γ := laws_eqSubscriberID.cx) (cx_ok.same rfl rfl) (fun n C h => con_look (con_nil) h) Try.checked.mixed Try.func119 (by kernel_rfl) (ps := laws_eqSubscriberID.ps) (rs := laws_eqSubscriberID.rs) (by kernel_rfl) (by kernel_rfl) (by kernel_rfl)
  rw [laws_eqSubscriberID.eq] at h
  exact h
theorem laws_eqUSIM.sound : Sound Try.prog 52 laws_eqUSIM.con := by
  have h := fun_sound (Γ := laws_eqUSIM.cx) (cx_ok.same rfl rfl) (fun n C h => con_look (con_cons laws_eqSubscriberID.sound con_nil) h) Try.checked.mixed Try.func52 (by kernel_rfl) (ps := laws_eqUSIM.ps) (rs := laws_eqUSIM.rs) (by kernel_rfl) (by kernel_rfl) (by kernel_rfl)
  rw [laws_eqUSIM.eq] at h
  exact h
theorem laws_eqByteS.sound : Sound Try.prog 27 laws_eqByteS.con := by
  have h := fun_sound (Γ := laws_eqByteS.cx) (cx_ok.same rfl rfl) (fun n C h => con_look (con_nil) h) Try.checked.mixed Try.func27 (by kernel_rfl) (ps := laws_eqByteS.ps) (rs := laws_eqByteS.rs) (by kernel_rfl) (by kernel_rfl) (by kernel_rfl)
  rw [laws_eqByteS.eq] at h
  exact h
theorem laws_eqPayload.sound : Sound Try.prog 137 laws_eqPayload.con := by
  have h := fun_sound (Γ := laws_eqPayload.cx) (cx_ok.same rfl rfl) (fun n C h => con_look (con_cons laws_eqByteS.sound con_nil) h) Try.checked.mixed Try.func137 (by kernel_rfl) (ps := laws_eqPayload.ps) (rs := laws_eqPayload.rs) (by kernel_rfl) (by kernel_rfl) (by kernel_rfl)
  rw [laws_eqPayload.eq] at h
  exact h
theorem laws_eqPayloadS.sound : Sound Try.prog 90 laws_eqPayloadS.con := by
  have h := fun_sound (Γ := laws_eqPayloadS.cx) (cx_ok.same rfl rfl) (fun n C h => con_look (con_cons laws_eqPayload.sound con_nil) h) Try.checked.mixed Try.func90 (by kernel_rfl) (ps := laws_eqPayloadS.ps) (rs := laws_eqPayloadS.rs) (by kernel_rfl) (by kernel_rfl) (by kernel_rfl)
  rw [laws_eqPayloadS.eq] at h
  exact h
theorem laws_eqNumberedPacket.sound : Sound Try.prog 157 laws_eqNumberedPacket.con := by
  have h := fun_sound (Γ := laws_eqNumberedPacket.cx) (cx_ok.same rfl rfl) (fun n C h => con_look (con_cons laws_eqByteS.sound con_nil) h) Try.checked.mixed Try.func157 (by kernel_rfl) (ps := laws_eqNumberedPacket.ps) (rs := laws_eqNumberedPacket.rs) (by kernel_rfl) (by kernel_rfl) (by kernel_rfl)
  rw [laws_eqNumberedPacket.eq] at h
  exact h
theorem laws_eqNumberedPacketS.sound : Sound Try.prog 120 laws_eqNumberedPacketS.con := by
  have h := fun_sound (Γ := laws_eqNumberedPacketS.cx) (cx_ok.same rfl rfl) (fun n C h => con_look (con_cons laws_eqNumberedPacket.sound con_nil) h) Try.checked.mixed Try.func120 (by kernel_rfl) (ps := laws_eqNumberedPacketS.ps) (rs := laws_eqNumberedPacketS.rs) (by kernel_rfl) (by kernel_rfl) (by kernel_rfl)
  rw [laws_eqNumberedPacketS.eq] at h
  exact h
theorem laws_eqReceiveWindow.sound : Sound Try.prog 53 laws_eqReceiveWindow.con := by
  have h := fun_sound (Γ := laws_eqReceiveWindow.cx) (cx_ok.same rfl rfl) (fun n C h => con_look (con_cons laws_eqPayloadS.sound (con_cons laws_eqNumberedPacketS.sound con_nil)) h) Try.checked.mixed Try.func53 (by kernel_rfl) (ps := laws_eqReceiveWindow.ps) (rs := laws_eqReceiveWindow.rs) (by kernel_rfl) (by kernel_rfl) (by kernel_rfl)
  rw [laws_eqReceiveWindow.eq] at h
  exact h
theorem laws_eqDevice.sound : Sound Try.prog 15 laws_eqDevice.con := by
  have h := fun_sound (Γ := laws_eqDevice.cx) (cx_ok.same rfl rfl) (fun n C h => con_look (con_cons laws_eqUSIM.sound (con_cons laws_eqReceiveWindow.sound con_nil)) h) Try.checked.mixed Try.func15 (by kernel_rfl) (ps := laws_eqDevice.ps) (rs := laws_eqDevice.rs) (by kernel_rfl) (by kernel_rfl) (by kernel_rfl)
  rw [laws_eqDevice.eq] at h
  exact h
theorem laws_eqAuthVector.sound : Sound Try.prog 88 laws_eqAuthVector.con := by
  have h := fun_sound (Γ := laws_eqAuthVector.cx) (cx_ok.same rfl rfl) (fun n C h => con_look (con_nil) h) Try.checked.mixed Try.func88 (by kernel_rfl) (ps := laws_eqAuthVector.ps) (rs := laws_eqAuthVector.rs) (by kernel_rfl) (by kernel_rfl) (by kernel_rfl)
  rw [laws_eqAuthVector.eq] at h
  exact h
theorem laws_eqSignal.sound : Sound Try.prog 118 laws_eqSignal.con := by
  have h := fun_sound (Γ := laws_eqSignal.cx) (cx_ok.same rfl rfl) (fun n C h => con_look (con_cons laws_eqAuthVector.sound con_nil) h) Try.checked.mixed Try.func118 (by kernel_rfl) (ps := laws_eqSignal.ps) (rs := laws_eqSignal.rs) (by kernel_rfl) (by kernel_rfl) (by kernel_rfl)
  rw [laws_eqSignal.eq] at h
  exact h
theorem laws_eqSignalS.sound : Sound Try.prog 51 laws_eqSignalS.con := by
  have h := fun_sound (Γ := laws_eqSignalS.cx) (cx_ok.same rfl rfl) (fun n C h => con_look (con_cons laws_eqSignal.sound con_nil) h) Try.checked.mixed Try.func51 (by kernel_rfl) (ps := laws_eqSignalS.ps) (rs := laws_eqSignalS.rs) (by kernel_rfl) (by kernel_rfl) (by kernel_rfl)
  rw [laws_eqSignalS.eq] at h
  exact h
theorem laws_eqDeviceResult.sound : Sound Try.prog 14 laws_eqDeviceResult.con := by
  have h := fun_sound (Γ := laws_eqDeviceResult.cx) (cx_ok.same rfl rfl) (fun n C h => con_look (con_cons laws_eqDevice.sound (con_cons laws_eqSignalS.sound con_nil)) h) Try.checked.mixed Try.func14 (by kernel_rfl) (ps := laws_eqDeviceResult.ps) (rs := laws_eqDeviceResult.rs) (by kernel_rfl) (by kernel_rfl) (by kernel_rfl)
  rw [laws_eqDeviceResult.eq] at h
  exact h
theorem laws_markByteS.sound : Sound Try.prog 29 laws_markByteS.con := by
  have h := fun_sound (Γ := laws_markByteS.cx) (cx_ok.same rfl rfl) (fun n C h => con_look (con_nil) h) Try.checked.mixed Try.func29 (by kernel_rfl) (ps := laws_markByteS.ps) (rs := laws_markByteS.rs) (by kernel_rfl) (by kernel_rfl) (by kernel_rfl)
  rw [laws_markByteS.eq] at h
  exact h
theorem laws_markPayloadS.sound : Sound Try.prog 98 laws_markPayloadS.con := by
  have h := fun_sound (Γ := laws_markPayloadS.cx) (cx_ok.same rfl rfl) (fun n C h => con_look (con_cons laws_markByteS.sound con_nil) h) Try.checked.mixed Try.func98 (by kernel_rfl) (ps := laws_markPayloadS.ps) (rs := laws_markPayloadS.rs) (by kernel_rfl) (by kernel_rfl) (by kernel_rfl)
  rw [laws_markPayloadS.eq] at h
  exact h
theorem laws_markNumberedPacketS.sound : Sound Try.prog 121 laws_markNumberedPacketS.con := by
  have h := fun_sound (Γ := laws_markNumberedPacketS.cx) (cx_ok.same rfl rfl) (fun n C h => con_look (con_cons laws_markByteS.sound con_nil) h) Try.checked.mixed Try.func121 (by kernel_rfl) (ps := laws_markNumberedPacketS.ps) (rs := laws_markNumberedPacketS.rs) (by kernel_rfl) (by kernel_rfl) (by kernel_rfl)
  rw [laws_markNumberedPacketS.eq] at h
  exact h
theorem laws_markReceiveWindow.sound : Sound Try.prog 54 laws_markReceiveWindow.con := by
  have h := fun_sound (Γ := laws_markReceiveWindow.cx) (cx_ok.same rfl rfl) (fun n C h => con_look (con_cons laws_markPayloadS.sound (con_cons laws_markNumberedPacketS.sound con_nil)) h) Try.checked.mixed Try.func54 (by kernel_rfl) (ps := laws_markReceiveWindow.ps) (rs := laws_markReceiveWindow.rs) (by kernel_rfl) (by kernel_rfl) (by kernel_rfl)
  rw [laws_markReceiveWindow.eq] at h
  exact h
theorem laws_markDevice.sound : Sound Try.prog 16 laws_markDevice.con := by
  have h := fun_sound (Γ := laws_markDevice.cx) (cx_ok.same rfl rfl) (fun n C h => con_look (con_cons laws_markReceiveWindow.sound con_nil) h) Try.checked.mixed Try.func16 (by kernel_rfl) (ps := laws_markDevice.ps) (rs := laws_markDevice.rs) (by kernel_rfl) (by kernel_rfl) (by kernel_rfl)
  rw [laws_markDevice.eq] at h
  exact h
theorem laws_markSignalS.sound : Sound Try.prog 55 laws_markSignalS.con := by
  have h := fun_sound (Γ := laws_markSignalS.cx) (cx_ok.same rfl rfl) (fun n C h => con_look (con_nil) h) Try.checked.mixed Try.func55 (by kernel_rfl) (ps := laws_markSignalS.ps) (rs := laws_markSignalS.rs) (by kernel_rfl) (by kernel_rfl) (by kernel_rfl)
  rw [laws_markSignalS.eq] at h
  exact h
theorem laws_markDeviceResult.sound : Sound Try.prog 17 laws_markDeviceResult.con := by
  have h := fun_sound (Γ := laws_markDeviceResult.cx) (cx_ok.same rfl rfl) (fun n C h => con_look (con_cons laws_markDevice.sound (con_cons laws_markSignalS.sound con_nil)) h) Try.checked.mixed Try.func17 (by kernel_rfl) (ps := laws_markDeviceResult.ps) (rs := laws_markDeviceResult.rs) (by kernel_rfl) (by kernel_rfl) (by kernel_rfl)
  rw [laws_markDeviceResult.eq] at h
  exact h
theorem laws_heldByteS.sound : Sound Try.prog 111 laws_heldByteS.con := by
  have h := fun_sound (Γ := laws_heldByteS.cx) (cx_ok.same rfl rfl) (fun n C h => con_look (con_nil) h) Try.checked.mixed Try.func111 (by kernel_rfl) (ps := laws_heldByteS.ps) (rs := laws_heldByteS.rs) (by kernel_rfl) (by kernel_rfl) (by kernel_rfl)
  rw [laws_heldByteS.eq] at h
  exact h
theorem laws_heldPayloadS.sound : Sound Try.prog 101 laws_heldPayloadS.con := by
  have h := fun_sound (Γ := laws_heldPayloadS.cx) (cx_ok.same rfl rfl) (fun n C h => con_look (con_cons laws_heldByteS.sound con_nil) h) Try.checked.mixed Try.func101 (by kernel_rfl) (ps := laws_heldPayloadS.ps) (rs := laws_heldPayloadS.rs) (by kernel_rfl) (by kernel_rfl) (by kernel_rfl)
  rw [laws_heldPayloadS.eq] at h
  exact h
theorem laws_heldNumberedPacketS.sound : Sound Try.prog 146 laws_heldNumberedPacketS.con := by
  have h := fun_sound (Γ := laws_heldNumberedPacketS.cx) (cx_ok.same rfl rfl) (fun n C h => con_look (con_cons laws_heldByteS.sound con_nil) h) Try.checked.mixed Try.func146 (by kernel_rfl) (ps := laws_heldNumberedPacketS.ps) (rs := laws_heldNumberedPacketS.rs) (by kernel_rfl) (by kernel_rfl) (by kernel_rfl)
  rw [laws_heldNumberedPacketS.eq] at h
  exact h
theorem laws_heldReceiveWindow.sound : Sound Try.prog 122 laws_heldReceiveWindow.con := by
  have h := fun_sound (Γ := laws_heldReceiveWindow.cx) (cx_ok.same rfl rfl) (fun n C h => con_look (con_cons laws_heldPayloadS.sound (con_cons laws_heldNumberedPacketS.sound con_nil)) h) Try.checked.mixed Try.func122 (by kernel_rfl) (ps := laws_heldReceiveWindow.ps) (rs := laws_heldReceiveWindow.rs) (by kernel_rfl) (by kernel_rfl) (by kernel_rfl)
  rw [laws_heldReceiveWindow.eq] at h
  exact h
theorem laws_heldDevice.sound : Sound Try.prog 56 laws_heldDevice.con := by
  have h := fun_sound (Γ := laws_heldDevice.cx) (cx_ok.same rfl rfl) (fun n C h => con_look (con_cons laws_heldReceiveWindow.sound con_nil) h) Try.checked.mixed Try.func56 (by kernel_rfl) (ps := laws_heldDevice.ps) (rs := laws_heldDevice.rs) (by kernel_rfl) (by kernel_rfl) (by kernel_rfl)
  rw [laws_heldDevice.eq] at h
  exact h
theorem laws_heldSignalS.sound : Sound Try.prog 57 laws_heldSignalS.con := by
  have h := fun_sound (Γ := laws_heldSignalS.cx) (cx_ok.same rfl rfl) (fun n C h => con_look (con_nil) h) Try.checked.mixed Try.func57 (by kernel_rfl) (ps := laws_heldSignalS.ps) (rs := laws_heldSignalS.rs) (by kernel_rfl) (by kernel_rfl) (by kernel_rfl)
  rw [laws_heldSignalS.eq] at h
  exact h
theorem laws_heldDeviceResult.sound : Sound Try.prog 18 laws_heldDeviceResult.con := by
  have h := fun_sound (Γ := laws_heldDeviceResult.cx) (cx_ok.same rfl rfl) (fun n C h => con_look (con_cons laws_heldDevice.sound (con_cons laws_heldSignalS.sound con_nil)) h) Try.checked.mixed Try.func18 (by kernel_rfl) (ps := laws_heldDeviceResult.ps) (rs := laws_heldDeviceResult.rs) (by kernel_rfl) (by kernel_rfl) (by kernel_rfl)
  rw [laws_heldDeviceResult.eq] at h
  exact h
theorem laws_FnExactPowerOn.sound : Sound Try.prog 3 laws_FnExactPowerOn.con := by
  have h := fun_sound (Γ := laws_FnExactPowerOn.cx) (cx_ok.same rfl rfl) (fun n C h => con_look (con_cons laws_szDevice.sound (con_cons spec_PowerOn.sound (con_cons laws_toDevice.sound (con_cons impl_PowerOn.sound (con_cons laws_eqDeviceResult.sound (con_cons laws_eqDevice.sound (con_cons laws_markDevice.sound (con_cons laws_markDeviceResult.sound (con_cons laws_heldDeviceResult.sound con_nil))))))))) h) Try.checked.mixed Try.func3 (by kernel_rfl) (ps := laws_FnExactPowerOn.ps) (rs := laws_FnExactPowerOn.rs) (by kernel_rfl) (by kernel_rfl) (by kernel_rfl)
  rw [laws_FnExactPowerOn.eq] at h
  exact h
theorem laws_szIntS.sound : Sound Try.prog 123 laws_szIntS.con := by
  have h := fun_sound (Γ := laws_szIntS.cx) (cx_ok.same rfl rfl) (fun n C h => con_look (con_nil) h) Try.checked.mixed Try.func123 (by kernel_rfl) (ps := laws_szIntS.ps) (rs := laws_szIntS.rs) (by kernel_rfl) (by kernel_rfl) (by kernel_rfl)
  rw [laws_szIntS.eq] at h
  exact h
theorem laws_szSubscription.sound : Sound Try.prog 58 laws_szSubscription.con := by
  have h := fun_sound (Γ := laws_szSubscription.cx) (cx_ok.same rfl rfl) (fun n C h => con_look (con_cons laws_szIntS.sound con_nil) h) Try.checked.mixed Try.func58 (by kernel_rfl) (ps := laws_szSubscription.ps) (rs := laws_szSubscription.rs) (by kernel_rfl) (by kernel_rfl) (by kernel_rfl)
  rw [laws_szSubscription.eq] at h
  exact h
theorem laws_szSendWindow.sound : Sound Try.prog 60 laws_szSendWindow.con := by
  have h := fun_sound (Γ := laws_szSendWindow.cx) (cx_ok.same rfl rfl) (fun n C h => con_look (con_cons laws_szNumberedPacketS.sound con_nil) h) Try.checked.mixed Try.func60 (by kernel_rfl) (ps := laws_szSendWindow.ps) (rs := laws_szSendWindow.rs) (by kernel_rfl) (by kernel_rfl) (by kernel_rfl)
  rw [laws_szSendWindow.eq] at h
  exact h
theorem laws_szSession.sound : Sound Try.prog 19 laws_szSession.con := by
  have h := fun_sound (Γ := laws_szSession.cx) (cx_ok.same rfl rfl) (fun n C h => con_look (con_cons laws_szSubscription.sound (con_cons laws_szPayloadS.sound (con_cons laws_szSendWindow.sound con_nil))) h) Try.checked.mixed Try.func19 (by kernel_rfl) (ps := laws_szSession.ps) (rs := laws_szSession.rs) (by kernel_rfl) (by kernel_rfl) (by kernel_rfl)
  rw [laws_szSession.eq] at h
  exact h
theorem spec_l1In.sound : Sound Try.prog 62 spec_l1In.con := by
  have h := fun_sound (Γ := spec_l1In.cx) (cx_ok.same rfl rfl) (fun n C h => con_look (con_nil) h) Try.checked.mixed Try.func62 (by kernel_rfl) (ps := spec_l1In.ps) (rs := spec_l1In.rs) (by kernel_rfl) (by kernel_rfl) (by kernel_rfl)
  rw [spec_l1In.eq] at h
  exact h
theorem spec_IsValidKey.sound : Sound Try.prog 61 spec_IsValidKey.con := by
  have h := fun_sound (Γ := spec_IsValidKey.cx) (cx_ok.same rfl rfl) (fun n C h => con_look (con_cons spec_l1In.sound con_nil) h) Try.checked.mixed Try.func61 (by kernel_rfl) (ps := spec_IsValidKey.ps) (rs := spec_IsValidKey.rs) (by kernel_rfl) (by kernel_rfl) (by kernel_rfl)
  rw [spec_IsValidKey.eq] at h
  exact h
theorem spec_IsValidSubscriberID.sound : Sound Try.prog 125 spec_IsValidSubscriberID.con := by
  have h := fun_sound (Γ := spec_IsValidSubscriberID.cx) (cx_ok.same rfl rfl) (fun n C h => con_look (con_cons spec_l1In.sound con_nil) h) Try.checked.mixed Try.func125 (by kernel_rfl) (ps := spec_IsValidSubscriberID.ps) (rs := spec_IsValidSubscriberID.rs) (by kernel_rfl) (by kernel_rfl) (by kernel_rfl)
  rw [spec_IsValidSubscriberID.eq] at h
  exact h
theorem spec_IsValidSubscriberRecord.sound : Sound Try.prog 63 spec_IsValidSubscriberRecord.con := by
  have h := fun_sound (Γ := spec_IsValidSubscriberRecord.cx) (cx_ok.same rfl rfl) (fun n C h => con_look (con_cons spec_IsValidKey.sound (con_cons spec_l1In.sound (con_cons spec_IsValidSubscriberID.sound con_nil))) h) Try.checked.mixed Try.func63 (by kernel_rfl) (ps := spec_IsValidSubscriberRecord.ps) (rs := spec_IsValidSubscriberRecord.rs) (by kernel_rfl) (by kernel_rfl) (by kernel_rfl)
  rw [spec_IsValidSubscriberRecord.eq] at h
  exact h
theorem spec_IsValidSubscription.sound : Sound Try.prog 64 spec_IsValidSubscription.con := by
  have h := fun_sound (Γ := spec_IsValidSubscription.cx) (cx_ok.same rfl rfl) (fun n C h => con_look (con_cons spec_l1In.sound con_nil) h) Try.checked.mixed Try.func64 (by kernel_rfl) (ps := spec_IsValidSubscription.ps) (rs := spec_IsValidSubscription.rs) (by kernel_rfl) (by kernel_rfl) (by kernel_rfl)
  rw [spec_IsValidSubscription.eq] at h
  exact h
theorem spec_IsValidPaging.sound : Sound Try.prog 65 spec_IsValidPaging.con := by
  have h := fun_sound (Γ := spec_IsValidPaging.cx) (cx_ok.same rfl rfl) (fun n C h => con_look (con_cons spec_l1In.sound con_nil) h) Try.checked.mixed Try.func65 (by kernel_rfl) (ps := spec_IsValidPaging.ps) (rs := spec_IsValidPaging.rs) (by kernel_rfl) (by kernel_rfl) (by kernel_rfl)
  rw [spec_IsValidPaging.eq] at h
  exact h
theorem spec_IsValidQuota.sound : Sound Try.prog 66 spec_IsValidQuota.con := by
  have h := fun_sound (Γ := spec_IsValidQuota.cx) (cx_ok.same rfl rfl) (fun n C h => con_look (con_cons spec_l1In.sound con_nil) h) Try.checked.mixed Try.func66 (by kernel_rfl) (ps := spec_IsValidQuota.ps) (rs := spec_IsValidQuota.rs) (by kernel_rfl) (by kernel_rfl) (by kernel_rfl)
  rw [spec_IsValidQuota.eq] at h
  exact h
theorem spec_IsValidSender.sound : Sound Try.prog 126 spec_IsValidSender.con := by
  have h := fun_sound (Γ := spec_IsValidSender.cx) (cx_ok.same rfl rfl) (fun n C h => con_look (con_cons spec_l1In.sound con_nil) h) Try.checked.mixed Try.func126 (by kernel_rfl) (ps := spec_IsValidSender.ps) (rs := spec_IsValidSender.rs) (by kernel_rfl) (by kernel_rfl) (by kernel_rfl)
  rw [spec_IsValidSender.eq] at h
  exact h
theorem spec_EqualBytes.sound : Sound Try.prog 127 spec_EqualBytes.con := by
  have h := fun_sound (Γ := spec_EqualBytes.cx) (cx_ok.same rfl rfl) (fun n C h => con_look (con_nil) h) Try.checked.mixed Try.func127 (by kernel_rfl) (ps := spec_EqualBytes.ps) (rs := spec_EqualBytes.rs) (by kernel_rfl) (by kernel_rfl) (by kernel_rfl)
  rw [spec_EqualBytes.eq] at h
  exact h
theorem spec_l30Bytes.sound : Sound Try.prog 128 spec_l30Bytes.con := by
  have h := fun_sound (Γ := spec_l30Bytes.cx) (cx_ok.same rfl rfl) (fun n C h => con_look (con_nil) h) Try.checked.mixed Try.func128 (by kernel_rfl) (ps := spec_l30Bytes.ps) (rs := spec_l30Bytes.rs) (by kernel_rfl) (by kernel_rfl) (by kernel_rfl)
  rw [spec_l30Bytes.eq] at h
  exact h
theorem spec_RemainingQuota.sound : Sound Try.prog 129 spec_RemainingQuota.con := by
  have h := fun_sound (Γ := spec_RemainingQuota.cx) (cx_ok.same rfl rfl) (fun n C h => con_look (con_cons spec_IsValidQuota.sound con_nil) h) Try.checked.mixed Try.func129 (by kernel_rfl) (ps := spec_RemainingQuota.ps) (rs := spec_RemainingQuota.rs) (by kernel_rfl) (by kernel_rfl) (by kernel_rfl)
  rw [spec_RemainingQuota.eq] at h
  exact h
theorem spec_l30Stream.sound : Sound Try.prog 67 spec_l30Stream.con := by
  have h := fun_sound (Γ := spec_l30Stream.cx) (cx_ok.same rfl rfl) (fun n C h => con_look (con_cons spec_IsValidSender.sound (con_cons spec_EqualBytes.sound (con_cons spec_l30Bytes.sound (con_cons spec_RemainingQuota.sound con_nil)))) h) Try.checked.mixed Try.func67 (by kernel_rfl) (ps := spec_l30Stream.ps) (rs := spec_l30Stream.rs) (by kernel_rfl) (by kernel_rfl) (by kernel_rfl)
  rw [spec_l30Stream.eq] at h
  exact h
theorem spec_IsValidSession.sound : Sound Try.prog 20 spec_IsValidSession.con := by
  have h := fun_sound (Γ := spec_IsValidSession.cx) (cx_ok.same rfl rfl) (fun n C h => con_look (con_cons spec_IsValidKey.sound (con_cons spec_l1In.sound (con_cons spec_IsValidSubscriberRecord.sound (con_cons spec_IsValidSubscription.sound (con_cons spec_IsValidPaging.sound (con_cons spec_IsValidQuota.sound (con_cons spec_l30Stream.sound con_nil))))))) h) Try.checked.mixed Try.func20 (by kernel_rfl) (ps := spec_IsValidSession.ps) (rs := spec_IsValidSession.rs) (by kernel_rfl) (by kernel_rfl) (by kernel_rfl)
  rw [spec_IsValidSession.eq] at h
  exact h
theorem laws_toSubscriberRecord.sound : Sound Try.prog 68 laws_toSubscriberRecord.con := by
  have h := fun_sound (Γ := laws_toSubscriberRecord.cx) (cx_ok.same rfl rfl) (fun n C h => con_look (con_cons laws_toSubscriberID.sound con_nil) h) Try.checked.mixed Try.func68 (by kernel_rfl) (ps := laws_toSubscriberRecord.ps) (rs := laws_toSubscriberRecord.rs) (by kernel_rfl) (by kernel_rfl) (by kernel_rfl)
  rw [laws_toSubscriberRecord.eq] at h
  exact h
theorem laws_toIntS.sound : Sound Try.prog 130 laws_toIntS.con := by
  have h := fun_sound (Γ := laws_toIntS.cx) (cx_ok.same rfl rfl) (fun n C h => con_look (con_nil) h) Try.checked.mixed Try.func130 (by kernel_rfl) (ps := laws_toIntS.ps) (rs := laws_toIntS.rs) (by kernel_rfl) (by kernel_rfl) (by kernel_rfl)
  rw [laws_toIntS.eq] at h
  exact h
theorem laws_toSubscription.sound : Sound Try.prog 69 laws_toSubscription.con := by
  have h := fun_sound (Γ := laws_toSubscription.cx) (cx_ok.same rfl rfl) (fun n C h => con_look (con_cons laws_toIntS.sound con_nil) h) Try.checked.mixed Try.func69 (by kernel_rfl) (ps := laws_toSubscription.ps) (rs := laws_toSubscription.rs) (by kernel_rfl) (by kernel_rfl) (by kernel_rfl)
  rw [laws_toSubscription.eq] at h
  exact h
theorem laws_toAuthVector.sound : Sound Try.prog 70 laws_toAuthVector.con := by
  have h := fun_sound (Γ := laws_toAuthVector.cx) (cx_ok.same rfl rfl) (fun n C h => con_look (con_nil) h) Try.checked.mixed Try.func70 (by kernel_rfl) (ps := laws_toAuthVector.ps) (rs := laws_toAuthVector.rs) (by kernel_rfl) (by kernel_rfl) (by kernel_rfl)
  rw [laws_toAuthVector.eq] at h
  exact h
theorem laws_toPagingState.sound : Sound Try.prog 71 laws_toPagingState.con := by
  have h := fun_sound (Γ := laws_toPagingState.cx) (cx_ok.same rfl rfl) (fun n C h => con_look (con_nil) h) Try.checked.mixed Try.func71 (by kernel_rfl) (ps := laws_toPagingState.ps) (rs := laws_toPagingState.rs) (by kernel_rfl) (by kernel_rfl) (by kernel_rfl)
  rw [laws_toPagingState.eq] at h
  exact h
theorem laws_toSendWindow.sound : Sound Try.prog 73 laws_toSendWindow.con := by
  have h := fun_sound (Γ := laws_toSendWindow.cx) (cx_ok.same rfl rfl) (fun n C h => con_look (con_cons laws_toNumberedPacketS.sound con_nil) h) Try.checked.mixed Try.func73 (by kernel_rfl) (ps := laws_toSendWindow.ps) (rs := laws_toSendWindow.rs) (by kernel_rfl) (by kernel_rfl) (by kernel_rfl)
  rw [laws_toSendWindow.eq] at h
  exact h
theorem laws_toQuota.sound : Sound Try.prog 74 laws_toQuota.con := by
  have h := fun_sound (Γ := laws_toQuota.cx) (cx_ok.same rfl rfl) (fun n C h => con_look (con_nil) h) Try.checked.mixed Try.func74 (by kernel_rfl) (ps := laws_toQuota.ps) (rs := laws_toQuota.rs) (by kernel_rfl) (by kernel_rfl) (by kernel_rfl)
  rw [laws_toQuota.eq] at h
  exact h
theorem laws_toSession.sound : Sound Try.prog 21 laws_toSession.con := by
  have h := fun_sound (Γ := laws_toSession.cx) (cx_ok.same rfl rfl) (fun n C h => con_look (con_cons laws_toSubscriberRecord.sound (con_cons laws_toSubscription.sound (con_cons laws_toAuthVector.sound (con_cons laws_toPagingState.sound (con_cons laws_toPayloadS.sound (con_cons laws_toSendWindow.sound (con_cons laws_toQuota.sound con_nil))))))) h) Try.checked.mixed Try.func21 (by kernel_rfl) (ps := laws_toSession.ps) (rs := laws_toSession.rs) (by kernel_rfl) (by kernel_rfl) (by kernel_rfl)
  rw [laws_toSession.eq] at h
  exact h
theorem impl_InRange.sound : Sound Try.prog 81 impl_InRange.con := by
  have h := fun_sound (Γ := impl_InRange.cx) (cx_ok.same rfl rfl) (fun n C h => con_look (con_nil) h) Try.checked.mixed Try.func81 (by kernel_rfl) (ps := impl_InRange.ps) (rs := impl_InRange.rs) (by kernel_rfl) (by kernel_rfl) (by kernel_rfl)
  rw [impl_InRange.eq] at h
  exact h
theorem impl_IsValidKey.sound : Sound Try.prog 80 impl_IsValidKey.con := by
  have h := fun_sound (Γ := impl_IsValidKey.cx) (cx_ok.same rfl rfl) (fun n C h => con_look (con_cons impl_InRange.sound con_nil) h) Try.checked.mixed Try.func80 (by kernel_rfl) (ps := impl_IsValidKey.ps) (rs := impl_IsValidKey.rs) (by kernel_rfl) (by kernel_rfl) (by kernel_rfl)
  rw [impl_IsValidKey.eq] at h
  exact h
theorem impl_IsValidSubscriberID.sound : Sound Try.prog 132 impl_IsValidSubscriberID.con := by
  have h := fun_sound (Γ := impl_IsValidSubscriberID.cx) (cx_ok.same rfl rfl) (fun n C h => con_look (con_cons impl_InRange.sound con_nil) h) Try.checked.mixed Try.func132 (by kernel_rfl) (ps := impl_IsValidSubscriberID.ps) (rs := impl_IsValidSubscriberID.rs) (by kernel_rfl) (by kernel_rfl) (by kernel_rfl)
  rw [impl_IsValidSubscriberID.eq] at h
  exact h
theorem impl_IsValidSubscriberRecord.sound : Sound Try.prog 75 impl_IsValidSubscriberRecord.con := by
  have h := fun_sound (Γ := impl_IsValidSubscriberRecord.cx) (cx_ok.same rfl rfl) (fun n C h => con_look (con_cons impl_IsValidKey.sound (con_cons impl_InRange.sound (con_cons impl_IsValidSubscriberID.sound con_nil))) h) Try.checked.mixed Try.func75 (by kernel_rfl) (ps := impl_IsValidSubscriberRecord.ps) (rs := impl_IsValidSubscriberRecord.rs) (by kernel_rfl) (by kernel_rfl) (by kernel_rfl)
  rw [impl_IsValidSubscriberRecord.eq] at h
  exact h
theorem impl_isAscending.sound : Sound Try.prog 133 impl_isAscending.con := by
  have h := fun_sound (Γ := impl_isAscending.cx) (cx_ok.same rfl rfl) (fun n C h => con_look (con_nil) h) Try.checked.mixed Try.func133 (by kernel_rfl) (ps := impl_isAscending.ps) (rs := impl_isAscending.rs) (by kernel_rfl) (by kernel_rfl) (by kernel_rfl)
  rw [impl_isAscending.eq] at h
  exact h
theorem impl_IsValidSubscription.sound : Sound Try.prog 76 impl_IsValidSubscription.con := by
  have h := fun_sound (Γ := impl_IsValidSubscription.cx) (cx_ok.same rfl rfl) (fun n C h => con_look (con_cons impl_InRange.sound (con_cons impl_isAscending.sound con_nil)) h) Try.checked.mixed Try.func76 (by kernel_rfl) (ps := impl_IsValidSubscription.ps) (rs := impl_IsValidSubscription.rs) (by kernel_rfl) (by kernel_rfl) (by kernel_rfl)
  rw [impl_IsValidSubscription.eq] at h
  exact h
theorem impl_IsValidPaging.sound : Sound Try.prog 77 impl_IsValidPaging.con := by
  have h := fun_sound (Γ := impl_IsValidPaging.cx) (cx_ok.same rfl rfl) (fun n C h => con_look (con_cons impl_InRange.sound con_nil) h) Try.checked.mixed Try.func77 (by kernel_rfl) (ps := impl_IsValidPaging.ps) (rs := impl_IsValidPaging.rs) (by kernel_rfl) (by kernel_rfl) (by kernel_rfl)
  rw [impl_IsValidPaging.eq] at h
  exact h
theorem impl_IsValidSender.sound : Sound Try.prog 78 impl_IsValidSender.con := by
  have h := fun_sound (Γ := impl_IsValidSender.cx) (cx_ok.same rfl rfl) (fun n C h => con_look (con_cons impl_InRange.sound con_nil) h) Try.checked.mixed Try.func78 (by kernel_rfl) (ps := impl_IsValidSender.ps) (rs := impl_IsValidSender.rs) (by kernel_rfl) (by kernel_rfl) (by kernel_rfl)
  rw [impl_IsValidSender.eq] at h
  exact h
theorem impl_IsValidQuota.sound : Sound Try.prog 79 impl_IsValidQuota.con := by
  have h := fun_sound (Γ := impl_IsValidQuota.cx) (cx_ok.same rfl rfl) (fun n C h => con_look (con_nil) h) Try.checked.mixed Try.func79 (by kernel_rfl) (ps := impl_IsValidQuota.ps) (rs := impl_IsValidQuota.rs) (by kernel_rfl) (by kernel_rfl) (by kernel_rfl)
  rw [impl_IsValidQuota.eq] at h
  exact h
theorem impl_fitPayload.sound : Sound Try.prog 82 impl_fitPayload.con := by
  have h := fun_sound (Γ := impl_fitPayload.cx) (cx_ok.same rfl rfl) (fun n C h => con_look (con_nil) h) Try.checked.mixed Try.func82 (by kernel_rfl) (ps := impl_fitPayload.ps) (rs := impl_fitPayload.rs) (by kernel_rfl) (by kernel_rfl) (by kernel_rfl)
  rw [impl_fitPayload.eq] at h
  exact h
theorem bytes_Equal.sound : Sound Try.prog 134 bytes_Equal.con := by
  have h := fun_sound (Γ := bytes_Equal.cx) (cx_ok.same rfl rfl) (fun n C h => con_look (con_nil) h) Try.checked.mixed Try.func134 (by kernel_rfl) (ps := bytes_Equal.ps) (rs := bytes_Equal.rs) (by kernel_rfl) (by kernel_rfl) (by kernel_rfl)
  rw [bytes_Equal.eq] at h
  exact h
theorem impl_EqualBytes.sound : Sound Try.prog 83 impl_EqualBytes.con := by
  have h := fun_sound (Γ := impl_EqualBytes.cx) (cx_ok.same rfl rfl) (fun n C h => con_look (con_cons bytes_Equal.sound con_nil) h) Try.checked.mixed Try.func83 (by kernel_rfl) (ps := impl_EqualBytes.ps) (rs := impl_EqualBytes.rs) (by kernel_rfl) (by kernel_rfl) (by kernel_rfl)
  rw [impl_EqualBytes.eq] at h
  exact h
theorem impl_numberedBytes.sound : Sound Try.prog 135 impl_numberedBytes.con := by
  have h := fun_sound (Γ := impl_numberedBytes.cx) (cx_ok.same rfl rfl) (fun n C h => con_look (con_nil) h) Try.checked.mixed Try.func135 (by kernel_rfl) (ps := impl_numberedBytes.ps) (rs := impl_numberedBytes.rs) (by kernel_rfl) (by kernel_rfl) (by kernel_rfl)
  rw [impl_numberedBytes.eq] at h
  exact h
theorem impl_OutstandingBytes.sound : Sound Try.prog 84 impl_OutstandingBytes.con := by
  have h := fun_sound (Γ := impl_OutstandingBytes.cx) (cx_ok.same rfl rfl) (fun n C h => con_look (con_cons impl_numberedBytes.sound con_nil) h) Try.checked.mixed Try.func84 (by kernel_rfl) (ps := impl_OutstandingBytes.ps) (rs := impl_OutstandingBytes.rs) (by kernel_rfl) (by kernel_rfl) (by kernel_rfl)
  rw [impl_OutstandingBytes.eq] at h
  exact h
theorem impl_RemainingQuota.sound : Sound Try.prog 85 impl_RemainingQuota.con := by
  have h := fun_sound (Γ := impl_RemainingQuota.cx) (cx_ok.same rfl rfl) (fun n C h => con_look (con_cons impl_IsValidQuota.sound con_nil) h) Try.checked.mixed Try.func85 (by kernel_rfl) (ps := impl_RemainingQuota.ps) (rs := impl_RemainingQuota.rs) (by kernel_rfl) (by kernel_rfl) (by kernel_rfl)
  rw [impl_RemainingQuota.eq] at h
  exact h
theorem impl_IsValidSession.sound : Sound Try.prog 22 impl_IsValidSession.con := by
  have h := fun_sound (Γ := impl_IsValidSession.cx) (cx_ok.same rfl rfl) (fun n C h => con_look (con_cons impl_IsValidSubscriberRecord.sound (con_cons impl_IsValidSubscription.sound (con_cons impl_IsValidPaging.sound (con_cons impl_IsValidSender.sound (con_cons impl_IsValidQuota.sound (con_cons impl_IsValidKey.sound (con_cons impl_InRange.sound (con_cons impl_fitPayload.sound (con_cons impl_EqualBytes.sound (con_cons impl_OutstandingBytes.sound (con_cons impl_RemainingQuota.sound con_nil))))))))))) h) Try.checked.mixed Try.func22 (by kernel_rfl) (ps := impl_IsValidSession.ps) (rs := impl_IsValidSession.rs) (by kernel_rfl) (by kernel_rfl) (by kernel_rfl)
  rw [impl_IsValidSession.eq] at h
  exact h
theorem laws_eqSubscriberRecord.sound : Sound Try.prog 86 laws_eqSubscriberRecord.con := by
  have h := fun_sound (Γ := laws_eqSubscriberRecord.cx) (cx_ok.same rfl rfl) (fun n C h => con_look (con_cons laws_eqSubscriberID.sound con_nil) h) Try.checked.mixed Try.func86 (by kernel_rfl) (ps := laws_eqSubscriberRecord.ps) (rs := laws_eqSubscriberRecord.rs) (by kernel_rfl) (by kernel_rfl) (by kernel_rfl)
  rw [laws_eqSubscriberRecord.eq] at h
  exact h
theorem laws_eqIntS.sound : Sound Try.prog 136 laws_eqIntS.con := by
  have h := fun_sound (Γ := laws_eqIntS.cx) (cx_ok.same rfl rfl) (fun n C h => con_look (con_nil) h) Try.checked.mixed Try.func136 (by kernel_rfl) (ps := laws_eqIntS.ps) (rs := laws_eqIntS.rs) (by kernel_rfl) (by kernel_rfl) (by kernel_rfl)
  rw [laws_eqIntS.eq] at h
  exact h
theorem laws_eqSubscription.sound : Sound Try.prog 87 laws_eqSubscription.con := by
  have h := fun_sound (Γ := laws_eqSubscription.cx) (cx_ok.same rfl rfl) (fun n C h => con_look (con_cons laws_eqIntS.sound con_nil) h) Try.checked.mixed Try.func87 (by kernel_rfl) (ps := laws_eqSubscription.ps) (rs := laws_eqSubscription.rs) (by kernel_rfl) (by kernel_rfl) (by kernel_rfl)
  rw [laws_eqSubscription.eq] at h
  exact h
theorem laws_eqPagingState.sound : Sound Try.prog 89 laws_eqPagingState.con := by
  have h := fun_sound (Γ := laws_eqPagingState.cx) (cx_ok.same rfl rfl) (fun n C h => con_look (con_nil) h) Try.checked.mixed Try.func89 (by kernel_rfl) (ps := laws_eqPagingState.ps) (rs := laws_eqPagingState.rs) (by kernel_rfl) (by kernel_rfl) (by kernel_rfl)
  rw [laws_eqPagingState.eq] at h
  exact h
theorem laws_eqSendWindow.sound : Sound Try.prog 91 laws_eqSendWindow.con := by
  have h := fun_sound (Γ := laws_eqSendWindow.cx) (cx_ok.same rfl rfl) (fun n C h => con_look (con_cons laws_eqNumberedPacketS.sound con_nil) h) Try.checked.mixed Try.func91 (by kernel_rfl) (ps := laws_eqSendWindow.ps) (rs := laws_eqSendWindow.rs) (by kernel_rfl) (by kernel_rfl) (by kernel_rfl)
  rw [laws_eqSendWindow.eq] at h
  exact h
theorem laws_eqQuota.sound : Sound Try.prog 92 laws_eqQuota.con := by
  have h := fun_sound (Γ := laws_eqQuota.cx) (cx_ok.same rfl rfl) (fun n C h => con_look (con_nil) h) Try.checked.mixed Try.func92 (by kernel_rfl) (ps := laws_eqQuota.ps) (rs := laws_eqQuota.rs) (by kernel_rfl) (by kernel_rfl) (by kernel_rfl)
  rw [laws_eqQuota.eq] at h
  exact h
theorem laws_eqSession.sound : Sound Try.prog 23 laws_eqSession.con := by
  have h := fun_sound (Γ := laws_eqSession.cx) (cx_ok.same rfl rfl) (fun n C h => con_look (con_cons laws_eqSubscriberRecord.sound (con_cons laws_eqSubscription.sound (con_cons laws_eqAuthVector.sound (con_cons laws_eqPagingState.sound (con_cons laws_eqPayloadS.sound (con_cons laws_eqSendWindow.sound (con_cons laws_eqQuota.sound con_nil))))))) h) Try.checked.mixed Try.func23 (by kernel_rfl) (ps := laws_eqSession.ps) (rs := laws_eqSession.rs) (by kernel_rfl) (by kernel_rfl) (by kernel_rfl)
  rw [laws_eqSession.eq] at h
  exact h
theorem laws_FnExactIsValidSession.sound : Sound Try.prog 4 laws_FnExactIsValidSession.con := by
  have h := fun_sound (Γ := laws_FnExactIsValidSession.cx) (cx_ok.same rfl rfl) (fun n C h => con_look (con_cons laws_szSession.sound (con_cons spec_IsValidSession.sound (con_cons laws_toSession.sound (con_cons impl_IsValidSession.sound (con_cons laws_eqSession.sound con_nil))))) h) Try.checked.mixed Try.func4 (by kernel_rfl) (ps := laws_FnExactIsValidSession.ps) (rs := laws_FnExactIsValidSession.rs) (by kernel_rfl) (by kernel_rfl) (by kernel_rfl)
  rw [laws_FnExactIsValidSession.eq] at h
  exact h
theorem spec_l30Plan.sound : Sound Try.prog 138 spec_l30Plan.con := by
  have h := fun_sound (Γ := spec_l30Plan.cx) (cx_ok.same rfl rfl) (fun n C h => con_look (con_nil) h) Try.checked.mixed Try.func138 (by kernel_rfl) (ps := spec_l30Plan.ps) (rs := spec_l30Plan.rs) (by kernel_rfl) (by kernel_rfl) (by kernel_rfl)
  rw [spec_l30Plan.eq] at h
  exact h
theorem spec_l24Sender.sound : Sound Try.prog 140 spec_l24Sender.con := by
  have h := fun_sound (Γ := spec_l24Sender.cx) (cx_ok.same rfl rfl) (fun n C h => con_look (con_cons spec_l24Sents.sound con_nil) h) Try.checked.mixed Try.func140 (by kernel_rfl) (ps := spec_l24Sender.ps) (rs := spec_l24Sender.rs) (by kernel_rfl) (by kernel_rfl) (by kernel_rfl)
  rw [spec_l24Sender.eq] at h
  exact h
theorem spec_l30Copy.sound : Sound Try.prog 93 spec_l30Copy.con := by
  have h := fun_sound (Γ := spec_l30Copy.cx) (cx_ok.same rfl rfl) (fun n C h => con_look (con_cons spec_l30Plan.sound (con_cons spec_l15Bodies.sound (con_cons spec_l24Sender.sound con_nil))) h) Try.checked.mixed Try.func93 (by kernel_rfl) (ps := spec_l30Copy.ps) (rs := spec_l30Copy.rs) (by kernel_rfl) (by kernel_rfl) (by kernel_rfl)
  rw [spec_l30Copy.eq] at h
  exact h
theorem spec_l25Body.sound : Sound Try.prog 94 spec_l25Body.con := by
  have h := fun_sound (Γ := spec_l25Body.cx) (cx_ok.same rfl rfl) (fun n C h => con_look (con_nil) h) Try.checked.mixed Try.func94 (by kernel_rfl) (ps := spec_l25Body.ps) (rs := spec_l25Body.rs) (by kernel_rfl) (by kernel_rfl) (by kernel_rfl)
  rw [spec_l25Body.eq] at h
  exact h
theorem spec_SubmitPacket.sound : Sound Try.prog 24 spec_SubmitPacket.con := by
  have h := fun_sound (Γ := spec_SubmitPacket.cx) (cx_ok.same rfl rfl) (fun n C h => con_look (con_cons spec_l30Copy.sound (con_cons spec_l25Body.sound con_nil)) h) Try.checked.mixed Try.func24 (by kernel_rfl) (ps := spec_SubmitPacket.ps) (rs := spec_SubmitPacket.rs) (by kernel_rfl) (by kernel_rfl) (by kernel_rfl)
  rw [spec_SubmitPacket.eq] at h
  exact h
theorem impl_copyInts.sound : Sound Try.prog 159 impl_copyInts.con := by
  have h := fun_sound (Γ := impl_copyInts.cx) (cx_ok.same rfl rfl) (fun n C h => con_look (con_nil) h) Try.checked.mixed Try.func159 (by kernel_rfl) (ps := impl_copyInts.ps) (rs := impl_copyInts.rs) (by kernel_rfl) (by kernel_rfl) (by kernel_rfl)
  rw [impl_copyInts.eq] at h
  exact h
theorem impl_copySubscription.sound : Sound Try.prog 141 impl_copySubscription.con := by
  have h := fun_sound (Γ := impl_copySubscription.cx) (cx_ok.same rfl rfl) (fun n C h => con_look (con_cons impl_copyInts.sound con_nil) h) Try.checked.mixed Try.func141 (by kernel_rfl) (ps := impl_copySubscription.ps) (rs := impl_copySubscription.rs) (by kernel_rfl) (by kernel_rfl) (by kernel_rfl)
  rw [impl_copySubscription.eq] at h
  exact h
theorem impl_copySender.sound : Sound Try.prog 143 impl_copySender.con := by
  have h := fun_sound (Γ := impl_copySender.cx) (cx_ok.same rfl rfl) (fun n C h => con_look (con_cons impl_copyNumbered.sound con_nil) h) Try.checked.mixed Try.func143 (by kernel_rfl) (ps := impl_copySender.ps) (rs := impl_copySender.rs) (by kernel_rfl) (by kernel_rfl) (by kernel_rfl)
  rw [impl_copySender.eq] at h
  exact h
theorem impl_copySession.sound : Sound Try.prog 95 impl_copySession.con := by
  have h := fun_sound (Γ := impl_copySession.cx) (cx_ok.same rfl rfl) (fun n C h => con_look (con_cons impl_copySubscription.sound (con_cons impl_copyPayloads.sound (con_cons impl_copySender.sound con_nil))) h) Try.checked.mixed Try.func95 (by kernel_rfl) (ps := impl_copySession.ps) (rs := impl_copySession.rs) (by kernel_rfl) (by kernel_rfl) (by kernel_rfl)
  rw [impl_copySession.eq] at h
  exact h
theorem impl_SubmitPacket.sound : Sound Try.prog 26 impl_SubmitPacket.con := by
  have h := fun_sound (Γ := impl_SubmitPacket.cx) (cx_ok.same rfl rfl) (fun n C h => con_look (con_cons impl_copySession.sound (con_cons impl_copyBytes.sound con_nil)) h) Try.checked.mixed Try.func26 (by kernel_rfl) (ps := impl_SubmitPacket.ps) (rs := impl_SubmitPacket.rs) (by kernel_rfl) (by kernel_rfl) (by kernel_rfl)
  rw [impl_SubmitPacket.eq] at h
  exact h
theorem laws_markIntS.sound : Sound Try.prog 144 laws_markIntS.con := by
  have h := fun_sound (Γ := laws_markIntS.cx) (cx_ok.same rfl rfl) (fun n C h => con_look (con_nil) h) Try.checked.mixed Try.func144 (by kernel_rfl) (ps := laws_markIntS.ps) (rs := laws_markIntS.rs) (by kernel_rfl) (by kernel_rfl) (by kernel_rfl)
  rw [laws_markIntS.eq] at h
  exact h
theorem laws_markSubscription.sound : Sound Try.prog 97 laws_markSubscription.con := by
  have h := fun_sound (Γ := laws_markSubscription.cx) (cx_ok.same rfl rfl) (fun n C h => con_look (con_cons laws_markIntS.sound con_nil) h) Try.checked.mixed Try.func97 (by kernel_rfl) (ps := laws_markSubscription.ps) (rs := laws_markSubscription.rs) (by kernel_rfl) (by kernel_rfl) (by kernel_rfl)
  rw [laws_markSubscription.eq] at h
  exact h
theorem laws_markSendWindow.sound : Sound Try.prog 99 laws_markSendWindow.con := by
  have h := fun_sound (Γ := laws_markSendWindow.cx) (cx_ok.same rfl rfl) (fun n C h => con_look (con_cons laws_markNumberedPacketS.sound con_nil) h) Try.checked.mixed Try.func99 (by kernel_rfl) (ps := laws_markSendWindow.ps) (rs := laws_markSendWindow.rs) (by kernel_rfl) (by kernel_rfl) (by kernel_rfl)
  rw [laws_markSendWindow.eq] at h
  exact h
theorem laws_markSession.sound : Sound Try.prog 28 laws_markSession.con := by
  have h := fun_sound (Γ := laws_markSession.cx) (cx_ok.same rfl rfl) (fun n C h => con_look (con_cons laws_markSubscription.sound (con_cons laws_markPayloadS.sound (con_cons laws_markSendWindow.sound con_nil))) h) Try.checked.mixed Try.func28 (by kernel_rfl) (ps := laws_markSession.ps) (rs := laws_markSession.rs) (by kernel_rfl) (by kernel_rfl) (by kernel_rfl)
  rw [laws_markSession.eq] at h
  exact h
theorem laws_heldIntS.sound : Sound Try.prog 145 laws_heldIntS.con := by
  have h := fun_sound (Γ := laws_heldIntS.cx) (cx_ok.same rfl rfl) (fun n C h => con_look (con_nil) h) Try.checked.mixed Try.func145 (by kernel_rfl) (ps := laws_heldIntS.ps) (rs := laws_heldIntS.rs) (by kernel_rfl) (by kernel_rfl) (by kernel_rfl)
  rw [laws_heldIntS.eq] at h
  exact h
theorem laws_heldSubscription.sound : Sound Try.prog 100 laws_heldSubscription.con := by
  have h := fun_sound (Γ := laws_heldSubscription.cx) (cx_ok.same rfl rfl) (fun n C h => con_look (con_cons laws_heldIntS.sound con_nil) h) Try.checked.mixed Try.func100 (by kernel_rfl) (ps := laws_heldSubscription.ps) (rs := laws_heldSubscription.rs) (by kernel_rfl) (by kernel_rfl) (by kernel_rfl)
  rw [laws_heldSubscription.eq] at h
  exact h
theorem laws_heldSendWindow.sound : Sound Try.prog 102 laws_heldSendWindow.con := by
  have h := fun_sound (Γ := laws_heldSendWindow.cx) (cx_ok.same rfl rfl) (fun n C h => con_look (con_cons laws_heldNumberedPacketS.sound con_nil) h) Try.checked.mixed Try.func102 (by kernel_rfl) (ps := laws_heldSendWindow.ps) (rs := laws_heldSendWindow.rs) (by kernel_rfl) (by kernel_rfl) (by kernel_rfl)
  rw [laws_heldSendWindow.eq] at h
  exact h
theorem laws_heldSession.sound : Sound Try.prog 30 laws_heldSession.con := by
  have h := fun_sound (Γ := laws_heldSession.cx) (cx_ok.same rfl rfl) (fun n C h => con_look (con_cons laws_heldSubscription.sound (con_cons laws_heldPayloadS.sound (con_cons laws_heldSendWindow.sound con_nil))) h) Try.checked.mixed Try.func30 (by kernel_rfl) (ps := laws_heldSession.ps) (rs := laws_heldSession.rs) (by kernel_rfl) (by kernel_rfl) (by kernel_rfl)
  rw [laws_heldSession.eq] at h
  exact h
theorem laws_FnExactSubmitPacket.sound : Sound Try.prog 5 laws_FnExactSubmitPacket.con := by
  have h := fun_sound (Γ := laws_FnExactSubmitPacket.cx) (cx_ok.same rfl rfl) (fun n C h => con_look (con_cons laws_szSession.sound (con_cons laws_toSession.sound (con_cons laws_eqSession.sound (con_cons spec_SubmitPacket.sound (con_cons laws_toByteS.sound (con_cons impl_SubmitPacket.sound (con_cons laws_eqByteS.sound (con_cons laws_markSession.sound (con_cons laws_markByteS.sound (con_cons laws_heldSession.sound con_nil)))))))))) h) Try.checked.mixed Try.func5 (by kernel_rfl) (ps := laws_FnExactSubmitPacket.ps) (rs := laws_FnExactSubmitPacket.rs) (by kernel_rfl) (by kernel_rfl) (by kernel_rfl)
  rw [laws_FnExactSubmitPacket.eq] at h
  exact h
theorem spec_Failover.sound : Sound Try.prog 31 spec_Failover.con := by
  have h := fun_sound (Γ := spec_Failover.cx) (cx_ok.same rfl rfl) (fun n C h => con_look (con_cons spec_l30Copy.sound con_nil) h) Try.checked.mixed Try.func31 (by kernel_rfl) (ps := spec_Failover.ps) (rs := spec_Failover.rs) (by kernel_rfl) (by kernel_rfl) (by kernel_rfl)
  rw [spec_Failover.eq] at h
  exact h
theorem impl_Failover.sound : Sound Try.prog 32 impl_Failover.con := by
  have h := fun_sound (Γ := impl_Failover.cx) (cx_ok.same rfl rfl) (fun n C h => con_look (con_cons impl_copySession.sound con_nil) h) Try.checked.mixed Try.func32 (by kernel_rfl) (ps := impl_Failover.ps) (rs := impl_Failover.rs) (by kernel_rfl) (by kernel_rfl) (by kernel_rfl)
  rw [impl_Failover.eq] at h
  exact h
theorem laws_FnExactFailover.sound : Sound Try.prog 6 laws_FnExactFailover.con := by
  have h := fun_sound (Γ := laws_FnExactFailover.cx) (cx_ok.same rfl rfl) (fun n C h => con_look (con_cons laws_szSession.sound (con_cons laws_toSession.sound (con_cons laws_eqSession.sound (con_cons laws_markSession.sound (con_cons laws_heldSession.sound (con_cons spec_Failover.sound (con_cons impl_Failover.sound con_nil))))))) h) Try.checked.mixed Try.func6 (by kernel_rfl) (ps := laws_FnExactFailover.ps) (rs := laws_FnExactFailover.rs) (by kernel_rfl) (by kernel_rfl) (by kernel_rfl)
  rw [laws_FnExactFailover.eq] at h
  exact h
theorem spec_Mod.sound : Sound Try.prog 185 spec_Mod.con := by
  have h := fun_sound (Γ := spec_Mod.cx) (cx_ok.same rfl rfl) (fun n C h => con_look (con_cons spec_l1In.sound con_nil) h) Try.checked.mixed Try.func185 (by kernel_rfl) (ps := spec_Mod.ps) (rs := spec_Mod.rs) (by kernel_rfl) (by kernel_rfl) (by kernel_rfl)
  rw [spec_Mod.eq] at h
  exact h
theorem spec_Hash.sound : Sound Try.prog 181 spec_Hash.con := by
  have h := fun_sound (Γ := spec_Hash.cx) (cx_ok.same rfl rfl) (fun n C h => con_look (con_cons spec_Mod.sound con_nil) h) Try.checked.mixed Try.func181 (by kernel_rfl) (ps := spec_Hash.ps) (rs := spec_Hash.rs) (by kernel_rfl) (by kernel_rfl) (by kernel_rfl)
  rw [spec_Hash.eq] at h
  exact h
theorem spec_KeyedHash.sound : Sound Try.prog 170 spec_KeyedHash.con := by
  have h := fun_sound (Γ := spec_KeyedHash.cx) (cx_ok.same rfl rfl) (fun n C h => con_look (con_cons spec_Hash.sound con_nil) h) Try.checked.mixed Try.func170 (by kernel_rfl) (ps := spec_KeyedHash.ps) (rs := spec_KeyedHash.rs) (by kernel_rfl) (by kernel_rfl) (by kernel_rfl)
  rw [spec_KeyedHash.eq] at h
  exact h
theorem spec_Max.sound : Sound Try.prog 183 spec_Max.con := by
  have h := fun_sound (Γ := spec_Max.cx) (cx_ok.same rfl rfl) (fun n C h => con_look (con_nil) h) Try.checked.mixed Try.func183 (by kernel_rfl) (ps := spec_Max.ps) (rs := spec_Max.rs) (by kernel_rfl) (by kernel_rfl) (by kernel_rfl)
  rw [spec_Max.eq] at h
  exact h
theorem spec_DeriveKey.sound : Sound Try.prog 176 spec_DeriveKey.con := by
  have h := fun_sound (Γ := spec_DeriveKey.cx) (cx_ok.same rfl rfl) (fun n C h => con_look (con_cons spec_KeyedHash.sound (con_cons spec_Max.sound con_nil)) h) Try.checked.mixed Try.func176 (by kernel_rfl) (ps := spec_DeriveKey.ps) (rs := spec_DeriveKey.rs) (by kernel_rfl) (by kernel_rfl) (by kernel_rfl)
  rw [spec_DeriveKey.eq] at h
  exact h
theorem spec_KeyForPath.sound : Sound Try.prog 171 spec_KeyForPath.con := by
  have h := fun_sound (Γ := spec_KeyForPath.cx) (cx_ok.same rfl rfl) (fun n C h => con_look (con_cons spec_DeriveKey.sound con_nil) h) Try.checked.mixed Try.func171 (by kernel_rfl) (ps := spec_KeyForPath.ps) (rs := spec_KeyForPath.rs) (by kernel_rfl) (by kernel_rfl) (by kernel_rfl)
  rw [spec_KeyForPath.eq] at h
  exact h
theorem spec_SignalingKeyPath.sound : Sound Try.prog 172 spec_SignalingKeyPath.con := by
  have h := fun_sound (Γ := spec_SignalingKeyPath.cx) (cx_ok.same rfl rfl) (fun n C h => con_look (con_nil) h) Try.checked.mixed Try.func172 (by kernel_rfl) (ps := spec_SignalingKeyPath.ps) (rs := spec_SignalingKeyPath.rs) (by kernel_rfl) (by kernel_rfl) (by kernel_rfl)
  rw [spec_SignalingKeyPath.eq] at h
  exact h
theorem spec_SignalMAC.sound : Sound Try.prog 161 spec_SignalMAC.con := by
  have h := fun_sound (Γ := spec_SignalMAC.cx) (cx_ok.same rfl rfl) (fun n C h => con_look (con_cons spec_KeyedHash.sound (con_cons spec_KeyForPath.sound (con_cons spec_SignalingKeyPath.sound con_nil))) h) Try.checked.mixed Try.func161 (by kernel_rfl) (ps := spec_SignalMAC.ps) (rs := spec_SignalMAC.rs) (by kernel_rfl) (by kernel_rfl) (by kernel_rfl)
  rw [spec_SignalMAC.eq] at h
  exact h
theorem spec_SignSignal.sound : Sound Try.prog 147 spec_SignSignal.con := by
  have h := fun_sound (Γ := spec_SignSignal.cx) (cx_ok.same rfl rfl) (fun n C h => con_look (con_cons spec_SignalMAC.sound con_nil) h) Try.checked.mixed Try.func147 (by kernel_rfl) (ps := spec_SignSignal.ps) (rs := spec_SignSignal.rs) (by kernel_rfl) (by kernel_rfl) (by kernel_rfl)
  rw [spec_SignSignal.eq] at h
  exact h
theorem spec_l29Path.sound : Sound Try.prog 103 spec_l29Path.con := by
  have h := fun_sound (Γ := spec_l29Path.cx) (cx_ok.same rfl rfl) (fun n C h => con_look (con_cons spec_SignSignal.sound con_nil) h) Try.checked.mixed Try.func103 (by kernel_rfl) (ps := spec_l29Path.ps) (rs := spec_l29Path.rs) (by kernel_rfl) (by kernel_rfl) (by kernel_rfl)
  rw [spec_l29Path.eq] at h
  exact h
theorem spec_TickDevice.sound : Sound Try.prog 33 spec_TickDevice.con := by
  have h := fun_sound (Γ := spec_TickDevice.cx) (cx_ok.same rfl rfl) (fun n C h => con_look (con_cons spec_l29Copy.sound (con_cons spec_l29Send.sound (con_cons spec_l29Attach.sound (con_cons spec_l29Path.sound con_nil)))) h) Try.checked.mixed Try.func33 (by kernel_rfl) (ps := spec_TickDevice.ps) (rs := spec_TickDevice.rs) (by kernel_rfl) (by kernel_rfl) (by kernel_rfl)
  rw [spec_TickDevice.eq] at h
  exact h
theorem impl_Mod.sound : Sound Try.prog 186 impl_Mod.con := by
  have h := fun_sound (Γ := impl_Mod.cx) (cx_ok.same rfl rfl) (fun n C h => con_look (con_cons impl_InRange.sound con_nil) h) Try.checked.mixed Try.func186 (by kernel_rfl) (ps := impl_Mod.ps) (rs := impl_Mod.rs) (by kernel_rfl) (by kernel_rfl) (by kernel_rfl)
  rw [impl_Mod.eq] at h
  exact h
theorem impl_hashStep.sound : Sound Try.prog 182 impl_hashStep.con := by
  have h := fun_sound (Γ := impl_hashStep.cx) (cx_ok.same rfl rfl) (fun n C h => con_look (con_cons impl_Mod.sound con_nil) h) Try.checked.mixed Try.func182 (by kernel_rfl) (ps := impl_hashStep.ps) (rs := impl_hashStep.rs) (by kernel_rfl) (by kernel_rfl) (by kernel_rfl)
  rw [impl_hashStep.eq] at h
  exact h
theorem impl_KeyedHash.sound : Sound Try.prog 174 impl_KeyedHash.con := by
  have h := fun_sound (Γ := impl_KeyedHash.cx) (cx_ok.same rfl rfl) (fun n C h => con_look (con_cons impl_hashStep.sound con_nil) h) Try.checked.mixed Try.func174 (by kernel_rfl) (ps := impl_KeyedHash.ps) (rs := impl_KeyedHash.rs) (by kernel_rfl) (by kernel_rfl) (by kernel_rfl)
  rw [impl_KeyedHash.eq] at h
  exact h
theorem impl_DeriveKey.sound : Sound Try.prog 166 impl_DeriveKey.con := by
  have h := fun_sound (Γ := impl_DeriveKey.cx) (cx_ok.same rfl rfl) (fun n C h => con_look (con_cons impl_KeyedHash.sound con_nil) h) Try.checked.mixed Try.func166 (by kernel_rfl) (ps := impl_DeriveKey.ps) (rs := impl_DeriveKey.rs) (by kernel_rfl) (by kernel_rfl) (by kernel_rfl)
  rw [impl_DeriveKey.eq] at h
  exact h
theorem impl_deriveSteps.sound : Sound Try.prog 180 impl_deriveSteps.con := by
  have h := fun_sound (Γ := impl_deriveSteps.cx) (cx_ok.same rfl rfl) (fun n C h => con_look (con_cons impl_DeriveKey.sound con_nil) h) Try.checked.mixed Try.func180 (by kernel_rfl) (ps := impl_deriveSteps.ps) (rs := impl_deriveSteps.rs) (by kernel_rfl) (by kernel_rfl) (by kernel_rfl)
  rw [impl_deriveSteps.eq] at h
  exact h
theorem impl_KeyForPath.sound : Sound Try.prog 168 impl_KeyForPath.con := by
  have h := fun_sound (Γ := impl_KeyForPath.cx) (cx_ok.same rfl rfl) (fun n C h => con_look (con_cons impl_deriveSteps.sound con_nil) h) Try.checked.mixed Try.func168 (by kernel_rfl) (ps := impl_KeyForPath.ps) (rs := impl_KeyForPath.rs) (by kernel_rfl) (by kernel_rfl) (by kernel_rfl)
  rw [impl_KeyForPath.eq] at h
  exact h
theorem impl_SignalingKeyPath.sound : Sound Try.prog 173 impl_SignalingKeyPath.con := by
  have h := fun_sound (Γ := impl_SignalingKeyPath.cx) (cx_ok.same rfl rfl) (fun n C h => con_look (con_nil) h) Try.checked.mixed Try.func173 (by kernel_rfl) (ps := impl_SignalingKeyPath.ps) (rs := impl_SignalingKeyPath.rs) (by kernel_rfl) (by kernel_rfl) (by kernel_rfl)
  rw [impl_SignalingKeyPath.eq] at h
  exact h
theorem impl_SignalMAC.sound : Sound Try.prog 162 impl_SignalMAC.con := by
  have h := fun_sound (Γ := impl_SignalMAC.cx) (cx_ok.same rfl rfl) (fun n C h => con_look (con_cons impl_KeyForPath.sound (con_cons impl_SignalingKeyPath.sound (con_cons impl_KeyedHash.sound con_nil))) h) Try.checked.mixed Try.func162 (by kernel_rfl) (ps := impl_SignalMAC.ps) (rs := impl_SignalMAC.rs) (by kernel_rfl) (by kernel_rfl) (by kernel_rfl)
  rw [impl_SignalMAC.eq] at h
  exact h
theorem impl_SignSignal.sound : Sound Try.prog 148 impl_SignSignal.con := by
  have h := fun_sound (Γ := impl_SignSignal.cx) (cx_ok.same rfl rfl) (fun n C h => con_look (con_cons impl_SignalMAC.sound con_nil) h) Try.checked.mixed Try.func148 (by kernel_rfl) (ps := impl_SignSignal.ps) (rs := impl_SignSignal.rs) (by kernel_rfl) (by kernel_rfl) (by kernel_rfl)
  rw [impl_SignSignal.eq] at h
  exact h
theorem impl_pathUpdate.sound : Sound Try.prog 104 impl_pathUpdate.con := by
  have h := fun_sound (Γ := impl_pathUpdate.cx) (cx_ok.same rfl rfl) (fun n C h => con_look (con_cons impl_SignSignal.sound con_nil) h) Try.checked.mixed Try.func104 (by kernel_rfl) (ps := impl_pathUpdate.ps) (rs := impl_pathUpdate.rs) (by kernel_rfl) (by kernel_rfl) (by kernel_rfl)
  rw [impl_pathUpdate.eq] at h
  exact h
theorem impl_TickDevice.sound : Sound Try.prog 34 impl_TickDevice.con := by
  have h := fun_sound (Γ := impl_TickDevice.cx) (cx_ok.same rfl rfl) (fun n C h => con_look (con_cons impl_deviceResult.sound (con_cons impl_attachSignal.sound (con_cons impl_pathUpdate.sound con_nil))) h) Try.checked.mixed Try.func34 (by kernel_rfl) (ps := impl_TickDevice.ps) (rs := impl_TickDevice.rs) (by kernel_rfl) (by kernel_rfl) (by kernel_rfl)
  rw [impl_TickDevice.eq] at h
  exact h
theorem laws_FnExactTickDevice.sound : Sound Try.prog 7 laws_FnExactTickDevice.con := by
  have h := fun_sound (Γ := laws_FnExactTickDevice.cx) (cx_ok.same rfl rfl) (fun n C h => con_look (con_cons laws_szDevice.sound (con_cons laws_toDevice.sound (con_cons laws_eqDeviceResult.sound (con_cons laws_eqDevice.sound (con_cons laws_markDevice.sound (con_cons laws_markDeviceResult.sound (con_cons laws_heldDeviceResult.sound (con_cons spec_TickDevice.sound (con_cons impl_TickDevice.sound con_nil))))))))) h) Try.checked.mixed Try.func7 (by kernel_rfl) (ps := laws_FnExactTickDevice.ps) (rs := laws_FnExactTickDevice.rs) (by kernel_rfl) (by kernel_rfl) (by kernel_rfl)
  rw [laws_FnExactTickDevice.eq] at h
  exact h
theorem spec_l29Next.sound : Sound Try.prog 105 spec_l29Next.con := by
  have h := fun_sound (Γ := spec_l29Next.cx) (cx_ok.same rfl rfl) (fun n C h => con_look (con_cons spec_l29Send.sound (con_cons spec_l29Path.sound con_nil)) h) Try.checked.mixed Try.func105 (by kernel_rfl) (ps := spec_l29Next.ps) (rs := spec_l29Next.rs) (by kernel_rfl) (by kernel_rfl) (by kernel_rfl)
  rw [spec_l29Next.eq] at h
  exact h
theorem spec_MoveDevice.sound : Sound Try.prog 35 spec_MoveDevice.con := by
  have h := fun_sound (Γ := spec_MoveDevice.cx) (cx_ok.same rfl rfl) (fun n C h => con_look (con_cons spec_l29None.sound (con_cons spec_l29Copy.sound (con_cons spec_l1In.sound (con_cons spec_l29Next.sound con_nil)))) h) Try.checked.mixed Try.func35 (by kernel_rfl) (ps := spec_MoveDevice.ps) (rs := spec_MoveDevice.rs) (by kernel_rfl) (by kernel_rfl) (by kernel_rfl)
  rw [spec_MoveDevice.eq] at h
  exact h
theorem impl_announcePath.sound : Sound Try.prog 106 impl_announcePath.con := by
  have h := fun_sound (Γ := impl_announcePath.cx) (cx_ok.same rfl rfl) (fun n C h => con_look (con_cons impl_deviceResult.sound (con_cons impl_pathUpdate.sound con_nil)) h) Try.checked.mixed Try.func106 (by kernel_rfl) (ps := impl_announcePath.ps) (rs := impl_announcePath.rs) (by kernel_rfl) (by kernel_rfl) (by kernel_rfl)
  rw [impl_announcePath.eq] at h
  exact h
theorem impl_MoveDevice.sound : Sound Try.prog 36 impl_MoveDevice.con := by
  have h := fun_sound (Γ := impl_MoveDevice.cx) (cx_ok.same rfl rfl) (fun n C h => con_look (con_cons impl_deviceResult.sound (con_cons impl_InRange.sound (con_cons impl_announcePath.sound con_nil))) h) Try.checked.mixed Try.func36 (by kernel_rfl) (ps := impl_MoveDevice.ps) (rs := impl_MoveDevice.rs) (by kernel_rfl) (by kernel_rfl) (by kernel_rfl)
  rw [impl_MoveDevice.eq] at h
  exact h
theorem laws_FnExactMoveDevice.sound : Sound Try.prog 8 laws_FnExactMoveDevice.con := by
  have h := fun_sound (Γ := laws_FnExactMoveDevice.cx) (cx_ok.same rfl rfl) (fun n C h => con_look (con_cons laws_szDevice.sound (con_cons laws_toDevice.sound (con_cons laws_eqDeviceResult.sound (con_cons laws_eqDevice.sound (con_cons laws_markDevice.sound (con_cons laws_markDeviceResult.sound (con_cons laws_heldDeviceResult.sound (con_cons spec_MoveDevice.sound (con_cons impl_MoveDevice.sound con_nil))))))))) h) Try.checked.mixed Try.func8 (by kernel_rfl) (ps := laws_FnExactMoveDevice.ps) (rs := laws_FnExactMoveDevice.rs) (by kernel_rfl) (by kernel_rfl) (by kernel_rfl)
  rw [laws_FnExactMoveDevice.eq] at h
  exact h
theorem spec_Encrypt.sound : Sound Try.prog 175 spec_Encrypt.con := by
  have h := fun_sound (Γ := spec_Encrypt.cx) (cx_ok.same rfl rfl) (fun n C h => con_look (con_cons spec_KeyedHash.sound con_nil) h) Try.checked.mixed Try.func175 (by kernel_rfl) (ps := spec_Encrypt.ps) (rs := spec_Encrypt.rs) (by kernel_rfl) (by kernel_rfl) (by kernel_rfl)
  rw [spec_Encrypt.eq] at h
  exact h
theorem spec_BytesToInts.sound : Sound Try.prog 184 spec_BytesToInts.con := by
  have h := fun_sound (Γ := spec_BytesToInts.cx) (cx_ok.same rfl rfl) (fun n C h => con_look (con_nil) h) Try.checked.mixed Try.func184 (by kernel_rfl) (ps := spec_BytesToInts.ps) (rs := spec_BytesToInts.rs) (by kernel_rfl) (by kernel_rfl) (by kernel_rfl)
  rw [spec_BytesToInts.eq] at h
  exact h
theorem spec_l8Mac.sound : Sound Try.prog 177 spec_l8Mac.con := by
  have h := fun_sound (Γ := spec_l8Mac.cx) (cx_ok.same rfl rfl) (fun n C h => con_look (con_cons spec_KeyedHash.sound (con_cons spec_BytesToInts.sound con_nil)) h) Try.checked.mixed Try.func177 (by kernel_rfl) (ps := spec_l8Mac.ps) (rs := spec_l8Mac.rs) (by kernel_rfl) (by kernel_rfl) (by kernel_rfl)
  rw [spec_l8Mac.eq] at h
  exact h
theorem spec_Protect.sound : Sound Try.prog 163 spec_Protect.con := by
  have h := fun_sound (Γ := spec_Protect.cx) (cx_ok.same rfl rfl) (fun n C h => con_look (con_cons spec_Encrypt.sound (con_cons spec_DeriveKey.sound (con_cons spec_l8Mac.sound con_nil))) h) Try.checked.mixed Try.func163 (by kernel_rfl) (ps := spec_Protect.ps) (rs := spec_Protect.rs) (by kernel_rfl) (by kernel_rfl) (by kernel_rfl)
  rw [spec_Protect.eq] at h
  exact h
theorem spec_RadioKeyPath.sound : Sound Try.prog 178 spec_RadioKeyPath.con := by
  have h := fun_sound (Γ := spec_RadioKeyPath.cx) (cx_ok.same rfl rfl) (fun n C h => con_look (con_nil) h) Try.checked.mixed Try.func178 (by kernel_rfl) (ps := spec_RadioKeyPath.ps) (rs := spec_RadioKeyPath.rs) (by kernel_rfl) (by kernel_rfl) (by kernel_rfl)
  rw [spec_RadioKeyPath.eq] at h
  exact h
theorem spec_RadioKey.sound : Sound Try.prog 164 spec_RadioKey.con := by
  have h := fun_sound (Γ := spec_RadioKey.cx) (cx_ok.same rfl rfl) (fun n C h => con_look (con_cons spec_KeyForPath.sound (con_cons spec_RadioKeyPath.sound con_nil)) h) Try.checked.mixed Try.func164 (by kernel_rfl) (ps := spec_RadioKey.ps) (rs := spec_RadioKey.rs) (by kernel_rfl) (by kernel_rfl) (by kernel_rfl)
  rw [spec_RadioKey.eq] at h
  exact h
theorem spec_SealRadio.sound : Sound Try.prog 149 spec_SealRadio.con := by
  have h := fun_sound (Γ := spec_SealRadio.cx) (cx_ok.same rfl rfl) (fun n C h => con_look (con_cons spec_Protect.sound (con_cons spec_RadioKey.sound con_nil)) h) Try.checked.mixed Try.func149 (by kernel_rfl) (ps := spec_SealRadio.ps) (rs := spec_SealRadio.rs) (by kernel_rfl) (by kernel_rfl) (by kernel_rfl)
  rw [spec_SealRadio.eq] at h
  exact h
theorem spec_l31Seal.sound : Sound Try.prog 107 spec_l31Seal.con := by
  have h := fun_sound (Γ := spec_l31Seal.cx) (cx_ok.same rfl rfl) (fun n C h => con_look (con_cons spec_SealRadio.sound con_nil) h) Try.checked.mixed Try.func107 (by kernel_rfl) (ps := spec_l31Seal.ps) (rs := spec_l31Seal.rs) (by kernel_rfl) (by kernel_rfl) (by kernel_rfl)
  rw [spec_l31Seal.eq] at h
  exact h
theorem spec_Retransmit.sound : Sound Try.prog 37 spec_Retransmit.con := by
  have h := fun_sound (Γ := spec_Retransmit.cx) (cx_ok.same rfl rfl) (fun n C h => con_look (con_cons spec_l31Seal.sound con_nil) h) Try.checked.mixed Try.func37 (by kernel_rfl) (ps := spec_Retransmit.ps) (rs := spec_Retransmit.rs) (by kernel_rfl) (by kernel_rfl) (by kernel_rfl)
  rw [spec_Retransmit.eq] at h
  exact h
theorem impl_Min.sound : Sound Try.prog 108 impl_Min.con := by
  have h := fun_sound (Γ := impl_Min.cx) (cx_ok.same rfl rfl) (fun n C h => con_look (con_nil) h) Try.checked.mixed Try.func108 (by kernel_rfl) (ps := impl_Min.ps) (rs := impl_Min.rs) (by kernel_rfl) (by kernel_rfl) (by kernel_rfl)
  rw [impl_Min.eq] at h
  exact h
theorem impl_Encrypt.sound : Sound Try.prog 165 impl_Encrypt.con := by
  have h := fun_sound (Γ := impl_Encrypt.cx) (cx_ok.same rfl rfl) (fun n C h => con_look (con_cons impl_copyBytes.sound (con_cons impl_KeyedHash.sound con_nil)) h) Try.checked.mixed Try.func165 (by kernel_rfl) (ps := impl_Encrypt.ps) (rs := impl_Encrypt.rs) (by kernel_rfl) (by kernel_rfl) (by kernel_rfl)
  rw [impl_Encrypt.eq] at h
  exact h
theorem impl_BytesToInts.sound : Sound Try.prog 179 impl_BytesToInts.con := by
  have h := fun_sound (Γ := impl_BytesToInts.cx) (cx_ok.same rfl rfl) (fun n C h => con_look (con_nil) h) Try.checked.mixed Try.func179 (by kernel_rfl) (ps := impl_BytesToInts.ps) (rs := impl_BytesToInts.rs) (by kernel_rfl) (by kernel_rfl) (by kernel_rfl)
  rw [impl_BytesToInts.eq] at h
  exact h
theorem impl_securedMAC.sound : Sound Try.prog 167 impl_securedMAC.con := by
  have h := fun_sound (Γ := impl_securedMAC.cx) (cx_ok.same rfl rfl) (fun n C h => con_look (con_cons impl_KeyedHash.sound (con_cons impl_BytesToInts.sound con_nil)) h) Try.checked.mixed Try.func167 (by kernel_rfl) (ps := impl_securedMAC.ps) (rs := impl_securedMAC.rs) (by kernel_rfl) (by kernel_rfl) (by kernel_rfl)
  rw [impl_securedMAC.eq] at h
  exact h
theorem impl_Protect.sound : Sound Try.prog 150 impl_Protect.con := by
  have h := fun_sound (Γ := impl_Protect.cx) (cx_ok.same rfl rfl) (fun n C h => con_look (con_cons impl_Encrypt.sound (con_cons impl_DeriveKey.sound (con_cons impl_securedMAC.sound con_nil))) h) Try.checked.mixed Try.func150 (by kernel_rfl) (ps := impl_Protect.ps) (rs := impl_Protect.rs) (by kernel_rfl) (by kernel_rfl) (by kernel_rfl)
  rw [impl_Protect.eq] at h
  exact h
theorem impl_RadioKeyPath.sound : Sound Try.prog 169 impl_RadioKeyPath.con := by
  have h := fun_sound (Γ := impl_RadioKeyPath.cx) (cx_ok.same rfl rfl) (fun n C h => con_look (con_nil) h) Try.checked.mixed Try.func169 (by kernel_rfl) (ps := impl_RadioKeyPath.ps) (rs := impl_RadioKeyPath.rs) (by kernel_rfl) (by kernel_rfl) (by kernel_rfl)
  rw [impl_RadioKeyPath.eq] at h
  exact h
theorem impl_RadioKey.sound : Sound Try.prog 151 impl_RadioKey.con := by
  have h := fun_sound (Γ := impl_RadioKey.cx) (cx_ok.same rfl rfl) (fun n C h => con_look (con_cons impl_KeyForPath.sound (con_cons impl_RadioKeyPath.sound con_nil)) h) Try.checked.mixed Try.func151 (by kernel_rfl) (ps := impl_RadioKey.ps) (rs := impl_RadioKey.rs) (by kernel_rfl) (by kernel_rfl) (by kernel_rfl)
  rw [impl_RadioKey.eq] at h
  exact h
theorem impl_SealRadio.sound : Sound Try.prog 109 impl_SealRadio.con := by
  have h := fun_sound (Γ := impl_SealRadio.cx) (cx_ok.same rfl rfl) (fun n C h => con_look (con_cons impl_Protect.sound (con_cons impl_RadioKey.sound con_nil)) h) Try.checked.mixed Try.func109 (by kernel_rfl) (ps := impl_SealRadio.ps) (rs := impl_SealRadio.rs) (by kernel_rfl) (by kernel_rfl) (by kernel_rfl)
  rw [impl_SealRadio.eq] at h
  exact h
theorem impl_Retransmit.sound : Sound Try.prog 38 impl_Retransmit.con := by
  have h := fun_sound (Γ := impl_Retransmit.cx) (cx_ok.same rfl rfl) (fun n C h => con_look (con_cons impl_Min.sound (con_cons impl_SealRadio.sound con_nil)) h) Try.checked.mixed Try.func38 (by kernel_rfl) (ps := impl_Retransmit.ps) (rs := impl_Retransmit.rs) (by kernel_rfl) (by kernel_rfl) (by kernel_rfl)
  rw [impl_Retransmit.eq] at h
  exact h
theorem laws_eqSecuredMessage.sound : Sound Try.prog 152 laws_eqSecuredMessage.con := by
  have h := fun_sound (Γ := laws_eqSecuredMessage.cx) (cx_ok.same rfl rfl) (fun n C h => con_look (con_cons laws_eqByteS.sound con_nil) h) Try.checked.mixed Try.func152 (by kernel_rfl) (ps := laws_eqSecuredMessage.ps) (rs := laws_eqSecuredMessage.rs) (by kernel_rfl) (by kernel_rfl) (by kernel_rfl)
  rw [laws_eqSecuredMessage.eq] at h
  exact h
theorem laws_eqRadioPacket.sound : Sound Try.prog 110 laws_eqRadioPacket.con := by
  have h := fun_sound (Γ := laws_eqRadioPacket.cx) (cx_ok.same rfl rfl) (fun n C h => con_look (con_cons laws_eqSecuredMessage.sound con_nil) h) Try.checked.mixed Try.func110 (by kernel_rfl) (ps := laws_eqRadioPacket.ps) (rs := laws_eqRadioPacket.rs) (by kernel_rfl) (by kernel_rfl) (by kernel_rfl)
  rw [laws_eqRadioPacket.eq] at h
  exact h
theorem laws_eqRadioPacketS.sound : Sound Try.prog 39 laws_eqRadioPacketS.con := by
  have h := fun_sound (Γ := laws_eqRadioPacketS.cx) (cx_ok.same rfl rfl) (fun n C h => con_look (con_cons laws_eqRadioPacket.sound con_nil) h) Try.checked.mixed Try.func39 (by kernel_rfl) (ps := laws_eqRadioPacketS.ps) (rs := laws_eqRadioPacketS.rs) (by kernel_rfl) (by kernel_rfl) (by kernel_rfl)
  rw [laws_eqRadioPacketS.eq] at h
  exact h
theorem laws_markRadioPacketS.sound : Sound Try.prog 40 laws_markRadioPacketS.con := by
  have h := fun_sound (Γ := laws_markRadioPacketS.cx) (cx_ok.same rfl rfl) (fun n C h => con_look (con_cons laws_markByteS.sound con_nil) h) Try.checked.mixed Try.func40 (by kernel_rfl) (ps := laws_markRadioPacketS.ps) (rs := laws_markRadioPacketS.rs) (by kernel_rfl) (by kernel_rfl) (by kernel_rfl)
  rw [laws_markRadioPacketS.eq] at h
  exact h
theorem laws_heldRadioPacketS.sound : Sound Try.prog 41 laws_heldRadioPacketS.con := by
  have h := fun_sound (Γ := laws_heldRadioPacketS.cx) (cx_ok.same rfl rfl) (fun n C h => con_look (con_cons laws_heldByteS.sound con_nil) h) Try.checked.mixed Try.func41 (by kernel_rfl) (ps := laws_heldRadioPacketS.ps) (rs := laws_heldRadioPacketS.rs) (by kernel_rfl) (by kernel_rfl) (by kernel_rfl)
  rw [laws_heldRadioPacketS.eq] at h
  exact h
theorem laws_FnExactRetransmit.sound : Sound Try.prog 9 laws_FnExactRetransmit.con := by
  have h := fun_sound (Γ := laws_FnExactRetransmit.cx) (cx_ok.same rfl rfl) (fun n C h => con_look (con_cons laws_szSession.sound (con_cons laws_toSession.sound (con_cons laws_eqSession.sound (con_cons laws_markSession.sound (con_cons spec_Retransmit.sound (con_cons impl_Retransmit.sound (con_cons laws_eqRadioPacketS.sound (con_cons laws_markRadioPacketS.sound (con_cons laws_heldRadioPacketS.sound con_nil))))))))) h) Try.checked.mixed Try.func9 (by kernel_rfl) (ps := laws_FnExactRetransmit.ps) (rs := laws_FnExactRetransmit.rs) (by kernel_rfl) (by kernel_rfl) (by kernel_rfl)
  rw [laws_FnExactRetransmit.eq] at h
  exact h
end Go.Proofs.Ytbgkgnhlfmidhaa.XS
