/- What the law rests on: part 4 of 4. -/
import Derived.Test.YtbgkgnhlfmidhaaGreatRows
import Derived.Test.YtbgkgnhlfmidhaaGreatV2
set_option linter.unusedVariables false
set_option linter.unusedSimpArgs false
set_option linter.unusedSectionVars false
/- The laws' own functions: what they do to each kind of data. -/
set_option linter.unusedVariables false
set_option linter.unusedSimpArgs false
set_option maxRecDepth 4000
namespace Go.Proofs.XF
open Go Go.Proofs.XTv
theorem toAuthVector {k : Nat} (hk : FU ≤ k) {x : (TAuthVector : Ty).den} (h : Ok TAuthVector x) : laws_toAuthVector.f k x = some x := by
  unfold laws_toAuthVector.f
  rfl
theorem toByteS {k : Nat} (hk : FU ≤ k) {x : ((.sl (.int .u8)) : Ty).den} (h : Ok (.sl (.int .u8)) x) : laws_toByteS.f k x = some x := by
  have hl := ok_len h
  unfold laws_toByteS.f
  rw [make_len (by omega), cond_true, to_loop hk (e := (.int .u8)) (s := laws_toByteS.s0) (ok_len h) (fun i acc hi hl => by
    have hi' : i < acc.length := hl ▸ hi
    simp only [laws_toByteS.s0, ilt_len, idx_len, decide_eq_true hi, decide_eq_true hi', cond_true, lget_nat _ hi, ob_some, lset_nat, iadd_nat (show i < 9223372036854775807 by omega)]) (fun acc => by
    simp only [laws_toByteS.s0, ilt_len, Nat.lt_irrefl, decide_false, cond_false]), ob_some]
theorem toSubscriberID {k : Nat} (hk : FU ≤ k) {x : (TSubscriberID : Ty).den} (h : Ok TSubscriberID x) : laws_toSubscriberID.f k x = some x := by
  unfold laws_toSubscriberID.f
  rfl
theorem toUSIM {k : Nat} (hk : FU ≤ k) {x : (TUSIM : Ty).den} (h : Ok TUSIM x) : laws_toUSIM.f k x = some x := by
  have e0 := toSubscriberID hk (x := x.1) h.1
  unfold laws_toUSIM.f
  simp only [e0, ob_some]
theorem toPayload {k : Nat} (hk : FU ≤ k) {x : ((.sl (.int .u8)) : Ty).den} (h : Ok (.sl (.int .u8)) x) : laws_toPayload.f k x = some x := by
  have e0 := toByteS hk (x := x) h
  unfold laws_toPayload.f
  simp only [e0, ob_some]
theorem toPayloadS {k : Nat} (hk : FU ≤ k) {x : ((.sl (.sl (.int .u8))) : Ty).den} (h : Ok (.sl (.sl (.int .u8))) x) : laws_toPayloadS.f k x = some x := by
  have hl := ok_len h
  unfold laws_toPayloadS.f
  rw [make_len (by omega), cond_true, to_loop hk (e := (.sl (.int .u8))) (s := (laws_toPayloadS.s0 k)) (ok_len h) (fun i acc hi hl => by
    have hi' : i < acc.length := hl ▸ hi
    simp only [laws_toPayloadS.s0, ilt_len, idx_len, decide_eq_true hi, decide_eq_true hi', cond_true, lget_nat _ hi, toPayload hk (ok_get h hi), ob_some, lset_nat, iadd_nat (show i < 9223372036854775807 by omega)]) (fun acc => by
    simp only [laws_toPayloadS.s0, ilt_len, Nat.lt_irrefl, decide_false, cond_false]), ob_some]
theorem toNumberedPacket {k : Nat} (hk : FU ≤ k) {x : (TNumberedPacket : Ty).den} (h : Ok TNumberedPacket x) : laws_toNumberedPacket.f k x = some x := by
  have e0 := toByteS hk (x := x.2) h.2
  unfold laws_toNumberedPacket.f
  simp only [e0, ob_some]
theorem toNumberedPacketS {k : Nat} (hk : FU ≤ k) {x : ((.sl TNumberedPacket) : Ty).den} (h : Ok (.sl TNumberedPacket) x) : laws_toNumberedPacketS.f k x = some x := by
  have hl := ok_len h
  unfold laws_toNumberedPacketS.f
  rw [make_len (by omega), cond_true, to_loop hk (e := TNumberedPacket) (s := (laws_toNumberedPacketS.s0 k)) (ok_len h) (fun i acc hi hl => by
    have hi' : i < acc.length := hl ▸ hi
    simp only [laws_toNumberedPacketS.s0, ilt_len, idx_len, decide_eq_true hi, decide_eq_true hi', cond_true, lget_nat _ hi, toNumberedPacket hk (ok_get h hi), ob_some, lset_nat, iadd_nat (show i < 9223372036854775807 by omega)]) (fun acc => by
    simp only [laws_toNumberedPacketS.s0, ilt_len, Nat.lt_irrefl, decide_false, cond_false]), ob_some]
theorem toReceiveWindow {k : Nat} (hk : FU ≤ k) {x : (TReceiveWindow : Ty).den} (h : Ok TReceiveWindow x) : laws_toReceiveWindow.f k x = some x := by
  have e0 := toNumberedPacketS hk (x := x.2.1) h.2.1
  have e1 := toPayloadS hk (x := x.2.2) h.2.2
  unfold laws_toReceiveWindow.f
  simp only [e0, e1, ob_some]
theorem toDevice {k : Nat} (hk : FU ≤ k) {x : (TDevice : Ty).den} (h : Ok TDevice x) : laws_toDevice.f k x = some x := by
  have e0 := toUSIM hk (x := x.1) h.1
  have e1 := toReceiveWindow hk (x := x.2.2.2.2.2.2.2.2) h.2.2.2.2.2.2.2.2
  unfold laws_toDevice.f
  simp only [e0, e1, ob_some]
theorem toSignal {k : Nat} (hk : FU ≤ k) {x : (TSignal : Ty).den} (h : Ok TSignal x) : laws_toSignal.f k x = some x := by
  have e0 := toAuthVector hk (x := x.2.2.2.2.2.1) h.2.2.2.2.2.1
  unfold laws_toSignal.f
  simp only [e0, ob_some]
theorem eqAuthVector {k : Nat} (hk : FU ≤ k) {x : (TAuthVector : Ty).den} (h : Ok TAuthVector x) : laws_eqAuthVector.f k (x, x) = some true := by
  unfold laws_eqAuthVector.f
  simp only [ob_some, cond_true, cond_false, dnot_t, dnot_f, ine_self, bne_self, seq_self, ilt_nn]
theorem eqByteS {k : Nat} (hk : FU ≤ k) {x : ((.sl (.int .u8)) : Ty).den} (h : Ok (.sl (.int .u8)) x) : laws_eqByteS.f k (x, x) = some true := by
  have hl := ok_len h
  unfold laws_eqByteS.f
  simp only [ine_self, cond_false]
  rw [eq_loop hk (e := (.int .u8)) (s := laws_eqByteS.s0) (ok_len h) (fun i hi => by
    simp only [laws_eqByteS.s0, ilt_len, idx_len, decide_eq_true hi, lget_nat _ hi, iadd_nat (show i < 9223372036854775807 by omega), ob_some, cond_true, cond_false, dnot_t, dnot_f, ine_self, bne_self, seq_self, ilt_nn]) (by
    simp only [laws_eqByteS.s0, ilt_len, Nat.lt_irrefl, decide_false, cond_false])]
  rfl
theorem eqSubscriberID {k : Nat} (hk : FU ≤ k) {x : (TSubscriberID : Ty).den} (h : Ok TSubscriberID x) : laws_eqSubscriberID.f k (x, x) = some true := by
  unfold laws_eqSubscriberID.f
  simp only [ob_some, cond_true, cond_false, dnot_t, dnot_f, ine_self, bne_self, seq_self, ilt_nn]
theorem eqUSIM {k : Nat} (hk : FU ≤ k) {x : (TUSIM : Ty).den} (h : Ok TUSIM x) : laws_eqUSIM.f k (x, x) = some true := by
  have e0 := eqSubscriberID hk (x := x.1) h.1
  unfold laws_eqUSIM.f
  simp only [e0, ob_some, cond_true, cond_false, dnot_t, dnot_f, ine_self, bne_self, seq_self, ilt_nn]
theorem eqPayload {k : Nat} (hk : FU ≤ k) {x : ((.sl (.int .u8)) : Ty).den} (h : Ok (.sl (.int .u8)) x) : laws_eqPayload.f k (x, x) = some true := by
  have e0 := eqByteS hk (x := x) h
  unfold laws_eqPayload.f
  simp only [e0, ob_some, cond_true, cond_false, dnot_t, dnot_f, ine_self, bne_self, seq_self, ilt_nn]
theorem eqPayloadS {k : Nat} (hk : FU ≤ k) {x : ((.sl (.sl (.int .u8))) : Ty).den} (h : Ok (.sl (.sl (.int .u8))) x) : laws_eqPayloadS.f k (x, x) = some true := by
  have hl := ok_len h
  unfold laws_eqPayloadS.f
  simp only [ine_self, cond_false]
  rw [eq_loop hk (e := (.sl (.int .u8))) (s := (laws_eqPayloadS.s0 k)) (ok_len h) (fun i hi => by
    simp only [laws_eqPayloadS.s0, ilt_len, idx_len, decide_eq_true hi, lget_nat _ hi, iadd_nat (show i < 9223372036854775807 by omega), eqPayload hk (ok_get h hi), ob_some, cond_true, cond_false, dnot_t, dnot_f, ine_self, bne_self, seq_self, ilt_nn]) (by
    simp only [laws_eqPayloadS.s0, ilt_len, Nat.lt_irrefl, decide_false, cond_false])]
  rfl
theorem eqNumberedPacket {k : Nat} (hk : FU ≤ k) {x : (TNumberedPacket : Ty).den} (h : Ok TNumberedPacket x) : laws_eqNumberedPacket.f k (x, x) = some true := by
  have e0 := eqByteS hk (x := x.2) h.2
  unfold laws_eqNumberedPacket.f
  simp only [e0, ob_some, cond_true, cond_false, dnot_t, dnot_f, ine_self, bne_self, seq_self, ilt_nn]
theorem eqNumberedPacketS {k : Nat} (hk : FU ≤ k) {x : ((.sl TNumberedPacket) : Ty).den} (h : Ok (.sl TNumberedPacket) x) : laws_eqNumberedPacketS.f k (x, x) = some true := by
  have hl := ok_len h
  unfold laws_eqNumberedPacketS.f
  simp only [ine_self, cond_false]
  rw [eq_loop hk (e := TNumberedPacket) (s := (laws_eqNumberedPacketS.s0 k)) (ok_len h) (fun i hi => by
    simp only [laws_eqNumberedPacketS.s0, ilt_len, idx_len, decide_eq_true hi, lget_nat _ hi, iadd_nat (show i < 9223372036854775807 by omega), eqNumberedPacket hk (ok_get h hi), ob_some, cond_true, cond_false, dnot_t, dnot_f, ine_self, bne_self, seq_self, ilt_nn]) (by
    simp only [laws_eqNumberedPacketS.s0, ilt_len, Nat.lt_irrefl, decide_false, cond_false])]
  rfl
theorem eqReceiveWindow {k : Nat} (hk : FU ≤ k) {x : (TReceiveWindow : Ty).den} (h : Ok TReceiveWindow x) : laws_eqReceiveWindow.f k (x, x) = some true := by
  have e0 := eqNumberedPacketS hk (x := x.2.1) h.2.1
  have e1 := eqPayloadS hk (x := x.2.2) h.2.2
  unfold laws_eqReceiveWindow.f
  simp only [e0, e1, ob_some, cond_true, cond_false, dnot_t, dnot_f, ine_self, bne_self, seq_self, ilt_nn]
theorem eqDevice {k : Nat} (hk : FU ≤ k) {x : (TDevice : Ty).den} (h : Ok TDevice x) : laws_eqDevice.f k (x, x) = some true := by
  have e0 := eqUSIM hk (x := x.1) h.1
  have e1 := eqReceiveWindow hk (x := x.2.2.2.2.2.2.2.2) h.2.2.2.2.2.2.2.2
  unfold laws_eqDevice.f
  simp only [e0, e1, ob_some, cond_true, cond_false, dnot_t, dnot_f, ine_self, bne_self, seq_self, ilt_nn]
theorem eqSignal {k : Nat} (hk : FU ≤ k) {x : (TSignal : Ty).den} (h : Ok TSignal x) : laws_eqSignal.f k (x, x) = some true := by
  have e0 := eqAuthVector hk (x := x.2.2.2.2.2.1) h.2.2.2.2.2.1
  unfold laws_eqSignal.f
  simp only [e0, ob_some, cond_true, cond_false, dnot_t, dnot_f, ine_self, bne_self, seq_self, ilt_nn]
theorem eqSignalS {k : Nat} (hk : FU ≤ k) {x : ((.sl TSignal) : Ty).den} (h : Ok (.sl TSignal) x) : laws_eqSignalS.f k (x, x) = some true := by
  have hl := ok_len h
  unfold laws_eqSignalS.f
  simp only [ine_self, cond_false]
  rw [eq_loop hk (e := TSignal) (s := (laws_eqSignalS.s0 k)) (ok_len h) (fun i hi => by
    simp only [laws_eqSignalS.s0, ilt_len, idx_len, decide_eq_true hi, lget_nat _ hi, iadd_nat (show i < 9223372036854775807 by omega), eqSignal hk (ok_get h hi), ob_some, cond_true, cond_false, dnot_t, dnot_f, ine_self, bne_self, seq_self, ilt_nn]) (by
    simp only [laws_eqSignalS.s0, ilt_len, Nat.lt_irrefl, decide_false, cond_false])]
  rfl
theorem eqDeviceResult {k : Nat} (hk : FU ≤ k) {x : (TDeviceResult : Ty).den} (h : Ok TDeviceResult x) : laws_eqDeviceResult.f k (x, x) = some true := by
  have e0 := eqDevice hk (x := x.1) h.1
  have e1 := eqSignalS hk (x := x.2) h.2
  unfold laws_eqDeviceResult.f
  simp only [e0, e1, ob_some, cond_true, cond_false, dnot_t, dnot_f, ine_self, bne_self, seq_self, ilt_nn]
theorem szByteS {k : Nat} (hk : FU ≤ k) {x : ((.sl (.int .u8)) : Ty).den} (h : Good' (.sl (.int .u8)) x) {L : Int} (h0 : 0 ≤ L) (h1 : L ≤ 4294967296) : laws_szByteS.f k (x, L) = some (if (cnt (.sl (.int .u8)) x : Int) ≤ L then L - cnt (.sl (.int .u8)) x else -1) := by
  have hl := good_len h
  have hs : isub .i64 L (llen x) = L - (x.length : Int) := isub_eq (by show _ ≤ L - (x.length : Int); omega) (by show L - (x.length : Int) ≤ _; omega)
  have hc : cnt (.sl (.int .u8)) x = x.length := by
    show x.length + (x.map fun _ => 0).sum = _
    rw [sum_zero]; rfl
  unfold laws_szByteS.f
  simp only [hs, hc]
  by_cases hd : (x.length : Int) ≤ L
  · rw [ilt_f (by omega), cond_false, if_pos hd]
  · rw [ilt_t (by omega), cond_true, if_neg hd]
theorem szPayload {k : Nat} (hk : FU ≤ k) {x : ((.sl (.int .u8)) : Ty).den} (h : Good' (.sl (.int .u8)) x) {L : Int} (h0 : 0 ≤ L) (h1 : L ≤ 4294967296) : laws_szPayload.f k (x, L) = some (if (cnt (.sl (.int .u8)) x : Int) ≤ L then L - cnt (.sl (.int .u8)) x else -1) := by
  have hc : cnt (.sl (.int .u8)) x = cnt (.sl (.int .u8)) x := by simp only [cnt]; try omega
  rw [hc]
  unfold laws_szPayload.f
  have e0 := szByteS hk (x := x) h (L := L) h0 h1
  (try simp only [])
  rw [e0]
  exact sz_end h0
theorem szPayloadS {k : Nat} (hk : FU ≤ k) {x : ((.sl (.sl (.int .u8))) : Ty).den} (h : Good' (.sl (.sl (.int .u8))) x) {L : Int} (h0 : 0 ≤ L) (h1 : L ≤ 4294967296) : laws_szPayloadS.f k (x, L) = some (if (cnt (.sl (.sl (.int .u8))) x : Int) ≤ L then L - cnt (.sl (.sl (.int .u8))) x else -1) := by
  have hl := good_len h
  have hs : isub .i64 L (llen x) = L - (x.length : Int) := isub_eq (by show _ ≤ L - (x.length : Int); omega) (by show L - (x.length : Int) ≤ _; omega)
  have hcn : cnt (.sl (.sl (.int .u8))) x = x.length + (x.map (cnt (.sl (.int .u8)))).sum := rfl
  rw [hcn]
  unfold laws_szPayloadS.f
  simp only [hs]
  by_cases hc : (x.length : Int) ≤ L
  · rw [ilt_f (by omega), cond_false, sz_loop hk (e := (.sl (.int .u8))) (cnt (.sl (.int .u8))) (s := (laws_szPayloadS.s0 k)) hl (fun i hi L h0 h1 => by
      have e1 := szPayload hk (good_get h hi) h0 h1
      simp only [laws_szPayloadS.s0, ilt_len, idx_len, decide_eq_true hi, lget_nat _ hi, iadd_nat (show i < 9223372036854775807 by omega), e1, ob_some, cond_true]
      by_cases hd : (cnt (.sl (.int .u8)) x[i] : Int) ≤ L
      · rw [if_pos hd, if_pos hd, ilt_f (by omega), cond_false]
      · rw [if_neg hd, if_neg hd, ilt_t (by omega), cond_true]) (fun L => by
      simp only [laws_szPayloadS.s0, ilt_len, Nat.lt_irrefl, decide_false, cond_false]) (by omega) (by omega), ob_some]
    by_cases hd : ((x.map (cnt (.sl (.int .u8)))).sum : Int) ≤ L - x.length
    · rw [if_pos hd, sel_l, if_pos (by omega)]; congr 1; omega
    · rw [if_neg hd, sel_r, if_neg (by omega)]
  · rw [ilt_t (by omega), cond_true, if_neg (by omega)]
theorem szNumberedPacket {k : Nat} (hk : FU ≤ k) {x : (TNumberedPacket : Ty).den} (h : Good' TNumberedPacket x) {L : Int} (h0 : 0 ≤ L) (h1 : L ≤ 4294967296) : laws_szNumberedPacket.f k (x, L) = some (if (cnt TNumberedPacket x : Int) ≤ L then L - cnt TNumberedPacket x else -1) := by
  have hc : cnt TNumberedPacket x = cnt (.sl (.int .u8)) x.2 := by simp only [cnt]; try omega
  rw [hc]
  unfold laws_szNumberedPacket.f
  have e0 := szByteS hk (x := x.2) h.2 (L := L) h0 h1
  (try simp only [])
  rw [e0]
  exact sz_end h0
theorem szNumberedPacketS {k : Nat} (hk : FU ≤ k) {x : ((.sl TNumberedPacket) : Ty).den} (h : Good' (.sl TNumberedPacket) x) {L : Int} (h0 : 0 ≤ L) (h1 : L ≤ 4294967296) : laws_szNumberedPacketS.f k (x, L) = some (if (cnt (.sl TNumberedPacket) x : Int) ≤ L then L - cnt (.sl TNumberedPacket) x else -1) := by
  have hl := good_len h
  have hs : isub .i64 L (llen x) = L - (x.length : Int) := isub_eq (by show _ ≤ L - (x.length : Int); omega) (by show L - (x.length : Int) ≤ _; omega)
  have hcn : cnt (.sl TNumberedPacket) x = x.length + (x.map (cnt TNumberedPacket)).sum := rfl
  rw [hcn]
  unfold laws_szNumberedPacketS.f
  simp only [hs]
  by_cases hc : (x.length : Int) ≤ L
  · rw [ilt_f (by omega), cond_false, sz_loop hk (e := TNumberedPacket) (cnt TNumberedPacket) (s := (laws_szNumberedPacketS.s0 k)) hl (fun i hi L h0 h1 => by
      have e1 := szNumberedPacket hk (good_get h hi) h0 h1
      simp only [laws_szNumberedPacketS.s0, ilt_len, idx_len, decide_eq_true hi, lget_nat _ hi, iadd_nat (show i < 9223372036854775807 by omega), e1, ob_some, cond_true]
      by_cases hd : (cnt TNumberedPacket x[i] : Int) ≤ L
      · rw [if_pos hd, if_pos hd, ilt_f (by omega), cond_false]
      · rw [if_neg hd, if_neg hd, ilt_t (by omega), cond_true]) (fun L => by
      simp only [laws_szNumberedPacketS.s0, ilt_len, Nat.lt_irrefl, decide_false, cond_false]) (by omega) (by omega), ob_some]
    by_cases hd : ((x.map (cnt TNumberedPacket)).sum : Int) ≤ L - x.length
    · rw [if_pos hd, sel_l, if_pos (by omega)]; congr 1; omega
    · rw [if_neg hd, sel_r, if_neg (by omega)]
  · rw [ilt_t (by omega), cond_true, if_neg (by omega)]
theorem szReceiveWindow {k : Nat} (hk : FU ≤ k) {x : (TReceiveWindow : Ty).den} (h : Good' TReceiveWindow x) {L : Int} (h0 : 0 ≤ L) (h1 : L ≤ 4294967296) : laws_szReceiveWindow.f k (x, L) = some (if (cnt TReceiveWindow x : Int) ≤ L then L - cnt TReceiveWindow x else -1) := by
  have hc : cnt TReceiveWindow x = cnt (.sl TNumberedPacket) x.2.1 + (cnt (.sl (.sl (.int .u8))) x.2.2) := by simp only [cnt]; try omega
  rw [hc]
  unfold laws_szReceiveWindow.f
  have e0 := szNumberedPacketS hk (x := x.2.1) h.2.1 (L := L) h0 h1
  (try simp only [])
  rw [e0]
  refine sz_seq h0 fun M1 h01 h11 => ?_
  have hM1 : M1 ≤ 4294967296 := Int.le_trans h11 h1
  have e1 := szPayloadS hk (x := x.2.2) h.2.2 (L := M1) h01 hM1
  rw [e1]
  exact sz_end h01
theorem szDevice {k : Nat} (hk : FU ≤ k) {x : (TDevice : Ty).den} (h : Good' TDevice x) {L : Int} (h0 : 0 ≤ L) (h1 : L ≤ 4294967296) : laws_szDevice.f k (x, L) = some (if (cnt TDevice x : Int) ≤ L then L - cnt TDevice x else -1) := by
  have hc : cnt TDevice x = cnt TReceiveWindow x.2.2.2.2.2.2.2.2 := by simp only [cnt]; try omega
  rw [hc]
  unfold laws_szDevice.f
  have e0 := szReceiveWindow hk (x := x.2.2.2.2.2.2.2.2) h.2.2.2.2.2.2.2.2 (L := L) h0 h1
  (try simp only [])
  rw [e0]
  exact sz_end h0
theorem markByteS {k : Nat} (hk : FU ≤ k) {x : List ((.int .u8) : Ty).den} (h : Ok (.sl (.int .u8)) x) {n : Nat} (hn : n + cTop (.sl (.int .u8)) x ≤ 4611686018427387904) : laws_markByteS.f k (x, (n : Int)) = some (((mkL (mkE (.int .u8)) x n).2 : Int), (mkL (mkE (.int .u8)) x n).1) := by
  have hl := ok_len h
  unfold laws_markByteS.f
  rw [mark_loop hk (mkE (.int .u8)) (cE (.int .u8)) (s := laws_markByteS.s0) hl (fun x _ n => by rw [mkE_n]; omega) (fun ys i n hi hm hl' hb => by
    have hb' : n + 1 ≤ 4611686018427387904 := hb
    have a0 : iadd .i64 ((n : Nat) : Int) 1 = ((n + 1 : Nat) : Int) := iadd_nat (by omega)
    simp only [laws_markByteS.s0, ilt_len, idx_len, decide_eq_true hi, cond_true, lmod, llen_lset, lget_nat _ hi, lget_lset _ hi, lset_lset, ob_some, iadd_nat (show i < 9223372036854775807 by omega), a0]
    simp only [lset_nat]
    try rfl) (fun ys n => by
    simp only [laws_markByteS.s0, ilt_len, Nat.lt_irrefl, decide_false, cond_false]) hn, ob_some]
theorem heldByteS {k : Nat} (hk : FU ≤ k) {x : List ((.int .u8) : Ty).den} (h : Ok (.sl (.int .u8)) x) {n : Nat} (hn : n + cTop (.sl (.int .u8)) x ≤ 4611686018427387904) : laws_heldByteS.f k ((mkL (mkE (.int .u8)) x n).1, (n : Int)) = some ((mkL (mkE (.int .u8)) x n).2 : Int) := by
  have hl := ok_len h
  unfold laws_heldByteS.f
  rw [held_loop hk (mkE (.int .u8)) (cE (.int .u8)) (s := laws_heldByteS.s0) hl (fun x _ n => by rw [mkE_n]; omega) (fun ys z i n hi hm hl' hy hb => by
    have hb' : n + 1 ≤ 4611686018427387904 := hb
    have a0 : iadd .i64 ((n : Nat) : Int) 1 = ((n + 1 : Nat) : Int) := iadd_nat (by omega)
    have y0 : ys[i] = icast .u8 ((n : Nat) : Int) := by rw [hy]; rfl
    simp only [laws_heldByteS.s0, ilt_len, idx_len, decide_eq_true hi, cond_true, lget_nat _ hi]
    simp only [ine_self, bne_self, cond_false, cond_true, ob_some, ilt_nn, iadd_nat (show i < 9223372036854775807 by omega), a0, y0]
    try rfl) (fun ys n => by
    simp only [laws_heldByteS.s0, ilt_len, Nat.lt_irrefl, decide_false, cond_false]) hn, ob_some]
  rfl
theorem markPayloadS {k : Nat} (hk : FU ≤ k) {x : List ((.sl (.int .u8)) : Ty).den} (h : Ok (.sl (.sl (.int .u8))) x) {n : Nat} (hn : n + cTop (.sl (.sl (.int .u8))) x ≤ 4611686018427387904) : laws_markPayloadS.f k (x, (n : Int)) = some (((mkL (mkE (.sl (.int .u8))) x n).2 : Int), (mkL (mkE (.sl (.int .u8))) x n).1) := by
  have hl := ok_len h
  unfold laws_markPayloadS.f
  rw [mark_loop hk (mkE (.sl (.int .u8))) (cE (.sl (.int .u8))) (s := (laws_markPayloadS.s0 k)) hl (fun x _ n => by rw [mkE_n]; omega) (fun ys i n hi hm hl' hb => by
    have hb' : n + (List.map (cE (.int .u8)) ys[i]).sum ≤ 4611686018427387904 := hb
    have a0 := markByteS hk (x := ys[i]) (h.2 _ hm) (n := n) (by show n + (List.map (cE (.int .u8)) ys[i]).sum ≤ _; omega)
    have q0 := mkLE_n (.int .u8) ys[i] n
    simp only [laws_markPayloadS.s0, ilt_len, idx_len, decide_eq_true hi, cond_true, lmod, llen_lset, lget_nat _ hi, lget_lset _ hi, lset_lset, ob_some, iadd_nat (show i < 9223372036854775807 by omega), a0]
    simp only [lset_nat]
    try rfl) (fun ys n => by
    simp only [laws_markPayloadS.s0, ilt_len, Nat.lt_irrefl, decide_false, cond_false]) hn, ob_some]
theorem heldPayloadS {k : Nat} (hk : FU ≤ k) {x : List ((.sl (.int .u8)) : Ty).den} (h : Ok (.sl (.sl (.int .u8))) x) {n : Nat} (hn : n + cTop (.sl (.sl (.int .u8))) x ≤ 4611686018427387904) : laws_heldPayloadS.f k ((mkL (mkE (.sl (.int .u8))) x n).1, (n : Int)) = some ((mkL (mkE (.sl (.int .u8))) x n).2 : Int) := by
  have hl := ok_len h
  unfold laws_heldPayloadS.f
  rw [held_loop hk (mkE (.sl (.int .u8))) (cE (.sl (.int .u8))) (s := (laws_heldPayloadS.s0 k)) hl (fun x _ n => by rw [mkE_n]; omega) (fun ys z i n hi hm hl' hy hb => by
    have hb' : n + (List.map (cE (.int .u8)) z).sum ≤ 4611686018427387904 := hb
    have a0 := heldByteS hk (x := z) (h.2 _ hm) (n := n) (by show n + (List.map (cE (.int .u8)) z).sum ≤ _; omega)
    have q0 := mkLE_n (.int .u8) z n
    have y0 : ys[i] = (mkL (mkE (.int .u8)) z n).1 := by rw [hy]; rfl
    simp only [laws_heldPayloadS.s0, ilt_len, idx_len, decide_eq_true hi, cond_true, lget_nat _ hi]
    simp only [ine_self, bne_self, cond_false, cond_true, ob_some, ilt_nn, iadd_nat (show i < 9223372036854775807 by omega), a0, y0]
    try rfl) (fun ys n => by
    simp only [laws_heldPayloadS.s0, ilt_len, Nat.lt_irrefl, decide_false, cond_false]) hn, ob_some]
  rfl
theorem markNumberedPacketS {k : Nat} (hk : FU ≤ k) {x : List (TNumberedPacket : Ty).den} (h : Ok (.sl TNumberedPacket) x) {n : Nat} (hn : n + cTop (.sl TNumberedPacket) x ≤ 4611686018427387904) : laws_markNumberedPacketS.f k (x, (n : Int)) = some (((mkL (mkE TNumberedPacket) x n).2 : Int), (mkL (mkE TNumberedPacket) x n).1) := by
  have hl := ok_len h
  unfold laws_markNumberedPacketS.f
  rw [mark_loop hk (mkE TNumberedPacket) (cE TNumberedPacket) (s := (laws_markNumberedPacketS.s0 k)) hl (fun x _ n => by rw [mkE_n]; omega) (fun ys i n hi hm hl' hb => by
    have hb' : n + (1 + (List.map (cE (.int .u8)) ys[i].2).sum) ≤ 4611686018427387904 := hb
    have a0 : iadd .i64 ((n : Nat) : Int) 1 = ((n + 1 : Nat) : Int) := iadd_nat (by omega)
    have a1 := markByteS hk (x := ys[i].2) (h.2 _ hm).2 (n := (n + 1)) (by show (n + 1) + (List.map (cE (.int .u8)) ys[i].2).sum ≤ _; omega)
    have q1 := mkLE_n (.int .u8) ys[i].2 (n + 1)
    simp only [laws_markNumberedPacketS.s0, ilt_len, idx_len, decide_eq_true hi, cond_true, lmod, llen_lset, lget_nat _ hi, lget_lset _ hi, lset_lset, ob_some, iadd_nat (show i < 9223372036854775807 by omega), a0, a1]
    simp only [lset_nat]
    try rfl) (fun ys n => by
    simp only [laws_markNumberedPacketS.s0, ilt_len, Nat.lt_irrefl, decide_false, cond_false]) hn, ob_some]
theorem heldNumberedPacketS {k : Nat} (hk : FU ≤ k) {x : List (TNumberedPacket : Ty).den} (h : Ok (.sl TNumberedPacket) x) {n : Nat} (hn : n + cTop (.sl TNumberedPacket) x ≤ 4611686018427387904) : laws_heldNumberedPacketS.f k ((mkL (mkE TNumberedPacket) x n).1, (n : Int)) = some ((mkL (mkE TNumberedPacket) x n).2 : Int) := by
  have hl := ok_len h
  unfold laws_heldNumberedPacketS.f
  rw [held_loop hk (mkE TNumberedPacket) (cE TNumberedPacket) (s := (laws_heldNumberedPacketS.s0 k)) hl (fun x _ n => by rw [mkE_n]; omega) (fun ys z i n hi hm hl' hy hb => by
    have hb' : n + (1 + (List.map (cE (.int .u8)) z.2).sum) ≤ 4611686018427387904 := hb
    have a0 : iadd .i64 ((n : Nat) : Int) 1 = ((n + 1 : Nat) : Int) := iadd_nat (by omega)
    have y0 : ys[i].1 = ((n : Nat) : Int) := by rw [hy]; rfl
    have a1 := heldByteS hk (x := z.2) (h.2 _ hm).2 (n := (n + 1)) (by show (n + 1) + (List.map (cE (.int .u8)) z.2).sum ≤ _; omega)
    have q1 := mkLE_n (.int .u8) z.2 (n + 1)
    have y1 : ys[i].2 = (mkL (mkE (.int .u8)) z.2 (n + 1)).1 := by rw [hy]; rfl
    simp only [laws_heldNumberedPacketS.s0, ilt_len, idx_len, decide_eq_true hi, cond_true, lget_nat _ hi]
    simp only [ine_self, bne_self, cond_false, cond_true, ob_some, ilt_nn, iadd_nat (show i < 9223372036854775807 by omega), a0, y0, a1, y1]
    try rfl) (fun ys n => by
    simp only [laws_heldNumberedPacketS.s0, ilt_len, Nat.lt_irrefl, decide_false, cond_false]) hn, ob_some]
  rfl
theorem markReceiveWindow {k : Nat} (hk : FU ≤ k) {x : (TReceiveWindow : Ty).den} (h : Ok TReceiveWindow x) {n : Nat} (hn : n + cTop TReceiveWindow x ≤ 4611686018427387904) : laws_markReceiveWindow.f k (x, (n : Int)) = some (((mkTop TReceiveWindow x n).2 : Int), (mkTop TReceiveWindow x n).1) := by
  have hc : cTop TReceiveWindow x = cTop (.sl TNumberedPacket) x.2.1 + cTop (.sl (.sl (.int .u8))) x.2.2 := by simp only [cTop]; try omega
  have e0 : laws_markNumberedPacketS.f k (x.2.1, ((n : Nat) : Int)) = some (((mkTop (.sl TNumberedPacket) x.2.1 n).2 : Int), (mkTop (.sl TNumberedPacket) x.2.1 n).1) := markNumberedPacketS hk (x := x.2.1) h.2.1 (n := n) (by omega)
  have q0 := mkTop_n (.sl TNumberedPacket) x.2.1 n
  have e1 : laws_markPayloadS.f k (x.2.2, (((mkTop (.sl TNumberedPacket) x.2.1 n).2 : Nat) : Int)) = some (((mkTop (.sl (.sl (.int .u8))) x.2.2 (mkTop (.sl TNumberedPacket) x.2.1 n).2).2 : Int), (mkTop (.sl (.sl (.int .u8))) x.2.2 (mkTop (.sl TNumberedPacket) x.2.1 n).2).1) := markPayloadS hk (x := x.2.2) h.2.2 (n := (mkTop (.sl TNumberedPacket) x.2.1 n).2) (by omega)
  have q1 := mkTop_n (.sl (.sl (.int .u8))) x.2.2 (mkTop (.sl TNumberedPacket) x.2.1 n).2
  unfold laws_markReceiveWindow.f
  simp only [e0, e1, ob_some, ilt_nn, cond_false]
  rfl
theorem heldReceiveWindow {k : Nat} (hk : FU ≤ k) {x : (TReceiveWindow : Ty).den} (h : Ok TReceiveWindow x) {n : Nat} (hn : n + cTop TReceiveWindow x ≤ 4611686018427387904) : laws_heldReceiveWindow.f k ((mkTop TReceiveWindow x n).1, (n : Int)) = some ((mkTop TReceiveWindow x n).2 : Int) := by
  have hc : cTop TReceiveWindow x = cTop (.sl TNumberedPacket) x.2.1 + cTop (.sl (.sl (.int .u8))) x.2.2 := by simp only [cTop]; try omega
  have e0 : laws_heldNumberedPacketS.f k ((mkTop TReceiveWindow x n).1.2.1, ((n : Nat) : Int)) = some ((mkTop (.sl TNumberedPacket) x.2.1 n).2 : Int) := heldNumberedPacketS hk (x := x.2.1) h.2.1 (n := n) (by omega)
  have q0 := mkTop_n (.sl TNumberedPacket) x.2.1 n
  have e1 : laws_heldPayloadS.f k ((mkTop TReceiveWindow x n).1.2.2, (((mkTop (.sl TNumberedPacket) x.2.1 n).2 : Nat) : Int)) = some ((mkTop (.sl (.sl (.int .u8))) x.2.2 (mkTop (.sl TNumberedPacket) x.2.1 n).2).2 : Int) := heldPayloadS hk (x := x.2.2) h.2.2 (n := (mkTop (.sl TNumberedPacket) x.2.1 n).2) (by omega)
  have q1 := mkTop_n (.sl (.sl (.int .u8))) x.2.2 (mkTop (.sl TNumberedPacket) x.2.1 n).2
  unfold laws_heldReceiveWindow.f
  simp only [e0, e1, ob_some, ilt_nn, cond_false]
  rfl
theorem markDevice {k : Nat} (hk : FU ≤ k) {x : (TDevice : Ty).den} (h : Ok TDevice x) {n : Nat} (hn : n + cTop TDevice x ≤ 4611686018427387904) : laws_markDevice.f k (x, (n : Int)) = some (((mkTop TDevice x n).2 : Int), (mkTop TDevice x n).1) := by
  have hc : cTop TDevice x = cTop TReceiveWindow x.2.2.2.2.2.2.2.2 := by simp only [cTop]; try omega
  have e0 : laws_markReceiveWindow.f k (x.2.2.2.2.2.2.2.2, ((n : Nat) : Int)) = some (((mkTop TReceiveWindow x.2.2.2.2.2.2.2.2 n).2 : Int), (mkTop TReceiveWindow x.2.2.2.2.2.2.2.2 n).1) := markReceiveWindow hk (x := x.2.2.2.2.2.2.2.2) h.2.2.2.2.2.2.2.2 (n := n) (by omega)
  have q0 := mkTop_n TReceiveWindow x.2.2.2.2.2.2.2.2 n
  unfold laws_markDevice.f
  simp only [e0, ob_some, ilt_nn, cond_false]
  rfl
theorem heldDevice {k : Nat} (hk : FU ≤ k) {x : (TDevice : Ty).den} (h : Ok TDevice x) {n : Nat} (hn : n + cTop TDevice x ≤ 4611686018427387904) : laws_heldDevice.f k ((mkTop TDevice x n).1, (n : Int)) = some ((mkTop TDevice x n).2 : Int) := by
  have hc : cTop TDevice x = cTop TReceiveWindow x.2.2.2.2.2.2.2.2 := by simp only [cTop]; try omega
  have e0 : laws_heldReceiveWindow.f k ((mkTop TDevice x n).1.2.2.2.2.2.2.2.2, ((n : Nat) : Int)) = some ((mkTop TReceiveWindow x.2.2.2.2.2.2.2.2 n).2 : Int) := heldReceiveWindow hk (x := x.2.2.2.2.2.2.2.2) h.2.2.2.2.2.2.2.2 (n := n) (by omega)
  have q0 := mkTop_n TReceiveWindow x.2.2.2.2.2.2.2.2 n
  unfold laws_heldDevice.f
  simp only [e0, ob_some, ilt_nn, cond_false]
  rfl
theorem markSignalS {k : Nat} (hk : FU ≤ k) {x : List (TSignal : Ty).den} (h : Ok (.sl TSignal) x) {n : Nat} (hn : n + cTop (.sl TSignal) x ≤ 4611686018427387904) : laws_markSignalS.f k (x, (n : Int)) = some (((mkL (mkE TSignal) x n).2 : Int), (mkL (mkE TSignal) x n).1) := by
  have hl := ok_len h
  unfold laws_markSignalS.f
  rw [mark_loop hk (mkE TSignal) (cE TSignal) (s := laws_markSignalS.s0) hl (fun x _ n => by rw [mkE_n]; omega) (fun ys i n hi hm hl' hb => by
    have hb' : n + (1 + (1 + (1 + (1 + (1 + ((1 + (1 + (1 + (1 + 1)))) + 1)))))) ≤ 4611686018427387904 := hb
    have a0 : iadd .i64 ((n : Nat) : Int) 1 = ((n + 1 : Nat) : Int) := iadd_nat (by omega)
    have a1 : iadd .i64 (((n + 1) : Nat) : Int) 1 = (((n + 1) + 1 : Nat) : Int) := iadd_nat (by omega)
    have a2 : iadd .i64 ((((n + 1) + 1) : Nat) : Int) 1 = ((((n + 1) + 1) + 1 : Nat) : Int) := iadd_nat (by omega)
    have a3 : iadd .i64 (((((n + 1) + 1) + 1) : Nat) : Int) 1 = (((((n + 1) + 1) + 1) + 1 : Nat) : Int) := iadd_nat (by omega)
    have a4 : iadd .i64 ((((((n + 1) + 1) + 1) + 1) : Nat) : Int) 1 = ((((((n + 1) + 1) + 1) + 1) + 1 : Nat) : Int) := iadd_nat (by omega)
    have a5 : iadd .i64 (((((((n + 1) + 1) + 1) + 1) + 1) : Nat) : Int) 1 = (((((((n + 1) + 1) + 1) + 1) + 1) + 1 : Nat) : Int) := iadd_nat (by omega)
    have a6 : iadd .i64 ((((((((n + 1) + 1) + 1) + 1) + 1) + 1) : Nat) : Int) 1 = ((((((((n + 1) + 1) + 1) + 1) + 1) + 1) + 1 : Nat) : Int) := iadd_nat (by omega)
    have a7 : iadd .i64 (((((((((n + 1) + 1) + 1) + 1) + 1) + 1) + 1) : Nat) : Int) 1 = (((((((((n + 1) + 1) + 1) + 1) + 1) + 1) + 1) + 1 : Nat) : Int) := iadd_nat (by omega)
    have a8 : iadd .i64 ((((((((((n + 1) + 1) + 1) + 1) + 1) + 1) + 1) + 1) : Nat) : Int) 1 = ((((((((((n + 1) + 1) + 1) + 1) + 1) + 1) + 1) + 1) + 1 : Nat) : Int) := iadd_nat (by omega)
    have a9 : iadd .i64 (((((((((((n + 1) + 1) + 1) + 1) + 1) + 1) + 1) + 1) + 1) : Nat) : Int) 1 = (((((((((((n + 1) + 1) + 1) + 1) + 1) + 1) + 1) + 1) + 1) + 1 : Nat) : Int) := iadd_nat (by omega)
    have a10 : iadd .i64 ((((((((((((n + 1) + 1) + 1) + 1) + 1) + 1) + 1) + 1) + 1) + 1) : Nat) : Int) 1 = ((((((((((((n + 1) + 1) + 1) + 1) + 1) + 1) + 1) + 1) + 1) + 1) + 1 : Nat) : Int) := iadd_nat (by omega)
    simp only [laws_markSignalS.s0, ilt_len, idx_len, decide_eq_true hi, cond_true, lmod, llen_lset, lget_nat _ hi, lget_lset _ hi, lset_lset, ob_some, iadd_nat (show i < 9223372036854775807 by omega), a0, a1, a2, a3, a4, a5, a6, a7, a8, a9, a10]
    simp only [lset_nat]
    try rfl) (fun ys n => by
    simp only [laws_markSignalS.s0, ilt_len, Nat.lt_irrefl, decide_false, cond_false]) hn, ob_some]
theorem heldSignalS {k : Nat} (hk : FU ≤ k) {x : List (TSignal : Ty).den} (h : Ok (.sl TSignal) x) {n : Nat} (hn : n + cTop (.sl TSignal) x ≤ 4611686018427387904) : laws_heldSignalS.f k ((mkL (mkE TSignal) x n).1, (n : Int)) = some ((mkL (mkE TSignal) x n).2 : Int) := by
  have hl := ok_len h
  unfold laws_heldSignalS.f
  rw [held_loop hk (mkE TSignal) (cE TSignal) (s := laws_heldSignalS.s0) hl (fun x _ n => by rw [mkE_n]; omega) (fun ys z i n hi hm hl' hy hb => by
    have hb' : n + (1 + (1 + (1 + (1 + (1 + ((1 + (1 + (1 + (1 + 1)))) + 1)))))) ≤ 4611686018427387904 := hb
    have a0 : iadd .i64 ((n : Nat) : Int) 1 = ((n + 1 : Nat) : Int) := iadd_nat (by omega)
    have y0 : ys[i].1 = ((n : Nat) : Int) := by rw [hy]; rfl
    have a1 : iadd .i64 (((n + 1) : Nat) : Int) 1 = (((n + 1) + 1 : Nat) : Int) := iadd_nat (by omega)
    have y1 : ys[i].2.1 = (((n + 1) : Nat) : Int) := by rw [hy]; rfl
    have a2 : iadd .i64 ((((n + 1) + 1) : Nat) : Int) 1 = ((((n + 1) + 1) + 1 : Nat) : Int) := iadd_nat (by omega)
    have y2 : ys[i].2.2.1 = ((((n + 1) + 1) : Nat) : Int) := by rw [hy]; rfl
    have a3 : iadd .i64 (((((n + 1) + 1) + 1) : Nat) : Int) 1 = (((((n + 1) + 1) + 1) + 1 : Nat) : Int) := iadd_nat (by omega)
    have y3 : ys[i].2.2.2.1 = (((((n + 1) + 1) + 1) : Nat) : Int) := by rw [hy]; rfl
    have a4 : iadd .i64 ((((((n + 1) + 1) + 1) + 1) : Nat) : Int) 1 = ((((((n + 1) + 1) + 1) + 1) + 1 : Nat) : Int) := iadd_nat (by omega)
    have y4 : ys[i].2.2.2.2.1 = ((((((n + 1) + 1) + 1) + 1) : Nat) : Int) := by rw [hy]; rfl
    have a5 : iadd .i64 (((((((n + 1) + 1) + 1) + 1) + 1) : Nat) : Int) 1 = (((((((n + 1) + 1) + 1) + 1) + 1) + 1 : Nat) : Int) := iadd_nat (by omega)
    have y5 : ys[i].2.2.2.2.2.1.1 = (((((((n + 1) + 1) + 1) + 1) + 1) : Nat) : Int) := by rw [hy]; rfl
    have a6 : iadd .i64 ((((((((n + 1) + 1) + 1) + 1) + 1) + 1) : Nat) : Int) 1 = ((((((((n + 1) + 1) + 1) + 1) + 1) + 1) + 1 : Nat) : Int) := iadd_nat (by omega)
    have y6 : ys[i].2.2.2.2.2.1.2.1 = ((((((((n + 1) + 1) + 1) + 1) + 1) + 1) : Nat) : Int) := by rw [hy]; rfl
    have a7 : iadd .i64 (((((((((n + 1) + 1) + 1) + 1) + 1) + 1) + 1) : Nat) : Int) 1 = (((((((((n + 1) + 1) + 1) + 1) + 1) + 1) + 1) + 1 : Nat) : Int) := iadd_nat (by omega)
    have y7 : ys[i].2.2.2.2.2.1.2.2.1 = (((((((((n + 1) + 1) + 1) + 1) + 1) + 1) + 1) : Nat) : Int) := by rw [hy]; rfl
    have a8 : iadd .i64 ((((((((((n + 1) + 1) + 1) + 1) + 1) + 1) + 1) + 1) : Nat) : Int) 1 = ((((((((((n + 1) + 1) + 1) + 1) + 1) + 1) + 1) + 1) + 1 : Nat) : Int) := iadd_nat (by omega)
    have y8 : ys[i].2.2.2.2.2.1.2.2.2.1 = ((((((((((n + 1) + 1) + 1) + 1) + 1) + 1) + 1) + 1) : Nat) : Int) := by rw [hy]; rfl
    have a9 : iadd .i64 (((((((((((n + 1) + 1) + 1) + 1) + 1) + 1) + 1) + 1) + 1) : Nat) : Int) 1 = (((((((((((n + 1) + 1) + 1) + 1) + 1) + 1) + 1) + 1) + 1) + 1 : Nat) : Int) := iadd_nat (by omega)
    have y9 : ys[i].2.2.2.2.2.1.2.2.2.2 = (((((((((((n + 1) + 1) + 1) + 1) + 1) + 1) + 1) + 1) + 1) : Nat) : Int) := by rw [hy]; rfl
    have a10 : iadd .i64 ((((((((((((n + 1) + 1) + 1) + 1) + 1) + 1) + 1) + 1) + 1) + 1) : Nat) : Int) 1 = ((((((((((((n + 1) + 1) + 1) + 1) + 1) + 1) + 1) + 1) + 1) + 1) + 1 : Nat) : Int) := iadd_nat (by omega)
    have y10 : ys[i].2.2.2.2.2.2 = ((((((((((((n + 1) + 1) + 1) + 1) + 1) + 1) + 1) + 1) + 1) + 1) : Nat) : Int) := by rw [hy]; rfl
    simp only [laws_heldSignalS.s0, ilt_len, idx_len, decide_eq_true hi, cond_true, lget_nat _ hi]
    simp only [ine_self, bne_self, cond_false, cond_true, ob_some, ilt_nn, iadd_nat (show i < 9223372036854775807 by omega), a0, y0, a1, y1, a2, y2, a3, y3, a4, y4, a5, y5, a6, y6, a7, y7, a8, y8, a9, y9, a10, y10]
    try rfl) (fun ys n => by
    simp only [laws_heldSignalS.s0, ilt_len, Nat.lt_irrefl, decide_false, cond_false]) hn, ob_some]
  rfl
theorem markDeviceResult {k : Nat} (hk : FU ≤ k) {x : (TDeviceResult : Ty).den} (h : Ok TDeviceResult x) {n : Nat} (hn : n + cTop TDeviceResult x ≤ 4611686018427387904) : laws_markDeviceResult.f k (x, (n : Int)) = some (((mkTop TDeviceResult x n).2 : Int), (mkTop TDeviceResult x n).1) := by
  have hc : cTop TDeviceResult x = cTop TDevice x.1 + cTop (.sl TSignal) x.2 := by simp only [cTop]; try omega
  have e0 : laws_markDevice.f k (x.1, ((n : Nat) : Int)) = some (((mkTop TDevice x.1 n).2 : Int), (mkTop TDevice x.1 n).1) := markDevice hk (x := x.1) h.1 (n := n) (by omega)
  have q0 := mkTop_n TDevice x.1 n
  have e1 : laws_markSignalS.f k (x.2, (((mkTop TDevice x.1 n).2 : Nat) : Int)) = some (((mkTop (.sl TSignal) x.2 (mkTop TDevice x.1 n).2).2 : Int), (mkTop (.sl TSignal) x.2 (mkTop TDevice x.1 n).2).1) := markSignalS hk (x := x.2) h.2 (n := (mkTop TDevice x.1 n).2) (by omega)
  have q1 := mkTop_n (.sl TSignal) x.2 (mkTop TDevice x.1 n).2
  unfold laws_markDeviceResult.f
  simp only [e0, e1, ob_some, ilt_nn, cond_false]
  rfl
theorem heldDeviceResult {k : Nat} (hk : FU ≤ k) {x : (TDeviceResult : Ty).den} (h : Ok TDeviceResult x) {n : Nat} (hn : n + cTop TDeviceResult x ≤ 4611686018427387904) : laws_heldDeviceResult.f k ((mkTop TDeviceResult x n).1, (n : Int)) = some ((mkTop TDeviceResult x n).2 : Int) := by
  have hc : cTop TDeviceResult x = cTop TDevice x.1 + cTop (.sl TSignal) x.2 := by simp only [cTop]; try omega
  have e0 : laws_heldDevice.f k ((mkTop TDeviceResult x n).1.1, ((n : Nat) : Int)) = some ((mkTop TDevice x.1 n).2 : Int) := heldDevice hk (x := x.1) h.1 (n := n) (by omega)
  have q0 := mkTop_n TDevice x.1 n
  have e1 : laws_heldSignalS.f k ((mkTop TDeviceResult x n).1.2, (((mkTop TDevice x.1 n).2 : Nat) : Int)) = some ((mkTop (.sl TSignal) x.2 (mkTop TDevice x.1 n).2).2 : Int) := heldSignalS hk (x := x.2) h.2 (n := (mkTop TDevice x.1 n).2) (by omega)
  have q1 := mkTop_n (.sl TSignal) x.2 (mkTop TDevice x.1 n).2
  unfold laws_heldDeviceResult.f
  simp only [e0, e1, ob_some, ilt_nn, cond_false]
  rfl
end Go.Proofs.XF
/- Plain laws: program and reference agree: copies, devices, sessions. -/
set_option linter.unusedVariables false
set_option linter.unusedSimpArgs false
set_option linter.unusedSectionVars false
set_option maxRecDepth 4000
namespace Go.Proofs.XF
open Go Go.Proofs.XTv

theorem app1 {α : Type} {l : List α} {v : α} {b : Nat} (h : l.length ≤ 4294967296) (hb : b ≤ 16384) : appOk l [v] b = true := by
  refine app_ok ?_
  have : (l.length + 1) * b ≤ 4294967297 * 16384 := Nat.mul_le_mul (by omega) hb
  show (l.length + 1) * b ≤ _
  omega
theorem app0 {α : Type} {l : List α} {b : Nat} (h : l.length ≤ 4294967296) (hb : b ≤ 16384) : appOk [] l b = true := by
  refine app_ok ?_
  have : l.length * b ≤ 4294967296 * 16384 := Nat.mul_le_mul h hb
  simp only [List.length_nil, Nat.zero_add]
  omega
theorem okn {n : Int} (h : -2147483648 ≤ n ∧ n ≤ 2147483647) : Ok (.int .i64) n := by
  show -9223372036854775808 ≤ n ∧ n ≤ 9223372036854775807
  omega
theorem takeL {α : Type} {l : List α} {i : Nat} (h : i < l.length) (hl : l.length ≤ 4294967296) : (l.take i).length ≤ 4294967296 := by simp; omega

section
variable {k : Nat} (hk : FU ≤ k)
/-! ### Copies -/
theorem i_copyBytes (hk : FU ≤ k) {x : List Int} (h : x.length ≤ 4294967296) : impl_copyBytes.f k x = some x := by
  unfold impl_copyBytes.f
  rw [make_len (by omega), cond_true, lcopy_all (e := .int .u8)]
theorem i_copySignals (hk : FU ≤ k) {x : List DSignal} (h : x.length ≤ 4294967296) : impl_copyItems_impl_Signal.f k x = some x := by
  unfold impl_copyItems_impl_Signal.f
  rw [make_len (by omega), cond_true, lcopy_all (e := TSignal)]
theorem i_copyPayloads (hk : FU ≤ k) {x : List (List Int)} (h : Ok (.sl (.sl (.int .u8))) x) : impl_copyPayloads.f k x = some x := by
  have hl := ok_len h
  unfold impl_copyPayloads.f
  rw [make_len (by omega), cond_true, copy_loop hk (e := .sl (.int .u8)) (s := impl_copyPayloads.s0 k) hl (fun i acc hi ha => by
    have hi' : i < acc.length := ha ▸ hi
    simp only [impl_copyPayloads.s0, ilt_nat, idx_len, decide_eq_true hi, decide_eq_true hi', cond_true, lget_nat (e := .sl (.int .u8)) _ hi, i_copyBytes hk (ok_len (ok_get h hi)), ob_some, lset_nat, iadd_nat (show i < 9223372036854775807 by omega)]) (fun acc => by
    simp only [impl_copyPayloads.s0, ilt_nat, Nat.lt_irrefl, decide_false, cond_false]), ob_some]
theorem i_copyNumbered (hk : FU ≤ k) {x : List DNumberedPacket} (h : Ok (.sl TNumberedPacket) x) : impl_copyNumbered.f k x = some x := by
  have hl := ok_len h
  unfold impl_copyNumbered.f
  rw [make_len (by omega), cond_true, copy_loop hk (e := TNumberedPacket) (s := impl_copyNumbered.s0 k) hl (fun i acc hi ha => by
    have hi' : i < acc.length := ha ▸ hi
    simp only [impl_copyNumbered.s0, ilt_nat, idx_len, decide_eq_true hi, decide_eq_true hi', cond_true, lget_nat (e := TNumberedPacket) _ hi, i_copyBytes hk (ok_len (ok_get h hi).2), ob_some, lset_nat, iadd_nat (show i < 9223372036854775807 by omega)]) (fun acc => by
    simp only [impl_copyNumbered.s0, ilt_nat, Nat.lt_irrefl, decide_false, cond_false]), ob_some]
theorem s_bodies (hk : FU ≤ k) {x : List (List Int)} (h : Ok (.sl (.sl (.int .u8))) x) : spec_l15Bodies.f k x = some x := by
  have hl := ok_len h
  unfold spec_l15Bodies.f
  rw [cat_loop hk (e := .sl (.int .u8)) (s := spec_l15Bodies.s0) hl (fun i hi => by
    simp only [spec_l15Bodies.s0, ilt_len, idx_len, decide_eq_true hi, cond_true, lget_nat (e := .sl (.int .u8)) _ hi, app0 (ok_len (ok_get h hi)) (show 1 ≤ 16384 by omega), app1 (takeL hi hl) (show 24 ≤ 16384 by omega), lcat_nil, lcat_eq, List.nil_append, iadd_nat (show i < 9223372036854775807 by omega)]) (by
    simp only [spec_l15Bodies.s0, ilt_len, Nat.lt_irrefl, decide_false, cond_false]), ob_some]
theorem s_sents (hk : FU ≤ k) {x : List DNumberedPacket} (h : Ok (.sl TNumberedPacket) x) : spec_l24Sents.f k x = some x := by
  have hl := ok_len h
  unfold spec_l24Sents.f
  rw [cat_loop hk (e := TNumberedPacket) (s := spec_l24Sents.s0) hl (fun i hi => by
    simp only [spec_l24Sents.s0, ilt_len, idx_len, decide_eq_true hi, cond_true, lget_nat (e := TNumberedPacket) _ hi, app0 (ok_len (ok_get h hi).2) (show 1 ≤ 16384 by omega), app1 (takeL hi hl) (show 32 ≤ 16384 by omega), lcat_nil, lcat_eq, List.nil_append, iadd_nat (show i < 9223372036854775807 by omega)]) (by
    simp only [spec_l24Sents.s0, ilt_len, Nat.lt_irrefl, decide_false, cond_false]), ob_some]
theorem i_copyReceiver (hk : FU ≤ k) {x : DReceiveWindow} (h : Ok TReceiveWindow x) : impl_copyReceiver.f k x = some x := by
  unfold impl_copyReceiver.f
  simp only [i_copyNumbered hk h.2.1, i_copyPayloads hk h.2.2, ob_some]
theorem s_recv (hk : FU ≤ k) {x : DReceiveWindow} (h : Ok TReceiveWindow x) : spec_l24Recv.f k x = some x := by
  unfold spec_l24Recv.f
  simp only [s_sents hk h.2.1, s_bodies hk h.2.2, ob_some]
theorem i_copyDevice (hk : FU ≤ k) {x : DDevice} (h : Ok TDevice x) : impl_copyDevice.f k x = some x := by
  unfold impl_copyDevice.f
  simp only [i_copyReceiver hk h.2.2.2.2.2.2.2.2, ob_some]
theorem s_copyDevice (hk : FU ≤ k) {x : DDevice} (h : Ok TDevice x) : spec_l29Copy.f k x = some x := by
  unfold spec_l29Copy.f
  simp only [s_recv hk h.2.2.2.2.2.2.2.2, ob_some]
theorem in_eq (hk : FU ≤ k) (x : DQuota) : impl_InRange.f k x = spec_l1In.f k x := rfl
def bytesFrom : List DNumberedPacket → Int → Int
  | [], n => n
  | p :: ps, n => bytesFrom ps (iadd .i64 n (llen p.2))
theorem bytesFrom_snoc (p : DNumberedPacket) : ∀ (l : List DNumberedPacket) (n : Int), bytesFrom (l ++ [p]) n = iadd .i64 (bytesFrom l n) (llen p.2)
  | [], n => rfl
  | q :: l, n => bytesFrom_snoc p l _
end
end Go.Proofs.XF
/- Plain laws: which receivers and devices are valid. -/
set_option linter.unusedVariables false
set_option linter.unusedSimpArgs false
set_option linter.unusedSectionVars false
set_option maxRecDepth 4000
namespace Go.Proofs.XF
open Go Go.Proofs.XTv

def fitB (l : List (List Int)) (j : Nat) : Bool := dnot (ilt 60 (llen (lget (.sl (.int .u8)) l (j : Int))))
def recvB (x : DReceiveWindow) (i : Nat) : Bool :=
  (bif ile (iadd .i64 x.1 1) (lget TNumberedPacket x.2.1 (i : Int)).1 then ile (lget TNumberedPacket x.2.1 (i : Int)).1 (isub .i64 (iadd .i64 x.1 8) 1) else false) &&
  dnot (ilt 60 (llen (lget TNumberedPacket x.2.1 (i : Int)).2)) &&
  dnot (ilt 0 (i : Int) && ile (lget TNumberedPacket x.2.1 (i : Int)).1 (lget TNumberedPacket x.2.1 (isub .i64 (i : Int) 1)).1)
def recvOk (x : DReceiveWindow) : Bool :=
  decide (ieq x.1 (iadd .i64 (llen x.2.2) 1) = true ∧ ile (llen x.2.2) 24 = true ∧ (∀ j, j < x.2.2.length → fitB x.2.2 j = true) ∧ ile (llen x.2.1) 8 = true ∧ ∀ i, i < x.2.1.length → recvB x i = true)
theorem idx_pred {α : Type} {l : List α} {i : Nat} (hi : i < l.length) (hl : l.length ≤ 4294967296) (h : ilt 0 (i : Int) = true) : idxOk (isub .i64 (i : Int) 1) (llen l) = true := by
  have h0 : (0 : Int) < (i : Int) := of_decide_eq_true h
  rw [isub_eq (by omega) (by omega)]
  exact decide_eq_true ⟨by omega, by show (i : Int) - 1 < (l.length : Int); omega⟩
theorem not_ilt_ile (x y : Int) : dnot (ilt x y) = ile y x := by
  by_cases h : x < y
  · rw [ilt_t h, ile_f (by omega)]; rfl
  · rw [ilt_f h, ile_t (by omega)]; rfl
theorem not_ine (x y : Int) : dnot (ine x y) = ieq x y := by
  unfold dnot ine ieq bne
  rw [Bool.not_not]
theorem ine_not (x y : Int) : ine x y = dnot (ieq x y) := rfl

section
variable {k : Nat} (hk : FU ≤ k)
def inB (x l h : Int) : Bool := bif ile l x then ile x h else false
theorem i_in (x l h : Int) : impl_InRange.f k (x, l, h) = some (inB x l h) := rfl
theorem s_in (x l h : Int) : spec_l1In.f k (x, l, h) = some (inB x l h) := rfl
theorem in_23 (x : Int) : inB x 2 3 = (ieq x 2 || ieq x 3) := by
  unfold inB
  by_cases h2 : x = 2
  · subst h2; rfl
  · by_cases h3 : x = 3
    · subst h3; rfl
    · rw [ieq_f h2, ieq_f h3]
      by_cases h : 2 ≤ x
      · rw [ile_t h, cond_true, ile_f (by omega)]; rfl
      · rw [ile_f h]; rfl
theorem ob_pick {α β : Type} (c : Bool) (a b : α) (f : α → Option β) : obind (bif c then some a else some b) f = f (bif c then a else b) := by cases c <;> rfl
theorem v_USIM (x : DUSIM) : ∃ u, impl_IsValidUSIM.f k x = some u ∧ spec_IsValidUSIM.f k x = some u := by
  refine ⟨inB x.1.1 0 3 && inB x.1.2 0 99 && inB x.2.1 1 2147483646 && inB x.2.2 0 999999, ?_, ?_⟩
  · unfold impl_IsValidUSIM.f impl_IsValidKey.f impl_IsValidSubscriberID.f
    simp only [i_in, ob_some, ob_pick]
    generalize inB x.1.1 0 3 = a
    generalize inB x.1.2 0 99 = b
    generalize inB x.2.1 1 2147483646 = c
    generalize inB x.2.2 0 999999 = d
    revert a b c d
    decide
  · unfold spec_IsValidUSIM.f spec_IsValidKey.f spec_IsValidSubscriberID.f
    simp only [s_in, ob_some, ob_pick]
    generalize inB x.1.1 0 3 = a
    generalize inB x.1.2 0 99 = b
    generalize inB x.2.1 1 2147483646 = c
    generalize inB x.2.2 0 999999 = d
    revert a b c d
    decide
end
end Go.Proofs.XF
/- Plain laws: hashes, keys, message codes: program and reference reckon the same. -/
set_option linter.unusedVariables false
set_option linter.unusedSimpArgs false
set_option linter.unusedSectionVars false
set_option maxRecDepth 4000
namespace Go.Proofs.XF
open Go Go.Proofs.XTv

def modF (x m : Int) : Int := if 1 ≤ m ∧ m ≤ 1000000000000 then x % m else 0
theorem modF_bd {x m : Int} (h : 1 ≤ m) (h2 : m ≤ 1000000000000) : 0 ≤ modF x m ∧ modF x m < m := by
  unfold modF
  rw [if_pos ⟨h, h2⟩]
  exact ⟨Int.emod_nonneg x (by omega), Int.emod_lt_of_pos x (by omega)⟩
theorem tmod_bd (x : Int) {m : Int} (h : 0 < m) : -m < x.tmod m ∧ x.tmod m < m := by
  constructor
  · have := Int.lt_tmod_of_pos x h; omega
  · exact Int.tmod_lt_of_pos x h
theorem tmod_emod (x : Int) {m : Int} (h : 0 < m) : x % m = if x.tmod m < 0 then x.tmod m + m else x.tmod m := by
  have hb := tmod_bd x h
  have h1 : x = m * x.tdiv m + x.tmod m := (Int.mul_tdiv_add_tmod x m).symm
  split
  · have : x = (x.tmod m + m) + m * (x.tdiv m - 1) := by rw [Int.mul_sub]; omega
    rw [this, Int.add_mul_emod_self_left]
    have e : x.tmod m + m + m * (x.tdiv m - 1) = x := this.symm
    rw [e]
    exact Int.emod_eq_of_lt (by omega) (by omega)
  · conv => lhs; rw [h1, Int.add_comm, Int.add_mul_emod_self_left]
    exact Int.emod_eq_of_lt (by omega) (by omega)
def hstep (h x : Int) : Int := irem .i64 (iadd .i64 (iadd .i64 (imul .i64 h 1000003) (modF x 2147483647)) 13) 2147483647
theorem hstep_bd {h x : Int} (h0 : 0 ≤ h) (h1 : h < 2147483647) : 0 ≤ hstep h x ∧ hstep h x < 2147483647 := by
  have hb := modF_bd (x := x) (m := 2147483647) (by omega) (by omega)
  unfold hstep
  rw [imul_eq (by omega) (by omega), iadd_eq (x := h * 1000003) (y := modF x 2147483647) (by omega) (by omega), iadd_eq (by omega) (by omega)]
  unfold irem
  have := tmod_bd (h * 1000003 + modF x 2147483647 + 13) (m := 2147483647) (by omega)
  exact ⟨Int.tmod_nonneg _ (by omega), this.2⟩
def hfold (h : Int) (l : List Int) : Int := l.foldl hstep h
theorem hfold_bd : ∀ (l : List Int) {h : Int}, 0 ≤ h → h < 2147483647 → 0 ≤ hfold h l ∧ hfold h l < 2147483647
  | [], h, h0, h1 => ⟨h0, h1⟩
  | x :: l, h, h0, h1 => by
    have := hstep_bd (x := x) h0 h1
    exact hfold_bd l this.1 this.2
theorem hfold_snoc (h : Int) (l : List Int) (x : Int) : hfold h (l ++ [x]) = hstep (hfold h l) x := by simp [hfold]
def khash (key : Int) (l : List Int) : Int := hfold 11 (key :: l ++ [key])
theorem khash_bd (key : Int) (l : List Int) : 0 ≤ khash key l ∧ khash key l < 2147483647 := hfold_bd _ (by omega) (by omega)
def derive (key x : Int) : Int := if khash key [9, x] = 0 then 1 else khash key [9, x]
theorem derive_bd (key x : Int) : 1 ≤ derive key x ∧ derive key x < 2147483647 := by
  have := khash_bd key [9, x]
  unfold derive
  split <;> omega
def pathKey (key : Int) (l : List Int) : Int := l.foldl derive key
theorem pathKey_snoc (key : Int) (l : List Int) (x : Int) : pathKey key (l ++ [x]) = derive (pathKey key l) x := by simp [pathKey]
def macF (key : Int) (m : DSignal) : Int := khash (pathKey key [1, 2]) [23, m.1, m.2.1, m.2.2.1, m.2.2.2.1, m.2.2.2.2.1]

section
variable {k : Nat} (hk : FU ≤ k)
theorem i_mod (hk : FU ≤ k) (x m : Int) : impl_Mod.f k (x, m) = some (modF x m) := by
  unfold impl_Mod.f
  rw [i_in, ob_some]
  unfold inB modF
  by_cases h : 1 ≤ m ∧ m ≤ 1000000000000
  · rw [ile_t h.1, ile_t h.2, if_pos h, ine_t (show m ≠ 0 by omega)]
    simp only [cond_true, dnot_t, cond_false]
    have hb := tmod_bd x (m := m) (by omega)
    rw [tmod_emod x (m := m) (by omega)]
    unfold irem
    by_cases hn : x.tmod m < 0
    · rw [ilt_t hn, cond_true, if_pos hn, iadd_eq (by omega) (by omega)]
    · rw [ilt_f hn, cond_false, if_neg hn]
  · rw [if_neg h]
    by_cases h1 : 1 ≤ m
    · rw [ile_t h1, cond_true, ile_f (by omega)]; rfl
    · rw [ile_f h1]; rfl
theorem s_mod (hk : FU ≤ k) (x m : Int) : spec_Mod.f k (x, m) = some (modF x m) := by
  unfold spec_Mod.f
  rw [s_in, ob_some]
  unfold inB modF
  by_cases h : 1 ≤ m ∧ m ≤ 1000000000000
  · rw [ile_t h.1, ile_t h.2, if_pos h, ine_t (show m ≠ 0 by omega)]
    simp only [cond_true, dnot_t, cond_false]
    have hb := tmod_bd x (m := m) (by omega)
    rw [tmod_emod x (m := m) (by omega)]
    unfold irem
    rw [iadd_eq (by omega) (by omega)]
    by_cases hn : x.tmod m < 0
    · rw [if_pos hn, Int.tmod_eq_of_lt (by omega) (by omega)]
    · rw [if_neg hn, Int.tmod_eq_emod_of_nonneg (by omega), Int.add_emod_right, Int.emod_eq_of_lt (by omega) (by omega)]
  · rw [if_neg h]
    by_cases h1 : 1 ≤ m
    · rw [ile_t h1, cond_true, ile_f (by omega)]; rfl
    · rw [ile_f h1]; rfl
theorem i_hashStep (hk : FU ≤ k) (h x : Int) : impl_hashStep.f k (h, x) = some (hstep h x) := by
  unfold impl_hashStep.f
  rw [i_mod hk, ob_some]; rfl
theorem s_hash (hk : FU ≤ k) {l : List Int} (hl : l.length ≤ 8589934592) : spec_Hash.f k l = some (hfold 11 l) := by
  have := loop_up (step := spec_Hash.s0 k) (e := hfold 11 l) l.length k (fun i => (l, hfold 11 (l.take i), (i : Int))) (by unfold FU at hk; omega)
    (fun i hi => by
      simp only [spec_Hash.s0, ilt_len, idx_len, decide_eq_true hi, cond_true, lget_nat (e := .int .i64) _ hi, s_mod hk, ob_some, iadd_nat (show i < 9223372036854775807 by omega)]
      rw [← take_snoc l hi, hfold_snoc]; rfl)
    (by simp only [spec_Hash.s0, ilt_len, Nat.lt_irrefl, decide_false, cond_false, List.take_length])
  unfold spec_Hash.f
  rw [show loopN (spec_Hash.s0 k) k (l, 11, 0) = some (hfold 11 l) by simpa [hfold] using this, ob_some]
theorem s_khash (hk : FU ≤ k) {key : Int} {l : List Int} (hl : l.length ≤ 8589934000) : spec_KeyedHash.f k (key, l) = some (khash key l) := by
  unfold spec_KeyedHash.f
  rw [app_ok (by simp; omega), app_ok (by simp [lcat]; omega)]
  simp only [cond_true]
  rw [s_hash hk (by simp [lcat]; omega), ob_some]
  rfl
theorem i_khash (hk : FU ≤ k) {key : Int} {l : List Int} (hl : l.length ≤ 8589934592) : impl_KeyedHash.f k (key, l) = some (khash key l) := by
  have := loop_up (step := impl_KeyedHash.s0 k) (e := (key, hfold 11 (key :: l))) l.length k (fun i => (key, hfold 11 (key :: l.take i), l, (l.length : Int), (i : Int))) (by unfold FU at hk; omega)
    (fun i hi => by
      simp only [impl_KeyedHash.s0, ilt_nat, idx_len, decide_eq_true hi, cond_true, lget_nat (e := .int .i64) _ hi, i_hashStep hk, ob_some, iadd_nat (show i < 9223372036854775807 by omega)]
      rw [← take_snoc l hi, ← List.cons_append, hfold_snoc])
    (by simp only [impl_KeyedHash.s0, ilt_nat, Nat.lt_irrefl, decide_false, cond_false, List.take_length])
  unfold impl_KeyedHash.f
  rw [i_hashStep hk, ob_some, llen_eq]
  rw [show loopN (impl_KeyedHash.s0 k) k (key, hstep 11 key, l, (l.length : Int), 0) = some (key, hfold 11 (key :: l)) by simpa [hfold] using this, ob_some, i_hashStep hk, ob_some]
  unfold khash
  rw [hfold_snoc]
theorem i_derive (hk : FU ≤ k) (key x : Int) : impl_DeriveKey.f k (key, x) = some (derive key x) := by
  unfold impl_DeriveKey.f derive
  rw [i_khash hk (by simp), ob_some]
  by_cases h : khash key [9, x] = 0
  · rw [if_pos h, ieq_t h, cond_true]
  · rw [if_neg h, ieq_f h, cond_false]
theorem s_max (hk : FU ≤ k) (a b : Int) : spec_Max.f k (a, b) = some (if a ≤ b then b else a) := by
  unfold spec_Max.f
  by_cases h : a ≤ b
  · rw [if_pos h]
    first
      | (rw [ilt_f (by omega)]; rfl)
      | (by_cases h2 : a < b
         · rw [ilt_t h2]; rfl
         · have : a = b := by omega
           subst this; rw [ilt_f h2]; rfl)
      | (rw [ile_t h]; rfl)
  · rw [if_neg h]
    first
      | (rw [ilt_t (by omega)]; rfl)
      | (rw [ilt_f (by omega)]; rfl)
      | (rw [ile_f h]; rfl)
theorem s_derive (hk : FU ≤ k) (key x : Int) : spec_DeriveKey.f k (key, x) = some (derive key x) := by
  have hb := khash_bd key [9, x]
  unfold spec_DeriveKey.f derive
  rw [s_khash hk (by simp), ob_some, s_max hk, ob_some]
  show some (if (1 : Int) ≤ khash key [9, x] then khash key [9, x] else 1) = some (if khash key [9, x] = 0 then 1 else khash key [9, x])
  by_cases h : khash key [9, x] = 0
  · rw [if_pos h, if_neg (by omega)]
  · rw [if_neg h, if_pos (by omega)]
theorem i_pathKey (hk : FU ≤ k) {key : Int} {l : List Int} (hl : l.length ≤ 4294967296) : impl_KeyForPath.f k (key, l) = some (pathKey key l) := by
  have := loop_up (step := impl_deriveSteps.s0 k) (e := pathKey key l) l.length k (fun i => (pathKey key (l.take i), l, (l.length : Int), (i : Int))) (by unfold FU at hk; omega)
    (fun i hi => by
      simp only [impl_deriveSteps.s0, ilt_nat, idx_len, decide_eq_true hi, cond_true, lget_nat (e := .int .i64) _ hi, i_derive hk, ob_some, iadd_nat (show i < 9223372036854775807 by omega)]
      rw [← take_snoc l hi, pathKey_snoc])
    (by simp only [impl_deriveSteps.s0, ilt_nat, Nat.lt_irrefl, decide_false, cond_false, List.take_length])
  unfold impl_KeyForPath.f impl_deriveSteps.f
  rw [llen_eq]
  rw [show loopN (impl_deriveSteps.s0 k) k (key, l, (l.length : Int), 0) = some (pathKey key l) by simpa [pathKey] using this]
  rfl
theorem s_pathKey (hk : FU ≤ k) {key : Int} {l : List Int} (hl : l.length ≤ 4294967296) : spec_KeyForPath.f k (key, l) = some (pathKey key l) := by
  have := loop_up (step := spec_KeyForPath.s0 k) (e := pathKey key l) l.length k (fun i => ((pathKey key (l.take i), (i : Int)), l)) (by unfold FU at hk; omega)
    (fun i hi => by
      simp only [spec_KeyForPath.s0, ilt_len, idx_len, decide_eq_true hi, cond_true, lget_nat (e := .int .i64) _ hi, s_derive hk, ob_some, iadd_nat (show i < 9223372036854775807 by omega)]
      rw [← take_snoc l hi, pathKey_snoc])
    (by simp only [spec_KeyForPath.s0, ilt_len, Nat.lt_irrefl, decide_false, cond_false, List.take_length])
  unfold spec_KeyForPath.f
  rw [show loopN (spec_KeyForPath.s0 k) k ((key, 0), l) = some (pathKey key l) by simpa [pathKey] using this]
  rfl
theorem i_mac (hk : FU ≤ k) (key : Int) (m : DSignal) : impl_SignalMAC.f k (key, m) = some (macF key m) := by
  unfold impl_SignalMAC.f impl_SignalingKeyPath.f
  rw [ob_some, i_pathKey hk (by simp), ob_some, i_khash hk (by simp), ob_some]; rfl
theorem s_mac (hk : FU ≤ k) (key : Int) (m : DSignal) : spec_SignalMAC.f k (key, m) = some (macF key m) := by
  unfold spec_SignalMAC.f spec_SignalingKeyPath.f
  rw [ob_some, s_pathKey hk (by simp), ob_some, s_khash hk (by simp), ob_some]; rfl
theorem i_sign (hk : FU ≤ k) (key : Int) (m : DSignal) : impl_SignSignal.f k (key, m) = some (m.1, m.2.1, m.2.2.1, m.2.2.2.1, m.2.2.2.2.1, m.2.2.2.2.2.1, macF key m) := by
  unfold impl_SignSignal.f
  rw [i_mac hk, ob_some]
theorem s_sign (hk : FU ≤ k) (key : Int) (m : DSignal) : spec_SignSignal.f k (key, m) = some (m.1, m.2.1, m.2.2.1, m.2.2.2.1, m.2.2.2.2.1, m.2.2.2.2.2.1, macF key m) := by
  unfold spec_SignSignal.f
  rw [s_mac hk, ob_some]
theorem i_verify (hk : FU ≤ k) (key : Int) (m : DSignal) : impl_VerifySignal.f k (key, m) = some (ieq m.2.2.2.2.2.2 (macF key m)) := by
  unfold impl_VerifySignal.f
  rw [i_mac hk, ob_some]
theorem s_verify (hk : FU ≤ k) (key : Int) (m : DSignal) : spec_VerifySignal.f k (key, m) = some (ieq m.2.2.2.2.2.2 (macF key m)) := by
  unfold spec_VerifySignal.f
  rw [s_mac hk, ob_some]
end
end Go.Proofs.XF
/- Plain laws: what is drawn out of bytes. -/
set_option linter.unusedVariables false
set_option linter.unusedSimpArgs false
set_option linter.unusedSectionVars false
set_option maxRecDepth 4000
namespace Go.Proofs.XF
open Go Go.Proofs.XTv

/-- A cursor over bytes. -/
def CurOk (c : Dl1Cur) : Prop := c.1.length ≤ 281474976710656 ∧ 0 ≤ c.2.1 ∧ c.2.1 ≤ (c.1.length : Int)
theorem iand_bd (x : Int) : 0 ≤ iand .i64 x 255 ∧ iand .i64 x 255 ≤ 255 := by
  have h : (BitVec.ofInt 64 x &&& BitVec.ofInt 64 255).toNat ≤ 255 := by
    rw [BitVec.toNat_and]
    exact Nat.le_trans Nat.and_le_right (by decide)
  have e : iand .i64 x 255 = ((BitVec.ofInt 64 x &&& BitVec.ofInt 64 255).toNat : Int) := by
    unfold iand
    exact wrap_i64 (by show _ ≤ (((BitVec.ofInt 64 x &&& BitVec.ofInt 64 255).toNat : Nat) : Int); omega) (by show (((BitVec.ofInt 64 x &&& BitVec.ofInt 64 255).toNat : Nat) : Int) ≤ _; omega)
  rw [e]
  omega
section
variable {k : Nat} (hk : FU ≤ k)
end
end Go.Proofs.XF
/- Plain laws: drawn subscribers, plans, windows, sessions. -/
set_option linter.unusedVariables false
set_option linter.unusedSimpArgs false
set_option linter.unusedSectionVars false
set_option maxRecDepth 4000
namespace Go.Proofs.XF
open Go Go.Proofs.XTv

theorem ok_wrap (x : Int) : Ok (.int .i64) (IntKind.i64.wrap x) := by
  show -9223372036854775808 ≤ IntKind.i64.wrap x ∧ IntKind.i64.wrap x ≤ 9223372036854775807
  simp [IntKind.wrap, IntKind.signed, IntKind.bits]
  omega
theorem ok_add (x y : Int) : Ok (.int .i64) (iadd .i64 x y) := ok_wrap _
theorem ok_sub (x y : Int) : Ok (.int .i64) (isub .i64 x y) := ok_wrap _
theorem ok_mul (x y : Int) : Ok (.int .i64) (imul .i64 x y) := ok_wrap _
theorem ok_nil (e : Ty) : Ok (.sl e) ([] : List e.den) := ⟨by show (0 : Nat) ≤ _; omega, fun x hx => by cases hx⟩
theorem ok_app {e : Ty} {l m : List e.den} (h1 : Ok (.sl e) l) (h2 : Ok (.sl e) m) (hl : (l ++ m).length ≤ 4294967296) : Ok (.sl e) (l ++ m) :=
  ⟨hl, fun x hx => (List.mem_append.1 hx).elim (h1.2 x) (h2.2 x)⟩
theorem ok_one {e : Ty} {x : e.den} (h : Ok e x) : Ok (.sl e) [x] := ⟨by show (1 : Nat) ≤ _; omega, fun y hy => by simp only [List.mem_singleton] at hy; subst hy; exact h⟩
theorem ok_mem {l : List Int} {v : Int} (h : v ∈ l) (hl : ∀ x ∈ l, -1000000000000 ≤ x ∧ x ≤ 1000000000000) : Ok (.int .i64) v := by
  have := hl v h
  show -9223372036854775808 ≤ v ∧ v ≤ 9223372036854775807
  omega
theorem ok_bytes {l : List Int} (hl : l.length ≤ 1000000) (h : ∀ b ∈ l, 0 ≤ b ∧ b ≤ 255) : Ok (.sl (.int .u8)) l := ⟨by show l.length ≤ _; omega, h⟩

/-- A window that can be used. -/
def WOk (w : DSendWindow) : Prop := Ok TSendWindow w ∧ w.2.length ≤ 8 ∧ 1 ≤ w.1 ∧ w.1 ≤ 100000
/-- A session whose streams are in bounds. -/
def SOk (s : DSession) : Prop := Ok TSession s ∧ s.2.2.2.2.2.2.2.2.2.2.2.1.length ≤ 24 ∧ WOk s.2.2.2.2.2.2.2.2.2.2.2.2.1

section
variable {k : Nat} (hk : FU ≤ k)
end
end Go.Proofs.XF
/- Plain laws: drawn sessions, signals. -/
set_option linter.unusedVariables false
set_option linter.unusedSimpArgs false
set_option linter.unusedSectionVars false
set_option maxRecDepth 4000
namespace Go.Proofs.XF
open Go Go.Proofs.XTv

def maskF (key r : Int) : Int := modF (khash key [1, r]) 1000000
def vecF (key r seq : Int) : DAuthVector :=
  bif inB seq 0 999999 then (r, modF (iadd .i64 seq (maskF key r)) 1000000, khash key [2, r, seq], khash key [3, r], if 1 ≤ khash key [4, r, seq] then khash key [4, r, seq] else 1) else (0, 0, 0, 0, 0)
def recOk (r : DUSIM) : Bool := inB r.1.1 0 3 && inB r.1.2 0 99 && inB r.2.1 1 2147483646 && inB r.2.2 0 999999
theorem ok_khash (key : Int) (l : List Int) : Ok (.int .i64) (khash key l) := by
  have := khash_bd key l
  exact okn (by omega)
theorem ok_mod (x : Int) : Ok (.int .i64) (modF x 1000000) := by
  have := modF_bd (x := x) (m := 1000000) (by omega) (by omega)
  exact okn (by omega)
theorem ok_vec {key r seq : Int} (h : Ok (.int .i64) r) : Ok TAuthVector (vecF key r seq) := by
  unfold vecF
  cases inB seq 0 999999
  · exact ⟨okn (n := 0) (by omega), okn (n := 0) (by omega), okn (n := 0) (by omega), okn (n := 0) (by omega), okn (n := 0) (by omega)⟩
  · refine ⟨h, ok_mod _, ok_khash _ _, ok_khash _ _, ?_⟩
    show Ok (.int .i64) (if 1 ≤ khash key [4, r, seq] then khash key [4, r, seq] else 1)
    split
    · exact ok_khash _ _
    · exact okn (by omega)
section
variable {k : Nat} (hk : FU ≤ k)
theorem s_mask (hk : FU ≤ k) (key r : Int) : spec_SequenceMask.f k (key, r) = some (maskF key r) := by
  unfold spec_SequenceMask.f
  rw [s_khash hk (by simp), ob_some, s_mod hk, ob_some]; rfl
theorem s_vec (hk : FU ≤ k) (key r seq : Int) : spec_NewAuthVector.f k (key, r, seq) = some (vecF key r seq) := by
  unfold spec_NewAuthVector.f vecF
  simp only [s_in, ob_some, s_mask hk, s_mod hk, s_max hk]
  rw [s_khash hk (by simp), s_khash hk (by simp), s_khash hk (by simp)]
  simp only [ob_some, s_max hk]
  cases inB seq 0 999999 <;> rfl
def nextF (r : DUSIM) (q : Int) : DUSIM × DAuthVector := bif (dnot (recOk r) || ieq r.2.2 999999) then (r, 0, 0, 0, 0, 0) else ((r.1, r.2.1, iadd .i64 r.2.2 1), vecF r.2.1 q (iadd .i64 r.2.2 1))
theorem ok_next (hk : FU ≤ k) {r : DUSIM} {q : Int} (h : Ok TUSIM r) (hq : Ok (.int .i64) q) : Ok TUSIM (nextF r q).1 ∧ Ok TAuthVector (nextF r q).2 := by
  unfold nextF
  cases (dnot (recOk r) || ieq r.2.2 999999)
  · exact ⟨⟨h.1, h.2.1, ok_add _ _⟩, ok_vec hq⟩
  · exact ⟨h, okn (n := 0) (by omega), okn (n := 0) (by omega), okn (n := 0) (by omega), okn (n := 0) (by omega), okn (n := 0) (by omega)⟩
end
end Go.Proofs.XF
/- Plain laws: drawn sessions, whole. -/
set_option linter.unusedVariables false
set_option linter.unusedSimpArgs false
set_option linter.unusedSectionVars false
set_option maxRecDepth 4000
namespace Go.Proofs.XF
open Go Go.Proofs.XTv

/-- A session out of the parts that a loop carries. -/
def unp (P : DUSIM × Int × Int × Int × Int × DAuthVector × Int × Int × Int × Int × Int × Int × DQuota × DAuthVector) (roam : List Int) (sub : List (List Int)) (una : List DNumberedPacket) : DSession :=
  (P.1, (P.2.1, P.2.2.1, P.2.2.2.1, roam), P.2.2.2.2.1, P.2.2.2.2.2.1, P.2.2.2.2.2.2.1, P.2.2.2.2.2.2.2.1, P.2.2.2.2.2.2.2.2.1, P.2.2.2.2.2.2.2.2.2.1, P.2.2.2.2.2.2.2.2.2.2.1, P.2.2.2.2.2.2.2.2.2.2.2.1,
    P.2.2.2.2.2.2.2.2.2.2.2.2.1, sub, (P.2.2.2.2.2.2.2.2.2.2.2.2.2.1, una), P.2.2.2.2.2.2.2.2.2.2.2.2.2.2)
theorem lget_ok {e : Ty} {l : List e.den} {i : Int} (h : Ok (.sl e) l) (hi : idxOk i (llen l) = true) : Ok e (lget e l i) := by
  have hi := of_decide_eq_true hi
  obtain ⟨j, rfl⟩ := Int.eq_ofNat_of_zero_le hi.1
  have hj : j < l.length := by have h2 : (j : Int) < (l.length : Int) := hi.2; omega
  show Ok e (lget e l (j : Int))
  rw [lget_nat l hj]
  exact ok_get h hj
section
variable {k : Nat} (hk : FU ≤ k)
def remF (q : DQuota) : Int := bif (ile 0 q.1 && inB q.2.1 0 100000 && inB q.2.2 0 q.2.1) then isub .i64 q.2.1 q.2.2 else 0
end
end Go.Proofs.XF
/- Plain laws: what is the same as itself; submissions. -/
set_option linter.unusedVariables false
set_option linter.unusedSimpArgs false
set_option linter.unusedSectionVars false
set_option maxRecDepth 4000
namespace Go.Proofs.XF
open Go Go.Proofs.XTv
section
variable {k : Nat} (hk : FU ≤ k)
def subF (s : DSession) (l : List Int) : DSession :=
  (s.1, s.2.1, s.2.2.1, s.2.2.2.1, s.2.2.2.2.1, s.2.2.2.2.2.1, s.2.2.2.2.2.2.1, s.2.2.2.2.2.2.2.1, s.2.2.2.2.2.2.2.2.1, s.2.2.2.2.2.2.2.2.2.1, s.2.2.2.2.2.2.2.2.2.2.1, s.2.2.2.2.2.2.2.2.2.2.2.1 ++ [l], s.2.2.2.2.2.2.2.2.2.2.2.2)
def subC (s : DSession) (l : List Int) : Bool := bif ile 24 (llen s.2.2.2.2.2.2.2.2.2.2.2.1) then true else ilt 60 (llen l)
theorem subC_len {s : DSession} {l : List Int} (h : subC s l = false) : s.2.2.2.2.2.2.2.2.2.2.2.1.length < 24 ∧ l.length ≤ 60 := by
  unfold subC at h
  by_cases h1 : (24 : Int) ≤ llen s.2.2.2.2.2.2.2.2.2.2.2.1
  · rw [ile_t h1] at h; cases h
  · rw [ile_f h1, cond_false] at h
    by_cases h2 : (60 : Int) < llen l
    · rw [ilt_t h2] at h; cases h
    · have h1 : ¬ (24 : Int) ≤ (s.2.2.2.2.2.2.2.2.2.2.2.1.length : Int) := h1
      have h2 : ¬ (60 : Int) < (l.length : Int) := h2
      omega
end
end Go.Proofs.XF
/- Plain laws: path updates, responses. -/
set_option linter.unusedVariables false
set_option linter.unusedSimpArgs false
set_option linter.unusedSectionVars false
set_option maxRecDepth 4000
namespace Go.Proofs.XF
open Go Go.Proofs.XTv
section
variable {k : Nat} (hk : FU ≤ k)
theorem d_sign (hk : FU ≤ k) {key : Int} {m : DSignal} (hm : Ok TSignal m) : ∃ r, spec_SignSignal.f k (key, m) = some r ∧ Ok TSignal r :=
  ⟨_, s_sign hk key m, hm.1, hm.2.1, hm.2.2.1, hm.2.2.2.1, hm.2.2.2.2.1, hm.2.2.2.2.2.1, ok_khash _ _⟩
def signedF (s : DSession) (kd : Int) : DSignal :=
  (kd, s.2.2.2.2.2.2.2.2.1, s.2.2.2.2.2.1, s.2.2.2.2.2.2.2.1, 0, (0, 0, 0, 0, 0), macF s.2.2.2.2.2.2.1 (kd, s.2.2.2.2.2.2.2.2.1, s.2.2.2.2.2.1, s.2.2.2.2.2.2.2.1, 0, (0, 0, 0, 0, 0), 0))
def pathS (s : DSession) (m : DSignal) : DSession :=
  (s.1, s.2.1, s.2.2.1, s.2.2.2.1, s.2.2.2.2.1, s.2.2.2.2.2.1, s.2.2.2.2.2.2.1, m.2.2.2.1, m.2.1, 0, (0, 0, 0), s.2.2.2.2.2.2.2.2.2.2.2.1, s.2.2.2.2.2.2.2.2.2.2.2.2.1, 0, s.2.2.2.2.2.2.2.2.2.2.2.2.2.2)
def pathC (s : DSession) (m : DSignal) : Bool :=
  ieq s.2.2.1 1 && ieq m.2.2.1 s.2.2.2.2.2.1 && ieq m.2.2.2.2.2.2 (macF s.2.2.2.2.2.2.1 m) && dnot (ilt m.2.2.2.1 s.2.2.2.2.2.2.2.1) && dnot (ieq m.2.2.2.1 s.2.2.2.2.2.2.2.1 && ine m.2.1 s.2.2.2.2.2.2.2.2.1)
theorem ok_path {s : DSession} {m : DSignal} (h : Ok TSession s) (hm : Ok TSignal m) : Ok TSession (pathS s m) := by
  have z : Ok (.int .i64) (0 : Int) := okn (by omega)
  exact ⟨h.1, h.2.1, h.2.2.1, h.2.2.2.1, h.2.2.2.2.1, h.2.2.2.2.2.1, h.2.2.2.2.2.2.1, hm.2.2.2.1, hm.2.1, z, ⟨z, z, z⟩, h.2.2.2.2.2.2.2.2.2.2.2.1, h.2.2.2.2.2.2.2.2.2.2.2.2.1, z, h.2.2.2.2.2.2.2.2.2.2.2.2.2.2⟩
theorem ilt_trich (hk : FU ≤ k) (x y : Int) : dnot (ilt x y) = (bif ilt y x then true else ieq x y) := by
  by_cases h : x < y
  · rw [ilt_t h, ilt_f (by omega), ieq_f (by omega)]; rfl
  · rw [ilt_f h]
    by_cases h2 : y < x
    · rw [ilt_t h2]; rfl
    · rw [ilt_f h2, ieq_t (by omega)]; rfl
def respC (s : DSession) (m : DSignal) : Bool :=
  bif bif bif ile s.2.2.2.2.1 0 then true else ine m.2.2.1 s.2.2.2.2.1 then true else ine m.2.2.2.2.1 s.2.2.2.1.2.2.2.1 then true else ile 999999 s.2.2.2.2.2.2.2.1
def respS (s : DSession) (m : DSignal) : DSession :=
  (s.1, s.2.1, 1, (0, 0, 0, 0, 0), 0, s.2.2.2.2.1, s.2.2.2.1.2.2.2.2, iadd .i64 s.2.2.2.2.2.2.2.1 1, m.2.1, 0, (0, 0, 0), s.2.2.2.2.2.2.2.2.2.2.2)
theorem ok_resp {s : DSession} {m : DSignal} (h : Ok TSession s) (hm : Ok TSignal m) : Ok TSession (respS s m) := by
  have z : Ok (.int .i64) (0 : Int) := okn (by omega)
  exact ⟨h.1, h.2.1, okn (n := 1) (by omega), ⟨z, z, z, z, z⟩, z, h.2.2.2.2.1, h.2.2.2.1.2.2.2.2, ok_add _ _, hm.2.1, z, ⟨z, z, z⟩, h.2.2.2.2.2.2.2.2.2.2.2⟩
end
end Go.Proofs.XF
/- Plain laws: devices: power on, tick, move; sessions: submit, failover. -/
set_option linter.unusedVariables false
set_option linter.unusedSimpArgs false
set_option linter.unusedSectionVars false
set_option maxRecDepth 4000
namespace Go.Proofs.XF
open Go Go.Proofs.XTv
section
variable {k : Nat} (hk : FU ≤ k)
theorem i_dres (hk : FU ≤ k) {d : DDevice} {l : List DSignal} (h : Ok TDevice d) (hl : l.length ≤ 4294967296) : impl_deviceResult.f k (d, l) = some (d, l) := by
  unfold impl_deviceResult.f
  simp only [i_copyDevice hk h, i_copySignals hk hl, ob_some]
theorem cnt_dres (d : DDevice) (l : List DSignal) : cnt TDeviceResult (d, l) = cnt TDevice d + l.length := by
  show cnt TDevice d + (l.length + (l.map fun _ => 0).sum) = _
  rw [sum_zero]; omega
theorem ok_dres0 {d : DDevice} (h : Ok TDevice d) : Ok TDeviceResult (d, []) := ⟨h, ok_nil _⟩
theorem ok_dres1 {d : DDevice} {s : DSignal} (h : Ok TDevice d) (hs : Ok TSignal s) : Ok TDeviceResult (d, [s]) := ⟨h, ok_one hs⟩
def attG (n : Int) : DSignal := (1, n, 0, 0, 0, (0, 0, 0, 0, 0), 0)
theorem ok_att {n : Int} (h : Ok (.int .i64) n) : Ok TSignal (attG n) :=
  have z : Ok (.int .i64) (0 : Int) := okn (by omega)
  ⟨okn (n := 1) (by omega), h, z, z, z, ⟨z, z, z, z, z⟩, z⟩
def pathG (x : DDevice) : DSignal := (5, x.2.2.1, x.2.2.2.1, x.2.2.2.2.2.1, 0, (0, 0, 0, 0, 0), macF x.2.2.2.2.1 (5, x.2.2.1, x.2.2.2.1, x.2.2.2.2.2.1, 0, (0, 0, 0, 0, 0), 0))
theorem ok_pathG {x : DDevice} (h : Ok TDevice x) : Ok TSignal (pathG x) :=
  have z : Ok (.int .i64) (0 : Int) := okn (by omega)
  ⟨okn (n := 5) (by omega), h.2.2.1, h.2.2.2.1, h.2.2.2.2.2.1, z, ⟨z, z, z, z, z⟩, ok_khash _ _⟩
theorem i_pathG (hk : FU ≤ k) (x : DDevice) : impl_pathUpdate.f k x = some (pathG x) := by
  unfold impl_pathUpdate.f
  rw [i_sign hk, ob_some]; rfl
theorem s_pathG (hk : FU ≤ k) (x : DDevice) : spec_l29Path.f k x = some (pathG x) := by
  unfold spec_l29Path.f
  rw [s_sign hk, ob_some]; rfl
theorem ok_wait {x : DDevice} (h : Ok TDevice x) {n : Int} (hn : Ok (.int .i64) n) : Ok TDevice (x.1, x.2.1, x.2.2.1, x.2.2.2.1, x.2.2.2.2.1, x.2.2.2.2.2.1, x.2.2.2.2.2.2.1, n, x.2.2.2.2.2.2.2.2) :=
  ⟨h.1, h.2.1, h.2.2.1, h.2.2.2.1, h.2.2.2.2.1, h.2.2.2.2.2.1, h.2.2.2.2.2.2.1, hn, h.2.2.2.2.2.2.2.2⟩
theorem ok_three : Ok (.int .i64) (3 : Int) := okn (by omega)
theorem move_cond (hk : FU ≤ k) (a b : Int) : (bif bif ine a 2 then true else ile 999999 b then true else false) = dnot (bif ieq a 2 then ilt b 999999 else false) := by
  by_cases h1 : a = 2
  · subst h1
    by_cases h2 : b < 999999
    · have h3 : ¬ 999999 ≤ b := by omega
      simp [ine, ieq, ile, ilt, dnot, h2, h3]
    · have h3 : 999999 ≤ b := by omega
      simp [ine, ieq, ile, ilt, dnot, h2, h3]
  · have e1 : (a != 2) = true := by simp [h1]
    have e2 : (a == 2) = false := by simp [h1]
    simp [ine, ieq, ile, ilt, dnot, e1, e2]
theorem cnt_payl (hk : FU ≤ k) {s : DSession} (P : List (List Int)) : cnt TSession (s.1, s.2.1, s.2.2.1, s.2.2.2.1, s.2.2.2.2.1, s.2.2.2.2.2.1, s.2.2.2.2.2.2.1, s.2.2.2.2.2.2.2.1, s.2.2.2.2.2.2.2.2.1, s.2.2.2.2.2.2.2.2.2.1, s.2.2.2.2.2.2.2.2.2.2.1, P, s.2.2.2.2.2.2.2.2.2.2.2.2) = cnt TSession (s.1, s.2.1, s.2.2.1, s.2.2.2.1, s.2.2.2.2.1, s.2.2.2.2.2.1, s.2.2.2.2.2.2.1, s.2.2.2.2.2.2.2.1, s.2.2.2.2.2.2.2.2.1, s.2.2.2.2.2.2.2.2.2.1, s.2.2.2.2.2.2.2.2.2.2.1, [], s.2.2.2.2.2.2.2.2.2.2.2.2) + cnt (.sl (.sl (.int .u8))) P := by
  simp only [cnt, List.length_nil, List.map_nil, List.sum_nil]
  omega
end
theorem law_ln {α : Type} {xs : List α} {L : Int} {e : Option Bool} (h : (xs.length : Int) ≤ L → e = some true) : (bif ilt L (llen xs) then some true else e) = some true := by
  by_cases hc : (xs.length : Int) ≤ L
  · rw [ilt_f (by show ¬ L < (xs.length : Int); omega), cond_false]; exact h hc
  · rw [ilt_t (by show L < (xs.length : Int); omega), cond_true]
end Go.Proofs.XF
/- Plain laws: a device's answers to signals. -/
set_option linter.unusedVariables false
set_option linter.unusedSimpArgs false
set_option linter.unusedSectionVars false
set_option maxRecDepth 4000
namespace Go.Proofs.XF
open Go Go.Proofs.XTv
def unmF (key r c : Int) : Int := modF (isub .i64 (modF c 1000000) (maskF key r)) 1000000
def verF (key sq : Int) (v : DAuthVector) : Int :=
  bif ine v.2.2.1 (khash key [2, v.1, unmF key v.1 v.2.1]) then 1 else bif ile (unmF key v.1 v.2.1) sq then 2 else bif ilt sq (isub .i64 (unmF key v.1 v.2.1) 1000) then 3 else 0
def tokF (key r seq : Int) : Int := bif dnot (inB seq 0 999999) then -1 else iadd .i64 (imul .i64 1000000 (modF (khash key [5, r, seq]) 1000)) seq
def respF (u : DUSIM) (v : DAuthVector) : DUSIM × DAuthResponse :=
  bif dnot (recOk u) then (u, 1, 0, 0, 0)
  else bif ieq (verF u.2.1 u.2.2 v) 0 then ((u.1, u.2.1, unmF u.2.1 v.1 v.2.1), 0, khash u.2.1 [3, v.1], (vecF u.2.1 v.1 (unmF u.2.1 v.1 v.2.1)).2.2.2.2, 0)
  else bif (bif ieq (verF u.2.1 u.2.2 v) 2 then true else ieq (verF u.2.1 u.2.2 v) 3) then (u, verF u.2.1 u.2.2 v, 0, 0, tokF u.2.1 v.1 u.2.2)
  else (u, verF u.2.1 u.2.2 v, 0, 0, 0)
theorem unmF_bd (key r c : Int) : 0 ≤ unmF key r c ∧ unmF key r c < 1000000 := modF_bd (by omega) (by omega)
theorem maskF_bd (key r : Int) : 0 ≤ maskF key r ∧ maskF key r < 1000000 := modF_bd (by omega) (by omega)
theorem irem_modF {x m : Int} (h : 0 ≤ x) (h1 : 1 ≤ m) (h2 : m ≤ 1000000000000) : irem .i64 x m = modF x m := by
  unfold irem modF
  rw [if_pos ⟨h1, h2⟩, Int.tmod_eq_emod_of_nonneg h]
theorem inB_t {x l h : Int} (e : inB x l h = true) : l ≤ x ∧ x ≤ h := by
  unfold inB at e
  cases hh : ile l x
  · rw [hh] at e; cases e
  · rw [hh] at e; exact ⟨of_decide_eq_true hh, of_decide_eq_true e⟩
theorem recOk_seq {u : DUSIM} (h : recOk u = true) : 0 ≤ u.2.2 ∧ u.2.2 ≤ 999999 := by
  unfold recOk at h
  simp only [Bool.and_eq_true] at h
  exact inB_t h.2
section
variable {k : Nat} (hk : FU ≤ k)
theorem i_usim (u : DUSIM) : impl_IsValidUSIM.f k u = some (recOk u) := by
  unfold impl_IsValidUSIM.f impl_IsValidKey.f impl_IsValidSubscriberID.f recOk
  simp only [i_in, ob_some, ob_pick]
  generalize inB u.1.1 0 3 = a
  generalize inB u.1.2 0 99 = b
  generalize inB u.2.1 1 2147483646 = c
  generalize inB u.2.2 0 999999 = d
  revert a b c d
  decide
theorem s_usim (u : DUSIM) : spec_IsValidUSIM.f k u = some (recOk u) := by
  unfold spec_IsValidUSIM.f spec_IsValidKey.f spec_IsValidSubscriberID.f recOk
  simp only [s_in, ob_some, ob_pick]
  generalize inB u.1.1 0 3 = a
  generalize inB u.1.2 0 99 = b
  generalize inB u.2.1 1 2147483646 = c
  generalize inB u.2.2 0 999999 = d
  revert a b c d
  decide
theorem i_mask (hk : FU ≤ k) (key r : Int) : impl_SequenceMask.f k (key, r) = some (maskF key r) := by
  unfold impl_SequenceMask.f
  rw [i_khash hk (by simp), ob_some, irem_modF (khash_bd _ _).1 (by omega) (by omega)]; rfl
theorem i_unm (hk : FU ≤ k) (key r c : Int) : impl_UnmaskSequence.f k (key, r, c) = some (unmF key r c) := by
  unfold impl_UnmaskSequence.f
  simp only [i_mod hk, i_mask hk, ob_some]; rfl
theorem s_unm (hk : FU ≤ k) (key r c : Int) : spec_UnmaskSequence.f k (key, r, c) = some (unmF key r c) := by
  unfold spec_UnmaskSequence.f
  simp only [s_mod hk, s_mask hk, ob_some]; rfl
theorem i_vec (hk : FU ≤ k) (key r seq : Int) : impl_NewAuthVector.f k (key, r, seq) = some (vecF key r seq) := by
  unfold impl_NewAuthVector.f vecF
  simp only [i_in, ob_some, i_mask hk]
  rw [i_khash hk (by simp), i_khash hk (by simp), i_khash hk (by simp)]
  simp only [ob_some]
  cases hi : inB seq 0 999999
  · rfl
  · have h1 := inB_t hi
    have h2 := maskF_bd key r
    have h3 := khash_bd key [4, r, seq]
    rw [iadd_eq (x := seq) (by omega) (by omega), irem_modF (by omega) (by omega) (by omega)]
    by_cases h4 : khash key [4, r, seq] = 0
    · rw [ieq_t h4, if_neg (by omega)]; rfl
    · rw [ieq_f h4, if_pos (by omega)]; rfl
theorem i_tok (hk : FU ≤ k) (key r seq : Int) : impl_ResyncToken.f k (key, r, seq) = some (tokF key r seq) := by
  unfold impl_ResyncToken.f tokF
  rw [i_in, ob_some, i_khash hk (by simp), ob_some, irem_modF (khash_bd _ _).1 (by omega) (by omega)]
  cases inB seq 0 999999 <;> rfl
theorem s_tok (hk : FU ≤ k) (key r seq : Int) : spec_ResyncToken.f k (key, r, seq) = some (tokF key r seq) := by
  unfold spec_ResyncToken.f tokF
  rw [s_in, ob_some, s_khash hk (by simp), ob_some, s_mod hk, ob_some]
  cases inB seq 0 999999 <;> rfl
theorem s_ver (hk : FU ≤ k) (key sq : Int) (v : DAuthVector) : spec_VerifyVector.f k (key, sq, v) = some (verF key sq v) := by
  unfold spec_VerifyVector.f verF
  simp only [s_unm hk, ob_some]
  rw [s_khash hk (by simp), ob_some]
  cases ine v.2.2.1 (khash key [2, v.1, unmF key v.1 v.2.1])
  · cases ile (unmF key v.1 v.2.1) sq
    · cases ilt sq (isub .i64 (unmF key v.1 v.2.1) 1000) <;> rfl
    · rfl
  · rfl
theorem i_ver (hk : FU ≤ k) (key : Int) {sq : Int} (h : 0 ≤ sq ∧ sq ≤ 999999) (v : DAuthVector) : impl_VerifyVector.f k (key, sq, v) = some (verF key sq v) := by
  have hb := unmF_bd key v.1 v.2.1
  have e : ilt (iadd .i64 sq 1000) (unmF key v.1 v.2.1) = ilt sq (isub .i64 (unmF key v.1 v.2.1) 1000) := by
    rw [iadd_eq (by omega) (by omega), isub_eq (by omega) (by omega)]
    unfold ilt
    rw [decide_eq_decide]; omega
  unfold impl_VerifyVector.f verF
  simp only [i_unm hk, ob_some]
  rw [i_khash hk (by simp), ob_some, e]
  cases ine v.2.2.1 (khash key [2, v.1, unmF key v.1 v.2.1])
  · cases ile (unmF key v.1 v.2.1) sq
    · cases ilt sq (isub .i64 (unmF key v.1 v.2.1) 1000) <;> rfl
    · rfl
  · rfl
theorem s_resp (hk : FU ≤ k) (u : DUSIM) (v : DAuthVector) : spec_RespondToChallenge.f k (u, v) = some (respF u v) := by
  unfold spec_RespondToChallenge.f respF
  simp only [s_usim, ob_some, s_ver hk, s_unm hk, s_vec hk, s_tok hk]
  rw [s_khash hk (by simp), ob_some]
  cases recOk u
  · rfl
  · cases ieq (verF u.2.1 u.2.2 v) 0
    · cases h2 : ieq (verF u.2.1 u.2.2 v) 2
      · cases ieq (verF u.2.1 u.2.2 v) 3 <;> rfl
      · rfl
    · rfl
theorem i_resp (hk : FU ≤ k) (u : DUSIM) (v : DAuthVector) : impl_RespondToChallenge.f k (u, v) = some (respF u v) := by
  unfold impl_RespondToChallenge.f respF
  cases hr : recOk u
  · simp only [i_usim, hr, ob_some]; rfl
  · simp only [i_usim, hr, ob_some, i_ver hk _ (recOk_seq hr), i_unm hk, i_vec hk, i_tok hk]
    rw [i_khash hk (by simp), ob_some]
    cases h0 : ieq (verF u.2.1 u.2.2 v) 0
    · cases h2 : ieq (verF u.2.1 u.2.2 v) 2
      · cases ieq (verF u.2.1 u.2.2 v) 3 <;> rfl
      · rfl
    · have e0 : verF u.2.1 u.2.2 v = 0 := by
        unfold ieq at h0
        simpa using h0
      rw [e0]; rfl
theorem ok_z : Ok (.int .i64) (0 : Int) := okn (by omega)
theorem ok_verF (key sq : Int) (v : DAuthVector) : Ok (.int .i64) (verF key sq v) := by
  unfold verF
  cases ine v.2.2.1 (khash key [2, v.1, unmF key v.1 v.2.1])
  · cases ile (unmF key v.1 v.2.1) sq
    · cases ilt sq (isub .i64 (unmF key v.1 v.2.1) 1000)
      · exact okn (n := 0) (by omega)
      · exact okn (n := 3) (by omega)
    · exact okn (n := 2) (by omega)
  · exact okn (n := 1) (by omega)
theorem ok_resp1 {u : DUSIM} (hu : Ok TUSIM u) (v : DAuthVector) : Ok TUSIM (respF u v).1 := by
  unfold respF
  cases recOk u
  · exact hu
  · cases ieq (verF u.2.1 u.2.2 v) 0
    · cases ieq (verF u.2.1 u.2.2 v) 2
      · cases ieq (verF u.2.1 u.2.2 v) 3 <;> exact hu
      · exact hu
    · have hb := unmF_bd u.2.1 v.1 v.2.1
      exact ⟨hu.1, hu.2.1, okn (n := unmF u.2.1 v.1 v.2.1) (by omega)⟩
theorem ok_resp34 {u : DUSIM} {v : DAuthVector} (hv : Ok TAuthVector v) : Ok (.int .i64) (respF u v).2.2.1 ∧ Ok (.int .i64) (respF u v).2.2.2.1 := by
  unfold respF
  cases recOk u
  · exact ⟨ok_z, ok_z⟩
  · cases ieq (verF u.2.1 u.2.2 v) 0
    · cases ieq (verF u.2.1 u.2.2 v) 2
      · cases ieq (verF u.2.1 u.2.2 v) 3 <;> exact ⟨ok_z, ok_z⟩
      · exact ⟨ok_z, ok_z⟩
    · have h2 := (ok_vec (key := u.2.1) (seq := unmF u.2.1 v.1 v.2.1) hv.1).2.2.2.2
      exact ⟨ok_khash _ _, h2⟩
theorem i_announce (hk : FU ≤ k) {d : DDevice} (h : Ok TDevice d) : impl_announcePath.f k d = some ((d.1, d.2.1, d.2.2.1, d.2.2.2.1, d.2.2.2.2.1, d.2.2.2.2.2.1, false, 3, d.2.2.2.2.2.2.2.2), [pathG d]) := by
  have mw : Ok TDevice (d.1, d.2.1, d.2.2.1, d.2.2.2.1, d.2.2.2.2.1, d.2.2.2.2.2.1, false, 3, d.2.2.2.2.2.2.2.2) :=
    ⟨h.1, h.2.1, h.2.2.1, h.2.2.2.1, h.2.2.2.2.1, h.2.2.2.2.2.1, trivial, ok_three, h.2.2.2.2.2.2.2.2⟩
  unfold impl_announcePath.f
  rw [i_pathG hk, ob_some, i_dres hk mw (by simp), ob_some]; rfl
theorem s_next2 (hk : FU ≤ k) (d : DDevice) : spec_l29Next.f k d = some ((d.1, d.2.1, d.2.2.1, d.2.2.2.1, d.2.2.2.2.1, iadd .i64 d.2.2.2.2.2.1 1, false, 3, d.2.2.2.2.2.2.2.2), [pathG (d.1, d.2.1, d.2.2.1, d.2.2.2.1, d.2.2.2.2.1, iadd .i64 d.2.2.2.2.2.1 1, d.2.2.2.2.2.2)]) := by
  unfold spec_l29Next.f spec_l29Send.f
  rw [s_pathG hk, ob_some, ob_some]; rfl
def sigB (m : DSignal) : Bool := inB m.1 1 8 && inB m.2.1 0 5 && inB m.2.2.1 0 999999 && inB m.2.2.2.1 0 999999 && inB m.2.2.2.2.1 0 1000000000000
theorem i_sigOk (m : DSignal) : impl_IsValidSignal.f k m = some (sigB m) := by
  unfold impl_IsValidSignal.f sigB
  simp only [i_in, ob_some, ob_pick]
  generalize inB m.1 1 8 = a
  generalize inB m.2.1 0 5 = b
  generalize inB m.2.2.1 0 999999 = c
  generalize inB m.2.2.2.1 0 999999 = d
  generalize inB m.2.2.2.2.1 0 1000000000000 = e
  revert a b c d e
  decide
theorem s_sigOk (m : DSignal) : spec_IsValidSignal.f k m = some (sigB m) := by
  unfold spec_IsValidSignal.f sigB
  simp only [s_in, ob_some, ob_pick]
  generalize inB m.1 1 8 = a
  generalize inB m.2.1 0 5 = b
  generalize inB m.2.2.1 0 999999 = c
  generalize inB m.2.2.2.1 0 999999 = d
  generalize inB m.2.2.2.2.1 0 1000000000000 = e
  revert a b c d e
  decide
def ansF (d : DDevice) (m : DSignal) : DDeviceResult :=
  bif ine (respF d.1 m.2.2.2.2.2.1).2.1 0 then (d, [])
  else (((respF d.1 m.2.2.2.2.2.1).1, d.2.1, d.2.2.1, m.2.2.1, (respF d.1 m.2.2.2.2.2.1).2.2.2.1, d.2.2.2.2.2), [(3, d.2.2.1, m.2.2.1, 0, (respF d.1 m.2.2.2.2.2.1).2.2.1, (0, 0, 0, 0, 0), 0)])
theorem i_answer (hk : FU ≤ k) {d : DDevice} {m : DSignal} (h : Ok TDevice d) (hm : Ok TSignal m) : impl_answerChallenge.f k (d, m) = some (ansF d m) := by
  have hr := ok_resp1 h.1 m.2.2.2.2.2.1
  have hq := ok_resp34 (u := d.1) hm.2.2.2.2.2.1
  unfold impl_answerChallenge.f ansF
  simp only [i_resp hk, ob_some]
  cases ine (respF d.1 m.2.2.2.2.2.1).2.1 0
  · simp only [cond_false]
    have hd : Ok TDevice ((respF d.1 m.2.2.2.2.2.1).1, d.2.1, d.2.2.1, m.2.2.1, (respF d.1 m.2.2.2.2.2.1).2.2.2.1, d.2.2.2.2.2) := ⟨hr, h.2.1, h.2.2.1, hm.2.2.1, hq.2, h.2.2.2.2.2⟩
    rw [i_dres hk hd (by simp), ob_some]
  · simp only [cond_true]
    rw [i_dres hk h (by simp), ob_some]
theorem s_answer (hk : FU ≤ k) {d : DDevice} {m : DSignal} (h : Ok TDevice d) (hm : Ok TSignal m) : spec_l29Asked.f k (d, m) = some (ansF d m) := by
  unfold spec_l29Asked.f ansF
  simp only [s_resp hk, s_copyDevice hk h, ob_some]
  cases ine (respF d.1 m.2.2.2.2.2.1).2.1 0 <;> rfl
theorem ok_ans {d : DDevice} {m : DSignal} (h : Ok TDevice d) (hm : Ok TSignal m) : Ok TDevice (ansF d m).1 ∧ Ok (.sl TSignal) (ansF d m).2 ∧ cnt TDevice (ansF d m).1 = cnt TDevice d ∧ (ansF d m).2.length ≤ 1 := by
  have hr := ok_resp1 h.1 m.2.2.2.2.2.1
  have hq := ok_resp34 (u := d.1) hm.2.2.2.2.2.1
  unfold ansF
  cases ine (respF d.1 m.2.2.2.2.2.1).2.1 0
  · refine ⟨⟨hr, h.2.1, h.2.2.1, hm.2.2.1, hq.2, h.2.2.2.2.2⟩, ok_one ⟨ok_three, h.2.2.1, hm.2.2.1, ok_z, hq.1, ⟨ok_z, ok_z, ok_z, ok_z, ok_z⟩, ok_z⟩, rfl, by simp⟩
  · exact ⟨h, ok_nil _, rfl, by simp⟩
theorem fin_sig {x : DDevice × DSignal} {r : DDeviceResult} (hc : cnt TDevice x.1 ≤ 1048576) (hs : spec_ReceiveSignal.f k x = some r) (hi : impl_ReceiveSignal.f k x = some r) (ho : Ok TDevice r.1) (ho2 : Ok (.sl TSignal) r.2) (he : cnt TDevice r.1 = cnt TDevice x.1) (hl : r.2.length ≤ 1) :
    ∃ r, spec_ReceiveSignal.f k x = some r ∧ impl_ReceiveSignal.f k x = some r ∧ Ok TDeviceResult r ∧ cnt TDeviceResult r ≤ 67108864 :=
  ⟨r, hs, hi, ⟨ho, ho2⟩, by rw [show r = (r.1, r.2) from rfl, cnt_dres]; omega⟩
theorem both_ReceiveSignal (hk : FU ≤ k) {x : (.pair TDevice TSignal : Ty).den} (h : Ok (.pair TDevice TSignal) x) (hn : cnt (.pair TDevice TSignal) x ≤ 1048576) :
    ∃ r, spec_ReceiveSignal.f k x = some r ∧ impl_ReceiveSignal.f k x = some r ∧ Ok TDeviceResult r ∧ cnt TDeviceResult r ≤ 67108864 := by
  obtain ⟨d, m⟩ := x
  obtain ⟨h, hm⟩ := h
  have hc0 : cnt TDevice d ≤ 1048576 := by
    have e : cnt (.pair TDevice TSignal) (d, m) = cnt TDevice d + 0 := rfl
    omega
  have l0 : ([] : List DSignal).length ≤ 4294967296 := by simp
  cases c0 : (bif bif dnot (sigB m) then true else ine m.2.1 d.2.2.1 then true else ieq d.2.1 0)
  · by_cases m2 : m.1 = 2
    · have e2 : ieq m.1 2 = true := ieq_t m2
      have e4 : ieq m.1 4 = false := ieq_f (by rw [m2]; decide)
      have e6 : ieq m.1 6 = false := ieq_f (by rw [m2]; decide)
      have e7 : ieq m.1 7 = false := ieq_f (by rw [m2]; decide)
      cases s1 : ieq d.2.1 1
      · refine fin_sig (r := (d, [])) hc0 ?_ ?_ h (ok_nil _) rfl (by simp)
        · unfold spec_ReceiveSignal.f
          simp only [s_sigOk, s_copyDevice hk h, ob_some, c0, e2, e4, e6, e7, s1, cond_true, cond_false]
        · unfold impl_ReceiveSignal.f
          simp only [i_sigOk, ob_some, c0, e2, s1, cond_true, cond_false, i_dres hk h l0]
      · obtain ⟨a1, a2, a3, a4⟩ := ok_ans h hm
        refine fin_sig (r := ansF d m) hc0 ?_ ?_ a1 a2 a3 a4
        · unfold spec_ReceiveSignal.f
          simp only [s_sigOk, s_copyDevice hk h, ob_some, c0, e2, s1, cond_true, cond_false, s_answer hk h hm]
        · unfold impl_ReceiveSignal.f
          simp only [i_sigOk, ob_some, c0, e2, s1, cond_true, cond_false, i_answer hk h hm]
    · have e2 : ieq m.1 2 = false := ieq_f m2
      by_cases m4 : m.1 = 4
      · have e4 : ieq m.1 4 = true := ieq_t m4
        have e6 : ieq m.1 6 = false := ieq_f (by rw [m4]; decide)
        have e7 : ieq m.1 7 = false := ieq_f (by rw [m4]; decide)
        cases q : (bif bif bif ieq d.2.1 1 then inB d.2.2.2.2.1 1 2147483646 else false then ieq m.2.2.1 d.2.2.2.1 else false then ieq m.2.2.2.2.2.2 (macF d.2.2.2.2.1 m) else false)
        · refine fin_sig (r := (d, [])) hc0 ?_ ?_ h (ok_nil _) rfl (by simp)
          · unfold spec_ReceiveSignal.f spec_IsValidKey.f
            simp only [s_sigOk, s_copyDevice hk h, ob_some, c0, e2, e4, e6, e7, cond_true, cond_false, s_in, s_verify hk, ob_pick]
            revert q
            generalize ieq d.2.1 1 = z1
            generalize inB d.2.2.2.2.1 1 2147483646 = z2
            generalize ieq m.2.2.1 d.2.2.2.1 = z3
            generalize ieq m.2.2.2.2.2.2 (macF d.2.2.2.2.1 m) = z4
            intro q
            cases z1 <;> cases z2 <;> cases z3 <;> cases z4 <;> first | (cases q; done) | rfl
          · unfold impl_ReceiveSignal.f impl_IsValidKey.f
            simp only [i_sigOk, ob_some, c0, e2, e4, cond_true, cond_false, i_in, i_verify hk, ob_pick]
            revert q
            generalize ieq d.2.1 1 = z1
            generalize inB d.2.2.2.2.1 1 2147483646 = z2
            generalize ieq m.2.2.1 d.2.2.2.1 = z3
            generalize ieq m.2.2.2.2.2.2 (macF d.2.2.2.2.1 m) = z4
            intro q
            cases z1 <;> cases z2 <;> cases z3 <;> cases z4 <;> first | (cases q; done) | (simp only [cond_true, cond_false, i_dres hk h l0, ob_some])
        · have hd : Ok TDevice (d.1, 2, d.2.2.1, d.2.2.2.1, d.2.2.2.2.1, m.2.2.2.1, true, d.2.2.2.2.2.2.2) := ⟨h.1, okn (n := 2) (by omega), h.2.2.1, h.2.2.2.1, h.2.2.2.2.1, hm.2.2.2.1, trivial, h.2.2.2.2.2.2.2⟩
          refine fin_sig (r := (_, [])) hc0 ?_ ?_ hd (ok_nil _) rfl (by simp)
          · unfold spec_ReceiveSignal.f spec_IsValidKey.f
            simp only [s_sigOk, s_copyDevice hk h, ob_some, c0, e2, e4, e6, e7, cond_true, cond_false, s_in, s_verify hk, ob_pick]
            revert q
            generalize ieq d.2.1 1 = z1
            generalize inB d.2.2.2.2.1 1 2147483646 = z2
            generalize ieq m.2.2.1 d.2.2.2.1 = z3
            generalize ieq m.2.2.2.2.2.2 (macF d.2.2.2.2.1 m) = z4
            intro q
            cases z1 <;> cases z2 <;> cases z3 <;> cases z4 <;> first | (cases q; done) | rfl
          · unfold impl_ReceiveSignal.f impl_IsValidKey.f
            simp only [i_sigOk, ob_some, c0, e2, e4, cond_true, cond_false, i_in, i_verify hk, ob_pick]
            revert q
            generalize ieq d.2.1 1 = z1
            generalize inB d.2.2.2.2.1 1 2147483646 = z2
            generalize ieq m.2.2.1 d.2.2.2.1 = z3
            generalize ieq m.2.2.2.2.2.2 (macF d.2.2.2.2.1 m) = z4
            intro q
            cases z1 <;> cases z2 <;> cases z3 <;> cases z4 <;> first | (cases q; done) | (simp only [cond_true, cond_false, i_dres hk hd l0, ob_some])
      · have e4 : ieq m.1 4 = false := ieq_f m4
        by_cases m6 : m.1 = 6
        · have e6 : ieq m.1 6 = true := ieq_t m6
          have e7 : ieq m.1 7 = false := ieq_f (by rw [m6]; decide)
          cases q : (bif bif bif ieq d.2.1 2 then ieq m.2.2.1 d.2.2.2.1 else false then ieq m.2.2.2.1 d.2.2.2.2.2.1 else false then ieq m.2.2.2.2.2.2 (macF d.2.2.2.2.1 m) else false)
          · refine fin_sig (r := (d, [])) hc0 ?_ ?_ h (ok_nil _) rfl (by simp)
            · unfold spec_ReceiveSignal.f
              simp only [s_sigOk, s_copyDevice hk h, ob_some, c0, e2, e4, e6, e7, cond_true, cond_false, s_verify hk, ob_pick]
              revert q
              generalize ieq d.2.1 2 = z1
              generalize ieq m.2.2.2.1 d.2.2.2.2.2.1 = z2
              generalize ieq m.2.2.1 d.2.2.2.1 = z3
              generalize ieq m.2.2.2.2.2.2 (macF d.2.2.2.2.1 m) = z4
              intro q
              cases z1 <;> cases z2 <;> cases z3 <;> cases z4 <;> first | (cases q; done) | rfl
            · unfold impl_ReceiveSignal.f
              simp only [i_sigOk, ob_some, c0, e2, e4, e6, cond_true, cond_false, i_verify hk, ob_pick]
              revert q
              generalize ieq d.2.1 2 = z1
              generalize ieq m.2.2.2.1 d.2.2.2.2.2.1 = z2
              generalize ieq m.2.2.1 d.2.2.2.1 = z3
              generalize ieq m.2.2.2.2.2.2 (macF d.2.2.2.2.1 m) = z4
              intro q
              cases z1 <;> cases z2 <;> cases z3 <;> cases z4 <;> first | (cases q; done) | (simp only [cond_true, cond_false, i_dres hk h l0, ob_some])
          · have hd : Ok TDevice (d.1, d.2.1, d.2.2.1, d.2.2.2.1, d.2.2.2.2.1, d.2.2.2.2.2.1, true, d.2.2.2.2.2.2.2) := ⟨h.1, h.2.1, h.2.2.1, h.2.2.2.1, h.2.2.2.2.1, h.2.2.2.2.2.1, trivial, h.2.2.2.2.2.2.2⟩
            refine fin_sig (r := (_, [])) hc0 ?_ ?_ hd (ok_nil _) rfl (by simp)
            · unfold spec_ReceiveSignal.f
              simp only [s_sigOk, s_copyDevice hk h, ob_some, c0, e2, e4, e6, e7, cond_true, cond_false, s_verify hk, ob_pick]
              revert q
              generalize ieq d.2.1 2 = z1
              generalize ieq m.2.2.2.1 d.2.2.2.2.2.1 = z2
              generalize ieq m.2.2.1 d.2.2.2.1 = z3
              generalize ieq m.2.2.2.2.2.2 (macF d.2.2.2.2.1 m) = z4
              intro q
              cases z1 <;> cases z2 <;> cases z3 <;> cases z4 <;> first | (cases q; done) | rfl
            · unfold impl_ReceiveSignal.f
              simp only [i_sigOk, ob_some, c0, e2, e4, e6, cond_true, cond_false, i_verify hk, ob_pick]
              revert q
              generalize ieq d.2.1 2 = z1
              generalize ieq m.2.2.2.1 d.2.2.2.2.2.1 = z2
              generalize ieq m.2.2.1 d.2.2.2.1 = z3
              generalize ieq m.2.2.2.2.2.2 (macF d.2.2.2.2.1 m) = z4
              intro q
              cases z1 <;> cases z2 <;> cases z3 <;> cases z4 <;> first | (cases q; done) | (simp only [cond_true, cond_false, i_dres hk hd l0, ob_some])
        · have e6 : ieq m.1 6 = false := ieq_f m6
          cases e7 : ieq m.1 7
          · refine fin_sig (r := (d, [])) hc0 ?_ ?_ h (ok_nil _) rfl (by simp)
            · unfold spec_ReceiveSignal.f
              simp only [s_sigOk, s_copyDevice hk h, ob_some, c0, e2, e4, e6, e7, cond_true, cond_false]
            · unfold impl_ReceiveSignal.f
              simp only [i_sigOk, ob_some, c0, e2, e4, e6, e7, cond_true, cond_false, i_dres hk h l0]
          · cases q3 : (bif ieq d.2.1 3 then ilt d.2.2.2.2.2.1 999999 else false)
            · cases q2 : ieq d.2.1 2
              · refine fin_sig (r := (d, [])) hc0 ?_ ?_ h (ok_nil _) rfl (by simp)
                · unfold spec_ReceiveSignal.f
                  simp only [s_sigOk, s_copyDevice hk h, ob_some, c0, e2, e4, e6, e7, q2, q3, cond_true, cond_false]
                · unfold impl_ReceiveSignal.f
                  simp only [i_sigOk, ob_some, c0, e2, e4, e6, e7, q2, q3, cond_true, cond_false, i_dres hk h l0]
              · have hd : Ok TDevice (d.1, d.2.1, d.2.2.1, d.2.2.2.1, d.2.2.2.2.1, d.2.2.2.2.2.1, false, 3, d.2.2.2.2.2.2.2.2) := ⟨h.1, h.2.1, h.2.2.1, h.2.2.2.1, h.2.2.2.2.1, h.2.2.2.2.2.1, trivial, ok_three, h.2.2.2.2.2.2.2.2⟩
                refine fin_sig (r := (_, [pathG d])) hc0 ?_ ?_ hd (ok_one (ok_pathG h)) rfl (by simp)
                · unfold spec_ReceiveSignal.f spec_l29Send.f
                  simp only [s_sigOk, s_copyDevice hk h, ob_some, c0, e2, e4, e6, e7, q2, q3, cond_true, cond_false, s_pathG hk]
                · unfold impl_ReceiveSignal.f
                  simp only [i_sigOk, ob_some, c0, e2, e4, e6, e7, q2, q3, cond_true, cond_false, i_announce hk h]
            · have hd2 : Ok TDevice (d.1, 2, d.2.2.1, d.2.2.2.1, d.2.2.2.2.1, iadd .i64 d.2.2.2.2.2.1 1, d.2.2.2.2.2.2) := ⟨h.1, okn (n := 2) (by omega), h.2.2.1, h.2.2.2.1, h.2.2.2.2.1, ok_add _ _, h.2.2.2.2.2.2⟩
              have hd : Ok TDevice (d.1, 2, d.2.2.1, d.2.2.2.1, d.2.2.2.2.1, iadd .i64 d.2.2.2.2.2.1 1, false, 3, d.2.2.2.2.2.2.2.2) := ⟨h.1, okn (n := 2) (by omega), h.2.2.1, h.2.2.2.1, h.2.2.2.2.1, ok_add _ _, trivial, ok_three, h.2.2.2.2.2.2.2.2⟩
              refine fin_sig (r := (_, [pathG (d.1, 2, d.2.2.1, d.2.2.2.1, d.2.2.2.2.1, iadd .i64 d.2.2.2.2.2.1 1, d.2.2.2.2.2.2)])) hc0 ?_ ?_ hd (ok_one (ok_pathG hd2)) rfl (by simp)
              · unfold spec_ReceiveSignal.f
                simp only [s_sigOk, s_copyDevice hk h, ob_some, c0, e2, e4, e6, e7, q3, cond_true, cond_false, s_next2 hk]
              · unfold impl_ReceiveSignal.f
                simp only [i_sigOk, ob_some, c0, e2, e4, e6, e7, q3, cond_true, cond_false, i_announce hk hd2]
  · refine fin_sig (r := (d, [])) hc0 ?_ ?_ h (ok_nil _) rfl (by simp)
    · unfold spec_ReceiveSignal.f spec_l29None.f
      simp only [s_sigOk, s_copyDevice hk h, ob_some, c0, cond_true]
    · unfold impl_ReceiveSignal.f
      simp only [i_sigOk, ob_some, c0, cond_true, i_dres hk h l0]
end
end Go.Proofs.XF
/- The exact laws. -/
set_option linter.unusedVariables false
set_option linter.unusedSimpArgs false
set_option maxRecDepth 4000
namespace Go.Proofs.XF
open Go Go.Proofs.XTv
theorem law_ReceiveSignal {k : Nat} (hk : FU ≤ k) {x : ((.pair TDevice TSignal) : Ty).den} (hg : Good' (.pair TDevice TSignal) x) : laws_FnExactReceiveSignal.f k x = some true := by
  unfold laws_FnExactReceiveSignal.f
  refine law_sz (by omega) (szDevice hk hg.1 (by omega) (by omega)) fun hc0 => ?_
  have ho0 : Ok TDevice x.1 := ok_of_cnt _ _ hg.1 (by omega)
  have hz1 : cnt TSignal x.2 = 0 := by simp only [cnt]
  have ho1 : Ok TSignal x.2 := ok_of_cnt _ _ hg.2 (by omega)
  have hn : cnt (.pair TDevice TSignal) x ≤ 1048576 := by
    show cnt TDevice x.1 + (cnt TSignal x.2) ≤ _
    omega
  obtain ⟨r, hs, hi, hr, hrc⟩ := both_ReceiveSignal hk (x := x) ⟨ho0, ho1⟩ hn
  refine ob_of (toDevice hk ho0) ?_
  refine ob_of (toSignal hk ho1) ?_
  refine ob_of hs ?_
  refine ob_of (toDevice hk ho0) ?_
  refine ob_of (toSignal hk ho1) ?_
  refine ob_of hi ?_
  refine ob_of (eqDeviceResult hk hr) ?_
  refine bif_f (by simp only [ilt_nn, dnot_t, dnot_f, cond_true, cond_false, ine_self, bne_self, seq_self]) ?_
  refine ob_of (toDevice hk ho0) ?_
  refine ob_of (eqDevice hk ho0) ?_
  refine bif_f (by simp only [ilt_nn, dnot_t, dnot_f, cond_true, cond_false, ine_self, bne_self, seq_self]) ?_
  have qv10 := cTop_le TDevice x.1 256 (by decide)
  refine ob_of (markDevice hk ho0 (n := 1) (by omega)) ?_
  refine ob_bif (by simp only [ilt_nn, dnot_t, dnot_f, cond_true, cond_false, ine_self, bne_self, seq_self]) (eqDeviceResult hk hr) ?_
  refine bif_f (by simp only [ilt_nn, dnot_t, dnot_f, cond_true, cond_false, ine_self, bne_self, seq_self]) ?_
  have qv12 := cTop_le TDeviceResult r 256 (by decide)
  refine ob_of (markDeviceResult hk hr (n := 1) (by omega)) ?_
  refine ob_of (heldDeviceResult hk hr (n := 1) (by omega)) ?_
  refine bif_f (by simp only [ilt_nn, dnot_t, dnot_f, cond_true, cond_false, ine_self, bne_self, seq_self]) ?_
  refine bif_f (by simp only [ilt_nn, dnot_t, dnot_f, cond_true, cond_false, ine_self, bne_self, seq_self]) ?_
  refine ob_of (toDevice hk ho0) ?_
  refine ob_of (toSignal hk ho1) ?_
  refine ob_of hi ?_
  refine ob_of (eqDeviceResult hk hr) ?_
  refine bif_f (by simp only [ilt_nn, dnot_t, dnot_f, cond_true, cond_false, ine_self, bne_self, seq_self]) ?_
  refine ob_of (heldDeviceResult hk hr (n := 1) (by omega)) ?_
  refine bif_f (by simp only [ilt_nn, dnot_t, dnot_f, cond_true, cond_false, ine_self, bne_self, seq_self]) ?_
  refine bif_f (by simp only [ilt_nn, dnot_t, dnot_f, cond_true, cond_false, ine_self, bne_self, seq_self]) ?_
  rfl
end Go.Proofs.XF
/- What the program says of its types. -/
set_option linter.unusedVariables false
set_option maxRecDepth 100000
namespace Go.Proofs.YtbgkgnhlfmidhaaGreat.XS
open Go Go.Proofs.XTv Go.Proofs.XF
def look {α : Type} (l : List (Nat × α)) (n : Nat) : Option α := match l with
  | [] => none
  | (m, a) :: r => bif Nat.beq m n then some a else look r n
theorem look_mem {α : Type} : ∀ {l : List (Nat × α)} {n : Nat} {a : α}, look l n = some a → (n, a) ∈ l
  | (m, b) :: r, n, a, h => by
    unfold look at h
    cases hb : Nat.beq m n
    · simp only [hb, cond_false] at h; exact List.mem_cons_of_mem _ (look_mem h)
    · simp only [hb, cond_true, Option.some.injEq] at h
      rw [Nat.eq_of_beq_eq_true hb, h]; exact List.mem_cons_self ..
def tis : List (Nat × TInfo) := [
  (3, ⟨(.int .i64), false, 8, [], 0⟩),
  (4, ⟨.bool, false, 1, [], 0⟩),
  (5, ⟨(.int .u8), false, 1, [], 0⟩),
  (23, ⟨TSubscriberID, true, 16, [(0, 3), (1, 3)], 0⟩),
  (25, ⟨TUSIM, true, 32, [(0, 23), (2, 3), (3, 3)], 0⟩),
  (26, ⟨(.sl TNumberedPacket), false, 24, [], 255⟩),
  (27, ⟨(.sl (.sl (.int .u8))), false, 24, [], 217⟩),
  (29, ⟨TReceiveWindow, true, 56, [(0, 3), (1, 26), (2, 27)], 0⟩),
  (31, ⟨TDevice, true, 144, [(0, 25), (4, 3), (5, 3), (6, 3), (7, 3), (8, 3), (9, 4), (10, 3), (11, 29)], 0⟩),
  (33, ⟨TAuthVector, true, 40, [(0, 3), (1, 3), (2, 3), (3, 3), (4, 3)], 0⟩),
  (35, ⟨TSignal, true, 88, [(0, 3), (1, 3), (2, 3), (3, 3), (4, 3), (5, 33), (10, 3)], 0⟩),
  (37, ⟨TSubscriberID, true, 16, [(0, 3), (1, 3)], 0⟩),
  (39, ⟨TUSIM, true, 32, [(0, 37), (2, 3), (3, 3)], 0⟩),
  (40, ⟨(.sl TNumberedPacket), false, 24, [], 144⟩),
  (41, ⟨(.sl (.sl (.int .u8))), false, 24, [], 184⟩),
  (43, ⟨TReceiveWindow, true, 56, [(0, 3), (1, 40), (2, 41)], 0⟩),
  (45, ⟨TDevice, true, 144, [(0, 39), (4, 3), (5, 3), (6, 3), (7, 3), (8, 3), (9, 4), (10, 3), (11, 43)], 0⟩),
  (46, ⟨(.sl TSignal), false, 24, [], 53⟩),
  (48, ⟨TDeviceResult, true, 168, [(0, 45), (14, 46)], 0⟩),
  (51, ⟨TAuthVector, true, 40, [(0, 3), (1, 3), (2, 3), (3, 3), (4, 3)], 0⟩),
  (53, ⟨TSignal, true, 88, [(0, 3), (1, 3), (2, 3), (3, 3), (4, 3), (5, 51), (10, 3)], 0⟩),
  (60, ⟨(.sl (.int .u8)), false, 24, [], 5⟩),
  (76, ⟨(.sl (.int .i64)), false, 24, [], 3⟩),
  (144, ⟨TNumberedPacket, true, 32, [(0, 3), (1, 60)], 0⟩),
  (184, ⟨(.sl (.int .u8)), true, 24, [(0, 60)], 0⟩),
  (195, ⟨TAuthResponse, true, 32, [(0, 3), (1, 3), (2, 3), (3, 3)], 0⟩),
  (217, ⟨(.sl (.int .u8)), true, 24, [(0, 60)], 0⟩),
  (255, ⟨TNumberedPacket, true, 32, [(0, 3), (1, 60)], 0⟩),
  (264, ⟨(.sl (.int .i64)), true, 24, [(0, 76)], 0⟩)]
def eqs : List Nat := []
def cx0 : Cx := { ti := look tis, eq := fun t => nmem t eqs, con := fun _ => none, loop := fun _ => none }
theorem tis_ok : tis.all (fun p => tyChk Tryz.prog cx0 p.1 p.2 && openChk cx0 p.2) = true := by kernel_rfl
theorem eqs_ok : eqs.all (fun t => !(Tryz.prog.eqGuardType Tryz.prog.depth t) && (match look tis t with | some ti => (match eqTyChk Tryz.prog 100 t (flatTy ti.ty) with | some [] => true | _ => false) | none => false)) = true := by kernel_rfl
theorem ty_ok : ∀ T ti, cx0.ti T = some ti → TyOk Tryz.prog cx0 T ti := fun T ti h => by
  have h1 := List.all_eq_true.1 tis_ok (T, ti) (look_mem h)
  rw [Bool.and_eq_true] at h1
  exact tyChk_ok h1.1
theorem open_ok : ∀ T ti, cx0.ti T = some ti → openChk cx0 ti = true := fun T ti h => by
  have h1 := List.all_eq_true.1 tis_ok (T, ti) (look_mem h)
  rw [Bool.and_eq_true] at h1
  exact h1.2
theorem cx_ok : CxOk Tryz.prog cx0 := ⟨ty_ok, fun T h => by
  have h1 := List.all_eq_true.1 eqs_ok T (nmem_iff.1 h)
  rw [Bool.and_eq_true, Bool.not_eq_true'] at h1
  refine ⟨h1.1, ?_⟩
  cases ht : look tis T with
  | none => simp [ht] at h1
  | some ti =>
    refine ⟨ti, ht, ?_⟩
    have h2 := h1.2
    rw [ht] at h2
    simp only at h2
    split at h2
    · assumption
    · cases h2⟩
end Go.Proofs.YtbgkgnhlfmidhaaGreat.XS
/- What each function is to be given and gives. -/
set_option linter.unusedVariables false
set_option maxRecDepth 100000
namespace Go.Proofs.YtbgkgnhlfmidhaaGreat.XS
open Go Go.Proofs.XTv Go.Proofs.XF
def laws_szByteS.ps : List PK := [.val (.sl (.int .u8)) false, .val (.int .i64) false]
def laws_szByteS.rs : List RK := [⟨(.int .i64), false, .own⟩]
def laws_szByteS.con : Con := ⟨laws_szByteS.ps, laws_szByteS.rs, laws_szByteS.f⟩
def laws_szByteS.cx : Cx := { cx0 with con := look [], loop := look [] }
def laws_szPayload.ps : List PK := [.val (.sl (.int .u8)) true, .val (.int .i64) false]
def laws_szPayload.rs : List RK := [⟨(.int .i64), false, .own⟩]
def laws_szPayload.con : Con := ⟨laws_szPayload.ps, laws_szPayload.rs, laws_szPayload.f⟩
def laws_szPayload.cx : Cx := { cx0 with con := look [(157, laws_szByteS.con)], loop := look [] }
def laws_szPayloadS.ps : List PK := [.val (.sl (.sl (.int .u8))) false, .val (.int .i64) false]
def laws_szPayloadS.rs : List RK := [⟨(.int .i64), false, .own⟩]
def laws_szPayloadS.con : Con := ⟨laws_szPayloadS.ps, laws_szPayloadS.rs, laws_szPayloadS.f⟩
def laws_szPayloadS.cx : Cx := { cx0 with con := look [(174, laws_szPayload.con)], loop := look [(5, ⟨⟨[(0, false, [.dat (.sl (.sl (.int .u8))) [0]]), (1, false, [.dat (.int .i64) []]), (5, false, [.dat (.int .i64) []])], []⟩, [(.exit 0, ⟨[(1, false, [.dat (.int .i64) []])], []⟩), (.ret, ⟨[(4, false, [.dat (.int .i64) []])], []⟩)]⟩)] }
def laws_szNumberedPacket.ps : List PK := [.val TNumberedPacket true, .val (.int .i64) false]
def laws_szNumberedPacket.rs : List RK := [⟨(.int .i64), false, .own⟩]
def laws_szNumberedPacket.con : Con := ⟨laws_szNumberedPacket.ps, laws_szNumberedPacket.rs, laws_szNumberedPacket.f⟩
def laws_szNumberedPacket.cx : Cx := { cx0 with con := look [(157, laws_szByteS.con)], loop := look [] }
def laws_szNumberedPacketS.ps : List PK := [.val (.sl TNumberedPacket) false, .val (.int .i64) false]
def laws_szNumberedPacketS.rs : List RK := [⟨(.int .i64), false, .own⟩]
def laws_szNumberedPacketS.con : Con := ⟨laws_szNumberedPacketS.ps, laws_szNumberedPacketS.rs, laws_szNumberedPacketS.f⟩
def laws_szNumberedPacketS.cx : Cx := { cx0 with con := look [(226, laws_szNumberedPacket.con)], loop := look [(5, ⟨⟨[(0, false, [.dat (.sl TNumberedPacket) [0]]), (1, false, [.dat (.int .i64) []]), (5, false, [.dat (.int .i64) []])], []⟩, [(.exit 0, ⟨[(1, false, [.dat (.int .i64) []])], []⟩), (.ret, ⟨[(4, false, [.dat (.int .i64) []])], []⟩)]⟩)] }
def laws_szReceiveWindow.ps : List PK := [.val TReceiveWindow true, .val (.int .i64) false]
def laws_szReceiveWindow.rs : List RK := [⟨(.int .i64), false, .own⟩]
def laws_szReceiveWindow.con : Con := ⟨laws_szReceiveWindow.ps, laws_szReceiveWindow.rs, laws_szReceiveWindow.f⟩
def laws_szReceiveWindow.cx : Cx := { cx0 with con := look [(83, laws_szPayloadS.con), (139, laws_szNumberedPacketS.con)], loop := look [] }
def laws_szDevice.ps : List PK := [.val TDevice true, .val (.int .i64) false]
def laws_szDevice.rs : List RK := [⟨(.int .i64), false, .own⟩]
def laws_szDevice.con : Con := ⟨laws_szDevice.ps, laws_szDevice.rs, laws_szDevice.f⟩
def laws_szDevice.cx : Cx := { cx0 with con := look [(46, laws_szReceiveWindow.con)], loop := look [] }
def spec_l1In.ps : List PK := [.val (.int .i64) false, .val (.int .i64) false, .val (.int .i64) false]
def spec_l1In.rs : List RK := [⟨.bool, false, .own⟩]
def spec_l1In.con : Con := ⟨spec_l1In.ps, spec_l1In.rs, spec_l1In.f⟩
def spec_l1In.cx : Cx := { cx0 with con := look [], loop := look [] }
def spec_IsValidSignal.ps : List PK := [.val TSignal true]
def spec_IsValidSignal.rs : List RK := [⟨.bool, false, .own⟩]
def spec_IsValidSignal.con : Con := ⟨spec_IsValidSignal.ps, spec_IsValidSignal.rs, spec_IsValidSignal.f⟩
def spec_IsValidSignal.cx : Cx := { cx0 with con := look [(140, spec_l1In.con)], loop := look [] }
def spec_l15Bodies.ps : List PK := [.val (.sl (.sl (.int .u8))) false]
def spec_l15Bodies.rs : List RK := [⟨(.sl (.sl (.int .u8))), false, .own⟩]
def spec_l15Bodies.con : Con := ⟨spec_l15Bodies.ps, spec_l15Bodies.rs, spec_l15Bodies.f⟩
def spec_l15Bodies.cx : Cx := { cx0 with con := look [], loop := look [(3, ⟨⟨[(0, false, [.dat (.sl (.sl (.int .u8))) [0]]), (3, false, [.own 1279]), (4, false, [.dat (.int .i64) []])], [(1279, .arr (.sl (.int .u8)) true [])]⟩, [(.exit 0, ⟨[(3, false, [.own 1279])], [(1279, .arr (.sl (.int .u8)) true [])]⟩)]⟩)] }
def spec_l24Sents.ps : List PK := [.val (.sl TNumberedPacket) false]
def spec_l24Sents.rs : List RK := [⟨(.sl TNumberedPacket), false, .own⟩]
def spec_l24Sents.con : Con := ⟨spec_l24Sents.ps, spec_l24Sents.rs, spec_l24Sents.f⟩
def spec_l24Sents.cx : Cx := { cx0 with con := look [], loop := look [(3, ⟨⟨[(0, false, [.dat (.sl TNumberedPacket) [0]]), (3, false, [.own 1279]), (4, false, [.dat (.int .i64) []])], [(1279, .arr TNumberedPacket true [])]⟩, [(.exit 0, ⟨[(3, false, [.own 1279])], [(1279, .arr TNumberedPacket true [])]⟩)]⟩)] }
def spec_l24Recv.ps : List PK := [.val TReceiveWindow true]
def spec_l24Recv.rs : List RK := [⟨TReceiveWindow, true, .own⟩]
def spec_l24Recv.con : Con := ⟨spec_l24Recv.ps, spec_l24Recv.rs, spec_l24Recv.f⟩
def spec_l24Recv.cx : Cx := { cx0 with con := look [(176, spec_l15Bodies.con), (227, spec_l24Sents.con)], loop := look [] }
def spec_l29Copy.ps : List PK := [.val TDevice true]
def spec_l29Copy.rs : List RK := [⟨TDevice, true, .own⟩]
def spec_l29Copy.con : Con := ⟨spec_l29Copy.ps, spec_l29Copy.rs, spec_l29Copy.f⟩
def spec_l29Copy.cx : Cx := { cx0 with con := look [(141, spec_l24Recv.con)], loop := look [] }
def spec_l29None.ps : List PK := [.val TDevice true]
def spec_l29None.rs : List RK := [⟨TDeviceResult, true, .own⟩]
def spec_l29None.con : Con := ⟨spec_l29None.ps, spec_l29None.rs, spec_l29None.f⟩
def spec_l29None.cx : Cx := { cx0 with con := look [(49, spec_l29Copy.con)], loop := look [] }
def spec_IsValidKey.ps : List PK := [.val (.int .i64) false]
def spec_IsValidKey.rs : List RK := [⟨.bool, false, .own⟩]
def spec_IsValidKey.con : Con := ⟨spec_IsValidKey.ps, spec_IsValidKey.rs, spec_IsValidKey.f⟩
def spec_IsValidKey.cx : Cx := { cx0 with con := look [(140, spec_l1In.con)], loop := look [] }
def spec_IsValidSubscriberID.ps : List PK := [.val TSubscriberID true]
def spec_IsValidSubscriberID.rs : List RK := [⟨.bool, false, .own⟩]
def spec_IsValidSubscriberID.con : Con := ⟨spec_IsValidSubscriberID.ps, spec_IsValidSubscriberID.rs, spec_IsValidSubscriberID.f⟩
def spec_IsValidSubscriberID.cx : Cx := { cx0 with con := look [(140, spec_l1In.con)], loop := look [] }
def spec_IsValidUSIM.ps : List PK := [.val TUSIM true]
def spec_IsValidUSIM.rs : List RK := [⟨.bool, false, .own⟩]
def spec_IsValidUSIM.con : Con := ⟨spec_IsValidUSIM.ps, spec_IsValidUSIM.rs, spec_IsValidUSIM.f⟩
def spec_IsValidUSIM.cx : Cx := { cx0 with con := look [(51, spec_IsValidKey.con), (140, spec_l1In.con), (278, spec_IsValidSubscriberID.con)], loop := look [] }
def spec_Mod.ps : List PK := [.val (.int .i64) false, .val (.int .i64) false]
def spec_Mod.rs : List RK := [⟨(.int .i64), false, .own⟩]
def spec_Mod.con : Con := ⟨spec_Mod.ps, spec_Mod.rs, spec_Mod.f⟩
def spec_Mod.cx : Cx := { cx0 with con := look [(140, spec_l1In.con)], loop := look [] }
def spec_Hash.ps : List PK := [.val (.sl (.int .i64)) false]
def spec_Hash.rs : List RK := [⟨(.int .i64), false, .own⟩]
def spec_Hash.con : Con := ⟨spec_Hash.ps, spec_Hash.rs, spec_Hash.f⟩
def spec_Hash.cx : Cx := { cx0 with con := look [(279, spec_Mod.con)], loop := look [(3, ⟨⟨[(0, false, [.dat (.sl (.int .i64)) [0]]), (3, false, [.dat (.int .i64) []]), (4, false, [.dat (.int .i64) []])], []⟩, [(.exit 0, ⟨[(3, false, [.dat (.int .i64) []])], []⟩)]⟩)] }
def spec_KeyedHash.ps : List PK := [.val (.int .i64) false, .val (.sl (.int .i64)) false]
def spec_KeyedHash.rs : List RK := [⟨(.int .i64), false, .own⟩]
def spec_KeyedHash.con : Con := ⟨spec_KeyedHash.ps, spec_KeyedHash.rs, spec_KeyedHash.f⟩
def spec_KeyedHash.cx : Cx := { cx0 with con := look [(281, spec_Hash.con)], loop := look [] }
def spec_SequenceMask.ps : List PK := [.val (.int .i64) false, .val (.int .i64) false]
def spec_SequenceMask.rs : List RK := [⟨(.int .i64), false, .own⟩]
def spec_SequenceMask.con : Con := ⟨spec_SequenceMask.ps, spec_SequenceMask.rs, spec_SequenceMask.f⟩
def spec_SequenceMask.cx : Cx := { cx0 with con := look [(231, spec_KeyedHash.con), (279, spec_Mod.con)], loop := look [] }
def spec_UnmaskSequence.ps : List PK := [.val (.int .i64) false, .val (.int .i64) false, .val (.int .i64) false]
def spec_UnmaskSequence.rs : List RK := [⟨(.int .i64), false, .own⟩]
def spec_UnmaskSequence.con : Con := ⟨spec_UnmaskSequence.ps, spec_UnmaskSequence.rs, spec_UnmaskSequence.f⟩
def spec_UnmaskSequence.cx : Cx := { cx0 with con := look [(279, spec_Mod.con), (280, spec_SequenceMask.con)], loop := look [] }
def spec_VerifyVector.ps : List PK := [.val (.int .i64) false, .val (.int .i64) false, .val TAuthVector true]
def spec_VerifyVector.rs : List RK := [⟨(.int .i64), false, .own⟩]
def spec_VerifyVector.con : Con := ⟨spec_VerifyVector.ps, spec_VerifyVector.rs, spec_VerifyVector.f⟩
def spec_VerifyVector.cx : Cx := { cx0 with con := look [(230, spec_UnmaskSequence.con), (231, spec_KeyedHash.con)], loop := look [] }
def spec_Max.ps : List PK := [.val (.int .i64) false, .val (.int .i64) false]
def spec_Max.rs : List RK := [⟨(.int .i64), false, .own⟩]
def spec_Max.con : Con := ⟨spec_Max.ps, spec_Max.rs, spec_Max.f⟩
def spec_Max.cx : Cx := { cx0 with con := look [], loop := look [] }
def spec_NewAuthVector.ps : List PK := [.val (.int .i64) false, .val (.int .i64) false, .val (.int .i64) false]
def spec_NewAuthVector.rs : List RK := [⟨TAuthVector, true, .own⟩]
def spec_NewAuthVector.con : Con := ⟨spec_NewAuthVector.ps, spec_NewAuthVector.rs, spec_NewAuthVector.f⟩
def spec_NewAuthVector.cx : Cx := { cx0 with con := look [(90, spec_Max.con), (140, spec_l1In.con), (231, spec_KeyedHash.con), (279, spec_Mod.con), (280, spec_SequenceMask.con)], loop := look [] }
def spec_ResyncToken.ps : List PK := [.val (.int .i64) false, .val (.int .i64) false, .val (.int .i64) false]
def spec_ResyncToken.rs : List RK := [⟨(.int .i64), false, .own⟩]
def spec_ResyncToken.con : Con := ⟨spec_ResyncToken.ps, spec_ResyncToken.rs, spec_ResyncToken.f⟩
def spec_ResyncToken.cx : Cx := { cx0 with con := look [(140, spec_l1In.con), (231, spec_KeyedHash.con), (279, spec_Mod.con)], loop := look [] }
def spec_RespondToChallenge.ps : List PK := [.val TUSIM true, .val TAuthVector true]
def spec_RespondToChallenge.rs : List RK := [⟨TUSIM, true, .own⟩, ⟨TAuthResponse, true, .own⟩]
def spec_RespondToChallenge.con : Con := ⟨spec_RespondToChallenge.ps, spec_RespondToChallenge.rs, spec_RespondToChallenge.f⟩
def spec_RespondToChallenge.cx : Cx := { cx0 with con := look [(228, spec_IsValidUSIM.con), (229, spec_VerifyVector.con), (230, spec_UnmaskSequence.con), (231, spec_KeyedHash.con), (232, spec_NewAuthVector.con), (233, spec_ResyncToken.con)], loop := look [] }
def spec_l29Asked.ps : List PK := [.val TDevice true, .val TSignal true]
def spec_l29Asked.rs : List RK := [⟨TDeviceResult, true, .own⟩]
def spec_l29Asked.con : Con := ⟨spec_l29Asked.ps, spec_l29Asked.rs, spec_l29Asked.f⟩
def spec_l29Asked.cx : Cx := { cx0 with con := look [(49, spec_l29Copy.con), (142, spec_RespondToChallenge.con)], loop := look [] }
def spec_DeriveKey.ps : List PK := [.val (.int .i64) false, .val (.int .i64) false]
def spec_DeriveKey.rs : List RK := [⟨(.int .i64), false, .own⟩]
def spec_DeriveKey.con : Con := ⟨spec_DeriveKey.ps, spec_DeriveKey.rs, spec_DeriveKey.f⟩
def spec_DeriveKey.cx : Cx := { cx0 with con := look [(90, spec_Max.con), (231, spec_KeyedHash.con)], loop := look [] }
def spec_KeyForPath.ps : List PK := [.val (.int .i64) false, .val (.sl (.int .i64)) true]
def spec_KeyForPath.rs : List RK := [⟨(.int .i64), false, .own⟩]
def spec_KeyForPath.con : Con := ⟨spec_KeyForPath.ps, spec_KeyForPath.rs, spec_KeyForPath.f⟩
def spec_KeyForPath.cx : Cx := { cx0 with con := look [(249, spec_DeriveKey.con)], loop := look [(3, ⟨⟨[(3, false, [.ptr 1024 0]), (5, false, [.dat (.int .i64) []]), (6, false, [.dat (.int .i64) []])], [(1024, .box [.dat (.sl (.int .i64)) [0]])]⟩, [(.exit 0, ⟨[(5, false, [.dat (.int .i64) []])], []⟩)]⟩)] }
def spec_SignalingKeyPath.ps : List PK := []
def spec_SignalingKeyPath.rs : List RK := [⟨(.sl (.int .i64)), true, .own⟩]
def spec_SignalingKeyPath.con : Con := ⟨spec_SignalingKeyPath.ps, spec_SignalingKeyPath.rs, spec_SignalingKeyPath.f⟩
def spec_SignalingKeyPath.cx : Cx := { cx0 with con := look [], loop := look [] }
def spec_SignalMAC.ps : List PK := [.val (.int .i64) false, .val TSignal true]
def spec_SignalMAC.rs : List RK := [⟨(.int .i64), false, .own⟩]
def spec_SignalMAC.con : Con := ⟨spec_SignalMAC.ps, spec_SignalMAC.rs, spec_SignalMAC.f⟩
def spec_SignalMAC.cx : Cx := { cx0 with con := look [(231, spec_KeyedHash.con), (234, spec_KeyForPath.con), (235, spec_SignalingKeyPath.con)], loop := look [] }
def spec_VerifySignal.ps : List PK := [.val (.int .i64) false, .val TSignal true]
def spec_VerifySignal.rs : List RK := [⟨.bool, false, .own⟩]
def spec_VerifySignal.con : Con := ⟨spec_VerifySignal.ps, spec_VerifySignal.rs, spec_VerifySignal.f⟩
def spec_VerifySignal.cx : Cx := { cx0 with con := look [(143, spec_SignalMAC.con)], loop := look [] }
def spec_l29Send.ps : List PK := [.take TDevice true, .val TSignal true]
def spec_l29Send.rs : List RK := [⟨TDeviceResult, true, .own⟩]
def spec_l29Send.con : Con := ⟨spec_l29Send.ps, spec_l29Send.rs, spec_l29Send.f⟩
def spec_l29Send.cx : Cx := { cx0 with con := look [], loop := look [] }
def spec_SignSignal.ps : List PK := [.val (.int .i64) false, .val TSignal true]
def spec_SignSignal.rs : List RK := [⟨TSignal, true, .own⟩]
def spec_SignSignal.con : Con := ⟨spec_SignSignal.ps, spec_SignSignal.rs, spec_SignSignal.f⟩
def spec_SignSignal.cx : Cx := { cx0 with con := look [(143, spec_SignalMAC.con)], loop := look [] }
def spec_l29Path.ps : List PK := [.val TDevice true]
def spec_l29Path.rs : List RK := [⟨TSignal, true, .own⟩]
def spec_l29Path.con : Con := ⟨spec_l29Path.ps, spec_l29Path.rs, spec_l29Path.f⟩
def spec_l29Path.cx : Cx := { cx0 with con := look [(75, spec_SignSignal.con)], loop := look [] }
def spec_l29Next.ps : List PK := [.take TDevice true]
def spec_l29Next.rs : List RK := [⟨TDeviceResult, true, .own⟩]
def spec_l29Next.con : Con := ⟨spec_l29Next.ps, spec_l29Next.rs, spec_l29Next.f⟩
def spec_l29Next.cx : Cx := { cx0 with con := look [(54, spec_l29Send.con), (55, spec_l29Path.con)], loop := look [] }
def spec_ReceiveSignal.ps : List PK := [.val TDevice true, .val TSignal true]
def spec_ReceiveSignal.rs : List RK := [⟨TDeviceResult, true, .own⟩]
def spec_ReceiveSignal.con : Con := ⟨spec_ReceiveSignal.ps, spec_ReceiveSignal.rs, spec_ReceiveSignal.f⟩
def spec_ReceiveSignal.cx : Cx := { cx0 with con := look [(47, spec_IsValidSignal.con), (48, spec_l29None.con), (49, spec_l29Copy.con), (50, spec_l29Asked.con), (51, spec_IsValidKey.con), (52, spec_VerifySignal.con), (53, spec_l29Next.con), (54, spec_l29Send.con), (55, spec_l29Path.con)], loop := look [] }
def laws_toSubscriberID.ps : List PK := [.val TSubscriberID true]
def laws_toSubscriberID.rs : List RK := [⟨TSubscriberID, true, .own⟩]
def laws_toSubscriberID.con : Con := ⟨laws_toSubscriberID.ps, laws_toSubscriberID.rs, laws_toSubscriberID.f⟩
def laws_toSubscriberID.cx : Cx := { cx0 with con := look [], loop := look [] }
def laws_toUSIM.ps : List PK := [.val TUSIM true]
def laws_toUSIM.rs : List RK := [⟨TUSIM, true, .own⟩]
def laws_toUSIM.con : Con := ⟨laws_toUSIM.ps, laws_toUSIM.rs, laws_toUSIM.f⟩
def laws_toUSIM.cx : Cx := { cx0 with con := look [(144, laws_toSubscriberID.con)], loop := look [] }
def laws_toByteS.ps : List PK := [.val (.sl (.int .u8)) false]
def laws_toByteS.rs : List RK := [⟨(.sl (.int .u8)), false, .own⟩]
def laws_toByteS.con : Con := ⟨laws_toByteS.ps, laws_toByteS.rs, laws_toByteS.f⟩
def laws_toByteS.cx : Cx := { cx0 with con := look [], loop := look [(3, ⟨⟨[(0, false, [.dat (.sl (.int .u8)) [0]]), (3, false, [.own 1279]), (4, false, [.dat (.int .i64) []])], [(1279, .arr (.int .u8) true [])]⟩, [(.exit 0, ⟨[(3, false, [.own 1279])], [(1279, .arr (.int .u8) true [])]⟩)]⟩)] }
def laws_toPayload.ps : List PK := [.val (.sl (.int .u8)) true]
def laws_toPayload.rs : List RK := [⟨(.sl (.int .u8)), true, .own⟩]
def laws_toPayload.con : Con := ⟨laws_toPayload.ps, laws_toPayload.rs, laws_toPayload.f⟩
def laws_toPayload.cx : Cx := { cx0 with con := look [(163, laws_toByteS.con)], loop := look [] }
def laws_toPayloadS.ps : List PK := [.val (.sl (.sl (.int .u8))) false]
def laws_toPayloadS.rs : List RK := [⟨(.sl (.sl (.int .u8))), false, .own⟩]
def laws_toPayloadS.con : Con := ⟨laws_toPayloadS.ps, laws_toPayloadS.rs, laws_toPayloadS.f⟩
def laws_toPayloadS.cx : Cx := { cx0 with con := look [(184, laws_toPayload.con)], loop := look [(3, ⟨⟨[(0, false, [.dat (.sl (.sl (.int .u8))) [0]]), (3, false, [.own 1279]), (4, false, [.dat (.int .i64) []])], [(1279, .arr (.sl (.int .u8)) true [])]⟩, [(.exit 0, ⟨[(3, false, [.own 1279])], [(1279, .arr (.sl (.int .u8)) true [])]⟩)]⟩)] }
def laws_toNumberedPacket.ps : List PK := [.val TNumberedPacket true]
def laws_toNumberedPacket.rs : List RK := [⟨TNumberedPacket, true, .own⟩]
def laws_toNumberedPacket.con : Con := ⟨laws_toNumberedPacket.ps, laws_toNumberedPacket.rs, laws_toNumberedPacket.f⟩
def laws_toNumberedPacket.cx : Cx := { cx0 with con := look [(163, laws_toByteS.con)], loop := look [] }
def laws_toNumberedPacketS.ps : List PK := [.val (.sl TNumberedPacket) false]
def laws_toNumberedPacketS.rs : List RK := [⟨(.sl TNumberedPacket), false, .own⟩]
def laws_toNumberedPacketS.con : Con := ⟨laws_toNumberedPacketS.ps, laws_toNumberedPacketS.rs, laws_toNumberedPacketS.f⟩
def laws_toNumberedPacketS.cx : Cx := { cx0 with con := look [(236, laws_toNumberedPacket.con)], loop := look [(3, ⟨⟨[(0, false, [.dat (.sl TNumberedPacket) [0]]), (3, false, [.own 1279]), (4, false, [.dat (.int .i64) []])], [(1279, .arr TNumberedPacket true [])]⟩, [(.exit 0, ⟨[(3, false, [.own 1279])], [(1279, .arr TNumberedPacket true [])]⟩)]⟩)] }
def laws_toReceiveWindow.ps : List PK := [.val TReceiveWindow true]
def laws_toReceiveWindow.rs : List RK := [⟨TReceiveWindow, true, .own⟩]
def laws_toReceiveWindow.con : Con := ⟨laws_toReceiveWindow.ps, laws_toReceiveWindow.rs, laws_toReceiveWindow.f⟩
def laws_toReceiveWindow.cx : Cx := { cx0 with con := look [(94, laws_toPayloadS.con), (145, laws_toNumberedPacketS.con)], loop := look [] }
def laws_toDevice.ps : List PK := [.val TDevice true]
def laws_toDevice.rs : List RK := [⟨TDevice, true, .own⟩]
def laws_toDevice.con : Con := ⟨laws_toDevice.ps, laws_toDevice.rs, laws_toDevice.f⟩
def laws_toDevice.cx : Cx := { cx0 with con := look [(56, laws_toUSIM.con), (57, laws_toReceiveWindow.con)], loop := look [] }
def laws_toAuthVector.ps : List PK := [.val TAuthVector true]
def laws_toAuthVector.rs : List RK := [⟨TAuthVector, true, .own⟩]
def laws_toAuthVector.con : Con := ⟨laws_toAuthVector.ps, laws_toAuthVector.rs, laws_toAuthVector.f⟩
def laws_toAuthVector.cx : Cx := { cx0 with con := look [], loop := look [] }
def laws_toSignal.ps : List PK := [.val TSignal true]
def laws_toSignal.rs : List RK := [⟨TSignal, true, .own⟩]
def laws_toSignal.con : Con := ⟨laws_toSignal.ps, laws_toSignal.rs, laws_toSignal.f⟩
def laws_toSignal.cx : Cx := { cx0 with con := look [(58, laws_toAuthVector.con)], loop := look [] }
def impl_InRange.ps : List PK := [.val (.int .i64) false, .val (.int .i64) false, .val (.int .i64) false]
def impl_InRange.rs : List RK := [⟨.bool, false, .own⟩]
def impl_InRange.con : Con := ⟨impl_InRange.ps, impl_InRange.rs, impl_InRange.f⟩
def impl_InRange.cx : Cx := { cx0 with con := look [], loop := look [] }
def impl_IsValidSignal.ps : List PK := [.val TSignal true]
def impl_IsValidSignal.rs : List RK := [⟨.bool, false, .own⟩]
def impl_IsValidSignal.con : Con := ⟨impl_IsValidSignal.ps, impl_IsValidSignal.rs, impl_IsValidSignal.f⟩
def impl_IsValidSignal.cx : Cx := { cx0 with con := look [(146, impl_InRange.con)], loop := look [] }
def impl_copyBytes.ps : List PK := [.val (.sl (.int .u8)) false]
def impl_copyBytes.rs : List RK := [⟨(.sl (.int .u8)), false, .own⟩]
def impl_copyBytes.con : Con := ⟨impl_copyBytes.ps, impl_copyBytes.rs, impl_copyBytes.f⟩
def impl_copyBytes.cx : Cx := { cx0 with con := look [], loop := look [] }
def impl_copyPayloads.ps : List PK := [.val (.sl (.sl (.int .u8))) false]
def impl_copyPayloads.rs : List RK := [⟨(.sl (.sl (.int .u8))), false, .own⟩]
def impl_copyPayloads.con : Con := ⟨impl_copyPayloads.ps, impl_copyPayloads.rs, impl_copyPayloads.f⟩
def impl_copyPayloads.cx : Cx := { cx0 with con := look [(170, impl_copyBytes.con)], loop := look [(3, ⟨⟨[(3, false, [.own 1279]), (9, false, [.dat (.sl (.sl (.int .u8))) [0]]), (10, false, [.dat (.int .i64) []]), (11, false, [.dat (.int .i64) []])], [(1279, .arr (.sl (.int .u8)) true [])]⟩, [(.exit 0, ⟨[(3, false, [.own 1279])], [(1279, .arr (.sl (.int .u8)) true [])]⟩)]⟩)] }
def impl_copyNumbered.ps : List PK := [.val (.sl TNumberedPacket) false]
def impl_copyNumbered.rs : List RK := [⟨(.sl TNumberedPacket), false, .own⟩]
def impl_copyNumbered.con : Con := ⟨impl_copyNumbered.ps, impl_copyNumbered.rs, impl_copyNumbered.f⟩
def impl_copyNumbered.cx : Cx := { cx0 with con := look [(170, impl_copyBytes.con)], loop := look [(3, ⟨⟨[(3, false, [.own 1279]), (9, false, [.dat (.sl TNumberedPacket) [0]]), (10, false, [.dat (.int .i64) []]), (11, false, [.dat (.int .i64) []])], [(1279, .arr TNumberedPacket true [])]⟩, [(.exit 0, ⟨[(3, false, [.own 1279])], [(1279, .arr TNumberedPacket true [])]⟩)]⟩)] }
def impl_copyReceiver.ps : List PK := [.val TReceiveWindow true]
def impl_copyReceiver.rs : List RK := [⟨TReceiveWindow, true, .own⟩]
def impl_copyReceiver.con : Con := ⟨impl_copyReceiver.ps, impl_copyReceiver.rs, impl_copyReceiver.f⟩
def impl_copyReceiver.cx : Cx := { cx0 with con := look [(187, impl_copyPayloads.con), (256, impl_copyNumbered.con)], loop := look [] }
def impl_copyDevice.ps : List PK := [.val TDevice true]
def impl_copyDevice.rs : List RK := [⟨TDevice, true, .own⟩]
def impl_copyDevice.con : Con := ⟨impl_copyDevice.ps, impl_copyDevice.rs, impl_copyDevice.f⟩
def impl_copyDevice.cx : Cx := { cx0 with con := look [(167, impl_copyReceiver.con)], loop := look [] }
def impl_copyItems_impl_Signal.ps : List PK := [.val (.sl TSignal) false]
def impl_copyItems_impl_Signal.rs : List RK := [⟨(.sl TSignal), false, .own⟩]
def impl_copyItems_impl_Signal.con : Con := ⟨impl_copyItems_impl_Signal.ps, impl_copyItems_impl_Signal.rs, impl_copyItems_impl_Signal.f⟩
def impl_copyItems_impl_Signal.cx : Cx := { cx0 with con := look [], loop := look [] }
def impl_deviceResult.ps : List PK := [.val TDevice true, .val (.sl TSignal) false]
def impl_deviceResult.rs : List RK := [⟨TDeviceResult, true, .own⟩]
def impl_deviceResult.con : Con := ⟨impl_deviceResult.ps, impl_deviceResult.rs, impl_deviceResult.f⟩
def impl_deviceResult.cx : Cx := { cx0 with con := look [(147, impl_copyDevice.con), (148, impl_copyItems_impl_Signal.con)], loop := look [] }
def impl_IsValidKey.ps : List PK := [.val (.int .i64) false]
def impl_IsValidKey.rs : List RK := [⟨.bool, false, .own⟩]
def impl_IsValidKey.con : Con := ⟨impl_IsValidKey.ps, impl_IsValidKey.rs, impl_IsValidKey.f⟩
def impl_IsValidKey.cx : Cx := { cx0 with con := look [(146, impl_InRange.con)], loop := look [] }
def impl_IsValidSubscriberID.ps : List PK := [.val TSubscriberID true]
def impl_IsValidSubscriberID.rs : List RK := [⟨.bool, false, .own⟩]
def impl_IsValidSubscriberID.con : Con := ⟨impl_IsValidSubscriberID.ps, impl_IsValidSubscriberID.rs, impl_IsValidSubscriberID.f⟩
def impl_IsValidSubscriberID.cx : Cx := { cx0 with con := look [(146, impl_InRange.con)], loop := look [] }
def impl_IsValidUSIM.ps : List PK := [.val TUSIM true]
def impl_IsValidUSIM.rs : List RK := [⟨.bool, false, .own⟩]
def impl_IsValidUSIM.con : Con := ⟨impl_IsValidUSIM.ps, impl_IsValidUSIM.rs, impl_IsValidUSIM.f⟩
def impl_IsValidUSIM.cx : Cx := { cx0 with con := look [(62, impl_IsValidKey.con), (146, impl_InRange.con), (273, impl_IsValidSubscriberID.con)], loop := look [] }
def impl_Mod.ps : List PK := [.val (.int .i64) false, .val (.int .i64) false]
def impl_Mod.rs : List RK := [⟨(.int .i64), false, .own⟩]
def impl_Mod.con : Con := ⟨impl_Mod.ps, impl_Mod.rs, impl_Mod.f⟩
def impl_Mod.cx : Cx := { cx0 with con := look [(146, impl_InRange.con)], loop := look [] }
def impl_hashStep.ps : List PK := [.val (.int .i64) false, .val (.int .i64) false]
def impl_hashStep.rs : List RK := [⟨(.int .i64), false, .own⟩]
def impl_hashStep.con : Con := ⟨impl_hashStep.ps, impl_hashStep.rs, impl_hashStep.f⟩
def impl_hashStep.cx : Cx := { cx0 with con := look [(282, impl_Mod.con)], loop := look [] }
def impl_KeyedHash.ps : List PK := [.val (.int .i64) false, .val (.sl (.int .i64)) false]
def impl_KeyedHash.rs : List RK := [⟨(.int .i64), false, .own⟩]
def impl_KeyedHash.con : Con := ⟨impl_KeyedHash.ps, impl_KeyedHash.rs, impl_KeyedHash.f⟩
def impl_KeyedHash.cx : Cx := { cx0 with con := look [(284, impl_hashStep.con)], loop := look [(3, ⟨⟨[(0, false, [.dat (.int .i64) []]), (5, false, [.dat (.int .i64) []]), (10, false, [.dat (.sl (.int .i64)) [0]]), (11, false, [.dat (.int .i64) []]), (12, false, [.dat (.int .i64) []])], []⟩, [(.exit 0, ⟨[(0, false, [.dat (.int .i64) []]), (5, false, [.dat (.int .i64) []])], []⟩)]⟩)] }
def impl_SequenceMask.ps : List PK := [.val (.int .i64) false, .val (.int .i64) false]
def impl_SequenceMask.rs : List RK := [⟨(.int .i64), false, .own⟩]
def impl_SequenceMask.con : Con := ⟨impl_SequenceMask.ps, impl_SequenceMask.rs, impl_SequenceMask.f⟩
def impl_SequenceMask.cx : Cx := { cx0 with con := look [(240, impl_KeyedHash.con)], loop := look [] }
def impl_UnmaskSequence.ps : List PK := [.val (.int .i64) false, .val (.int .i64) false, .val (.int .i64) false]
def impl_UnmaskSequence.rs : List RK := [⟨(.int .i64), false, .own⟩]
def impl_UnmaskSequence.con : Con := ⟨impl_UnmaskSequence.ps, impl_UnmaskSequence.rs, impl_UnmaskSequence.f⟩
def impl_UnmaskSequence.cx : Cx := { cx0 with con := look [(282, impl_Mod.con), (283, impl_SequenceMask.con)], loop := look [] }
def impl_VerifyVector.ps : List PK := [.val (.int .i64) false, .val (.int .i64) false, .val TAuthVector true]
def impl_VerifyVector.rs : List RK := [⟨(.int .i64), false, .own⟩]
def impl_VerifyVector.con : Con := ⟨impl_VerifyVector.ps, impl_VerifyVector.rs, impl_VerifyVector.f⟩
def impl_VerifyVector.cx : Cx := { cx0 with con := look [(239, impl_UnmaskSequence.con), (240, impl_KeyedHash.con)], loop := look [] }
def impl_NewAuthVector.ps : List PK := [.val (.int .i64) false, .val (.int .i64) false, .val (.int .i64) false]
def impl_NewAuthVector.rs : List RK := [⟨TAuthVector, true, .own⟩]
def impl_NewAuthVector.con : Con := ⟨impl_NewAuthVector.ps, impl_NewAuthVector.rs, impl_NewAuthVector.f⟩
def impl_NewAuthVector.cx : Cx := { cx0 with con := look [(146, impl_InRange.con), (240, impl_KeyedHash.con), (283, impl_SequenceMask.con)], loop := look [] }
def impl_ResyncToken.ps : List PK := [.val (.int .i64) false, .val (.int .i64) false, .val (.int .i64) false]
def impl_ResyncToken.rs : List RK := [⟨(.int .i64), false, .own⟩]
def impl_ResyncToken.con : Con := ⟨impl_ResyncToken.ps, impl_ResyncToken.rs, impl_ResyncToken.f⟩
def impl_ResyncToken.cx : Cx := { cx0 with con := look [(146, impl_InRange.con), (240, impl_KeyedHash.con)], loop := look [] }
def impl_RespondToChallenge.ps : List PK := [.val TUSIM true, .val TAuthVector true]
def impl_RespondToChallenge.rs : List RK := [⟨TUSIM, true, .own⟩, ⟨TAuthResponse, true, .own⟩]
def impl_RespondToChallenge.con : Con := ⟨impl_RespondToChallenge.ps, impl_RespondToChallenge.rs, impl_RespondToChallenge.f⟩
def impl_RespondToChallenge.cx : Cx := { cx0 with con := look [(237, impl_IsValidUSIM.con), (238, impl_VerifyVector.con), (239, impl_UnmaskSequence.con), (240, impl_KeyedHash.con), (241, impl_NewAuthVector.con), (242, impl_ResyncToken.con)], loop := look [] }
def impl_answerChallenge.ps : List PK := [.val TDevice true, .val TSignal true]
def impl_answerChallenge.rs : List RK := [⟨TDeviceResult, true, .own⟩]
def impl_answerChallenge.con : Con := ⟨impl_answerChallenge.ps, impl_answerChallenge.rs, impl_answerChallenge.f⟩
def impl_answerChallenge.cx : Cx := { cx0 with con := look [(60, impl_deviceResult.con), (149, impl_RespondToChallenge.con)], loop := look [] }
def impl_DeriveKey.ps : List PK := [.val (.int .i64) false, .val (.int .i64) false]
def impl_DeriveKey.rs : List RK := [⟨(.int .i64), false, .own⟩]
def impl_DeriveKey.con : Con := ⟨impl_DeriveKey.ps, impl_DeriveKey.rs, impl_DeriveKey.f⟩
def impl_DeriveKey.cx : Cx := { cx0 with con := look [(240, impl_KeyedHash.con)], loop := look [] }
def impl_deriveSteps.ps : List PK := [.val (.int .i64) false, .val (.sl (.int .i64)) false]
def impl_deriveSteps.rs : List RK := [⟨(.int .i64), false, .own⟩]
def impl_deriveSteps.con : Con := ⟨impl_deriveSteps.ps, impl_deriveSteps.rs, impl_deriveSteps.f⟩
def impl_deriveSteps.cx : Cx := { cx0 with con := look [(254, impl_DeriveKey.con)], loop := look [(2, ⟨⟨[(0, false, [.dat (.int .i64) []]), (7, false, [.dat (.sl (.int .i64)) [0]]), (8, false, [.dat (.int .i64) []]), (9, false, [.dat (.int .i64) []])], []⟩, [(.exit 0, ⟨[(0, false, [.dat (.int .i64) []])], []⟩)]⟩)] }
def impl_KeyForPath.ps : List PK := [.val (.int .i64) false, .val (.sl (.int .i64)) true]
def impl_KeyForPath.rs : List RK := [⟨(.int .i64), false, .own⟩]
def impl_KeyForPath.con : Con := ⟨impl_KeyForPath.ps, impl_KeyForPath.rs, impl_KeyForPath.f⟩
def impl_KeyForPath.cx : Cx := { cx0 with con := look [(285, impl_deriveSteps.con)], loop := look [] }
def impl_SignalingKeyPath.ps : List PK := []
def impl_SignalingKeyPath.rs : List RK := [⟨(.sl (.int .i64)), true, .own⟩]
def impl_SignalingKeyPath.con : Con := ⟨impl_SignalingKeyPath.ps, impl_SignalingKeyPath.rs, impl_SignalingKeyPath.f⟩
def impl_SignalingKeyPath.cx : Cx := { cx0 with con := look [], loop := look [] }
def impl_SignalMAC.ps : List PK := [.val (.int .i64) false, .val TSignal true]
def impl_SignalMAC.rs : List RK := [⟨(.int .i64), false, .own⟩]
def impl_SignalMAC.con : Con := ⟨impl_SignalMAC.ps, impl_SignalMAC.rs, impl_SignalMAC.f⟩
def impl_SignalMAC.cx : Cx := { cx0 with con := look [(240, impl_KeyedHash.con), (243, impl_KeyForPath.con), (244, impl_SignalingKeyPath.con)], loop := look [] }
def impl_VerifySignal.ps : List PK := [.val (.int .i64) false, .val TSignal true]
def impl_VerifySignal.rs : List RK := [⟨.bool, false, .own⟩]
def impl_VerifySignal.con : Con := ⟨impl_VerifySignal.ps, impl_VerifySignal.rs, impl_VerifySignal.f⟩
def impl_VerifySignal.cx : Cx := { cx0 with con := look [(150, impl_SignalMAC.con)], loop := look [] }
def impl_SignSignal.ps : List PK := [.val (.int .i64) false, .val TSignal true]
def impl_SignSignal.rs : List RK := [⟨TSignal, true, .own⟩]
def impl_SignSignal.con : Con := ⟨impl_SignSignal.ps, impl_SignSignal.rs, impl_SignSignal.f⟩
def impl_SignSignal.cx : Cx := { cx0 with con := look [(150, impl_SignalMAC.con)], loop := look [] }
def impl_pathUpdate.ps : List PK := [.val TDevice true]
def impl_pathUpdate.rs : List RK := [⟨TSignal, true, .own⟩]
def impl_pathUpdate.con : Con := ⟨impl_pathUpdate.ps, impl_pathUpdate.rs, impl_pathUpdate.f⟩
def impl_pathUpdate.cx : Cx := { cx0 with con := look [(79, impl_SignSignal.con)], loop := look [] }
def impl_announcePath.ps : List PK := [.val TDevice true]
def impl_announcePath.rs : List RK := [⟨TDeviceResult, true, .own⟩]
def impl_announcePath.con : Con := ⟨impl_announcePath.ps, impl_announcePath.rs, impl_announcePath.f⟩
def impl_announcePath.cx : Cx := { cx0 with con := look [(60, impl_deviceResult.con), (151, impl_pathUpdate.con)], loop := look [] }
def impl_ReceiveSignal.ps : List PK := [.val TDevice true, .val TSignal true]
def impl_ReceiveSignal.rs : List RK := [⟨TDeviceResult, true, .own⟩]
def impl_ReceiveSignal.con : Con := ⟨impl_ReceiveSignal.ps, impl_ReceiveSignal.rs, impl_ReceiveSignal.f⟩
def impl_ReceiveSignal.cx : Cx := { cx0 with con := look [(59, impl_IsValidSignal.con), (60, impl_deviceResult.con), (61, impl_answerChallenge.con), (62, impl_IsValidKey.con), (63, impl_VerifySignal.con), (64, impl_announcePath.con)], loop := look [] }
def laws_eqSubscriberID.ps : List PK := [.val TSubscriberID true, .val TSubscriberID true]
def laws_eqSubscriberID.rs : List RK := [⟨.bool, false, .own⟩]
def laws_eqSubscriberID.con : Con := ⟨laws_eqSubscriberID.ps, laws_eqSubscriberID.rs, laws_eqSubscriberID.f⟩
def laws_eqSubscriberID.cx : Cx := { cx0 with con := look [], loop := look [] }
def laws_eqUSIM.ps : List PK := [.val TUSIM true, .val TUSIM true]
def laws_eqUSIM.rs : List RK := [⟨.bool, false, .own⟩]
def laws_eqUSIM.con : Con := ⟨laws_eqUSIM.ps, laws_eqUSIM.rs, laws_eqUSIM.f⟩
def laws_eqUSIM.cx : Cx := { cx0 with con := look [(153, laws_eqSubscriberID.con)], loop := look [] }
def laws_eqByteS.ps : List PK := [.val (.sl (.int .u8)) false, .val (.sl (.int .u8)) false]
def laws_eqByteS.rs : List RK := [⟨.bool, false, .own⟩]
def laws_eqByteS.con : Con := ⟨laws_eqByteS.ps, laws_eqByteS.rs, laws_eqByteS.f⟩
def laws_eqByteS.cx : Cx := { cx0 with con := look [], loop := look [(4, ⟨⟨[(0, false, [.dat (.sl (.int .u8)) [0]]), (1, false, [.dat (.sl (.int .u8)) [0]]), (5, false, [.dat (.int .i64) []])], []⟩, [(.exit 0, ⟨[], []⟩), (.ret, ⟨[(4, false, [.dat .bool []])], []⟩)]⟩)] }
def laws_eqPayload.ps : List PK := [.val (.sl (.int .u8)) true, .val (.sl (.int .u8)) true]
def laws_eqPayload.rs : List RK := [⟨.bool, false, .own⟩]
def laws_eqPayload.con : Con := ⟨laws_eqPayload.ps, laws_eqPayload.rs, laws_eqPayload.f⟩
def laws_eqPayload.cx : Cx := { cx0 with con := look [(171, laws_eqByteS.con)], loop := look [] }
def laws_eqPayloadS.ps : List PK := [.val (.sl (.sl (.int .u8))) false, .val (.sl (.sl (.int .u8))) false]
def laws_eqPayloadS.rs : List RK := [⟨.bool, false, .own⟩]
def laws_eqPayloadS.con : Con := ⟨laws_eqPayloadS.ps, laws_eqPayloadS.rs, laws_eqPayloadS.f⟩
def laws_eqPayloadS.cx : Cx := { cx0 with con := look [(195, laws_eqPayload.con)], loop := look [(4, ⟨⟨[(0, false, [.dat (.sl (.sl (.int .u8))) [0]]), (1, false, [.dat (.sl (.sl (.int .u8))) [0]]), (5, false, [.dat (.int .i64) []])], []⟩, [(.exit 0, ⟨[], []⟩), (.ret, ⟨[(4, false, [.dat .bool []])], []⟩)]⟩)] }
def laws_eqNumberedPacket.ps : List PK := [.val TNumberedPacket true, .val TNumberedPacket true]
def laws_eqNumberedPacket.rs : List RK := [⟨.bool, false, .own⟩]
def laws_eqNumberedPacket.con : Con := ⟨laws_eqNumberedPacket.ps, laws_eqNumberedPacket.rs, laws_eqNumberedPacket.f⟩
def laws_eqNumberedPacket.cx : Cx := { cx0 with con := look [(171, laws_eqByteS.con)], loop := look [] }
def laws_eqNumberedPacketS.ps : List PK := [.val (.sl TNumberedPacket) false, .val (.sl TNumberedPacket) false]
def laws_eqNumberedPacketS.rs : List RK := [⟨.bool, false, .own⟩]
def laws_eqNumberedPacketS.con : Con := ⟨laws_eqNumberedPacketS.ps, laws_eqNumberedPacketS.rs, laws_eqNumberedPacketS.f⟩
def laws_eqNumberedPacketS.cx : Cx := { cx0 with con := look [(245, laws_eqNumberedPacket.con)], loop := look [(4, ⟨⟨[(0, false, [.dat (.sl TNumberedPacket) [0]]), (1, false, [.dat (.sl TNumberedPacket) [0]]), (5, false, [.dat (.int .i64) []])], []⟩, [(.exit 0, ⟨[], []⟩), (.ret, ⟨[(4, false, [.dat .bool []])], []⟩)]⟩)] }
def laws_eqReceiveWindow.ps : List PK := [.val TReceiveWindow true, .val TReceiveWindow true]
def laws_eqReceiveWindow.rs : List RK := [⟨.bool, false, .own⟩]
def laws_eqReceiveWindow.con : Con := ⟨laws_eqReceiveWindow.ps, laws_eqReceiveWindow.rs, laws_eqReceiveWindow.f⟩
def laws_eqReceiveWindow.cx : Cx := { cx0 with con := look [(107, laws_eqPayloadS.con), (154, laws_eqNumberedPacketS.con)], loop := look [] }
def laws_eqDevice.ps : List PK := [.val TDevice true, .val TDevice true]
def laws_eqDevice.rs : List RK := [⟨.bool, false, .own⟩]
def laws_eqDevice.con : Con := ⟨laws_eqDevice.ps, laws_eqDevice.rs, laws_eqDevice.f⟩
def laws_eqDevice.cx : Cx := { cx0 with con := look [(66, laws_eqUSIM.con), (67, laws_eqReceiveWindow.con)], loop := look [] }
def laws_eqAuthVector.ps : List PK := [.val TAuthVector true, .val TAuthVector true]
def laws_eqAuthVector.rs : List RK := [⟨.bool, false, .own⟩]
def laws_eqAuthVector.con : Con := ⟨laws_eqAuthVector.ps, laws_eqAuthVector.rs, laws_eqAuthVector.f⟩
def laws_eqAuthVector.cx : Cx := { cx0 with con := look [], loop := look [] }
def laws_eqSignal.ps : List PK := [.val TSignal true, .val TSignal true]
def laws_eqSignal.rs : List RK := [⟨.bool, false, .own⟩]
def laws_eqSignal.con : Con := ⟨laws_eqSignal.ps, laws_eqSignal.rs, laws_eqSignal.f⟩
def laws_eqSignal.cx : Cx := { cx0 with con := look [(105, laws_eqAuthVector.con)], loop := look [] }
def laws_eqSignalS.ps : List PK := [.val (.sl TSignal) false, .val (.sl TSignal) false]
def laws_eqSignalS.rs : List RK := [⟨.bool, false, .own⟩]
def laws_eqSignalS.con : Con := ⟨laws_eqSignalS.ps, laws_eqSignalS.rs, laws_eqSignalS.f⟩
def laws_eqSignalS.cx : Cx := { cx0 with con := look [(152, laws_eqSignal.con)], loop := look [(4, ⟨⟨[(0, false, [.dat (.sl TSignal) [0]]), (1, false, [.dat (.sl TSignal) [0]]), (5, false, [.dat (.int .i64) []])], []⟩, [(.exit 0, ⟨[], []⟩), (.ret, ⟨[(4, false, [.dat .bool []])], []⟩)]⟩)] }
def laws_eqDeviceResult.ps : List PK := [.val TDeviceResult true, .val TDeviceResult true]
def laws_eqDeviceResult.rs : List RK := [⟨.bool, false, .own⟩]
def laws_eqDeviceResult.con : Con := ⟨laws_eqDeviceResult.ps, laws_eqDeviceResult.rs, laws_eqDeviceResult.f⟩
def laws_eqDeviceResult.cx : Cx := { cx0 with con := look [(14, laws_eqDevice.con), (65, laws_eqSignalS.con)], loop := look [] }
def laws_markByteS.ps : List PK := [.lend (.sl (.int .u8)) false, .val (.int .i64) false]
def laws_markByteS.rs : List RK := [⟨(.int .i64), false, .own⟩]
def laws_markByteS.con : Con := ⟨laws_markByteS.ps, laws_markByteS.rs, laws_markByteS.f⟩
def laws_markByteS.cx : Cx := { cx0 with con := look [], loop := look [(2, ⟨⟨[(0, false, [.own 257]), (1, false, [.dat (.int .i64) []]), (5, false, [.dat (.int .i64) []])], [(257, .arr (.int .u8) true [])]⟩, [(.exit 0, ⟨[(0, false, [.own 257]), (1, false, [.dat (.int .i64) []])], [(257, .arr (.int .u8) true [])]⟩)]⟩)] }
def laws_markPayloadS.ps : List PK := [.lend (.sl (.sl (.int .u8))) false, .val (.int .i64) false]
def laws_markPayloadS.rs : List RK := [⟨(.int .i64), false, .own⟩]
def laws_markPayloadS.con : Con := ⟨laws_markPayloadS.ps, laws_markPayloadS.rs, laws_markPayloadS.f⟩
def laws_markPayloadS.cx : Cx := { cx0 with con := look [(172, laws_markByteS.con)], loop := look [(2, ⟨⟨[(0, false, [.own 257]), (1, false, [.dat (.int .i64) []]), (5, false, [.dat (.int .i64) []])], [(257, .arr (.sl (.int .u8)) true [])]⟩, [(.exit 0, ⟨[(0, false, [.own 257]), (1, false, [.dat (.int .i64) []])], [(257, .arr (.sl (.int .u8)) true [])]⟩)]⟩)] }
def laws_markNumberedPacketS.ps : List PK := [.lend (.sl TNumberedPacket) false, .val (.int .i64) false]
def laws_markNumberedPacketS.rs : List RK := [⟨(.int .i64), false, .own⟩]
def laws_markNumberedPacketS.con : Con := ⟨laws_markNumberedPacketS.ps, laws_markNumberedPacketS.rs, laws_markNumberedPacketS.f⟩
def laws_markNumberedPacketS.cx : Cx := { cx0 with con := look [(172, laws_markByteS.con)], loop := look [(2, ⟨⟨[(0, false, [.own 257]), (1, false, [.dat (.int .i64) []]), (5, false, [.dat (.int .i64) []])], [(257, .arr TNumberedPacket true [])]⟩, [(.exit 0, ⟨[(0, false, [.own 257]), (1, false, [.dat (.int .i64) []])], [(257, .arr TNumberedPacket true [])]⟩)]⟩)] }
def laws_markReceiveWindow.ps : List PK := [.lend TReceiveWindow true, .val (.int .i64) false]
def laws_markReceiveWindow.rs : List RK := [⟨(.int .i64), false, .own⟩]
def laws_markReceiveWindow.con : Con := ⟨laws_markReceiveWindow.ps, laws_markReceiveWindow.rs, laws_markReceiveWindow.f⟩
def laws_markReceiveWindow.cx : Cx := { cx0 with con := look [(112, laws_markPayloadS.con), (155, laws_markNumberedPacketS.con)], loop := look [] }
def laws_markDevice.ps : List PK := [.lend TDevice true, .val (.int .i64) false]
def laws_markDevice.rs : List RK := [⟨(.int .i64), false, .own⟩]
def laws_markDevice.con : Con := ⟨laws_markDevice.ps, laws_markDevice.rs, laws_markDevice.f⟩
def laws_markDevice.cx : Cx := { cx0 with con := look [(68, laws_markReceiveWindow.con)], loop := look [] }
def laws_markSignalS.ps : List PK := [.lend (.sl TSignal) false, .val (.int .i64) false]
def laws_markSignalS.rs : List RK := [⟨(.int .i64), false, .own⟩]
def laws_markSignalS.con : Con := ⟨laws_markSignalS.ps, laws_markSignalS.rs, laws_markSignalS.f⟩
def laws_markSignalS.cx : Cx := { cx0 with con := look [], loop := look [(2, ⟨⟨[(0, false, [.own 257]), (1, false, [.dat (.int .i64) []]), (5, false, [.dat (.int .i64) []])], [(257, .arr TSignal true [])]⟩, [(.exit 0, ⟨[(0, false, [.own 257]), (1, false, [.dat (.int .i64) []])], [(257, .arr TSignal true [])]⟩)]⟩)] }
def laws_markDeviceResult.ps : List PK := [.lend TDeviceResult true, .val (.int .i64) false]
def laws_markDeviceResult.rs : List RK := [⟨(.int .i64), false, .own⟩]
def laws_markDeviceResult.con : Con := ⟨laws_markDeviceResult.ps, laws_markDeviceResult.rs, laws_markDeviceResult.f⟩
def laws_markDeviceResult.cx : Cx := { cx0 with con := look [(15, laws_markDevice.con), (69, laws_markSignalS.con)], loop := look [] }
def laws_heldByteS.ps : List PK := [.val (.sl (.int .u8)) false, .val (.int .i64) false]
def laws_heldByteS.rs : List RK := [⟨(.int .i64), false, .own⟩]
def laws_heldByteS.con : Con := ⟨laws_heldByteS.ps, laws_heldByteS.rs, laws_heldByteS.f⟩
def laws_heldByteS.cx : Cx := { cx0 with con := look [], loop := look [(2, ⟨⟨[(0, false, [.dat (.sl (.int .u8)) [0]]), (1, false, [.dat (.int .i64) []]), (5, false, [.dat (.int .i64) []])], []⟩, [(.exit 0, ⟨[(1, false, [.dat (.int .i64) []])], []⟩), (.ret, ⟨[(4, false, [.dat (.int .i64) []])], []⟩)]⟩)] }
def laws_heldPayloadS.ps : List PK := [.val (.sl (.sl (.int .u8))) false, .val (.int .i64) false]
def laws_heldPayloadS.rs : List RK := [⟨(.int .i64), false, .own⟩]
def laws_heldPayloadS.con : Con := ⟨laws_heldPayloadS.ps, laws_heldPayloadS.rs, laws_heldPayloadS.f⟩
def laws_heldPayloadS.cx : Cx := { cx0 with con := look [(199, laws_heldByteS.con)], loop := look [(2, ⟨⟨[(0, false, [.dat (.sl (.sl (.int .u8))) [0]]), (1, false, [.dat (.int .i64) []]), (5, false, [.dat (.int .i64) []])], []⟩, [(.exit 0, ⟨[(1, false, [.dat (.int .i64) []])], []⟩), (.ret, ⟨[(4, false, [.dat (.int .i64) []])], []⟩)]⟩)] }
def laws_heldNumberedPacketS.ps : List PK := [.val (.sl TNumberedPacket) false, .val (.int .i64) false]
def laws_heldNumberedPacketS.rs : List RK := [⟨(.int .i64), false, .own⟩]
def laws_heldNumberedPacketS.con : Con := ⟨laws_heldNumberedPacketS.ps, laws_heldNumberedPacketS.rs, laws_heldNumberedPacketS.f⟩
def laws_heldNumberedPacketS.cx : Cx := { cx0 with con := look [(199, laws_heldByteS.con)], loop := look [(2, ⟨⟨[(0, false, [.dat (.sl TNumberedPacket) [0]]), (1, false, [.dat (.int .i64) []]), (5, false, [.dat (.int .i64) []])], []⟩, [(.exit 0, ⟨[(1, false, [.dat (.int .i64) []])], []⟩), (.ret, ⟨[(4, false, [.dat (.int .i64) []])], []⟩)]⟩)] }
def laws_heldReceiveWindow.ps : List PK := [.val TReceiveWindow true, .val (.int .i64) false]
def laws_heldReceiveWindow.rs : List RK := [⟨(.int .i64), false, .own⟩]
def laws_heldReceiveWindow.con : Con := ⟨laws_heldReceiveWindow.ps, laws_heldReceiveWindow.rs, laws_heldReceiveWindow.f⟩
def laws_heldReceiveWindow.cx : Cx := { cx0 with con := look [(116, laws_heldPayloadS.con), (200, laws_heldNumberedPacketS.con)], loop := look [] }
def laws_heldDevice.ps : List PK := [.val TDevice true, .val (.int .i64) false]
def laws_heldDevice.rs : List RK := [⟨(.int .i64), false, .own⟩]
def laws_heldDevice.con : Con := ⟨laws_heldDevice.ps, laws_heldDevice.rs, laws_heldDevice.f⟩
def laws_heldDevice.cx : Cx := { cx0 with con := look [(156, laws_heldReceiveWindow.con)], loop := look [] }
def laws_heldSignalS.ps : List PK := [.val (.sl TSignal) false, .val (.int .i64) false]
def laws_heldSignalS.rs : List RK := [⟨(.int .i64), false, .own⟩]
def laws_heldSignalS.con : Con := ⟨laws_heldSignalS.ps, laws_heldSignalS.rs, laws_heldSignalS.f⟩
def laws_heldSignalS.cx : Cx := { cx0 with con := look [], loop := look [(2, ⟨⟨[(0, false, [.dat (.sl TSignal) [0]]), (1, false, [.dat (.int .i64) []]), (5, false, [.dat (.int .i64) []])], []⟩, [(.exit 0, ⟨[(1, false, [.dat (.int .i64) []])], []⟩), (.ret, ⟨[(4, false, [.dat (.int .i64) []])], []⟩)]⟩)] }
def laws_heldDeviceResult.ps : List PK := [.val TDeviceResult true, .val (.int .i64) false]
def laws_heldDeviceResult.rs : List RK := [⟨(.int .i64), false, .own⟩]
def laws_heldDeviceResult.con : Con := ⟨laws_heldDeviceResult.ps, laws_heldDeviceResult.rs, laws_heldDeviceResult.f⟩
def laws_heldDeviceResult.cx : Cx := { cx0 with con := look [(70, laws_heldDevice.con), (71, laws_heldSignalS.con)], loop := look [] }
def laws_FnExactReceiveSignal.ps : List PK := [.val TDevice true, .val TSignal true]
def laws_FnExactReceiveSignal.rs : List RK := [⟨.bool, false, .own⟩]
def laws_FnExactReceiveSignal.con : Con := ⟨laws_FnExactReceiveSignal.ps, laws_FnExactReceiveSignal.rs, laws_FnExactReceiveSignal.f⟩
def laws_FnExactReceiveSignal.cx : Cx := { cx0 with con := look [(8, laws_szDevice.con), (9, spec_ReceiveSignal.con), (10, laws_toDevice.con), (11, laws_toSignal.con), (12, impl_ReceiveSignal.con), (13, laws_eqDeviceResult.con), (14, laws_eqDevice.con), (15, laws_markDevice.con), (16, laws_markDeviceResult.con), (17, laws_heldDeviceResult.con)], loop := look [] }
end Go.Proofs.YtbgkgnhlfmidhaaGreat.XS
/- Each function, evaluated, is the plain Lean one. -/
set_option linter.unusedVariables false
set_option maxRecDepth 100000
namespace Go.Proofs.YtbgkgnhlfmidhaaGreat.XS
open Go Go.Proofs.XTv Go.Proofs.XF
theorem laws_markSignalS.eq : evFun laws_markSignalS.cx Tryz.f69 laws_markSignalS.ps laws_markSignalS.rs = laws_markSignalS.f := by kernel_rfl
end Go.Proofs.YtbgkgnhlfmidhaaGreat.XS
/- Each function, evaluated, is the plain Lean one. -/
set_option linter.unusedVariables false
set_option maxRecDepth 100000
namespace Go.Proofs.YtbgkgnhlfmidhaaGreat.XS
open Go Go.Proofs.XTv Go.Proofs.XF
theorem laws_heldSignalS.eq : evFun laws_heldSignalS.cx Tryz.f71 laws_heldSignalS.ps laws_heldSignalS.rs = laws_heldSignalS.f := by kernel_rfl
theorem laws_toByteS.eq : evFun laws_toByteS.cx Tryz.f163 laws_toByteS.ps laws_toByteS.rs = laws_toByteS.f := by kernel_rfl
theorem laws_heldByteS.eq : evFun laws_heldByteS.cx Tryz.f199 laws_heldByteS.ps laws_heldByteS.rs = laws_heldByteS.f := by kernel_rfl
theorem spec_l29Next.eq : evFun spec_l29Next.cx Tryz.f53 spec_l29Next.ps spec_l29Next.rs = spec_l29Next.f := by kernel_rfl
theorem spec_VerifyVector.eq : evFun spec_VerifyVector.cx Tryz.f229 spec_VerifyVector.ps spec_VerifyVector.rs = spec_VerifyVector.f := by kernel_rfl
theorem impl_ResyncToken.eq : evFun impl_ResyncToken.cx Tryz.f242 impl_ResyncToken.ps impl_ResyncToken.rs = impl_ResyncToken.f := by kernel_rfl
theorem spec_ResyncToken.eq : evFun spec_ResyncToken.cx Tryz.f233 spec_ResyncToken.ps spec_ResyncToken.rs = spec_ResyncToken.f := by kernel_rfl
theorem laws_eqUSIM.eq : evFun laws_eqUSIM.cx Tryz.f66 laws_eqUSIM.ps laws_eqUSIM.rs = laws_eqUSIM.f := by kernel_rfl
theorem impl_hashStep.eq : evFun impl_hashStep.cx Tryz.f284 impl_hashStep.ps impl_hashStep.rs = impl_hashStep.f := by kernel_rfl
theorem impl_UnmaskSequence.eq : evFun impl_UnmaskSequence.cx Tryz.f239 impl_UnmaskSequence.ps impl_UnmaskSequence.rs = impl_UnmaskSequence.f := by kernel_rfl
theorem impl_pathUpdate.eq : evFun impl_pathUpdate.cx Tryz.f151 impl_pathUpdate.ps impl_pathUpdate.rs = impl_pathUpdate.f := by kernel_rfl
theorem impl_copyItems_impl_Signal.eq : evFun impl_copyItems_impl_Signal.cx Tryz.f148 impl_copyItems_impl_Signal.ps impl_copyItems_impl_Signal.rs = impl_copyItems_impl_Signal.f := by kernel_rfl
theorem impl_deviceResult.eq : evFun impl_deviceResult.cx Tryz.f60 impl_deviceResult.ps impl_deviceResult.rs = impl_deviceResult.f := by kernel_rfl
theorem laws_eqSubscriberID.eq : evFun laws_eqSubscriberID.cx Tryz.f153 laws_eqSubscriberID.ps laws_eqSubscriberID.rs = laws_eqSubscriberID.f := by kernel_rfl
theorem laws_eqPayload.eq : evFun laws_eqPayload.cx Tryz.f195 laws_eqPayload.ps laws_eqPayload.rs = laws_eqPayload.f := by kernel_rfl
theorem laws_toUSIM.eq : evFun laws_toUSIM.cx Tryz.f56 laws_toUSIM.ps laws_toUSIM.rs = laws_toUSIM.f := by kernel_rfl
theorem laws_toPayload.eq : evFun laws_toPayload.cx Tryz.f184 laws_toPayload.ps laws_toPayload.rs = laws_toPayload.f := by kernel_rfl
theorem laws_toAuthVector.eq : evFun laws_toAuthVector.cx Tryz.f58 laws_toAuthVector.ps laws_toAuthVector.rs = laws_toAuthVector.f := by kernel_rfl
end Go.Proofs.YtbgkgnhlfmidhaaGreat.XS
/- Each function, evaluated, is the plain Lean one. -/
set_option linter.unusedVariables false
set_option maxRecDepth 100000
namespace Go.Proofs.YtbgkgnhlfmidhaaGreat.XS
open Go Go.Proofs.XTv Go.Proofs.XF
theorem laws_FnExactReceiveSignal.eq : evFun laws_FnExactReceiveSignal.cx Tryz.f3 laws_FnExactReceiveSignal.ps laws_FnExactReceiveSignal.rs = laws_FnExactReceiveSignal.f := by kernel_rfl
theorem impl_copyNumbered.eq : evFun impl_copyNumbered.cx Tryz.f256 impl_copyNumbered.ps impl_copyNumbered.rs = impl_copyNumbered.f := by kernel_rfl
theorem impl_copyPayloads.eq : evFun impl_copyPayloads.cx Tryz.f187 impl_copyPayloads.ps impl_copyPayloads.rs = impl_copyPayloads.f := by kernel_rfl
theorem spec_l15Bodies.eq : evFun spec_l15Bodies.cx Tryz.f176 spec_l15Bodies.ps spec_l15Bodies.rs = spec_l15Bodies.f := by kernel_rfl
theorem laws_toPayloadS.eq : evFun laws_toPayloadS.cx Tryz.f94 laws_toPayloadS.ps laws_toPayloadS.rs = laws_toPayloadS.f := by kernel_rfl
theorem laws_eqSignal.eq : evFun laws_eqSignal.cx Tryz.f152 laws_eqSignal.ps laws_eqSignal.rs = laws_eqSignal.f := by kernel_rfl
theorem spec_NewAuthVector.eq : evFun spec_NewAuthVector.cx Tryz.f232 spec_NewAuthVector.ps spec_NewAuthVector.rs = spec_NewAuthVector.f := by kernel_rfl
theorem impl_answerChallenge.eq : evFun impl_answerChallenge.cx Tryz.f61 impl_answerChallenge.ps impl_answerChallenge.rs = impl_answerChallenge.f := by kernel_rfl
theorem laws_markDevice.eq : evFun laws_markDevice.cx Tryz.f15 laws_markDevice.ps laws_markDevice.rs = laws_markDevice.f := by kernel_rfl
theorem laws_eqReceiveWindow.eq : evFun laws_eqReceiveWindow.cx Tryz.f67 laws_eqReceiveWindow.ps laws_eqReceiveWindow.rs = laws_eqReceiveWindow.f := by kernel_rfl
theorem spec_SignalMAC.eq : evFun spec_SignalMAC.cx Tryz.f143 spec_SignalMAC.ps spec_SignalMAC.rs = spec_SignalMAC.f := by kernel_rfl
theorem spec_l29Copy.eq : evFun spec_l29Copy.cx Tryz.f49 spec_l29Copy.ps spec_l29Copy.rs = spec_l29Copy.f := by kernel_rfl
theorem laws_szReceiveWindow.eq : evFun laws_szReceiveWindow.cx Tryz.f46 laws_szReceiveWindow.ps laws_szReceiveWindow.rs = laws_szReceiveWindow.f := by kernel_rfl
theorem impl_SignSignal.eq : evFun impl_SignSignal.cx Tryz.f79 impl_SignSignal.ps impl_SignSignal.rs = impl_SignSignal.f := by kernel_rfl
theorem laws_toSignal.eq : evFun laws_toSignal.cx Tryz.f11 laws_toSignal.ps laws_toSignal.rs = laws_toSignal.f := by kernel_rfl
theorem impl_copyBytes.eq : evFun impl_copyBytes.cx Tryz.f170 impl_copyBytes.ps impl_copyBytes.rs = impl_copyBytes.f := by kernel_rfl
theorem impl_copyReceiver.eq : evFun impl_copyReceiver.cx Tryz.f167 impl_copyReceiver.ps impl_copyReceiver.rs = impl_copyReceiver.f := by kernel_rfl
theorem spec_SequenceMask.eq : evFun spec_SequenceMask.cx Tryz.f280 spec_SequenceMask.ps spec_SequenceMask.rs = spec_SequenceMask.f := by kernel_rfl
theorem impl_DeriveKey.eq : evFun impl_DeriveKey.cx Tryz.f254 impl_DeriveKey.ps impl_DeriveKey.rs = impl_DeriveKey.f := by kernel_rfl
theorem laws_szPayload.eq : evFun laws_szPayload.cx Tryz.f174 laws_szPayload.ps laws_szPayload.rs = laws_szPayload.f := by kernel_rfl
theorem spec_l29None.eq : evFun spec_l29None.cx Tryz.f48 spec_l29None.ps spec_l29None.rs = spec_l29None.f := by kernel_rfl
theorem laws_toSubscriberID.eq : evFun laws_toSubscriberID.cx Tryz.f144 laws_toSubscriberID.ps laws_toSubscriberID.rs = laws_toSubscriberID.f := by kernel_rfl
end Go.Proofs.YtbgkgnhlfmidhaaGreat.XS
/- Each function, evaluated, is the plain Lean one. -/
set_option linter.unusedVariables false
set_option maxRecDepth 100000
namespace Go.Proofs.YtbgkgnhlfmidhaaGreat.XS
open Go Go.Proofs.XTv Go.Proofs.XF
theorem spec_ReceiveSignal.eq : evFun spec_ReceiveSignal.cx Tryz.f9 spec_ReceiveSignal.ps spec_ReceiveSignal.rs = spec_ReceiveSignal.f := by kernel_rfl
theorem spec_RespondToChallenge.eq : evFun spec_RespondToChallenge.cx Tryz.f142 spec_RespondToChallenge.ps spec_RespondToChallenge.rs = spec_RespondToChallenge.f := by kernel_rfl
theorem laws_eqPayloadS.eq : evFun laws_eqPayloadS.cx Tryz.f107 laws_eqPayloadS.ps laws_eqPayloadS.rs = laws_eqPayloadS.f := by kernel_rfl
theorem laws_toNumberedPacketS.eq : evFun laws_toNumberedPacketS.cx Tryz.f145 laws_toNumberedPacketS.ps laws_toNumberedPacketS.rs = laws_toNumberedPacketS.f := by kernel_rfl
theorem laws_szPayloadS.eq : evFun laws_szPayloadS.cx Tryz.f83 laws_szPayloadS.ps laws_szPayloadS.rs = laws_szPayloadS.f := by kernel_rfl
theorem impl_NewAuthVector.eq : evFun impl_NewAuthVector.cx Tryz.f241 impl_NewAuthVector.ps impl_NewAuthVector.rs = impl_NewAuthVector.f := by kernel_rfl
theorem laws_markPayloadS.eq : evFun laws_markPayloadS.cx Tryz.f112 laws_markPayloadS.ps laws_markPayloadS.rs = laws_markPayloadS.f := by kernel_rfl
theorem laws_markByteS.eq : evFun laws_markByteS.cx Tryz.f172 laws_markByteS.ps laws_markByteS.rs = laws_markByteS.f := by kernel_rfl
theorem spec_l29Asked.eq : evFun spec_l29Asked.cx Tryz.f50 spec_l29Asked.ps spec_l29Asked.rs = spec_l29Asked.f := by kernel_rfl
theorem laws_toDevice.eq : evFun laws_toDevice.cx Tryz.f10 laws_toDevice.ps laws_toDevice.rs = laws_toDevice.f := by kernel_rfl
theorem impl_Mod.eq : evFun impl_Mod.cx Tryz.f282 impl_Mod.ps impl_Mod.rs = impl_Mod.f := by kernel_rfl
theorem spec_Mod.eq : evFun spec_Mod.cx Tryz.f279 spec_Mod.ps spec_Mod.rs = spec_Mod.f := by kernel_rfl
theorem laws_eqDeviceResult.eq : evFun laws_eqDeviceResult.cx Tryz.f13 laws_eqDeviceResult.ps laws_eqDeviceResult.rs = laws_eqDeviceResult.f := by kernel_rfl
theorem spec_SignSignal.eq : evFun spec_SignSignal.cx Tryz.f75 spec_SignSignal.ps spec_SignSignal.rs = spec_SignSignal.f := by kernel_rfl
theorem laws_eqNumberedPacket.eq : evFun laws_eqNumberedPacket.cx Tryz.f245 laws_eqNumberedPacket.ps laws_eqNumberedPacket.rs = laws_eqNumberedPacket.f := by kernel_rfl
theorem spec_l29Path.eq : evFun spec_l29Path.cx Tryz.f55 spec_l29Path.ps spec_l29Path.rs = spec_l29Path.f := by kernel_rfl
theorem laws_szDevice.eq : evFun laws_szDevice.cx Tryz.f8 laws_szDevice.ps laws_szDevice.rs = laws_szDevice.f := by kernel_rfl
theorem laws_szByteS.eq : evFun laws_szByteS.cx Tryz.f157 laws_szByteS.ps laws_szByteS.rs = laws_szByteS.f := by kernel_rfl
theorem spec_VerifySignal.eq : evFun spec_VerifySignal.cx Tryz.f52 spec_VerifySignal.ps spec_VerifySignal.rs = spec_VerifySignal.f := by kernel_rfl
theorem impl_InRange.eq : evFun impl_InRange.cx Tryz.f146 impl_InRange.ps impl_InRange.rs = impl_InRange.f := by kernel_rfl
theorem impl_IsValidKey.eq : evFun impl_IsValidKey.cx Tryz.f62 impl_IsValidKey.ps impl_IsValidKey.rs = impl_IsValidKey.f := by kernel_rfl
theorem spec_Max.eq : evFun spec_Max.cx Tryz.f90 spec_Max.ps spec_Max.rs = spec_Max.f := by kernel_rfl
end Go.Proofs.YtbgkgnhlfmidhaaGreat.XS
/- Each function, evaluated, is the plain Lean one. -/
set_option linter.unusedVariables false
set_option maxRecDepth 100000
namespace Go.Proofs.YtbgkgnhlfmidhaaGreat.XS
open Go Go.Proofs.XTv Go.Proofs.XF
theorem impl_ReceiveSignal.eq : evFun impl_ReceiveSignal.cx Tryz.f12 impl_ReceiveSignal.ps impl_ReceiveSignal.rs = impl_ReceiveSignal.f := by kernel_rfl
theorem impl_RespondToChallenge.eq : evFun impl_RespondToChallenge.cx Tryz.f149 impl_RespondToChallenge.ps impl_RespondToChallenge.rs = impl_RespondToChallenge.f := by kernel_rfl
theorem laws_heldNumberedPacketS.eq : evFun laws_heldNumberedPacketS.cx Tryz.f200 laws_heldNumberedPacketS.ps laws_heldNumberedPacketS.rs = laws_heldNumberedPacketS.f := by kernel_rfl
theorem impl_IsValidSignal.eq : evFun impl_IsValidSignal.cx Tryz.f59 impl_IsValidSignal.ps impl_IsValidSignal.rs = impl_IsValidSignal.f := by kernel_rfl
theorem spec_IsValidSignal.eq : evFun spec_IsValidSignal.cx Tryz.f47 spec_IsValidSignal.ps spec_IsValidSignal.rs = spec_IsValidSignal.f := by kernel_rfl
theorem impl_KeyedHash.eq : evFun impl_KeyedHash.cx Tryz.f240 impl_KeyedHash.ps impl_KeyedHash.rs = impl_KeyedHash.f := by kernel_rfl
theorem laws_heldPayloadS.eq : evFun laws_heldPayloadS.cx Tryz.f116 laws_heldPayloadS.ps laws_heldPayloadS.rs = laws_heldPayloadS.f := by kernel_rfl
theorem impl_deriveSteps.eq : evFun impl_deriveSteps.cx Tryz.f285 impl_deriveSteps.ps impl_deriveSteps.rs = impl_deriveSteps.f := by kernel_rfl
theorem impl_announcePath.eq : evFun impl_announcePath.cx Tryz.f64 impl_announcePath.ps impl_announcePath.rs = impl_announcePath.f := by kernel_rfl
theorem impl_VerifyVector.eq : evFun impl_VerifyVector.cx Tryz.f238 impl_VerifyVector.ps impl_VerifyVector.rs = impl_VerifyVector.f := by kernel_rfl
theorem spec_IsValidUSIM.eq : evFun spec_IsValidUSIM.cx Tryz.f228 spec_IsValidUSIM.ps spec_IsValidUSIM.rs = spec_IsValidUSIM.f := by kernel_rfl
theorem impl_copyDevice.eq : evFun impl_copyDevice.cx Tryz.f147 impl_copyDevice.ps impl_copyDevice.rs = impl_copyDevice.f := by kernel_rfl
theorem laws_heldReceiveWindow.eq : evFun laws_heldReceiveWindow.cx Tryz.f156 laws_heldReceiveWindow.ps laws_heldReceiveWindow.rs = laws_heldReceiveWindow.f := by kernel_rfl
theorem laws_heldDeviceResult.eq : evFun laws_heldDeviceResult.cx Tryz.f17 laws_heldDeviceResult.ps laws_heldDeviceResult.rs = laws_heldDeviceResult.f := by kernel_rfl
theorem spec_KeyedHash.eq : evFun spec_KeyedHash.cx Tryz.f231 spec_KeyedHash.ps spec_KeyedHash.rs = spec_KeyedHash.f := by kernel_rfl
theorem spec_IsValidSubscriberID.eq : evFun spec_IsValidSubscriberID.cx Tryz.f278 spec_IsValidSubscriberID.ps spec_IsValidSubscriberID.rs = spec_IsValidSubscriberID.f := by kernel_rfl
theorem laws_heldDevice.eq : evFun laws_heldDevice.cx Tryz.f70 laws_heldDevice.ps laws_heldDevice.rs = laws_heldDevice.f := by kernel_rfl
theorem spec_l24Recv.eq : evFun spec_l24Recv.cx Tryz.f141 spec_l24Recv.ps spec_l24Recv.rs = spec_l24Recv.f := by kernel_rfl
theorem spec_DeriveKey.eq : evFun spec_DeriveKey.cx Tryz.f249 spec_DeriveKey.ps spec_DeriveKey.rs = spec_DeriveKey.f := by kernel_rfl
theorem laws_toNumberedPacket.eq : evFun laws_toNumberedPacket.cx Tryz.f236 laws_toNumberedPacket.ps laws_toNumberedPacket.rs = laws_toNumberedPacket.f := by kernel_rfl
theorem impl_KeyForPath.eq : evFun impl_KeyForPath.cx Tryz.f243 impl_KeyForPath.ps impl_KeyForPath.rs = impl_KeyForPath.f := by kernel_rfl
theorem spec_SignalingKeyPath.eq : evFun spec_SignalingKeyPath.cx Tryz.f235 spec_SignalingKeyPath.ps spec_SignalingKeyPath.rs = spec_SignalingKeyPath.f := by kernel_rfl
end Go.Proofs.YtbgkgnhlfmidhaaGreat.XS
/- Each function, evaluated, is the plain Lean one. -/
set_option linter.unusedVariables false
set_option maxRecDepth 100000
namespace Go.Proofs.YtbgkgnhlfmidhaaGreat.XS
open Go Go.Proofs.XTv Go.Proofs.XF
theorem laws_eqDevice.eq : evFun laws_eqDevice.cx Tryz.f14 laws_eqDevice.ps laws_eqDevice.rs = laws_eqDevice.f := by kernel_rfl
theorem spec_l24Sents.eq : evFun spec_l24Sents.cx Tryz.f227 spec_l24Sents.ps spec_l24Sents.rs = spec_l24Sents.f := by kernel_rfl
theorem laws_markNumberedPacketS.eq : evFun laws_markNumberedPacketS.cx Tryz.f155 laws_markNumberedPacketS.ps laws_markNumberedPacketS.rs = laws_markNumberedPacketS.f := by kernel_rfl
theorem laws_eqNumberedPacketS.eq : evFun laws_eqNumberedPacketS.cx Tryz.f154 laws_eqNumberedPacketS.ps laws_eqNumberedPacketS.rs = laws_eqNumberedPacketS.f := by kernel_rfl
theorem laws_eqSignalS.eq : evFun laws_eqSignalS.cx Tryz.f65 laws_eqSignalS.ps laws_eqSignalS.rs = laws_eqSignalS.f := by kernel_rfl
theorem laws_szNumberedPacketS.eq : evFun laws_szNumberedPacketS.cx Tryz.f139 laws_szNumberedPacketS.ps laws_szNumberedPacketS.rs = laws_szNumberedPacketS.f := by kernel_rfl
theorem laws_eqByteS.eq : evFun laws_eqByteS.cx Tryz.f171 laws_eqByteS.ps laws_eqByteS.rs = laws_eqByteS.f := by kernel_rfl
theorem spec_Hash.eq : evFun spec_Hash.cx Tryz.f281 spec_Hash.ps spec_Hash.rs = spec_Hash.f := by kernel_rfl
theorem laws_markDeviceResult.eq : evFun laws_markDeviceResult.cx Tryz.f16 laws_markDeviceResult.ps laws_markDeviceResult.rs = laws_markDeviceResult.f := by kernel_rfl
theorem spec_KeyForPath.eq : evFun spec_KeyForPath.cx Tryz.f234 spec_KeyForPath.ps spec_KeyForPath.rs = spec_KeyForPath.f := by kernel_rfl
theorem laws_eqAuthVector.eq : evFun laws_eqAuthVector.cx Tryz.f105 laws_eqAuthVector.ps laws_eqAuthVector.rs = laws_eqAuthVector.f := by kernel_rfl
theorem impl_IsValidUSIM.eq : evFun impl_IsValidUSIM.cx Tryz.f237 impl_IsValidUSIM.ps impl_IsValidUSIM.rs = impl_IsValidUSIM.f := by kernel_rfl
theorem impl_SignalMAC.eq : evFun impl_SignalMAC.cx Tryz.f150 impl_SignalMAC.ps impl_SignalMAC.rs = impl_SignalMAC.f := by kernel_rfl
theorem spec_l29Send.eq : evFun spec_l29Send.cx Tryz.f54 spec_l29Send.ps spec_l29Send.rs = spec_l29Send.f := by kernel_rfl
theorem laws_markReceiveWindow.eq : evFun laws_markReceiveWindow.cx Tryz.f68 laws_markReceiveWindow.ps laws_markReceiveWindow.rs = laws_markReceiveWindow.f := by kernel_rfl
theorem spec_UnmaskSequence.eq : evFun spec_UnmaskSequence.cx Tryz.f230 spec_UnmaskSequence.ps spec_UnmaskSequence.rs = spec_UnmaskSequence.f := by kernel_rfl
theorem impl_IsValidSubscriberID.eq : evFun impl_IsValidSubscriberID.cx Tryz.f273 impl_IsValidSubscriberID.ps impl_IsValidSubscriberID.rs = impl_IsValidSubscriberID.f := by kernel_rfl
theorem laws_toReceiveWindow.eq : evFun laws_toReceiveWindow.cx Tryz.f57 laws_toReceiveWindow.ps laws_toReceiveWindow.rs = laws_toReceiveWindow.f := by kernel_rfl
theorem impl_SequenceMask.eq : evFun impl_SequenceMask.cx Tryz.f283 impl_SequenceMask.ps impl_SequenceMask.rs = impl_SequenceMask.f := by kernel_rfl
theorem laws_szNumberedPacket.eq : evFun laws_szNumberedPacket.cx Tryz.f226 laws_szNumberedPacket.ps laws_szNumberedPacket.rs = laws_szNumberedPacket.f := by kernel_rfl
theorem impl_VerifySignal.eq : evFun impl_VerifySignal.cx Tryz.f63 impl_VerifySignal.ps impl_VerifySignal.rs = impl_VerifySignal.f := by kernel_rfl
theorem spec_l1In.eq : evFun spec_l1In.cx Tryz.f140 spec_l1In.ps spec_l1In.rs = spec_l1In.f := by kernel_rfl
theorem spec_IsValidKey.eq : evFun spec_IsValidKey.cx Tryz.f51 spec_IsValidKey.ps spec_IsValidKey.rs = spec_IsValidKey.f := by kernel_rfl
theorem impl_SignalingKeyPath.eq : evFun impl_SignalingKeyPath.cx Tryz.f244 impl_SignalingKeyPath.ps impl_SignalingKeyPath.rs = impl_SignalingKeyPath.f := by kernel_rfl
end Go.Proofs.YtbgkgnhlfmidhaaGreat.XS
/- Each function of the program does what the plain Lean one says. -/
set_option linter.unusedVariables false
set_option maxRecDepth 100000
namespace Go.Proofs.YtbgkgnhlfmidhaaGreat.XS
open Go Go.Proofs.XTv Go.Proofs.XF
def ConsOk (P : Program) (l : List (Nat × Con)) : Prop := ∀ p ∈ l, Sound P p.1 p.2
theorem con_nil {P : Program} : ConsOk P [] := fun p hp => by cases hp
theorem con_cons {P : Program} {n : Nat} {C : Con} {l : List (Nat × Con)} (h : Sound P n C) (hl : ConsOk P l) : ConsOk P ((n, C) :: l) := fun p hp => by
  rcases List.mem_cons.1 hp with rfl | hp
  · exact h
  · exact hl p hp
theorem con_look {P : Program} {l : List (Nat × Con)} (hl : ConsOk P l) {n : Nat} {C : Con} (h : look l n = some C) : Sound P n C := hl _ (look_mem h)
theorem laws_szByteS.sound : Sound Tryz.prog 157 laws_szByteS.con := by
  have h := fun_sound (Γ := laws_szByteS.cx) (cx_ok.same rfl rfl) (fun n C h => con_look (con_nil) h) Tryz.checked.mixed Tryz.func157 (by kernel_rfl) (ps := laws_szByteS.ps) (rs := laws_szByteS.rs) (by kernel_rfl) (by kernel_rfl) (by kernel_rfl)
  rw [laws_szByteS.eq] at h
  exact h
theorem laws_szPayload.sound : Sound Tryz.prog 174 laws_szPayload.con := by
  have h := fun_sound (Γ := laws_szPayload.cx) (cx_ok.same rfl rfl) (fun n C h => con_look (con_cons laws_szByteS.sound con_nil) h) Tryz.checked.mixed Tryz.func174 (by kernel_rfl) (ps := laws_szPayload.ps) (rs := laws_szPayload.rs) (by kernel_rfl) (by kernel_rfl) (by kernel_rfl)
  rw [laws_szPayload.eq] at h
  exact h
theorem laws_szPayloadS.sound : Sound Tryz.prog 83 laws_szPayloadS.con := by
  have h := fun_sound (Γ := laws_szPayloadS.cx) (cx_ok.same rfl rfl) (fun n C h => con_look (con_cons laws_szPayload.sound con_nil) h) Tryz.checked.mixed Tryz.func83 (by kernel_rfl) (ps := laws_szPayloadS.ps) (rs := laws_szPayloadS.rs) (by kernel_rfl) (by kernel_rfl) (by kernel_rfl)
  rw [laws_szPayloadS.eq] at h
  exact h
theorem laws_szNumberedPacket.sound : Sound Tryz.prog 226 laws_szNumberedPacket.con := by
  have h := fun_sound (Γ := laws_szNumberedPacket.cx) (cx_ok.same rfl rfl) (fun n C h => con_look (con_cons laws_szByteS.sound con_nil) h) Tryz.checked.mixed Tryz.func226 (by kernel_rfl) (ps := laws_szNumberedPacket.ps) (rs := laws_szNumberedPacket.rs) (by kernel_rfl) (by kernel_rfl) (by kernel_rfl)
  rw [laws_szNumberedPacket.eq] at h
  exact h
theorem laws_szNumberedPacketS.sound : Sound Tryz.prog 139 laws_szNumberedPacketS.con := by
  have h := fun_sound (Γ := laws_szNumberedPacketS.cx) (cx_ok.same rfl rfl) (fun n C h => con_look (con_cons laws_szNumberedPacket.sound con_nil) h) Tryz.checked.mixed Tryz.func139 (by kernel_rfl) (ps := laws_szNumberedPacketS.ps) (rs := laws_szNumberedPacketS.rs) (by kernel_rfl) (by kernel_rfl) (by kernel_rfl)
  rw [laws_szNumberedPacketS.eq] at h
  exact h
theorem laws_szReceiveWindow.sound : Sound Tryz.prog 46 laws_szReceiveWindow.con := by
  have h := fun_sound (Γ := laws_szReceiveWindow.cx) (cx_ok.same rfl rfl) (fun n C h => con_look (con_cons laws_szPayloadS.sound (con_cons laws_szNumberedPacketS.sound con_nil)) h) Tryz.checked.mixed Tryz.func46 (by kernel_rfl) (ps := laws_szReceiveWindow.ps) (rs := laws_szReceiveWindow.rs) (by kernel_rfl) (by kernel_rfl) (by kernel_rfl)
  rw [laws_szReceiveWindow.eq] at h
  exact h
theorem laws_szDevice.sound : Sound Tryz.prog 8 laws_szDevice.con := by
  have h := fun_sound (Γ := laws_szDevice.cx) (cx_ok.same rfl rfl) (fun n C h => con_look (con_cons laws_szReceiveWindow.sound con_nil) h) Tryz.checked.mixed Tryz.func8 (by kernel_rfl) (ps := laws_szDevice.ps) (rs := laws_szDevice.rs) (by kernel_rfl) (by kernel_rfl) (by kernel_rfl)
  rw [laws_szDevice.eq] at h
  exact h
theorem spec_l1In.sound : Sound Tryz.prog 140 spec_l1In.con := by
  have h := fun_sound (Γ := spec_l1In.cx) (cx_ok.same rfl rfl) (fun n C h => con_look (con_nil) h) Tryz.checked.mixed Tryz.func140 (by kernel_rfl) (ps := spec_l1In.ps) (rs := spec_l1In.rs) (by kernel_rfl) (by kernel_rfl) (by kernel_rfl)
  rw [spec_l1In.eq] at h
  exact h
theorem spec_IsValidSignal.sound : Sound Tryz.prog 47 spec_IsValidSignal.con := by
  have h := fun_sound (Γ := spec_IsValidSignal.cx) (cx_ok.same rfl rfl) (fun n C h => con_look (con_cons spec_l1In.sound con_nil) h) Tryz.checked.mixed Tryz.func47 (by kernel_rfl) (ps := spec_IsValidSignal.ps) (rs := spec_IsValidSignal.rs) (by kernel_rfl) (by kernel_rfl) (by kernel_rfl)
  rw [spec_IsValidSignal.eq] at h
  exact h
theorem spec_l15Bodies.sound : Sound Tryz.prog 176 spec_l15Bodies.con := by
  have h := fun_sound (Γ := spec_l15Bodies.cx) (cx_ok.same rfl rfl) (fun n C h => con_look (con_nil) h) Tryz.checked.mixed Tryz.func176 (by kernel_rfl) (ps := spec_l15Bodies.ps) (rs := spec_l15Bodies.rs) (by kernel_rfl) (by kernel_rfl) (by kernel_rfl)
  rw [spec_l15Bodies.eq] at h
  exact h
theorem spec_l24Sents.sound : Sound Tryz.prog 227 spec_l24Sents.con := by
  have h := fun_sound (Γ := spec_l24Sents.cx) (cx_ok.same rfl rfl) (fun n C h => con_look (con_nil) h) Tryz.checked.mixed Tryz.func227 (by kernel_rfl) (ps := spec_l24Sents.ps) (rs := spec_l24Sents.rs) (by kernel_rfl) (by kernel_rfl) (by kernel_rfl)
  rw [spec_l24Sents.eq] at h
  exact h
theorem spec_l24Recv.sound : Sound Tryz.prog 141 spec_l24Recv.con := by
  have h := fun_sound (Γ := spec_l24Recv.cx) (cx_ok.same rfl rfl) (fun n C h => con_look (con_cons spec_l15Bodies.sound (con_cons spec_l24Sents.sound con_nil)) h) Tryz.checked.mixed Tryz.func141 (by kernel_rfl) (ps := spec_l24Recv.ps) (rs := spec_l24Recv.rs) (by kernel_rfl) (by kernel_rfl) (by kernel_rfl)
  rw [spec_l24Recv.eq] at h
  exact h
theorem spec_l29Copy.sound : Sound Tryz.prog 49 spec_l29Copy.con := by
  have h := fun_sound (Γ := spec_l29Copy.cx) (cx_ok.same rfl rfl) (fun n C h => con_look (con_cons spec_l24Recv.sound con_nil) h) Tryz.checked.mixed Tryz.func49 (by kernel_rfl) (ps := spec_l29Copy.ps) (rs := spec_l29Copy.rs) (by kernel_rfl) (by kernel_rfl) (by kernel_rfl)
  rw [spec_l29Copy.eq] at h
  exact h
theorem spec_l29None.sound : Sound Tryz.prog 48 spec_l29None.con := by
  have h := fun_sound (Γ := spec_l29None.cx) (cx_ok.same rfl rfl) (fun n C h => con_look (con_cons spec_l29Copy.sound con_nil) h) Tryz.checked.mixed Tryz.func48 (by kernel_rfl) (ps := spec_l29None.ps) (rs := spec_l29None.rs) (by kernel_rfl) (by kernel_rfl) (by kernel_rfl)
  rw [spec_l29None.eq] at h
  exact h
theorem spec_IsValidKey.sound : Sound Tryz.prog 51 spec_IsValidKey.con := by
  have h := fun_sound (Γ := spec_IsValidKey.cx) (cx_ok.same rfl rfl) (fun n C h => con_look (con_cons spec_l1In.sound con_nil) h) Tryz.checked.mixed Tryz.func51 (by kernel_rfl) (ps := spec_IsValidKey.ps) (rs := spec_IsValidKey.rs) (by kernel_rfl) (by kernel_rfl) (by kernel_rfl)
  rw [spec_IsValidKey.eq] at h
  exact h
theorem spec_IsValidSubscriberID.sound : Sound Tryz.prog 278 spec_IsValidSubscriberID.con := by
  have h := fun_sound (Γ := spec_IsValidSubscriberID.cx) (cx_ok.same rfl rfl) (fun n C h => con_look (con_cons spec_l1In.sound con_nil) h) Tryz.checked.mixed Tryz.func278 (by kernel_rfl) (ps := spec_IsValidSubscriberID.ps) (rs := spec_IsValidSubscriberID.rs) (by kernel_rfl) (by kernel_rfl) (by kernel_rfl)
  rw [spec_IsValidSubscriberID.eq] at h
  exact h
theorem spec_IsValidUSIM.sound : Sound Tryz.prog 228 spec_IsValidUSIM.con := by
  have h := fun_sound (Γ := spec_IsValidUSIM.cx) (cx_ok.same rfl rfl) (fun n C h => con_look (con_cons spec_IsValidKey.sound (con_cons spec_l1In.sound (con_cons spec_IsValidSubscriberID.sound con_nil))) h) Tryz.checked.mixed Tryz.func228 (by kernel_rfl) (ps := spec_IsValidUSIM.ps) (rs := spec_IsValidUSIM.rs) (by kernel_rfl) (by kernel_rfl) (by kernel_rfl)
  rw [spec_IsValidUSIM.eq] at h
  exact h
theorem spec_Mod.sound : Sound Tryz.prog 279 spec_Mod.con := by
  have h := fun_sound (Γ := spec_Mod.cx) (cx_ok.same rfl rfl) (fun n C h => con_look (con_cons spec_l1In.sound con_nil) h) Tryz.checked.mixed Tryz.func279 (by kernel_rfl) (ps := spec_Mod.ps) (rs := spec_Mod.rs) (by kernel_rfl) (by kernel_rfl) (by kernel_rfl)
  rw [spec_Mod.eq] at h
  exact h
theorem spec_Hash.sound : Sound Tryz.prog 281 spec_Hash.con := by
  have h := fun_sound (Γ := spec_Hash.cx) (cx_ok.same rfl rfl) (fun n C h => con_look (con_cons spec_Mod.sound con_nil) h) Tryz.checked.mixed Tryz.func281 (by kernel_rfl) (ps := spec_Hash.ps) (rs := spec_Hash.rs) (by kernel_rfl) (by kernel_rfl) (by kernel_rfl)
  rw [spec_Hash.eq] at h
  exact h
theorem spec_KeyedHash.sound : Sound Tryz.prog 231 spec_KeyedHash.con := by
  have h := fun_sound (Γ := spec_KeyedHash.cx) (cx_ok.same rfl rfl) (fun n C h => con_look (con_cons spec_Hash.sound con_nil) h) Tryz.checked.mixed Tryz.func231 (by kernel_rfl) (ps := spec_KeyedHash.ps) (rs := spec_KeyedHash.rs) (by kernel_rfl) (by kernel_rfl) (by kernel_rfl)
  rw [spec_KeyedHash.eq] at h
  exact h
theorem spec_SequenceMask.sound : Sound Tryz.prog 280 spec_SequenceMask.con := by
  have h := fun_sound (Γ := spec_SequenceMask.cx) (cx_ok.same rfl rfl) (fun n C h => con_look (con_cons spec_KeyedHash.sound (con_cons spec_Mod.sound con_nil)) h) Tryz.checked.mixed Tryz.func280 (by kernel_rfl) (ps := spec_SequenceMask.ps) (rs := spec_SequenceMask.rs) (by kernel_rfl) (by kernel_rfl) (by kernel_rfl)
  rw [spec_SequenceMask.eq] at h
  exact h
theorem spec_UnmaskSequence.sound : Sound Tryz.prog 230 spec_UnmaskSequence.con := by
  have h := fun_sound (Γ := spec_UnmaskSequence.cx) (cx_ok.same rfl rfl) (fun n C h => con_look (con_cons spec_Mod.sound (con_cons spec_SequenceMask.sound con_nil)) h) Tryz.checked.mixed Tryz.func230 (by kernel_rfl) (ps := spec_UnmaskSequence.ps) (rs := spec_UnmaskSequence.rs) (by kernel_rfl) (by kernel_rfl) (by kernel_rfl)
  rw [spec_UnmaskSequence.eq] at h
  exact h
theorem spec_VerifyVector.sound : Sound Tryz.prog 229 spec_VerifyVector.con := by
  have h := fun_sound (Γ := spec_VerifyVector.cx) (cx_ok.same rfl rfl) (fun n C h => con_look (con_cons spec_UnmaskSequence.sound (con_cons spec_KeyedHash.sound con_nil)) h) Tryz.checked.mixed Tryz.func229 (by kernel_rfl) (ps := spec_VerifyVector.ps) (rs := spec_VerifyVector.rs) (by kernel_rfl) (by kernel_rfl) (by kernel_rfl)
  rw [spec_VerifyVector.eq] at h
  exact h
theorem spec_Max.sound : Sound Tryz.prog 90 spec_Max.con := by
  have h := fun_sound (Γ := spec_Max.cx) (cx_ok.same rfl rfl) (fun n C h => con_look (con_nil) h) Tryz.checked.mixed Tryz.func90 (by kernel_rfl) (ps := spec_Max.ps) (rs := spec_Max.rs) (by kernel_rfl) (by kernel_rfl) (by kernel_rfl)
  rw [spec_Max.eq] at h
  exact h
theorem spec_NewAuthVector.sound : Sound Tryz.prog 232 spec_NewAuthVector.con := by
  have h := fun_sound (Γ := spec_NewAuthVector.cx) (cx_ok.same rfl rfl) (fun n C h => con_look (con_cons spec_Max.sound (con_cons spec_l1In.sound (con_cons spec_KeyedHash.sound (con_cons spec_Mod.sound (con_cons spec_SequenceMask.sound con_nil))))) h) Tryz.checked.mixed Tryz.func232 (by kernel_rfl) (ps := spec_NewAuthVector.ps) (rs := spec_NewAuthVector.rs) (by kernel_rfl) (by kernel_rfl) (by kernel_rfl)
  rw [spec_NewAuthVector.eq] at h
  exact h
theorem spec_ResyncToken.sound : Sound Tryz.prog 233 spec_ResyncToken.con := by
  have h := fun_sound (Γ := spec_ResyncToken.cx) (cx_ok.same rfl rfl) (fun n C h => con_look (con_cons spec_l1In.sound (con_cons spec_KeyedHash.sound (con_cons spec_Mod.sound con_nil))) h) Tryz.checked.mixed Tryz.func233 (by kernel_rfl) (ps := spec_ResyncToken.ps) (rs := spec_ResyncToken.rs) (by kernel_rfl) (by kernel_rfl) (by kernel_rfl)
  rw [spec_ResyncToken.eq] at h
  exact h
theorem spec_RespondToChallenge.sound : Sound Tryz.prog 142 spec_RespondToChallenge.con := by
  have h := fun_sound (Γ := spec_RespondToChallenge.cx) (cx_ok.same rfl rfl) (fun n C h => con_look (con_cons spec_IsValidUSIM.sound (con_cons spec_VerifyVector.sound (con_cons spec_UnmaskSequence.sound (con_cons spec_KeyedHash.sound (con_cons spec_NewAuthVector.sound (con_cons spec_ResyncToken.sound con_nil)))))) h) Tryz.checked.mixed Tryz.func142 (by kernel_rfl) (ps := spec_RespondToChallenge.ps) (rs := spec_RespondToChallenge.rs) (by kernel_rfl) (by kernel_rfl) (by kernel_rfl)
  rw [spec_RespondToChallenge.eq] at h
  exact h
theorem spec_l29Asked.sound : Sound Tryz.prog 50 spec_l29Asked.con := by
  have h := fun_sound (Γ := spec_l29Asked.cx) (cx_ok.same rfl rfl) (fun n C h => con_look (con_cons spec_l29Copy.sound (con_cons spec_RespondToChallenge.sound con_nil)) h) Tryz.checked.mixed Tryz.func50 (by kernel_rfl) (ps := spec_l29Asked.ps) (rs := spec_l29Asked.rs) (by kernel_rfl) (by kernel_rfl) (by kernel_rfl)
  rw [spec_l29Asked.eq] at h
  exact h
theorem spec_DeriveKey.sound : Sound Tryz.prog 249 spec_DeriveKey.con := by
  have h := fun_sound (Γ := spec_DeriveKey.cx) (cx_ok.same rfl rfl) (fun n C h => con_look (con_cons spec_Max.sound (con_cons spec_KeyedHash.sound con_nil)) h) Tryz.checked.mixed Tryz.func249 (by kernel_rfl) (ps := spec_DeriveKey.ps) (rs := spec_DeriveKey.rs) (by kernel_rfl) (by kernel_rfl) (by kernel_rfl)
  rw [spec_DeriveKey.eq] at h
  exact h
theorem spec_KeyForPath.sound : Sound Tryz.prog 234 spec_KeyForPath.con := by
  have h := fun_sound (Γ := spec_KeyForPath.cx) (cx_ok.same rfl rfl) (fun n C h => con_look (con_cons spec_DeriveKey.sound con_nil) h) Tryz.checked.mixed Tryz.func234 (by kernel_rfl) (ps := spec_KeyForPath.ps) (rs := spec_KeyForPath.rs) (by kernel_rfl) (by kernel_rfl) (by kernel_rfl)
  rw [spec_KeyForPath.eq] at h
  exact h
theorem spec_SignalingKeyPath.sound : Sound Tryz.prog 235 spec_SignalingKeyPath.con := by
  have h := fun_sound (Γ := spec_SignalingKeyPath.cx) (cx_ok.same rfl rfl) (fun n C h => con_look (con_nil) h) Tryz.checked.mixed Tryz.func235 (by kernel_rfl) (ps := spec_SignalingKeyPath.ps) (rs := spec_SignalingKeyPath.rs) (by kernel_rfl) (by kernel_rfl) (by kernel_rfl)
  rw [spec_SignalingKeyPath.eq] at h
  exact h
theorem spec_SignalMAC.sound : Sound Tryz.prog 143 spec_SignalMAC.con := by
  have h := fun_sound (Γ := spec_SignalMAC.cx) (cx_ok.same rfl rfl) (fun n C h => con_look (con_cons spec_KeyedHash.sound (con_cons spec_KeyForPath.sound (con_cons spec_SignalingKeyPath.sound con_nil))) h) Tryz.checked.mixed Tryz.func143 (by kernel_rfl) (ps := spec_SignalMAC.ps) (rs := spec_SignalMAC.rs) (by kernel_rfl) (by kernel_rfl) (by kernel_rfl)
  rw [spec_SignalMAC.eq] at h
  exact h
theorem spec_VerifySignal.sound : Sound Tryz.prog 52 spec_VerifySignal.con := by
  have h := fun_sound (Γ := spec_VerifySignal.cx) (cx_ok.same rfl rfl) (fun n C h => con_look (con_cons spec_SignalMAC.sound con_nil) h) Tryz.checked.mixed Tryz.func52 (by kernel_rfl) (ps := spec_VerifySignal.ps) (rs := spec_VerifySignal.rs) (by kernel_rfl) (by kernel_rfl) (by kernel_rfl)
  rw [spec_VerifySignal.eq] at h
  exact h
theorem spec_l29Send.sound : Sound Tryz.prog 54 spec_l29Send.con := by
  have h := fun_sound (Γ := spec_l29Send.cx) (cx_ok.same rfl rfl) (fun n C h => con_look (con_nil) h) Tryz.checked.mixed Tryz.func54 (by kernel_rfl) (ps := spec_l29Send.ps) (rs := spec_l29Send.rs) (by kernel_rfl) (by kernel_rfl) (by kernel_rfl)
  rw [spec_l29Send.eq] at h
  exact h
theorem spec_SignSignal.sound : Sound Tryz.prog 75 spec_SignSignal.con := by
  have h := fun_sound (Γ := spec_SignSignal.cx) (cx_ok.same rfl rfl) (fun n C h => con_look (con_cons spec_SignalMAC.sound con_nil) h) Tryz.checked.mixed Tryz.func75 (by kernel_rfl) (ps := spec_SignSignal.ps) (rs := spec_SignSignal.rs) (by kernel_rfl) (by kernel_rfl) (by kernel_rfl)
  rw [spec_SignSignal.eq] at h
  exact h
theorem spec_l29Path.sound : Sound Tryz.prog 55 spec_l29Path.con := by
  have h := fun_sound (Γ := spec_l29Path.cx) (cx_ok.same rfl rfl) (fun n C h => con_look (con_cons spec_SignSignal.sound con_nil) h) Tryz.checked.mixed Tryz.func55 (by kernel_rfl) (ps := spec_l29Path.ps) (rs := spec_l29Path.rs) (by kernel_rfl) (by kernel_rfl) (by kernel_rfl)
  rw [spec_l29Path.eq] at h
  exact h
theorem spec_l29Next.sound : Sound Tryz.prog 53 spec_l29Next.con := by
  have h := fun_sound (Γ := spec_l29Next.cx) (cx_ok.same rfl rfl) (fun n C h => con_look (con_cons spec_l29Send.sound (con_cons spec_l29Path.sound con_nil)) h) Tryz.checked.mixed Tryz.func53 (by kernel_rfl) (ps := spec_l29Next.ps) (rs := spec_l29Next.rs) (by kernel_rfl) (by kernel_rfl) (by kernel_rfl)
  rw [spec_l29Next.eq] at h
  exact h
theorem spec_ReceiveSignal.sound : Sound Tryz.prog 9 spec_ReceiveSignal.con := by
  have h := fun_sound (Γ := spec_ReceiveSignal.cx) (cx_ok.same rfl rfl) (fun n C h => con_look (con_cons spec_IsValidSignal.sound (con_cons spec_l29None.sound (con_cons spec_l29Copy.sound (con_cons spec_l29Asked.sound (con_cons spec_IsValidKey.sound (con_cons spec_VerifySignal.sound (con_cons spec_l29Next.sound (con_cons spec_l29Send.sound (con_cons spec_l29Path.sound con_nil))))))))) h) Tryz.checked.mixed Tryz.func9 (by kernel_rfl) (ps := spec_ReceiveSignal.ps) (rs := spec_ReceiveSignal.rs) (by kernel_rfl) (by kernel_rfl) (by kernel_rfl)
  rw [spec_ReceiveSignal.eq] at h
  exact h
theorem laws_toSubscriberID.sound : Sound Tryz.prog 144 laws_toSubscriberID.con := by
  have h := fun_sound (Γ := laws_toSubscriberID.cx) (cx_ok.same rfl rfl) (fun n C h => con_look (con_nil) h) Tryz.checked.mixed Tryz.func144 (by kernel_rfl) (ps := laws_toSubscriberID.ps) (rs := laws_toSubscriberID.rs) (by kernel_rfl) (by kernel_rfl) (by kernel_rfl)
  rw [laws_toSubscriberID.eq] at h
  exact h
theorem laws_toUSIM.sound : Sound Tryz.prog 56 laws_toUSIM.con := by
  have h := fun_sound (Γ := laws_toUSIM.cx) (cx_ok.same rfl rfl) (fun n C h => con_look (con_cons laws_toSubscriberID.sound con_nil) h) Tryz.checked.mixed Tryz.func56 (by kernel_rfl) (ps := laws_toUSIM.ps) (rs := laws_toUSIM.rs) (by kernel_rfl) (by kernel_rfl) (by kernel_rfl)
  rw [laws_toUSIM.eq] at h
  exact h
theorem laws_toByteS.sound : Sound Tryz.prog 163 laws_toByteS.con := by
  have h := fun_sound (Γ := laws_toByteS.cx) (cx_ok.same rfl rfl) (fun n C h => con_look (con_nil) h) Tryz.checked.mixed Tryz.func163 (by kernel_rfl) (ps := laws_toByteS.ps) (rs := laws_toByteS.rs) (by kernel_rfl) (by kernel_rfl) (by kernel_rfl)
  rw [laws_toByteS.eq] at h
  exact h
theorem laws_toPayload.sound : Sound Tryz.prog 184 laws_toPayload.con := by
  have h := fun_sound (Γ := laws_toPayload.cx) (cx_ok.same rfl rfl) (fun n C h => con_look (con_cons laws_toByteS.sound con_nil) h) Tryz.checked.mixed Tryz.func184 (by kernel_rfl) (ps := laws_toPayload.ps) (rs := laws_toPayload.rs) (by kernel_rfl) (by kernel_rfl) (by kernel_rfl)
  rw [laws_toPayload.eq] at h
  exact h
theorem laws_toPayloadS.sound : Sound Tryz.prog 94 laws_toPayloadS.con := by
  have h := fun_sound (Γ := laws_toPayloadS.cx) (cx_ok.same rfl rfl) (fun n C h => con_look (con_cons laws_toPayload.sound con_nil) h) Tryz.checked.mixed Tryz.func94 (by kernel_rfl) (ps := laws_toPayloadS.ps) (rs := laws_toPayloadS.rs) (by kernel_rfl) (by kernel_rfl) (by kernel_rfl)
  rw [laws_toPayloadS.eq] at h
  exact h
theorem laws_toNumberedPacket.sound : Sound Tryz.prog 236 laws_toNumberedPacket.con := by
  have h := fun_sound (Γ := laws_toNumberedPacket.cx) (cx_ok.same rfl rfl) (fun n C h => con_look (con_cons laws_toByteS.sound con_nil) h) Tryz.checked.mixed Tryz.func236 (by kernel_rfl) (ps := laws_toNumberedPacket.ps) (rs := laws_toNumberedPacket.rs) (by kernel_rfl) (by kernel_rfl) (by kernel_rfl)
  rw [laws_toNumberedPacket.eq] at h
  exact h
theorem laws_toNumberedPacketS.sound : Sound Tryz.prog 145 laws_toNumberedPacketS.con := by
  have h := fun_sound (Γ := laws_toNumberedPacketS.cx) (cx_ok.same rfl rfl) (fun n C h => con_look (con_cons laws_toNumberedPacket.sound con_nil) h) Tryz.checked.mixed Tryz.func145 (by kernel_rfl) (ps := laws_toNumberedPacketS.ps) (rs := laws_toNumberedPacketS.rs) (by kernel_rfl) (by kernel_rfl) (by kernel_rfl)
  rw [laws_toNumberedPacketS.eq] at h
  exact h
theorem laws_toReceiveWindow.sound : Sound Tryz.prog 57 laws_toReceiveWindow.con := by
  have h := fun_sound (Γ := laws_toReceiveWindow.cx) (cx_ok.same rfl rfl) (fun n C h => con_look (con_cons laws_toPayloadS.sound (con_cons laws_toNumberedPacketS.sound con_nil)) h) Tryz.checked.mixed Tryz.func57 (by kernel_rfl) (ps := laws_toReceiveWindow.ps) (rs := laws_toReceiveWindow.rs) (by kernel_rfl) (by kernel_rfl) (by kernel_rfl)
  rw [laws_toReceiveWindow.eq] at h
  exact h
theorem laws_toDevice.sound : Sound Tryz.prog 10 laws_toDevice.con := by
  have h := fun_sound (Γ := laws_toDevice.cx) (cx_ok.same rfl rfl) (fun n C h => con_look (con_cons laws_toUSIM.sound (con_cons laws_toReceiveWindow.sound con_nil)) h) Tryz.checked.mixed Tryz.func10 (by kernel_rfl) (ps := laws_toDevice.ps) (rs := laws_toDevice.rs) (by kernel_rfl) (by kernel_rfl) (by kernel_rfl)
  rw [laws_toDevice.eq] at h
  exact h
theorem laws_toAuthVector.sound : Sound Tryz.prog 58 laws_toAuthVector.con := by
  have h := fun_sound (Γ := laws_toAuthVector.cx) (cx_ok.same rfl rfl) (fun n C h => con_look (con_nil) h) Tryz.checked.mixed Tryz.func58 (by kernel_rfl) (ps := laws_toAuthVector.ps) (rs := laws_toAuthVector.rs) (by kernel_rfl) (by kernel_rfl) (by kernel_rfl)
  rw [laws_toAuthVector.eq] at h
  exact h
theorem laws_toSignal.sound : Sound Tryz.prog 11 laws_toSignal.con := by
  have h := fun_sound (Γ := laws_toSignal.cx) (cx_ok.same rfl rfl) (fun n C h => con_look (con_cons laws_toAuthVector.sound con_nil) h) Tryz.checked.mixed Tryz.func11 (by kernel_rfl) (ps := laws_toSignal.ps) (rs := laws_toSignal.rs) (by kernel_rfl) (by kernel_rfl) (by kernel_rfl)
  rw [laws_toSignal.eq] at h
  exact h
theorem impl_InRange.sound : Sound Tryz.prog 146 impl_InRange.con := by
  have h := fun_sound (Γ := impl_InRange.cx) (cx_ok.same rfl rfl) (fun n C h => con_look (con_nil) h) Tryz.checked.mixed Tryz.func146 (by kernel_rfl) (ps := impl_InRange.ps) (rs := impl_InRange.rs) (by kernel_rfl) (by kernel_rfl) (by kernel_rfl)
  rw [impl_InRange.eq] at h
  exact h
theorem impl_IsValidSignal.sound : Sound Tryz.prog 59 impl_IsValidSignal.con := by
  have h := fun_sound (Γ := impl_IsValidSignal.cx) (cx_ok.same rfl rfl) (fun n C h => con_look (con_cons impl_InRange.sound con_nil) h) Tryz.checked.mixed Tryz.func59 (by kernel_rfl) (ps := impl_IsValidSignal.ps) (rs := impl_IsValidSignal.rs) (by kernel_rfl) (by kernel_rfl) (by kernel_rfl)
  rw [impl_IsValidSignal.eq] at h
  exact h
theorem impl_copyBytes.sound : Sound Tryz.prog 170 impl_copyBytes.con := by
  have h := fun_sound (Γ := impl_copyBytes.cx) (cx_ok.same rfl rfl) (fun n C h => con_look (con_nil) h) Tryz.checked.mixed Tryz.func170 (by kernel_rfl) (ps := impl_copyBytes.ps) (rs := impl_copyBytes.rs) (by kernel_rfl) (by kernel_rfl) (by kernel_rfl)
  rw [impl_copyBytes.eq] at h
  exact h
theorem impl_copyPayloads.sound : Sound Tryz.prog 187 impl_copyPayloads.con := by
  have h := fun_sound (Γ := impl_copyPayloads.cx) (cx_ok.same rfl rfl) (fun n C h => con_look (con_cons impl_copyBytes.sound con_nil) h) Tryz.checked.mixed Tryz.func187 (by kernel_rfl) (ps := impl_copyPayloads.ps) (rs := impl_copyPayloads.rs) (by kernel_rfl) (by kernel_rfl) (by kernel_rfl)
  rw [impl_copyPayloads.eq] at h
  exact h
theorem impl_copyNumbered.sound : Sound Tryz.prog 256 impl_copyNumbered.con := by
  have h := fun_sound (Γ := impl_copyNumbered.cx) (cx_ok.same rfl rfl) (fun n C h => con_look (con_cons impl_copyBytes.sound con_nil) h) Tryz.checked.mixed Tryz.func256 (by kernel_rfl) (ps := impl_copyNumbered.ps) (rs := impl_copyNumbered.rs) (by kernel_rfl) (by kernel_rfl) (by kernel_rfl)
  rw [impl_copyNumbered.eq] at h
  exact h
theorem impl_copyReceiver.sound : Sound Tryz.prog 167 impl_copyReceiver.con := by
  have h := fun_sound (Γ := impl_copyReceiver.cx) (cx_ok.same rfl rfl) (fun n C h => con_look (con_cons impl_copyPayloads.sound (con_cons impl_copyNumbered.sound con_nil)) h) Tryz.checked.mixed Tryz.func167 (by kernel_rfl) (ps := impl_copyReceiver.ps) (rs := impl_copyReceiver.rs) (by kernel_rfl) (by kernel_rfl) (by kernel_rfl)
  rw [impl_copyReceiver.eq] at h
  exact h
theorem impl_copyDevice.sound : Sound Tryz.prog 147 impl_copyDevice.con := by
  have h := fun_sound (Γ := impl_copyDevice.cx) (cx_ok.same rfl rfl) (fun n C h => con_look (con_cons impl_copyReceiver.sound con_nil) h) Tryz.checked.mixed Tryz.func147 (by kernel_rfl) (ps := impl_copyDevice.ps) (rs := impl_copyDevice.rs) (by kernel_rfl) (by kernel_rfl) (by kernel_rfl)
  rw [impl_copyDevice.eq] at h
  exact h
theorem impl_copyItems_impl_Signal.sound : Sound Tryz.prog 148 impl_copyItems_impl_Signal.con := by
  have h := fun_sound (Γ := impl_copyItems_impl_Signal.cx) (cx_ok.same rfl rfl) (fun n C h => con_look (con_nil) h) Tryz.checked.mixed Tryz.func148 (by kernel_rfl) (ps := impl_copyItems_impl_Signal.ps) (rs := impl_copyItems_impl_Signal.rs) (by kernel_rfl) (by kernel_rfl) (by kernel_rfl)
  rw [impl_copyItems_impl_Signal.eq] at h
  exact h
theorem impl_deviceResult.sound : Sound Tryz.prog 60 impl_deviceResult.con := by
  have h := fun_sound (Γ := impl_deviceResult.cx) (cx_ok.same rfl rfl) (fun n C h => con_look (con_cons impl_copyDevice.sound (con_cons impl_copyItems_impl_Signal.sound con_nil)) h) Tryz.checked.mixed Tryz.func60 (by kernel_rfl) (ps := impl_deviceResult.ps) (rs := impl_deviceResult.rs) (by kernel_rfl) (by kernel_rfl) (by kernel_rfl)
  rw [impl_deviceResult.eq] at h
  exact h
theorem impl_IsValidKey.sound : Sound Tryz.prog 62 impl_IsValidKey.con := by
  have h := fun_sound (Γ := impl_IsValidKey.cx) (cx_ok.same rfl rfl) (fun n C h => con_look (con_cons impl_InRange.sound con_nil) h) Tryz.checked.mixed Tryz.func62 (by kernel_rfl) (ps := impl_IsValidKey.ps) (rs := impl_IsValidKey.rs) (by kernel_rfl) (by kernel_rfl) (by kernel_rfl)
  rw [impl_IsValidKey.eq] at h
  exact h
theorem impl_IsValidSubscriberID.sound : Sound Tryz.prog 273 impl_IsValidSubscriberID.con := by
  have h := fun_sound (Γ := impl_IsValidSubscriberID.cx) (cx_ok.same rfl rfl) (fun n C h => con_look (con_cons impl_InRange.sound con_nil) h) Tryz.checked.mixed Tryz.func273 (by kernel_rfl) (ps := impl_IsValidSubscriberID.ps) (rs := impl_IsValidSubscriberID.rs) (by kernel_rfl) (by kernel_rfl) (by kernel_rfl)
  rw [impl_IsValidSubscriberID.eq] at h
  exact h
theorem impl_IsValidUSIM.sound : Sound Tryz.prog 237 impl_IsValidUSIM.con := by
  have h := fun_sound (Γ := impl_IsValidUSIM.cx) (cx_ok.same rfl rfl) (fun n C h => con_look (con_cons impl_IsValidKey.sound (con_cons impl_InRange.sound (con_cons impl_IsValidSubscriberID.sound con_nil))) h) Tryz.checked.mixed Tryz.func237 (by kernel_rfl) (ps := impl_IsValidUSIM.ps) (rs := impl_IsValidUSIM.rs) (by kernel_rfl) (by kernel_rfl) (by kernel_rfl)
  rw [impl_IsValidUSIM.eq] at h
  exact h
theorem impl_Mod.sound : Sound Tryz.prog 282 impl_Mod.con := by
  have h := fun_sound (Γ := impl_Mod.cx) (cx_ok.same rfl rfl) (fun n C h => con_look (con_cons impl_InRange.sound con_nil) h) Tryz.checked.mixed Tryz.func282 (by kernel_rfl) (ps := impl_Mod.ps) (rs := impl_Mod.rs) (by kernel_rfl) (by kernel_rfl) (by kernel_rfl)
  rw [impl_Mod.eq] at h
  exact h
theorem impl_hashStep.sound : Sound Tryz.prog 284 impl_hashStep.con := by
  have h := fun_sound (Γ := impl_hashStep.cx) (cx_ok.same rfl rfl) (fun n C h => con_look (con_cons impl_Mod.sound con_nil) h) Tryz.checked.mixed Tryz.func284 (by kernel_rfl) (ps := impl_hashStep.ps) (rs := impl_hashStep.rs) (by kernel_rfl) (by kernel_rfl) (by kernel_rfl)
  rw [impl_hashStep.eq] at h
  exact h
theorem impl_KeyedHash.sound : Sound Tryz.prog 240 impl_KeyedHash.con := by
  have h := fun_sound (Γ := impl_KeyedHash.cx) (cx_ok.same rfl rfl) (fun n C h => con_look (con_cons impl_hashStep.sound con_nil) h) Tryz.checked.mixed Tryz.func240 (by kernel_rfl) (ps := impl_KeyedHash.ps) (rs := impl_KeyedHash.rs) (by kernel_rfl) (by kernel_rfl) (by kernel_rfl)
  rw [impl_KeyedHash.eq] at h
  exact h
theorem impl_SequenceMask.sound : Sound Tryz.prog 283 impl_SequenceMask.con := by
  have h := fun_sound (Γ := impl_SequenceMask.cx) (cx_ok.same rfl rfl) (fun n C h => con_look (con_cons impl_KeyedHash.sound con_nil) h) Tryz.checked.mixed Tryz.func283 (by kernel_rfl) (ps := impl_SequenceMask.ps) (rs := impl_SequenceMask.rs) (by kernel_rfl) (by kernel_rfl) (by kernel_rfl)
  rw [impl_SequenceMask.eq] at h
  exact h
theorem impl_UnmaskSequence.sound : Sound Tryz.prog 239 impl_UnmaskSequence.con := by
  have h := fun_sound (Γ := impl_UnmaskSequence.cx) (cx_ok.same rfl rfl) (fun n C h => con_look (con_cons impl_Mod.sound (con_cons impl_SequenceMask.sound con_nil)) h) Tryz.checked.mixed Tryz.func239 (by kernel_rfl) (ps := impl_UnmaskSequence.ps) (rs := impl_UnmaskSequence.rs) (by kernel_rfl) (by kernel_rfl) (by kernel_rfl)
  rw [impl_UnmaskSequence.eq] at h
  exact h
theorem impl_VerifyVector.sound : Sound Tryz.prog 238 impl_VerifyVector.con := by
  have h := fun_sound (Γ := impl_VerifyVector.cx) (cx_ok.same rfl rfl) (fun n C h => con_look (con_cons impl_UnmaskSequence.sound (con_cons impl_KeyedHash.sound con_nil)) h) Tryz.checked.mixed Tryz.func238 (by kernel_rfl) (ps := impl_VerifyVector.ps) (rs := impl_VerifyVector.rs) (by kernel_rfl) (by kernel_rfl) (by kernel_rfl)
  rw [impl_VerifyVector.eq] at h
  exact h
theorem impl_NewAuthVector.sound : Sound Tryz.prog 241 impl_NewAuthVector.con := by
  have h := fun_sound (Γ := impl_NewAuthVector.cx) (cx_ok.same rfl rfl) (fun n C h => con_look (con_cons impl_InRange.sound (con_cons impl_KeyedHash.sound (con_cons impl_SequenceMask.sound con_nil))) h) Tryz.checked.mixed Tryz.func241 (by kernel_rfl) (ps := impl_NewAuthVector.ps) (rs := impl_NewAuthVector.rs) (by kernel_rfl) (by kernel_rfl) (by kernel_rfl)
  rw [impl_NewAuthVector.eq] at h
  exact h
theorem impl_ResyncToken.sound : Sound Tryz.prog 242 impl_ResyncToken.con := by
  have h := fun_sound (Γ := impl_ResyncToken.cx) (cx_ok.same rfl rfl) (fun n C h => con_look (con_cons impl_InRange.sound (con_cons impl_KeyedHash.sound con_nil)) h) Tryz.checked.mixed Tryz.func242 (by kernel_rfl) (ps := impl_ResyncToken.ps) (rs := impl_ResyncToken.rs) (by kernel_rfl) (by kernel_rfl) (by kernel_rfl)
  rw [impl_ResyncToken.eq] at h
  exact h
theorem impl_RespondToChallenge.sound : Sound Tryz.prog 149 impl_RespondToChallenge.con := by
  have h := fun_sound (Γ := impl_RespondToChallenge.cx) (cx_ok.same rfl rfl) (fun n C h => con_look (con_cons impl_IsValidUSIM.sound (con_cons impl_VerifyVector.sound (con_cons impl_UnmaskSequence.sound (con_cons impl_KeyedHash.sound (con_cons impl_NewAuthVector.sound (con_cons impl_ResyncToken.sound con_nil)))))) h) Tryz.checked.mixed Tryz.func149 (by kernel_rfl) (ps := impl_RespondToChallenge.ps) (rs := impl_RespondToChallenge.rs) (by kernel_rfl) (by kernel_rfl) (by kernel_rfl)
  rw [impl_RespondToChallenge.eq] at h
  exact h
theorem impl_answerChallenge.sound : Sound Tryz.prog 61 impl_answerChallenge.con := by
  have h := fun_sound (Γ := impl_answerChallenge.cx) (cx_ok.same rfl rfl) (fun n C h => con_look (con_cons impl_deviceResult.sound (con_cons impl_RespondToChallenge.sound con_nil)) h) Tryz.checked.mixed Tryz.func61 (by kernel_rfl) (ps := impl_answerChallenge.ps) (rs := impl_answerChallenge.rs) (by kernel_rfl) (by kernel_rfl) (by kernel_rfl)
  rw [impl_answerChallenge.eq] at h
  exact h
theorem impl_DeriveKey.sound : Sound Tryz.prog 254 impl_DeriveKey.con := by
  have h := fun_sound (Γ := impl_DeriveKey.cx) (cx_ok.same rfl rfl) (fun n C h => con_look (con_cons impl_KeyedHash.sound con_nil) h) Tryz.checked.mixed Tryz.func254 (by kernel_rfl) (ps := impl_DeriveKey.ps) (rs := impl_DeriveKey.rs) (by kernel_rfl) (by kernel_rfl) (by kernel_rfl)
  rw [impl_DeriveKey.eq] at h
  exact h
theorem impl_deriveSteps.sound : Sound Tryz.prog 285 impl_deriveSteps.con := by
  have h := fun_sound (Γ := impl_deriveSteps.cx) (cx_ok.same rfl rfl) (fun n C h => con_look (con_cons impl_DeriveKey.sound con_nil) h) Tryz.checked.mixed Tryz.func285 (by kernel_rfl) (ps := impl_deriveSteps.ps) (rs := impl_deriveSteps.rs) (by kernel_rfl) (by kernel_rfl) (by kernel_rfl)
  rw [impl_deriveSteps.eq] at h
  exact h
theorem impl_KeyForPath.sound : Sound Tryz.prog 243 impl_KeyForPath.con := by
  have h := fun_sound (Γ := impl_KeyForPath.cx) (cx_ok.same rfl rfl) (fun n C h => con_look (con_cons impl_deriveSteps.sound con_nil) h) Tryz.checked.mixed Tryz.func243 (by kernel_rfl) (ps := impl_KeyForPath.ps) (rs := impl_KeyForPath.rs) (by kernel_rfl) (by kernel_rfl) (by kernel_rfl)
  rw [impl_KeyForPath.eq] at h
  exact h
theorem impl_SignalingKeyPath.sound : Sound Tryz.prog 244 impl_SignalingKeyPath.con := by
  have h := fun_sound (Γ := impl_SignalingKeyPath.cx) (cx_ok.same rfl rfl) (fun n C h => con_look (con_nil) h) Tryz.checked.mixed Tryz.func244 (by kernel_rfl) (ps := impl_SignalingKeyPath.ps) (rs := impl_SignalingKeyPath.rs) (by kernel_rfl) (by kernel_rfl) (by kernel_rfl)
  rw [impl_SignalingKeyPath.eq] at h
  exact h
theorem impl_SignalMAC.sound : Sound Tryz.prog 150 impl_SignalMAC.con := by
  have h := fun_sound (Γ := impl_SignalMAC.cx) (cx_ok.same rfl rfl) (fun n C h => con_look (con_cons impl_KeyedHash.sound (con_cons impl_KeyForPath.sound (con_cons impl_SignalingKeyPath.sound con_nil))) h) Tryz.checked.mixed Tryz.func150 (by kernel_rfl) (ps := impl_SignalMAC.ps) (rs := impl_SignalMAC.rs) (by kernel_rfl) (by kernel_rfl) (by kernel_rfl)
  rw [impl_SignalMAC.eq] at h
  exact h
theorem impl_VerifySignal.sound : Sound Tryz.prog 63 impl_VerifySignal.con := by
  have h := fun_sound (Γ := impl_VerifySignal.cx) (cx_ok.same rfl rfl) (fun n C h => con_look (con_cons impl_SignalMAC.sound con_nil) h) Tryz.checked.mixed Tryz.func63 (by kernel_rfl) (ps := impl_VerifySignal.ps) (rs := impl_VerifySignal.rs) (by kernel_rfl) (by kernel_rfl) (by kernel_rfl)
  rw [impl_VerifySignal.eq] at h
  exact h
theorem impl_SignSignal.sound : Sound Tryz.prog 79 impl_SignSignal.con := by
  have h := fun_sound (Γ := impl_SignSignal.cx) (cx_ok.same rfl rfl) (fun n C h => con_look (con_cons impl_SignalMAC.sound con_nil) h) Tryz.checked.mixed Tryz.func79 (by kernel_rfl) (ps := impl_SignSignal.ps) (rs := impl_SignSignal.rs) (by kernel_rfl) (by kernel_rfl) (by kernel_rfl)
  rw [impl_SignSignal.eq] at h
  exact h
theorem impl_pathUpdate.sound : Sound Tryz.prog 151 impl_pathUpdate.con := by
  have h := fun_sound (Γ := impl_pathUpdate.cx) (cx_ok.same rfl rfl) (fun n C h => con_look (con_cons impl_SignSignal.sound con_nil) h) Tryz.checked.mixed Tryz.func151 (by kernel_rfl) (ps := impl_pathUpdate.ps) (rs := impl_pathUpdate.rs) (by kernel_rfl) (by kernel_rfl) (by kernel_rfl)
  rw [impl_pathUpdate.eq] at h
  exact h
theorem impl_announcePath.sound : Sound Tryz.prog 64 impl_announcePath.con := by
  have h := fun_sound (Γ := impl_announcePath.cx) (cx_ok.same rfl rfl) (fun n C h => con_look (con_cons impl_deviceResult.sound (con_cons impl_pathUpdate.sound con_nil)) h) Tryz.checked.mixed Tryz.func64 (by kernel_rfl) (ps := impl_announcePath.ps) (rs := impl_announcePath.rs) (by kernel_rfl) (by kernel_rfl) (by kernel_rfl)
  rw [impl_announcePath.eq] at h
  exact h
theorem impl_ReceiveSignal.sound : Sound Tryz.prog 12 impl_ReceiveSignal.con := by
  have h := fun_sound (Γ := impl_ReceiveSignal.cx) (cx_ok.same rfl rfl) (fun n C h => con_look (con_cons impl_IsValidSignal.sound (con_cons impl_deviceResult.sound (con_cons impl_answerChallenge.sound (con_cons impl_IsValidKey.sound (con_cons impl_VerifySignal.sound (con_cons impl_announcePath.sound con_nil)))))) h) Tryz.checked.mixed Tryz.func12 (by kernel_rfl) (ps := impl_ReceiveSignal.ps) (rs := impl_ReceiveSignal.rs) (by kernel_rfl) (by kernel_rfl) (by kernel_rfl)
  rw [impl_ReceiveSignal.eq] at h
  exact h
theorem laws_eqSubscriberID.sound : Sound Tryz.prog 153 laws_eqSubscriberID.con := by
  have h := fun_sound (Γ := laws_eqSubscriberID.cx) (cx_ok.same rfl rfl) (fun n C h => con_look (con_nil) h) Tryz.checked.mixed Tryz.func153 (by kernel_rfl) (ps := laws_eqSubscriberID.ps) (rs := laws_eqSubscriberID.rs) (by kernel_rfl) (by kernel_rfl) (by kernel_rfl)
  rw [laws_eqSubscriberID.eq] at h
  exact h
theorem laws_eqUSIM.sound : Sound Tryz.prog 66 laws_eqUSIM.con := by
  have h := fun_sound (Γ := laws_eqUSIM.cx) (cx_ok.same rfl rfl) (fun n C h => con_look (con_cons laws_eqSubscriberID.sound con_nil) h) Tryz.checked.mixed Tryz.func66 (by kernel_rfl) (ps := laws_eqUSIM.ps) (rs := laws_eqUSIM.rs) (by kernel_rfl) (by kernel_rfl) (by kernel_rfl)
  rw [laws_eqUSIM.eq] at h
  exact h
theorem laws_eqByteS.sound : Sound Tryz.prog 171 laws_eqByteS.con := by
  have h := fun_sound (Γ := laws_eqByteS.cx) (cx_ok.same rfl rfl) (fun n C h => con_look (con_nil) h) Tryz.checked.mixed Tryz.func171 (by kernel_rfl) (ps := laws_eqByteS.ps) (rs := laws_eqByteS.rs) (by kernel_rfl) (by kernel_rfl) (by kernel_rfl)
  rw [laws_eqByteS.eq] at h
  exact h
theorem laws_eqPayload.sound : Sound Tryz.prog 195 laws_eqPayload.con := by
  have h := fun_sound (Γ := laws_eqPayload.cx) (cx_ok.same rfl rfl) (fun n C h => con_look (con_cons laws_eqByteS.sound con_nil) h) Tryz.checked.mixed Tryz.func195 (by kernel_rfl) (ps := laws_eqPayload.ps) (rs := laws_eqPayload.rs) (by kernel_rfl) (by kernel_rfl) (by kernel_rfl)
  rw [laws_eqPayload.eq] at h
  exact h
theorem laws_eqPayloadS.sound : Sound Tryz.prog 107 laws_eqPayloadS.con := by
  have h := fun_sound (Γ := laws_eqPayloadS.cx) (cx_ok.same rfl rfl) (fun n C h => con_look (con_cons laws_eqPayload.sound con_nil) h) Tryz.checked.mixed Tryz.func107 (by kernel_rfl) (ps := laws_eqPayloadS.ps) (rs := laws_eqPayloadS.rs) (by kernel_rfl) (by kernel_rfl) (by kernel_rfl)
  rw [laws_eqPayloadS.eq] at h
  exact h
theorem laws_eqNumberedPacket.sound : Sound Tryz.prog 245 laws_eqNumberedPacket.con := by
  have h := fun_sound (Γ := laws_eqNumberedPacket.cx) (cx_ok.same rfl rfl) (fun n C h => con_look (con_cons laws_eqByteS.sound con_nil) h) Tryz.checked.mixed Tryz.func245 (by kernel_rfl) (ps := laws_eqNumberedPacket.ps) (rs := laws_eqNumberedPacket.rs) (by kernel_rfl) (by kernel_rfl) (by kernel_rfl)
  rw [laws_eqNumberedPacket.eq] at h
  exact h
theorem laws_eqNumberedPacketS.sound : Sound Tryz.prog 154 laws_eqNumberedPacketS.con := by
  have h := fun_sound (Γ := laws_eqNumberedPacketS.cx) (cx_ok.same rfl rfl) (fun n C h => con_look (con_cons laws_eqNumberedPacket.sound con_nil) h) Tryz.checked.mixed Tryz.func154 (by kernel_rfl) (ps := laws_eqNumberedPacketS.ps) (rs := laws_eqNumberedPacketS.rs) (by kernel_rfl) (by kernel_rfl) (by kernel_rfl)
  rw [laws_eqNumberedPacketS.eq] at h
  exact h
theorem laws_eqReceiveWindow.sound : Sound Tryz.prog 67 laws_eqReceiveWindow.con := by
  have h := fun_sound (Γ := laws_eqReceiveWindow.cx) (cx_ok.same rfl rfl) (fun n C h => con_look (con_cons laws_eqPayloadS.sound (con_cons laws_eqNumberedPacketS.sound con_nil)) h) Tryz.checked.mixed Tryz.func67 (by kernel_rfl) (ps := laws_eqReceiveWindow.ps) (rs := laws_eqReceiveWindow.rs) (by kernel_rfl) (by kernel_rfl) (by kernel_rfl)
  rw [laws_eqReceiveWindow.eq] at h
  exact h
theorem laws_eqDevice.sound : Sound Tryz.prog 14 laws_eqDevice.con := by
  have h := fun_sound (Γ := laws_eqDevice.cx) (cx_ok.same rfl rfl) (fun n C h => con_look (con_cons laws_eqUSIM.sound (con_cons laws_eqReceiveWindow.sound con_nil)) h) Tryz.checked.mixed Tryz.func14 (by kernel_rfl) (ps := laws_eqDevice.ps) (rs := laws_eqDevice.rs) (by kernel_rfl) (by kernel_rfl) (by kernel_rfl)
  rw [laws_eqDevice.eq] at h
  exact h
theorem laws_eqAuthVector.sound : Sound Tryz.prog 105 laws_eqAuthVector.con := by
  have h := fun_sound (Γ := laws_eqAuthVector.cx) (cx_ok.same rfl rfl) (fun n C h => con_look (con_nil) h) Tryz.checked.mixed Tryz.func105 (by kernel_rfl) (ps := laws_eqAuthVector.ps) (rs := laws_eqAuthVector.rs) (by kernel_rfl) (by kernel_rfl) (by kernel_rfl)
  rw [laws_eqAuthVector.eq] at h
  exact h
theorem laws_eqSignal.sound : Sound Tryz.prog 152 laws_eqSignal.con := by
  have h := fun_sound (Γ := laws_eqSignal.cx) (cx_ok.same rfl rfl) (fun n C h => con_look (con_cons laws_eqAuthVector.sound con_nil) h) Tryz.checked.mixed Tryz.func152 (by kernel_rfl) (ps := laws_eqSignal.ps) (rs := laws_eqSignal.rs) (by kernel_rfl) (by kernel_rfl) (by kernel_rfl)
  rw [laws_eqSignal.eq] at h
  exact h
theorem laws_eqSignalS.sound : Sound Tryz.prog 65 laws_eqSignalS.con := by
  have h := fun_sound (Γ := laws_eqSignalS.cx) (cx_ok.same rfl rfl) (fun n C h => con_look (con_cons laws_eqSignal.sound con_nil) h) Tryz.checked.mixed Tryz.func65 (by kernel_rfl) (ps := laws_eqSignalS.ps) (rs := laws_eqSignalS.rs) (by kernel_rfl) (by kernel_rfl) (by kernel_rfl)
  rw [laws_eqSignalS.eq] at h
  exact h
theorem laws_eqDeviceResult.sound : Sound Tryz.prog 13 laws_eqDeviceResult.con := by
  have h := fun_sound (Γ := laws_eqDeviceResult.cx) (cx_ok.same rfl rfl) (fun n C h => con_look (con_cons laws_eqDevice.sound (con_cons laws_eqSignalS.sound con_nil)) h) Tryz.checked.mixed Tryz.func13 (by kernel_rfl) (ps := laws_eqDeviceResult.ps) (rs := laws_eqDeviceResult.rs) (by kernel_rfl) (by kernel_rfl) (by kernel_rfl)
  rw [laws_eqDeviceResult.eq] at h
  exact h
theorem laws_markByteS.sound : Sound Tryz.prog 172 laws_markByteS.con := by
  have h := fun_sound (Γ := laws_markByteS.cx) (cx_ok.same rfl rfl) (fun n C h => con_look (con_nil) h) Tryz.checked.mixed Tryz.func172 (by kernel_rfl) (ps := laws_markByteS.ps) (rs := laws_markByteS.rs) (by kernel_rfl) (by kernel_rfl) (by kernel_rfl)
  rw [laws_markByteS.eq] at h
  exact h
theorem laws_markPayloadS.sound : Sound Tryz.prog 112 laws_markPayloadS.con := by
  have h := fun_sound (Γ := laws_markPayloadS.cx) (cx_ok.same rfl rfl) (fun n C h => con_look (con_cons laws_markByteS.sound con_nil) h) Tryz.checked.mixed Tryz.func112 (by kernel_rfl) (ps := laws_markPayloadS.ps) (rs := laws_markPayloadS.rs) (by kernel_rfl) (by kernel_rfl) (by kernel_rfl)
  rw [laws_markPayloadS.eq] at h
  exact h
theorem laws_markNumberedPacketS.sound : Sound Tryz.prog 155 laws_markNumberedPacketS.con := by
  have h := fun_sound (Γ := laws_markNumberedPacketS.cx) (cx_ok.same rfl rfl) (fun n C h => con_look (con_cons laws_markByteS.sound con_nil) h) Tryz.checked.mixed Tryz.func155 (by kernel_rfl) (ps := laws_markNumberedPacketS.ps) (rs := laws_markNumberedPacketS.rs) (by kernel_rfl) (by kernel_rfl) (by kernel_rfl)
  rw [laws_markNumberedPacketS.eq] at h
  exact h
theorem laws_markReceiveWindow.sound : Sound Tryz.prog 68 laws_markReceiveWindow.con := by
  have h := fun_sound (Γ := laws_markReceiveWindow.cx) (cx_ok.same rfl rfl) (fun n C h => con_look (con_cons laws_markPayloadS.sound (con_cons laws_markNumberedPacketS.sound con_nil)) h) Tryz.checked.mixed Tryz.func68 (by kernel_rfl) (ps := laws_markReceiveWindow.ps) (rs := laws_markReceiveWindow.rs) (by kernel_rfl) (by kernel_rfl) (by kernel_rfl)
  rw [laws_markReceiveWindow.eq] at h
  exact h
theorem laws_markDevice.sound : Sound Tryz.prog 15 laws_markDevice.con := by
  have h := fun_sound (Γ := laws_markDevice.cx) (cx_ok.same rfl rfl) (fun n C h => con_look (con_cons laws_markReceiveWindow.sound con_nil) h) Tryz.checked.mixed Tryz.func15 (by kernel_rfl) (ps := laws_markDevice.ps) (rs := laws_markDevice.rs) (by kernel_rfl) (by kernel_rfl) (by kernel_rfl)
  rw [laws_markDevice.eq] at h
  exact h
theorem laws_markSignalS.sound : Sound Tryz.prog 69 laws_markSignalS.con := by
  have h := fun_sound (Γ := laws_markSignalS.cx) (cx_ok.same rfl rfl) (fun n C h => con_look (con_nil) h) Tryz.checked.mixed Tryz.func69 (by kernel_rfl) (ps := laws_markSignalS.ps) (rs := laws_markSignalS.rs) (by kernel_rfl) (by kernel_rfl) (by kernel_rfl)
  rw [laws_markSignalS.eq] at h
  exact h
theorem laws_markDeviceResult.sound : Sound Tryz.prog 16 laws_markDeviceResult.con := by
  have h := fun_sound (Γ := laws_markDeviceResult.cx) (cx_ok.same rfl rfl) (fun n C h => con_look (con_cons laws_markDevice.sound (con_cons laws_markSignalS.sound con_nil)) h) Tryz.checked.mixed Tryz.func16 (by kernel_rfl) (ps := laws_markDeviceResult.ps) (rs := laws_markDeviceResult.rs) (by kernel_rfl) (by kernel_rfl) (by kernel_rfl)
  rw [laws_markDeviceResult.eq] at h
  exact h
theorem laws_heldByteS.sound : Sound Tryz.prog 199 laws_heldByteS.con := by
  have h := fun_sound (Γ := laws_heldByteS.cx) (cx_ok.same rfl rfl) (fun n C h => con_look (con_nil) h) Tryz.checked.mixed Tryz.func199 (by kernel_rfl) (ps := laws_heldByteS.ps) (rs := laws_heldByteS.rs) (by kernel_rfl) (by kernel_rfl) (by kernel_rfl)
  rw [laws_heldByteS.eq] at h
  exact h
theorem laws_heldPayloadS.sound : Sound Tryz.prog 116 laws_heldPayloadS.con := by
  have h := fun_sound (Γ := laws_heldPayloadS.cx) (cx_ok.same rfl rfl) (fun n C h => con_look (con_cons laws_heldByteS.sound con_nil) h) Tryz.checked.mixed Tryz.func116 (by kernel_rfl) (ps := laws_heldPayloadS.ps) (rs := laws_heldPayloadS.rs) (by kernel_rfl) (by kernel_rfl) (by kernel_rfl)
  rw [laws_heldPayloadS.eq] at h
  exact h
theorem laws_heldNumberedPacketS.sound : Sound Tryz.prog 200 laws_heldNumberedPacketS.con := by
  have h := fun_sound (Γ := laws_heldNumberedPacketS.cx) (cx_ok.same rfl rfl) (fun n C h => con_look (con_cons laws_heldByteS.sound con_nil) h) Tryz.checked.mixed Tryz.func200 (by kernel_rfl) (ps := laws_heldNumberedPacketS.ps) (rs := laws_heldNumberedPacketS.rs) (by kernel_rfl) (by kernel_rfl) (by kernel_rfl)
  rw [laws_heldNumberedPacketS.eq] at h
  exact h
theorem laws_heldReceiveWindow.sound : Sound Tryz.prog 156 laws_heldReceiveWindow.con := by
  have h := fun_sound (Γ := laws_heldReceiveWindow.cx) (cx_ok.same rfl rfl) (fun n C h => con_look (con_cons laws_heldPayloadS.sound (con_cons laws_heldNumberedPacketS.sound con_nil)) h) Tryz.checked.mixed Tryz.func156 (by kernel_rfl) (ps := laws_heldReceiveWindow.ps) (rs := laws_heldReceiveWindow.rs) (by kernel_rfl) (by kernel_rfl) (by kernel_rfl)
  rw [laws_heldReceiveWindow.eq] at h
  exact h
theorem laws_heldDevice.sound : Sound Tryz.prog 70 laws_heldDevice.con := by
  have h := fun_sound (Γ := laws_heldDevice.cx) (cx_ok.same rfl rfl) (fun n C h => con_look (con_cons laws_heldReceiveWindow.sound con_nil) h) Tryz.checked.mixed Tryz.func70 (by kernel_rfl) (ps := laws_heldDevice.ps) (rs := laws_heldDevice.rs) (by kernel_rfl) (by kernel_rfl) (by kernel_rfl)
  rw [laws_heldDevice.eq] at h
  exact h
theorem laws_heldSignalS.sound : Sound Tryz.prog 71 laws_heldSignalS.con := by
  have h := fun_sound (Γ := laws_heldSignalS.cx) (cx_ok.same rfl rfl) (fun n C h => con_look (con_nil) h) Tryz.checked.mixed Tryz.func71 (by kernel_rfl) (ps := laws_heldSignalS.ps) (rs := laws_heldSignalS.rs) (by kernel_rfl) (by kernel_rfl) (by kernel_rfl)
  rw [laws_heldSignalS.eq] at h
  exact h
theorem laws_heldDeviceResult.sound : Sound Tryz.prog 17 laws_heldDeviceResult.con := by
  have h := fun_sound (Γ := laws_heldDeviceResult.cx) (cx_ok.same rfl rfl) (fun n C h => con_look (con_cons laws_heldDevice.sound (con_cons laws_heldSignalS.sound con_nil)) h) Tryz.checked.mixed Tryz.func17 (by kernel_rfl) (ps := laws_heldDeviceResult.ps) (rs := laws_heldDeviceResult.rs) (by kernel_rfl) (by kernel_rfl) (by kernel_rfl)
  rw [laws_heldDeviceResult.eq] at h
  exact h
theorem laws_FnExactReceiveSignal.sound : Sound Tryz.prog 3 laws_FnExactReceiveSignal.con := by
  have h := fun_sound (Γ := laws_FnExactReceiveSignal.cx) (cx_ok.same rfl rfl) (fun n C h => con_look (con_cons laws_szDevice.sound (con_cons spec_ReceiveSignal.sound (con_cons laws_toDevice.sound (con_cons laws_toSignal.sound (con_cons impl_ReceiveSignal.sound (con_cons laws_eqDeviceResult.sound (con_cons laws_eqDevice.sound (con_cons laws_markDevice.sound (con_cons laws_markDeviceResult.sound (con_cons laws_heldDeviceResult.sound con_nil)))))))))) h) Tryz.checked.mixed Tryz.func3 (by kernel_rfl) (ps := laws_FnExactReceiveSignal.ps) (rs := laws_FnExactReceiveSignal.rs) (by kernel_rfl) (by kernel_rfl) (by kernel_rfl)
  rw [laws_FnExactReceiveSignal.eq] at h
  exact h
end Go.Proofs.YtbgkgnhlfmidhaaGreat.XS
