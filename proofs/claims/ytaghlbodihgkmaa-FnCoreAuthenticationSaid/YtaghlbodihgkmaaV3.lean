/- What the law rests on: part 4 of 5. -/
import Derived.Test.YtaghlbodihgkmaaV2
set_option linter.unusedVariables false
set_option linter.unusedSimpArgs false
set_option linter.unusedSectionVars false
/- The program's functions, as plain Lean. -/
set_option linter.unusedVariables false
set_option maxRecDepth 100000
namespace Go.Proofs.XF
open Go Go.Proofs.XTv
def spec_l1In.f (k : Nat) (x : DQuota) : Option Bool :=
    some (bif ile x.snd.fst x.fst then ile x.fst x.snd.snd else false)

def spec_EventName.f (k : Nat) (x : Int) : Option ByteArray :=
    obind
    (spec_l1In.f k
      (x, 0,
        isub IntKind.i64
          (llen
            [bs [], bs [116, 105, 99, 107], bs [100, 101, 108, 105, 118, 101, 114], bs [108, 111, 115, 101],
              bs [100, 117, 112, 108, 105, 99, 97, 116, 101], bs [112, 111, 119, 101, 114, 45, 111, 110],
              bs [109, 111, 118, 101], bs [105, 100, 108, 101], bs [115, 117, 98, 109, 105, 116],
              bs [99, 101, 108, 108, 45, 100, 111, 119, 110], bs [99, 101, 108, 108, 45, 117, 112],
              bs [115, 101, 114, 118, 101, 114, 45, 102, 97, 105, 108],
              bs [115, 101, 114, 118, 101, 114, 45, 114, 101, 99, 111, 118, 101, 114], bs [102, 111, 114, 103, 101]])
          1))
    fun v0 =>
    bif dnot v0 then some (bs [])
    else
      bif
          idxOk x
            (llen
              [bs [], bs [116, 105, 99, 107], bs [100, 101, 108, 105, 118, 101, 114], bs [108, 111, 115, 101],
                bs [100, 117, 112, 108, 105, 99, 97, 116, 101], bs [112, 111, 119, 101, 114, 45, 111, 110],
                bs [109, 111, 118, 101], bs [105, 100, 108, 101], bs [115, 117, 98, 109, 105, 116],
                bs [99, 101, 108, 108, 45, 100, 111, 119, 110], bs [99, 101, 108, 108, 45, 117, 112],
                bs [115, 101, 114, 118, 101, 114, 45, 102, 97, 105, 108],
                bs [115, 101, 114, 118, 101, 114, 45, 114, 101, 99, 111, 118, 101, 114],
                bs [102, 111, 114, 103, 101]]) then
        some
          (lget Ty.str
            [bs [], bs [116, 105, 99, 107], bs [100, 101, 108, 105, 118, 101, 114], bs [108, 111, 115, 101],
              bs [100, 117, 112, 108, 105, 99, 97, 116, 101], bs [112, 111, 119, 101, 114, 45, 111, 110],
              bs [109, 111, 118, 101], bs [105, 100, 108, 101], bs [115, 117, 98, 109, 105, 116],
              bs [99, 101, 108, 108, 45, 100, 111, 119, 110], bs [99, 101, 108, 108, 45, 117, 112],
              bs [115, 101, 114, 118, 101, 114, 45, 102, 97, 105, 108],
              bs [115, 101, 114, 118, 101, 114, 45, 114, 101, 99, 111, 118, 101, 114], bs [102, 111, 114, 103, 101]]
            x)
      else none

def impl_EventName.f (k : Nat) (x : Int) : Option ByteArray :=
    bif ieq x 1 then some (bs [116, 105, 99, 107])
  else
    bif ieq x 2 then some (bs [100, 101, 108, 105, 118, 101, 114])
    else
      bif ieq x 3 then some (bs [108, 111, 115, 101])
      else
        bif ieq x 4 then some (bs [100, 117, 112, 108, 105, 99, 97, 116, 101])
        else
          bif ieq x 5 then some (bs [112, 111, 119, 101, 114, 45, 111, 110])
          else
            bif ieq x 6 then some (bs [109, 111, 118, 101])
            else
              bif ieq x 7 then some (bs [105, 100, 108, 101])
              else
                bif ieq x 8 then some (bs [115, 117, 98, 109, 105, 116])
                else
                  bif ieq x 9 then some (bs [99, 101, 108, 108, 45, 100, 111, 119, 110])
                  else
                    bif ieq x 10 then some (bs [99, 101, 108, 108, 45, 117, 112])
                    else
                      bif ieq x 11 then some (bs [115, 101, 114, 118, 101, 114, 45, 102, 97, 105, 108])
                      else
                        bif ieq x 12 then some (bs [115, 101, 114, 118, 101, 114, 45, 114, 101, 99, 111, 118, 101, 114])
                        else bif ieq x 13 then some (bs [102, 111, 114, 103, 101]) else some (bs [])

def laws_FnExactEventName.f (k : Nat) (x : Int) : Option Bool :=
    obind (spec_EventName.f k x) fun v0 =>
    obind (impl_EventName.f k x) fun v1 => bif dnot (seq' v1 v0) then some false else some true

def spec_NewDevice.f (k : Nat) (x : DUSIM × Int) : Option DDevice :=
    some (x.fst, 0, x.snd, 0, 0, 0, false, 0, 1, [], [])

def laws_toSubscriberID.f (k : Nat) (x : DSubscriberID) : Option DSubscriberID :=
    some x

def laws_toUSIM.f (k : Nat) (x : DUSIM) : Option DUSIM :=
    obind (laws_toSubscriberID.f k x.fst) fun v0 => some (v0, x.snd)

def impl_NewDevice.f (k : Nat) (x : DUSIM × Int) : Option DDevice :=
    some (x.fst, 0, x.snd, 0, 0, 0, false, 0, 1, [], [])

def laws_eqSubscriberID.f (k : Nat) (x : DUSIM) : Option Bool :=
    bif ine x.fst.fst x.snd.fst then some false else bif ine x.fst.snd x.snd.snd then some false else some true

def laws_eqUSIM.f (k : Nat) (x : DUSIM × DUSIM) : Option Bool :=
    obind (laws_eqSubscriberID.f k (x.fst.fst, x.snd.fst)) fun v0 =>
    bif dnot v0 then some false
    else
      bif ine x.fst.snd.fst x.snd.snd.fst then some false
      else bif ine x.fst.snd.snd x.snd.snd.snd then some false else some true

def laws_eqByteS.s0  (d0 : List Int × List Int × Int) : Option (List Int × List Int × Int ⊕ Unit ⊕ Bool) :=
    bif ilt d0.snd.snd (llen d0.fst) then
    bif idxOk d0.snd.snd (llen d0.fst) then
      bif idxOk d0.snd.snd (llen d0.snd.fst) then
        bif ine (lget (Ty.int IntKind.u8) d0.fst d0.snd.snd) (lget (Ty.int IntKind.u8) d0.snd.fst d0.snd.snd) then
          some (Sum.inr (Sum.inr false))
        else some (Sum.inl (d0.fst, d0.snd.fst, iadd IntKind.i64 d0.snd.snd 1))
      else none
    else none
  else some (Sum.inr (Sum.inl ()))
def laws_eqByteS.f (k : Nat) (x : List Int × List Int) : Option Bool :=
    bif ine (llen x.fst) (llen x.snd) then some false
  else obind (loopN laws_eqByteS.s0 k (x.fst, x.snd, 0)) fun v1 => selim (fun v2 => some true) (fun v3 => some v3) v1

def laws_eqPayload.f (k : Nat) (x : List Int × List Int) : Option Bool :=
    obind (laws_eqByteS.f k x) fun v0 => bif dnot v0 then some false else some true

def laws_eqPayloadS.s0 (k : Nat) (d0 : List (List Int) × List (List Int) × Int) : Option (List (List Int) × List (List Int) × Int ⊕ Unit ⊕ Bool) :=
    bif ilt d0.snd.snd (llen d0.fst) then
    bif idxOk d0.snd.snd (llen d0.fst) then
      bif idxOk d0.snd.snd (llen d0.snd.fst) then
        obind
          (laws_eqPayload.f k
            (lget (Ty.sl (Ty.int IntKind.u8)) d0.fst d0.snd.snd, lget (Ty.sl (Ty.int IntKind.u8)) d0.snd.fst d0.snd.snd))
          fun v1 =>
          bif dnot v1 then some (Sum.inr (Sum.inr false))
          else some (Sum.inl (d0.fst, d0.snd.fst, iadd IntKind.i64 d0.snd.snd 1))
      else none
    else none
  else some (Sum.inr (Sum.inl ()))
def laws_eqPayloadS.f (k : Nat) (x : List (List Int) × List (List Int)) : Option Bool :=
    bif ine (llen x.fst) (llen x.snd) then some false
  else
    obind (loopN (laws_eqPayloadS.s0 k) k (x.fst, x.snd, 0)) fun v2 => selim (fun v3 => some true) (fun v4 => some v4) v2

def laws_eqNumberedPacket.f (k : Nat) (x : DNumberedPacket × DNumberedPacket) : Option Bool :=
    bif ine x.fst.fst x.snd.fst then some false
  else obind (laws_eqByteS.f k (x.fst.snd, x.snd.snd)) fun v0 => bif dnot v0 then some false else some true

def laws_eqNumberedPacketS.s0 (k : Nat) (d0 : List DNumberedPacket × List DNumberedPacket × Int) : Option (List DNumberedPacket × List DNumberedPacket × Int ⊕ Unit ⊕ Bool) :=
    bif ilt d0.snd.snd (llen d0.fst) then
    bif idxOk d0.snd.snd (llen d0.fst) then
      bif idxOk d0.snd.snd (llen d0.snd.fst) then
        obind
          (laws_eqNumberedPacket.f k (lget TNumberedPacket d0.fst d0.snd.snd, lget TNumberedPacket d0.snd.fst d0.snd.snd))
          fun v1 =>
          bif dnot v1 then some (Sum.inr (Sum.inr false))
          else some (Sum.inl (d0.fst, d0.snd.fst, iadd IntKind.i64 d0.snd.snd 1))
      else none
    else none
  else some (Sum.inr (Sum.inl ()))
def laws_eqNumberedPacketS.f (k : Nat) (x : List DNumberedPacket × List DNumberedPacket) : Option Bool :=
    bif ine (llen x.fst) (llen x.snd) then some false
  else
    obind (loopN (laws_eqNumberedPacketS.s0 k) k (x.fst, x.snd, 0)) fun v2 =>
      selim (fun v3 => some true) (fun v4 => some v4) v2

def laws_eqReceiveWindow.f (k : Nat) (x : DReceiveWindow × DReceiveWindow) : Option Bool :=
    bif ine x.fst.fst x.snd.fst then some false
  else
    obind (laws_eqNumberedPacketS.f k (x.fst.snd.fst, x.snd.snd.fst)) fun v0 =>
      bif dnot v0 then some false
      else obind (laws_eqPayloadS.f k (x.fst.snd.snd, x.snd.snd.snd)) fun v1 => bif dnot v1 then some false else some true

def laws_eqDevice.f (k : Nat) (x : DDevice × DDevice) : Option Bool :=
    obind (laws_eqUSIM.f k (x.fst.fst, x.snd.fst)) fun v0 =>
    bif dnot v0 then some false
    else
      bif ine x.fst.snd.fst x.snd.snd.fst then some false
      else
        bif ine x.fst.snd.snd.fst x.snd.snd.snd.fst then some false
        else
          bif ine x.fst.snd.snd.snd.fst x.snd.snd.snd.snd.fst then some false
          else
            bif ine x.fst.snd.snd.snd.snd.fst x.snd.snd.snd.snd.snd.fst then some false
            else
              bif ine x.fst.snd.snd.snd.snd.snd.fst x.snd.snd.snd.snd.snd.snd.fst then some false
              else
                bif bne' x.fst.snd.snd.snd.snd.snd.snd.fst x.snd.snd.snd.snd.snd.snd.snd.fst then some false
                else
                  bif ine x.fst.snd.snd.snd.snd.snd.snd.snd.fst x.snd.snd.snd.snd.snd.snd.snd.snd.fst then some false
                  else
                    obind
                      (laws_eqReceiveWindow.f k
                        (x.fst.snd.snd.snd.snd.snd.snd.snd.snd, x.snd.snd.snd.snd.snd.snd.snd.snd.snd))
                      fun v1 => bif dnot v1 then some false else some true

def laws_markByteS.s0  (d0 : DSubscriberID × List Int) : Option (DSubscriberID × List Int ⊕ DNumberedPacket) :=
    bif ilt d0.fst.snd (llen d0.snd) then
    bif idxOk d0.fst.snd (llen d0.snd) then
      some
        (Sum.inl
          ((iadd IntKind.i64 d0.fst.fst 1, iadd IntKind.i64 d0.fst.snd 1),
            lset d0.snd d0.fst.snd (icast IntKind.u8 d0.fst.fst)))
    else none
  else some (Sum.inr (d0.fst.fst, d0.snd))
def laws_markByteS.f (k : Nat) (x : List Int × Int) : Option DNumberedPacket :=
    obind (loopN laws_markByteS.s0 k ((x.snd, 0), x.fst)) fun v1 => some v1

def laws_markPayloadS.s0 (k : Nat) (d0 : DSubscriberID × List (List Int)) : Option (DSubscriberID × List (List Int) ⊕ Int × List (List Int)) :=
    bif ilt d0.fst.snd (llen d0.snd) then
    bif idxOk d0.fst.snd (llen d0.snd) then
      obind (laws_markByteS.f k (lget (Ty.sl (Ty.int IntKind.u8)) d0.snd d0.fst.snd, d0.fst.fst)) fun v1 =>
        some (Sum.inl ((v1.fst, iadd IntKind.i64 d0.fst.snd 1), lset d0.snd d0.fst.snd v1.snd))
    else none
  else some (Sum.inr (d0.fst.fst, d0.snd))
def laws_markPayloadS.f (k : Nat) (x : List (List Int) × Int) : Option (Int × List (List Int)) :=
    obind (loopN (laws_markPayloadS.s0 k) k ((x.snd, 0), x.fst)) fun v2 => some v2

def laws_markNumberedPacketS.s0 (k : Nat) (d0 : DSubscriberID × List DNumberedPacket) : Option (DSubscriberID × List DNumberedPacket ⊕ DSendWindow) :=
    bif ilt d0.fst.snd (llen d0.snd) then
    bif idxOk d0.fst.snd (llen d0.snd) then
      bif idxOk d0.fst.snd (llen (lset d0.snd d0.fst.snd (d0.fst.fst, (lget TNumberedPacket d0.snd d0.fst.snd).snd))) then
        obind
          (laws_markByteS.f k
            ((lget TNumberedPacket (lset d0.snd d0.fst.snd (d0.fst.fst, (lget TNumberedPacket d0.snd d0.fst.snd).snd))
                  d0.fst.snd).snd,
              iadd IntKind.i64 d0.fst.fst 1))
          fun v1 =>
          some
            (Sum.inl
              ((v1.fst, iadd IntKind.i64 d0.fst.snd 1),
                lset (lset d0.snd d0.fst.snd (d0.fst.fst, (lget TNumberedPacket d0.snd d0.fst.snd).snd)) d0.fst.snd
                  ((lget TNumberedPacket
                        (lset d0.snd d0.fst.snd (d0.fst.fst, (lget TNumberedPacket d0.snd d0.fst.snd).snd))
                        d0.fst.snd).fst,
                    v1.snd)))
      else none
    else none
  else some (Sum.inr (d0.fst.fst, d0.snd))
def laws_markNumberedPacketS.f (k : Nat) (x : List DNumberedPacket × Int) : Option DSendWindow :=
    obind (loopN (laws_markNumberedPacketS.s0 k) k ((x.snd, 0), x.fst)) fun v2 => some v2

def laws_markReceiveWindow.f (k : Nat) (x : DReceiveWindow × Int) : Option (Int × DReceiveWindow) :=
    obind (laws_markNumberedPacketS.f k (x.fst.snd.fst, x.snd)) fun v0 =>
    obind (laws_markPayloadS.f k (x.fst.snd.snd, v0.fst)) fun v1 => some (v1.fst, x.fst.fst, v0.snd, v1.snd)

def laws_markDevice.f (k : Nat) (x : DDevice × Int) : Option (Int × DDevice) :=
    obind (laws_markReceiveWindow.f k (x.fst.snd.snd.snd.snd.snd.snd.snd.snd, x.snd)) fun v0 =>
    some
      (v0.fst, x.fst.fst, x.fst.snd.fst, x.fst.snd.snd.fst, x.fst.snd.snd.snd.fst, x.fst.snd.snd.snd.snd.fst,
        x.fst.snd.snd.snd.snd.snd.fst, x.fst.snd.snd.snd.snd.snd.snd.fst, x.fst.snd.snd.snd.snd.snd.snd.snd.fst,
        x.fst.snd.snd.snd.snd.snd.snd.snd.snd.fst, v0.snd.snd)

def laws_heldByteS.s0  (d0 : Dl1Cur) : Option (Dl1Cur ⊕ Int ⊕ Int) :=
    bif ilt d0.snd.snd (llen d0.fst) then
    bif idxOk d0.snd.snd (llen d0.fst) then
      bif ine (lget (Ty.int IntKind.u8) d0.fst d0.snd.snd) (icast IntKind.u8 d0.snd.fst) then
        some (Sum.inr (Sum.inr (-1)))
      else some (Sum.inl (d0.fst, iadd IntKind.i64 d0.snd.fst 1, iadd IntKind.i64 d0.snd.snd 1))
    else none
  else some (Sum.inr (Sum.inl d0.snd.fst))
def laws_heldByteS.f (k : Nat) (x : List Int × Int) : Option Int :=
    obind (loopN laws_heldByteS.s0 k (x.fst, x.snd, 0)) fun v1 => selim (fun v2 => some v2) (fun v3 => some v3) v1

def laws_heldPayloadS.s0 (k : Nat) (d0 : List (List Int) × DSubscriberID) : Option (List (List Int) × DSubscriberID ⊕ Int ⊕ Int) :=
    bif ilt d0.snd.snd (llen d0.fst) then
    bif idxOk d0.snd.snd (llen d0.fst) then
      obind (laws_heldByteS.f k (lget (Ty.sl (Ty.int IntKind.u8)) d0.fst d0.snd.snd, d0.snd.fst)) fun v1 =>
        bif ilt v1 0 then some (Sum.inr (Sum.inr (-1))) else some (Sum.inl (d0.fst, v1, iadd IntKind.i64 d0.snd.snd 1))
    else none
  else some (Sum.inr (Sum.inl d0.snd.fst))
def laws_heldPayloadS.f (k : Nat) (x : List (List Int) × Int) : Option Int :=
    obind (loopN (laws_heldPayloadS.s0 k) k (x.fst, x.snd, 0)) fun v2 => selim (fun v3 => some v3) (fun v4 => some v4) v2

def laws_heldNumberedPacketS.s0 (k : Nat) (d0 : List DNumberedPacket × DSubscriberID) : Option (List DNumberedPacket × DSubscriberID ⊕ Int ⊕ Int) :=
    bif ilt d0.snd.snd (llen d0.fst) then
    bif idxOk d0.snd.snd (llen d0.fst) then
      bif ine (lget TNumberedPacket d0.fst d0.snd.snd).fst d0.snd.fst then some (Sum.inr (Sum.inr (-1)))
      else
        bif idxOk d0.snd.snd (llen d0.fst) then
          obind (laws_heldByteS.f k ((lget TNumberedPacket d0.fst d0.snd.snd).snd, iadd IntKind.i64 d0.snd.fst 1))
            fun v1 =>
            bif ilt v1 0 then some (Sum.inr (Sum.inr (-1)))
            else some (Sum.inl (d0.fst, v1, iadd IntKind.i64 d0.snd.snd 1))
        else none
    else none
  else some (Sum.inr (Sum.inl d0.snd.fst))
def laws_heldNumberedPacketS.f (k : Nat) (x : List DNumberedPacket × Int) : Option Int :=
    obind (loopN (laws_heldNumberedPacketS.s0 k) k (x.fst, x.snd, 0)) fun v2 =>
    selim (fun v3 => some v3) (fun v4 => some v4) v2

def laws_heldReceiveWindow.f (k : Nat) (x : DReceiveWindow × Int) : Option Int :=
    obind (laws_heldNumberedPacketS.f k (x.fst.snd.fst, x.snd)) fun v0 =>
    bif ilt v0 0 then some (-1)
    else obind (laws_heldPayloadS.f k (x.fst.snd.snd, v0)) fun v1 => bif ilt v1 0 then some (-1) else some v1

def laws_heldDevice.f (k : Nat) (x : DDevice × Int) : Option Int :=
    obind (laws_heldReceiveWindow.f k (x.fst.snd.snd.snd.snd.snd.snd.snd.snd, x.snd)) fun v0 =>
    bif ilt v0 0 then some (-1) else some v0

def laws_FnExactNewDevice.f (k : Nat) (x : DUSIM × Int) : Option Bool :=
    obind (laws_toUSIM.f k x.fst) fun v0 =>
    obind (spec_NewDevice.f k (v0, x.snd)) fun v1 =>
      obind (laws_toUSIM.f k x.fst) fun v2 =>
        obind (impl_NewDevice.f k (v2, x.snd)) fun v3 =>
          obind (laws_eqDevice.f k (v3, v1)) fun v4 =>
            bif dnot v4 then some false
            else
              obind (laws_markDevice.f k (v3, 1)) fun v5 =>
                obind
                  (laws_heldDevice.f k
                    ((v3.fst, v3.snd.fst, v3.snd.snd.fst, v3.snd.snd.snd.fst, v3.snd.snd.snd.snd.fst,
                        v3.snd.snd.snd.snd.snd.fst, v3.snd.snd.snd.snd.snd.snd.fst, v3.snd.snd.snd.snd.snd.snd.snd.fst,
                        v3.snd.snd.snd.snd.snd.snd.snd.snd.fst, v5.snd.snd.snd.snd.snd.snd.snd.snd.snd.snd),
                      1))
                  fun v6 =>
                  bif ilt v6 0 then some false
                  else
                    bif ine v6 v5.fst then some false
                    else
                      obind (laws_toUSIM.f k x.fst) fun v7 =>
                        obind (impl_NewDevice.f k (v7, x.snd)) fun v8 =>
                          obind (laws_eqDevice.f k (v8, v1)) fun v9 =>
                            bif dnot v9 then some false
                            else
                              obind
                                (laws_heldDevice.f k
                                  ((v3.fst, v3.snd.fst, v3.snd.snd.fst, v3.snd.snd.snd.fst, v3.snd.snd.snd.snd.fst,
                                      v3.snd.snd.snd.snd.snd.fst, v3.snd.snd.snd.snd.snd.snd.fst,
                                      v3.snd.snd.snd.snd.snd.snd.snd.fst, v3.snd.snd.snd.snd.snd.snd.snd.snd.fst,
                                      v5.snd.snd.snd.snd.snd.snd.snd.snd.snd.snd),
                                    1))
                                fun v10 =>
                                bif ilt v10 0 then some false else bif ine v10 v5.fst then some false else some true

def laws_szByteS.f (k : Nat) (x : List Int × Int) : Option Int :=
    bif ilt (isub IntKind.i64 x.snd (llen x.fst)) 0 then some (-1) else some (isub IntKind.i64 x.snd (llen x.fst))

def laws_szPayload.f (k : Nat) (x : List Int × Int) : Option Int :=
    obind (laws_szByteS.f k x) fun v0 => bif ilt v0 0 then some (-1) else some v0

def laws_szPayloadS.s0 (k : Nat) (d0 : List (List Int) × DSubscriberID) : Option (List (List Int) × DSubscriberID ⊕ Int ⊕ Int) :=
    bif ilt d0.snd.snd (llen d0.fst) then
    bif idxOk d0.snd.snd (llen d0.fst) then
      obind (laws_szPayload.f k (lget (Ty.sl (Ty.int IntKind.u8)) d0.fst d0.snd.snd, d0.snd.fst)) fun v1 =>
        bif ilt v1 0 then some (Sum.inr (Sum.inr (-1))) else some (Sum.inl (d0.fst, v1, iadd IntKind.i64 d0.snd.snd 1))
    else none
  else some (Sum.inr (Sum.inl d0.snd.fst))
def laws_szPayloadS.f (k : Nat) (x : List (List Int) × Int) : Option Int :=
    bif ilt (isub IntKind.i64 x.snd (llen x.fst)) 0 then some (-1)
  else
    obind (loopN (laws_szPayloadS.s0 k) k (x.fst, isub IntKind.i64 x.snd (llen x.fst), 0)) fun v2 =>
      selim (fun v3 => some v3) (fun v4 => some v4) v2

def laws_szNumberedPacket.f (k : Nat) (x : DNumberedPacket × Int) : Option Int :=
    obind (laws_szByteS.f k (x.fst.snd, x.snd)) fun v0 => bif ilt v0 0 then some (-1) else some v0

def laws_szNumberedPacketS.s0 (k : Nat) (d0 : List DNumberedPacket × DSubscriberID) : Option (List DNumberedPacket × DSubscriberID ⊕ Int ⊕ Int) :=
    bif ilt d0.snd.snd (llen d0.fst) then
    bif idxOk d0.snd.snd (llen d0.fst) then
      obind (laws_szNumberedPacket.f k (lget TNumberedPacket d0.fst d0.snd.snd, d0.snd.fst)) fun v1 =>
        bif ilt v1 0 then some (Sum.inr (Sum.inr (-1))) else some (Sum.inl (d0.fst, v1, iadd IntKind.i64 d0.snd.snd 1))
    else none
  else some (Sum.inr (Sum.inl d0.snd.fst))
def laws_szNumberedPacketS.f (k : Nat) (x : List DNumberedPacket × Int) : Option Int :=
    bif ilt (isub IntKind.i64 x.snd (llen x.fst)) 0 then some (-1)
  else
    obind (loopN (laws_szNumberedPacketS.s0 k) k (x.fst, isub IntKind.i64 x.snd (llen x.fst), 0)) fun v2 =>
      selim (fun v3 => some v3) (fun v4 => some v4) v2

def laws_szReceiveWindow.f (k : Nat) (x : DReceiveWindow × Int) : Option Int :=
    obind (laws_szNumberedPacketS.f k (x.fst.snd.fst, x.snd)) fun v0 =>
    bif ilt v0 0 then some (-1)
    else obind (laws_szPayloadS.f k (x.fst.snd.snd, v0)) fun v1 => bif ilt v1 0 then some (-1) else some v1

def laws_szDevice.f (k : Nat) (x : DDevice × Int) : Option Int :=
    obind (laws_szReceiveWindow.f k (x.fst.snd.snd.snd.snd.snd.snd.snd.snd, x.snd)) fun v0 =>
    bif ilt v0 0 then some (-1) else some v0

def spec_IsValidKey.f (k : Nat) (x : Int) : Option Bool :=
    obind (spec_l1In.f k (x, 1, 2147483646)) fun v0 => some v0

def spec_IsValidSubscriberID.f (k : Nat) (x : DSubscriberID) : Option Bool :=
    obind (spec_l1In.f k (x.fst, 0, 3)) fun v0 =>
    obind (bif v0 then spec_l1In.f k (x.snd, 0, 99) else some false) fun v1 => some (bif v0 then v1 else false)

def spec_IsValidUSIM.f (k : Nat) (x : DUSIM) : Option Bool :=
    obind (spec_IsValidSubscriberID.f k x.fst) fun v0 =>
    obind (bif v0 then spec_IsValidKey.f k x.snd.fst else some false) fun v1 =>
      obind (bif bif v0 then v1 else false then spec_l1In.f k (x.snd.snd, 0, 999999) else some false) fun v2 =>
        some (bif bif v0 then v1 else false then v2 else false)

def spec_IsValidReceiver.s0 (k : Nat) (d0 : Int × DReceiveWindow) : Option (Int × DReceiveWindow ⊕ DReceiveWindow ⊕ Bool) :=
    bif ilt d0.fst (llen d0.snd.snd.fst) then
    bif idxOk d0.fst (llen d0.snd.snd.fst) then
      obind
        (spec_l1In.f k
          ((lget TNumberedPacket d0.snd.snd.fst d0.fst).fst, iadd IntKind.i64 d0.snd.fst 1,
            isub IntKind.i64 (iadd IntKind.i64 d0.snd.fst 8) 1))
        fun v1 =>
        bif
            bif idxOk (isub IntKind.i64 d0.fst 1) (llen d0.snd.snd.fst) then true
            else dnot (dand (dnot (dnot v1)) (ilt 0 d0.fst)) then
          bif bif idxOk d0.fst (llen d0.snd.snd.fst) then true else dnot (dand (dnot (dnot v1)) (ilt 0 d0.fst)) then
            bif
                bif idxOk d0.fst (llen d0.snd.snd.fst) then true
                else
                  dnot
                    (dnot
                      (bif dnot v1 then true
                      else
                        bif ilt 0 d0.fst then
                          ile (lget TNumberedPacket d0.snd.snd.fst d0.fst).fst
                            (lget TNumberedPacket d0.snd.snd.fst (isub IntKind.i64 d0.fst 1)).fst
                        else false)) then
              bif
                  bif
                      bif dnot v1 then true
                      else
                        bif ilt 0 d0.fst then
                          ile (lget TNumberedPacket d0.snd.snd.fst d0.fst).fst
                            (lget TNumberedPacket d0.snd.snd.fst (isub IntKind.i64 d0.fst 1)).fst
                        else false then
                    true
                  else ilt 60 (llen (lget TNumberedPacket d0.snd.snd.fst d0.fst).snd) then
                some (Sum.inr (Sum.inr false))
              else some (Sum.inl (iadd IntKind.i64 d0.fst 1, d0.snd))
            else none
          else none
        else none
    else none
  else some (Sum.inr (Sum.inl d0.snd))
def spec_IsValidReceiver.s1  (d4 : Int × DReceiveWindow) : Option (Int × DReceiveWindow ⊕ DReceiveWindow ⊕ Bool) :=
    bif ilt d4.fst (llen d4.snd.snd.snd) then
    bif idxOk d4.fst (llen d4.snd.snd.snd) then
      bif ilt 60 (llen (lget (Ty.sl (Ty.int IntKind.u8)) d4.snd.snd.snd d4.fst)) then some (Sum.inr (Sum.inr false))
      else some (Sum.inl (iadd IntKind.i64 d4.fst 1, d4.snd))
    else none
  else some (Sum.inr (Sum.inl d4.snd))
def spec_IsValidReceiver.f (k : Nat) (x : DReceiveWindow) : Option Bool :=
    obind (loopN (spec_IsValidReceiver.s0 k) k (0, x)) fun v2 =>
    selim
      (fun v3 =>
        obind (loopN spec_IsValidReceiver.s1 k (0, v3)) fun v5 =>
          selim
            (fun v6 =>
              some
                (bif bif ieq v6.fst (iadd IntKind.i64 (llen v6.snd.snd) 1) then ile (llen v6.snd.snd) 24 else false then
                  ile (llen v6.snd.fst) 8
                else false))
            (fun v7 => some v7) v5)
      (fun v8 => some v8) v2

def spec_IsValidDevice.f (k : Nat) (x : DDevice) : Option Bool :=
    obind (spec_l1In.f k (x.snd.fst, 2, 3)) fun v0 =>
    obind (bif v0 then spec_IsValidKey.f k x.snd.snd.snd.snd.fst else some false) fun v1 =>
      bif bif v0 then dnot v1 else false then some false
      else
        obind (spec_IsValidUSIM.f k x.fst) fun v2 =>
          obind (bif v2 then spec_l1In.f k (x.snd.fst, 0, 3) else some false) fun v3 =>
            obind (bif bif v2 then v3 else false then spec_l1In.f k (x.snd.snd.fst, 0, 5) else some false) fun v4 =>
              obind
                (bif bif bif v2 then v3 else false then v4 else false then spec_l1In.f k (x.snd.snd.snd.fst, 0, 999999)
                else some false)
                fun v5 =>
                obind
                  (bif bif bif bif v2 then v3 else false then v4 else false then v5 else false then
                    spec_l1In.f k (x.snd.snd.snd.snd.snd.fst, 0, 999999)
                  else some false)
                  fun v6 =>
                  obind
                    (bif
                        bif bif bif bif v2 then v3 else false then v4 else false then v5 else false then v6
                        else false then
                      spec_l1In.f k (x.snd.snd.snd.snd.fst, 0, 2147483646)
                    else some false)
                    fun v7 =>
                    obind
                      (bif
                          bif
                              bif bif bif bif v2 then v3 else false then v4 else false then v5 else false then v6
                              else false then
                            v7
                          else false then
                        spec_l1In.f k (x.snd.snd.snd.snd.snd.snd.snd.fst, 0, 3)
                      else some false)
                      fun v8 =>
                      obind
                        (bif
                            bif
                                bif
                                    bif bif bif bif v2 then v3 else false then v4 else false then v5 else false then v6
                                    else false then
                                  v7
                                else false then
                              v8
                            else false then
                          spec_IsValidReceiver.f k x.snd.snd.snd.snd.snd.snd.snd.snd
                        else some false)
                        fun v9 =>
                        some
                          (bif
                              bif
                                  bif
                                      bif bif bif bif v2 then v3 else false then v4 else false then v5 else false then v6
                                      else false then
                                    v7
                                  else false then
                                v8
                              else false then
                            v9
                          else false)

def laws_toByteS.s0  (d0 : (List Int × Int) × List Int) : Option ((List Int × Int) × List Int ⊕ List Int) :=
    bif ilt d0.fst.snd (llen d0.fst.fst) then
    bif idxOk d0.fst.snd (llen d0.fst.fst) then
      bif idxOk d0.fst.snd (llen d0.snd) then
        some
          (Sum.inl
            ((d0.fst.fst, iadd IntKind.i64 d0.fst.snd 1),
              lset d0.snd d0.fst.snd (lget (Ty.int IntKind.u8) d0.fst.fst d0.fst.snd)))
      else none
    else none
  else some (Sum.inr d0.snd)
def laws_toByteS.f (k : Nat) (x : List Int) : Option (List Int) :=
    bif makeOk (llen x) (llen x) 1 then
    obind (loopN laws_toByteS.s0 k ((x, 0), lrep (Ty.int IntKind.u8) (llen x))) fun v1 => some v1
  else none

def laws_toPayload.f (k : Nat) (x : List Int) : Option (List Int) :=
    obind (laws_toByteS.f k x) fun v0 => some v0

def laws_toPayloadS.s0 (k : Nat) (d0 : (List (List Int) × Int) × List (List Int)) : Option ((List (List Int) × Int) × List (List Int) ⊕ List (List Int)) :=
    bif ilt d0.fst.snd (llen d0.fst.fst) then
    bif idxOk d0.fst.snd (llen d0.fst.fst) then
      obind (laws_toPayload.f k (lget (Ty.sl (Ty.int IntKind.u8)) d0.fst.fst d0.fst.snd)) fun v1 =>
        bif idxOk d0.fst.snd (llen d0.snd) then
          some (Sum.inl ((d0.fst.fst, iadd IntKind.i64 d0.fst.snd 1), lset d0.snd d0.fst.snd v1))
        else none
    else none
  else some (Sum.inr d0.snd)
def laws_toPayloadS.f (k : Nat) (x : List (List Int)) : Option (List (List Int)) :=
    bif makeOk (llen x) (llen x) 24 then
    obind (loopN (laws_toPayloadS.s0 k) k ((x, 0), lrep (Ty.sl (Ty.int IntKind.u8)) (llen x))) fun v2 => some v2
  else none

def laws_toNumberedPacket.f (k : Nat) (x : DNumberedPacket) : Option DNumberedPacket :=
    obind (laws_toByteS.f k x.snd) fun v0 => some (x.fst, v0)

def laws_toNumberedPacketS.s0 (k : Nat) (d0 : (List DNumberedPacket × Int) × List DNumberedPacket) : Option ((List DNumberedPacket × Int) × List DNumberedPacket ⊕ List DNumberedPacket) :=
    bif ilt d0.fst.snd (llen d0.fst.fst) then
    bif idxOk d0.fst.snd (llen d0.fst.fst) then
      obind (laws_toNumberedPacket.f k (lget TNumberedPacket d0.fst.fst d0.fst.snd)) fun v1 =>
        bif idxOk d0.fst.snd (llen d0.snd) then
          some (Sum.inl ((d0.fst.fst, iadd IntKind.i64 d0.fst.snd 1), lset d0.snd d0.fst.snd v1))
        else none
    else none
  else some (Sum.inr d0.snd)
def laws_toNumberedPacketS.f (k : Nat) (x : List DNumberedPacket) : Option (List DNumberedPacket) :=
    bif makeOk (llen x) (llen x) 32 then
    obind (loopN (laws_toNumberedPacketS.s0 k) k ((x, 0), lrep TNumberedPacket (llen x))) fun v2 => some v2
  else none

def laws_toReceiveWindow.f (k : Nat) (x : DReceiveWindow) : Option DReceiveWindow :=
    obind (laws_toNumberedPacketS.f k x.snd.fst) fun v0 =>
    obind (laws_toPayloadS.f k x.snd.snd) fun v1 => some (x.fst, v0, v1)

def laws_toDevice.f (k : Nat) (x : DDevice) : Option DDevice :=
    obind (laws_toUSIM.f k x.fst) fun v0 =>
    obind (laws_toReceiveWindow.f k x.snd.snd.snd.snd.snd.snd.snd.snd) fun v1 =>
      some
        (v0, x.snd.fst, x.snd.snd.fst, x.snd.snd.snd.fst, x.snd.snd.snd.snd.fst, x.snd.snd.snd.snd.snd.fst,
          x.snd.snd.snd.snd.snd.snd.fst, x.snd.snd.snd.snd.snd.snd.snd.fst, v1)

def impl_InRange.f (k : Nat) (x : DQuota) : Option Bool :=
    some (bif ile x.snd.fst x.fst then ile x.fst x.snd.snd else false)

def impl_IsValidKey.f (k : Nat) (x : Int) : Option Bool :=
    obind (impl_InRange.f k (x, 1, 2147483646)) fun v0 => some v0

def impl_IsValidSubscriberID.f (k : Nat) (x : DSubscriberID) : Option Bool :=
    obind (impl_InRange.f k (x.fst, 0, 3)) fun v0 =>
    obind (bif v0 then impl_InRange.f k (x.snd, 0, 99) else some false) fun v1 => some (bif v0 then v1 else false)

def impl_IsValidUSIM.f (k : Nat) (x : DUSIM) : Option Bool :=
    obind (impl_IsValidSubscriberID.f k x.fst) fun v0 =>
    obind (bif v0 then impl_IsValidKey.f k x.snd.fst else some false) fun v1 =>
      obind (bif bif v0 then v1 else false then impl_InRange.f k (x.snd.snd, 0, 999999) else some false) fun v2 =>
        some (bif bif v0 then v1 else false then v2 else false)

def impl_fitPayload.s0  (d0 : List (List Int) × DSubscriberID) : Option (List (List Int) × DSubscriberID ⊕ Unit ⊕ Bool) :=
    bif ilt d0.snd.snd d0.snd.fst then
    bif idxOk d0.snd.snd (llen d0.fst) then
      bif ilt 60 (llen (lget (Ty.sl (Ty.int IntKind.u8)) d0.fst d0.snd.snd)) then some (Sum.inr (Sum.inr false))
      else some (Sum.inl (d0.fst, d0.snd.fst, iadd IntKind.i64 d0.snd.snd 1))
    else none
  else some (Sum.inr (Sum.inl ()))
def impl_fitPayload.f (k : Nat) (x : List (List Int)) : Option Bool :=
    obind (loopN impl_fitPayload.s0 k (x, llen x, 0)) fun v1 => selim (fun v2 => some true) (fun v3 => some v3) v1

def impl_IsValidReceiver.s0 (k : Nat) (d1 : (List DNumberedPacket × DSubscriberID) × DReceiveWindow) : Option ((List DNumberedPacket × DSubscriberID) × DReceiveWindow ⊕ Unit ⊕ Bool) :=
    bif ilt d1.fst.snd.snd d1.fst.snd.fst then
    bif idxOk d1.fst.snd.snd (llen d1.fst.fst) then
      obind
        (bif dnot (ilt 60 (llen (lget TNumberedPacket d1.fst.fst d1.fst.snd.snd).snd)) then
          impl_InRange.f k
            ((lget TNumberedPacket d1.fst.fst d1.fst.snd.snd).fst, iadd IntKind.i64 d1.snd.fst 1,
              isub IntKind.i64 (iadd IntKind.i64 d1.snd.fst 8) 1)
        else some false)
        fun v2 =>
        bif bif ilt 60 (llen (lget TNumberedPacket d1.fst.fst d1.fst.snd.snd).snd) then true else dnot v2 then
          some (Sum.inr (Sum.inr false))
        else
          bif
              bif idxOk (isub IntKind.i64 d1.fst.snd.snd 1) (llen d1.snd.snd.fst) then true
              else dnot (ilt 0 d1.fst.snd.snd) then
            bif
                bif ilt 0 d1.fst.snd.snd then
                  ile (lget TNumberedPacket d1.fst.fst d1.fst.snd.snd).fst
                    (lget TNumberedPacket d1.snd.snd.fst (isub IntKind.i64 d1.fst.snd.snd 1)).fst
                else false then
              some (Sum.inr (Sum.inr false))
            else some (Sum.inl ((d1.fst.fst, d1.fst.snd.fst, iadd IntKind.i64 d1.fst.snd.snd 1), d1.snd))
          else none
    else none
  else some (Sum.inr (Sum.inl ()))
def impl_IsValidReceiver.f (k : Nat) (x : DReceiveWindow) : Option Bool :=
    obind
    (bif dnot (bif ine x.fst (iadd IntKind.i64 (llen x.snd.snd) 1) then true else ilt 24 (llen x.snd.snd)) then
      impl_fitPayload.f k x.snd.snd
    else some false)
    fun v0 =>
    bif
        bif
            bif bif ine x.fst (iadd IntKind.i64 (llen x.snd.snd) 1) then true else ilt 24 (llen x.snd.snd) then true
            else dnot v0 then
          true
        else ilt 8 (llen x.snd.fst) then
      some false
    else
      obind (loopN (impl_IsValidReceiver.s0 k) k ((x.snd.fst, llen x.snd.fst, 0), x)) fun v3 =>
        selim (fun v4 => some true) (fun v5 => some v5) v3

def impl_IsValidDevice.f (k : Nat) (x : DDevice) : Option Bool :=
    obind (impl_IsValidUSIM.f k x.fst) fun v0 =>
    obind (bif dnot (dnot v0) then impl_InRange.f k (x.snd.fst, 0, 3) else some false) fun v1 =>
      obind (bif dnot (bif dnot v0 then true else dnot v1) then impl_InRange.f k (x.snd.snd.fst, 0, 5) else some false)
        fun v2 =>
        bif bif bif dnot v0 then true else dnot v1 then true else dnot v2 then some false
        else
          obind (impl_InRange.f k (x.snd.snd.snd.fst, 0, 999999)) fun v3 =>
            obind (bif dnot (dnot v3) then impl_InRange.f k (x.snd.snd.snd.snd.snd.fst, 0, 999999) else some false)
              fun v4 =>
              obind
                (bif dnot (bif dnot v3 then true else dnot v4) then
                  impl_InRange.f k (x.snd.snd.snd.snd.fst, 0, 2147483646)
                else some false)
                fun v5 =>
                bif bif bif dnot v3 then true else dnot v4 then true else dnot v5 then some false
                else
                  obind
                    (bif bif ieq x.snd.fst 2 then true else ieq x.snd.fst 3 then impl_IsValidKey.f k x.snd.snd.snd.snd.fst
                    else some false)
                    fun v6 =>
                    bif bif bif ieq x.snd.fst 2 then true else ieq x.snd.fst 3 then dnot v6 else false then some false
                    else
                      obind (impl_InRange.f k (x.snd.snd.snd.snd.snd.snd.snd.fst, 0, 3)) fun v7 =>
                        obind (bif v7 then impl_IsValidReceiver.f k x.snd.snd.snd.snd.snd.snd.snd.snd else some false)
                          fun v8 => some (bif v7 then v8 else false)

def laws_FnExactIsValidDevice.f (k : Nat) (x : DDevice) : Option Bool :=
    obind (laws_szDevice.f k (x, 1048576)) fun v0 =>
    bif ilt v0 0 then some true
    else
      obind (laws_toDevice.f k x) fun v1 =>
        obind (spec_IsValidDevice.f k v1) fun v2 =>
          obind (laws_toDevice.f k x) fun v3 =>
            obind (impl_IsValidDevice.f k v3) fun v4 =>
              bif bne' v4 v2 then some false
              else
                obind (laws_toDevice.f k x) fun v5 =>
                  obind (laws_eqDevice.f k (v3, v5)) fun v6 => bif dnot v6 then some false else some true

def laws_szIntS.f (k : Nat) (x : List Int × Int) : Option Int :=
    bif ilt (isub IntKind.i64 x.snd (llen x.fst)) 0 then some (-1) else some (isub IntKind.i64 x.snd (llen x.fst))

def laws_szSubscription.f (k : Nat) (x : DSubscription × Int) : Option Int :=
    obind (laws_szIntS.f k (x.fst.snd.snd.snd, x.snd)) fun v0 => bif ilt v0 0 then some (-1) else some v0

def spec_l30Plan.f (k : Nat) (x : DSubscription) : Option DSubscription :=
    bif appOk [] x.snd.snd.snd 8 then some (x.fst, x.snd.fst, x.snd.snd.fst, lcat [] x.snd.snd.snd) else none

def spec_NewSession.f (k : Nat) (x : DUSIM × DSubscription × Int) : Option DSession :=
    obind (spec_l30Plan.f k x.snd.fst) fun v0 =>
    some (x.fst, v0, 0, (0, 0, 0, 0, 0), 0, 0, 0, 0, 0, 0, (0, 0, 0), [], (1, []), 0, x.snd.snd, 0, 0)

def laws_toSubscriberRecord.f (k : Nat) (x : DUSIM) : Option DUSIM :=
    obind (laws_toSubscriberID.f k x.fst) fun v0 => some (v0, x.snd)

def laws_toIntS.s0  (d0 : (List Int × Int) × List Int) : Option ((List Int × Int) × List Int ⊕ List Int) :=
    bif ilt d0.fst.snd (llen d0.fst.fst) then
    bif idxOk d0.fst.snd (llen d0.fst.fst) then
      bif idxOk d0.fst.snd (llen d0.snd) then
        some
          (Sum.inl
            ((d0.fst.fst, iadd IntKind.i64 d0.fst.snd 1),
              lset d0.snd d0.fst.snd (lget (Ty.int IntKind.i64) d0.fst.fst d0.fst.snd)))
      else none
    else none
  else some (Sum.inr d0.snd)
def laws_toIntS.f (k : Nat) (x : List Int) : Option (List Int) :=
    bif makeOk (llen x) (llen x) 8 then
    obind (loopN laws_toIntS.s0 k ((x, 0), lrep (Ty.int IntKind.i64) (llen x))) fun v1 => some v1
  else none

def laws_toSubscription.f (k : Nat) (x : DSubscription) : Option DSubscription :=
    obind (laws_toIntS.f k x.snd.snd.snd) fun v0 => some (x.fst, x.snd.fst, x.snd.snd.fst, v0)

def impl_copyInts.f (k : Nat) (x : List Int) : Option (List Int) :=
    bif makeOk (llen x) (llen x) 8 then
    some (lcopy (lrep (Ty.int IntKind.i64) (llen x)) 0 (llen (lrep (Ty.int IntKind.i64) (llen x))) x)
  else none

def impl_copySubscription.f (k : Nat) (x : DSubscription) : Option DSubscription :=
    obind (impl_copyInts.f k x.snd.snd.snd) fun v0 => some (x.fst, x.snd.fst, x.snd.snd.fst, v0)

def impl_NewSession.f (k : Nat) (x : DUSIM × DSubscription × Int) : Option DSession :=
    obind (impl_copySubscription.f k x.snd.fst) fun v0 =>
    some (x.fst, v0, 0, (0, 0, 0, 0, 0), 0, 0, 0, 0, 0, 0, (0, 0, 0), [], (1, []), 0, x.snd.snd, 0, 0)

def laws_eqIntS.s0  (d0 : List Int × List Int × Int) : Option (List Int × List Int × Int ⊕ Unit ⊕ Bool) :=
    bif ilt d0.snd.snd (llen d0.fst) then
    bif idxOk d0.snd.snd (llen d0.fst) then
      bif idxOk d0.snd.snd (llen d0.snd.fst) then
        bif ine (lget (Ty.int IntKind.i64) d0.fst d0.snd.snd) (lget (Ty.int IntKind.i64) d0.snd.fst d0.snd.snd) then
          some (Sum.inr (Sum.inr false))
        else some (Sum.inl (d0.fst, d0.snd.fst, iadd IntKind.i64 d0.snd.snd 1))
      else none
    else none
  else some (Sum.inr (Sum.inl ()))
def laws_eqIntS.f (k : Nat) (x : List Int × List Int) : Option Bool :=
    bif ine (llen x.fst) (llen x.snd) then some false
  else obind (loopN laws_eqIntS.s0 k (x.fst, x.snd, 0)) fun v1 => selim (fun v2 => some true) (fun v3 => some v3) v1

def laws_eqSubscription.f (k : Nat) (x : DSubscription × DSubscription) : Option Bool :=
    bif ine x.fst.fst x.snd.fst then some false
  else
    bif ine x.fst.snd.fst x.snd.snd.fst then some false
    else
      bif ine x.fst.snd.snd.fst x.snd.snd.snd.fst then some false
      else
        obind (laws_eqIntS.f k (x.fst.snd.snd.snd, x.snd.snd.snd.snd)) fun v0 =>
          bif dnot v0 then some false else some true

def laws_eqSubscriberRecord.f (k : Nat) (x : DUSIM × DUSIM) : Option Bool :=
    obind (laws_eqSubscriberID.f k (x.fst.fst, x.snd.fst)) fun v0 =>
    bif dnot v0 then some false
    else
      bif ine x.fst.snd.fst x.snd.snd.fst then some false
      else bif ine x.fst.snd.snd x.snd.snd.snd then some false else some true

def laws_eqAuthVector.f (k : Nat) (x : DAuthVector × DAuthVector) : Option Bool :=
    bif ine x.fst.fst x.snd.fst then some false
  else
    bif ine x.fst.snd.fst x.snd.snd.fst then some false
    else
      bif ine x.fst.snd.snd.fst x.snd.snd.snd.fst then some false
      else
        bif ine x.fst.snd.snd.snd.fst x.snd.snd.snd.snd.fst then some false
        else bif ine x.fst.snd.snd.snd.snd x.snd.snd.snd.snd.snd then some false else some true

def laws_eqPagingState.f (k : Nat) (x : DQuota × DQuota) : Option Bool :=
    bif ine x.fst.fst x.snd.fst then some false
  else
    bif ine x.fst.snd.fst x.snd.snd.fst then some false
    else bif ine x.fst.snd.snd x.snd.snd.snd then some false else some true

def laws_eqSendWindow.f (k : Nat) (x : DSendWindow × DSendWindow) : Option Bool :=
    bif ine x.fst.fst x.snd.fst then some false
  else obind (laws_eqNumberedPacketS.f k (x.fst.snd, x.snd.snd)) fun v0 => bif dnot v0 then some false else some true

def laws_eqQuota.f (k : Nat) (x : DQuota × DQuota) : Option Bool :=
    bif ine x.fst.fst x.snd.fst then some false
  else
    bif ine x.fst.snd.fst x.snd.snd.fst then some false
    else bif ine x.fst.snd.snd x.snd.snd.snd then some false else some true

def laws_eqSession.f (k : Nat) (x : DSession × DSession) : Option Bool :=
    obind (laws_eqSubscriberRecord.f k (x.fst.fst, x.snd.fst)) fun v0 =>
    bif dnot v0 then some false
    else
      obind (laws_eqSubscription.f k (x.fst.snd.fst, x.snd.snd.fst)) fun v1 =>
        bif dnot v1 then some false
        else
          bif ine x.fst.snd.snd.fst x.snd.snd.snd.fst then some false
          else
            obind (laws_eqAuthVector.f k (x.fst.snd.snd.snd.fst, x.snd.snd.snd.snd.fst)) fun v2 =>
              bif dnot v2 then some false
              else
                bif ine x.fst.snd.snd.snd.snd.fst x.snd.snd.snd.snd.snd.fst then some false
                else
                  bif ine x.fst.snd.snd.snd.snd.snd.fst x.snd.snd.snd.snd.snd.snd.fst then some false
                  else
                    bif ine x.fst.snd.snd.snd.snd.snd.snd.fst x.snd.snd.snd.snd.snd.snd.snd.fst then some false
                    else
                      bif ine x.fst.snd.snd.snd.snd.snd.snd.snd.fst x.snd.snd.snd.snd.snd.snd.snd.snd.fst then some false
                      else
                        bif ine x.fst.snd.snd.snd.snd.snd.snd.snd.snd.fst x.snd.snd.snd.snd.snd.snd.snd.snd.snd.fst then
                          some false
                        else
                          bif
                              ine x.fst.snd.snd.snd.snd.snd.snd.snd.snd.snd.fst
                                x.snd.snd.snd.snd.snd.snd.snd.snd.snd.snd.fst then
                            some false
                          else
                            obind
                              (laws_eqPagingState.f k
                                (x.fst.snd.snd.snd.snd.snd.snd.snd.snd.snd.snd.fst,
                                  x.snd.snd.snd.snd.snd.snd.snd.snd.snd.snd.snd.fst))
                              fun v3 =>
                              bif dnot v3 then some false
                              else
                                obind
                                  (laws_eqPayloadS.f k
                                    (x.fst.snd.snd.snd.snd.snd.snd.snd.snd.snd.snd.snd.fst,
                                      x.snd.snd.snd.snd.snd.snd.snd.snd.snd.snd.snd.snd.fst))
                                  fun v4 =>
                                  bif dnot v4 then some false
                                  else
                                    obind
                                      (laws_eqSendWindow.f k
                                        (x.fst.snd.snd.snd.snd.snd.snd.snd.snd.snd.snd.snd.snd.fst,
                                          x.snd.snd.snd.snd.snd.snd.snd.snd.snd.snd.snd.snd.snd.fst))
                                      fun v5 =>
                                      bif dnot v5 then some false
                                      else
                                        bif
                                            ine x.fst.snd.snd.snd.snd.snd.snd.snd.snd.snd.snd.snd.snd.snd.fst
                                              x.snd.snd.snd.snd.snd.snd.snd.snd.snd.snd.snd.snd.snd.snd.fst then
                                          some false
                                        else
                                          obind
                                            (laws_eqQuota.f k
                                              (x.fst.snd.snd.snd.snd.snd.snd.snd.snd.snd.snd.snd.snd.snd.snd,
                                                x.snd.snd.snd.snd.snd.snd.snd.snd.snd.snd.snd.snd.snd.snd.snd))
                                            fun v6 => bif dnot v6 then some false else some true

def laws_markIntS.s0  (d0 : DSubscriberID × List Int) : Option (DSubscriberID × List Int ⊕ DNumberedPacket) :=
    bif ilt d0.fst.snd (llen d0.snd) then
    bif idxOk d0.fst.snd (llen d0.snd) then
      some (Sum.inl ((iadd IntKind.i64 d0.fst.fst 1, iadd IntKind.i64 d0.fst.snd 1), lset d0.snd d0.fst.snd d0.fst.fst))
    else none
  else some (Sum.inr (d0.fst.fst, d0.snd))
def laws_markIntS.f (k : Nat) (x : List Int × Int) : Option DNumberedPacket :=
    obind (loopN laws_markIntS.s0 k ((x.snd, 0), x.fst)) fun v1 => some v1

def laws_markSubscription.f (k : Nat) (x : DSubscription × Int) : Option (Int × DSubscription) :=
    obind (laws_markIntS.f k (x.fst.snd.snd.snd, x.snd)) fun v0 =>
    some (v0.fst, x.fst.fst, x.fst.snd.fst, x.fst.snd.snd.fst, v0.snd)

def laws_markSendWindow.f (k : Nat) (x : DSendWindow × Int) : Option (Int × DSendWindow) :=
    obind (laws_markNumberedPacketS.f k (x.fst.snd, x.snd)) fun v0 => some (v0.fst, x.fst.fst, v0.snd)

def laws_markSession.f (k : Nat) (x : DSession × Int) : Option (Int × DSession) :=
    obind (laws_markSubscription.f k (x.fst.snd.fst, x.snd)) fun v0 =>
    obind (laws_markPayloadS.f k (x.fst.snd.snd.snd.snd.snd.snd.snd.snd.snd.snd.snd.fst, v0.fst)) fun v1 =>
      obind (laws_markSendWindow.f k (x.fst.snd.snd.snd.snd.snd.snd.snd.snd.snd.snd.snd.snd.fst, v1.fst)) fun v2 =>
        some
          (v2.fst, x.fst.fst, (x.fst.snd.fst.fst, x.fst.snd.fst.snd.fst, x.fst.snd.fst.snd.snd.fst, v0.snd.snd.snd.snd),
            x.fst.snd.snd.fst, x.fst.snd.snd.snd.fst, x.fst.snd.snd.snd.snd.fst, x.fst.snd.snd.snd.snd.snd.fst,
            x.fst.snd.snd.snd.snd.snd.snd.fst, x.fst.snd.snd.snd.snd.snd.snd.snd.fst,
            x.fst.snd.snd.snd.snd.snd.snd.snd.snd.fst, x.fst.snd.snd.snd.snd.snd.snd.snd.snd.snd.fst,
            x.fst.snd.snd.snd.snd.snd.snd.snd.snd.snd.snd.fst, v1.snd,
            (x.fst.snd.snd.snd.snd.snd.snd.snd.snd.snd.snd.snd.snd.fst.fst, v2.snd.snd),
            x.fst.snd.snd.snd.snd.snd.snd.snd.snd.snd.snd.snd.snd.snd)

def laws_heldIntS.s0  (d0 : Dl1Cur) : Option (Dl1Cur ⊕ Int ⊕ Int) :=
    bif ilt d0.snd.snd (llen d0.fst) then
    bif idxOk d0.snd.snd (llen d0.fst) then
      bif ine (lget (Ty.int IntKind.i64) d0.fst d0.snd.snd) d0.snd.fst then some (Sum.inr (Sum.inr (-1)))
      else some (Sum.inl (d0.fst, iadd IntKind.i64 d0.snd.fst 1, iadd IntKind.i64 d0.snd.snd 1))
    else none
  else some (Sum.inr (Sum.inl d0.snd.fst))
def laws_heldIntS.f (k : Nat) (x : List Int × Int) : Option Int :=
    obind (loopN laws_heldIntS.s0 k (x.fst, x.snd, 0)) fun v1 => selim (fun v2 => some v2) (fun v3 => some v3) v1

def laws_heldSubscription.f (k : Nat) (x : DSubscription × Int) : Option Int :=
    obind (laws_heldIntS.f k (x.fst.snd.snd.snd, x.snd)) fun v0 => bif ilt v0 0 then some (-1) else some v0

def laws_heldSendWindow.f (k : Nat) (x : DSendWindow × Int) : Option Int :=
    obind (laws_heldNumberedPacketS.f k (x.fst.snd, x.snd)) fun v0 => bif ilt v0 0 then some (-1) else some v0

def laws_heldSession.f (k : Nat) (x : DSession × Int) : Option Int :=
    obind (laws_heldSubscription.f k (x.fst.snd.fst, x.snd)) fun v0 =>
    bif ilt v0 0 then some (-1)
    else
      obind (laws_heldPayloadS.f k (x.fst.snd.snd.snd.snd.snd.snd.snd.snd.snd.snd.snd.fst, v0)) fun v1 =>
        bif ilt v1 0 then some (-1)
        else
          obind (laws_heldSendWindow.f k (x.fst.snd.snd.snd.snd.snd.snd.snd.snd.snd.snd.snd.snd.fst, v1)) fun v2 =>
            bif ilt v2 0 then some (-1) else some v2

def laws_FnExactNewSession.f (k : Nat) (x : DUSIM × DSubscription × Int) : Option Bool :=
    obind (laws_szSubscription.f k (x.snd.fst, 1048576)) fun v0 =>
    bif ilt v0 0 then some true
    else
      obind (laws_toSubscriberRecord.f k x.fst) fun v1 =>
        obind (laws_toSubscription.f k x.snd.fst) fun v2 =>
          obind (spec_NewSession.f k (v1, v2, x.snd.snd)) fun v3 =>
            obind (laws_toSubscription.f k x.snd.fst) fun v4 =>
              obind (laws_toSubscriberRecord.f k x.fst) fun v5 =>
                obind (impl_NewSession.f k (v5, v4, x.snd.snd)) fun v6 =>
                  obind (laws_eqSession.f k (v6, v3)) fun v7 =>
                    bif dnot v7 then some false
                    else
                      obind (laws_toSubscription.f k x.snd.fst) fun v8 =>
                        obind (laws_eqSubscription.f k (v4, v8)) fun v9 =>
                          bif dnot v9 then some false
                          else
                            obind (laws_markSubscription.f k (v4, 1)) fun v10 =>
                              obind (bif dnot (ilt v10.fst 0) then laws_eqSession.f k (v6, v3) else some false) fun v11 =>
                                bif bif ilt v10.fst 0 then true else dnot v11 then some false
                                else
                                  obind (laws_markSession.f k (v6, 1)) fun v12 =>
                                    obind
                                      (laws_heldSession.f k
                                        ((v6.fst,
                                            (v6.snd.fst.fst, v6.snd.fst.snd.fst, v6.snd.fst.snd.snd.fst,
                                              v12.snd.snd.fst.snd.snd.snd),
                                            v6.snd.snd.fst, v6.snd.snd.snd.fst, v6.snd.snd.snd.snd.fst,
                                            v6.snd.snd.snd.snd.snd.fst, v6.snd.snd.snd.snd.snd.snd.fst,
                                            v6.snd.snd.snd.snd.snd.snd.snd.fst, v6.snd.snd.snd.snd.snd.snd.snd.snd.fst,
                                            v6.snd.snd.snd.snd.snd.snd.snd.snd.snd.fst,
                                            v6.snd.snd.snd.snd.snd.snd.snd.snd.snd.snd.fst,
                                            v12.snd.snd.snd.snd.snd.snd.snd.snd.snd.snd.snd.snd.fst,
                                            (v6.snd.snd.snd.snd.snd.snd.snd.snd.snd.snd.snd.snd.fst.fst,
                                              v12.snd.snd.snd.snd.snd.snd.snd.snd.snd.snd.snd.snd.snd.fst.snd),
                                            v6.snd.snd.snd.snd.snd.snd.snd.snd.snd.snd.snd.snd.snd),
                                          1))
                                      fun v13 =>
                                      bif ilt v13 0 then some false
                                      else
                                        bif ine v13 v12.fst then some false
                                        else
                                          obind (laws_toSubscriberRecord.f k x.fst) fun v14 =>
                                            obind (laws_toSubscription.f k x.snd.fst) fun v15 =>
                                              obind (impl_NewSession.f k (v14, v15, x.snd.snd)) fun v16 =>
                                                obind (laws_eqSession.f k (v16, v3)) fun v17 =>
                                                  bif dnot v17 then some false
                                                  else
                                                    obind
                                                      (laws_heldSession.f k
                                                        ((v6.fst,
                                                            (v6.snd.fst.fst, v6.snd.fst.snd.fst, v6.snd.fst.snd.snd.fst,
                                                              v12.snd.snd.fst.snd.snd.snd),
                                                            v6.snd.snd.fst, v6.snd.snd.snd.fst, v6.snd.snd.snd.snd.fst,
                                                            v6.snd.snd.snd.snd.snd.fst, v6.snd.snd.snd.snd.snd.snd.fst,
                                                            v6.snd.snd.snd.snd.snd.snd.snd.fst,
                                                            v6.snd.snd.snd.snd.snd.snd.snd.snd.fst,
                                                            v6.snd.snd.snd.snd.snd.snd.snd.snd.snd.fst,
                                                            v6.snd.snd.snd.snd.snd.snd.snd.snd.snd.snd.fst,
                                                            v12.snd.snd.snd.snd.snd.snd.snd.snd.snd.snd.snd.snd.fst,
                                                            (v6.snd.snd.snd.snd.snd.snd.snd.snd.snd.snd.snd.snd.fst.fst,
                                                              v12.snd.snd.snd.snd.snd.snd.snd.snd.snd.snd.snd.snd.snd.fst.snd),
                                                            v6.snd.snd.snd.snd.snd.snd.snd.snd.snd.snd.snd.snd.snd),
                                                          1))
                                                      fun v18 =>
                                                      bif ilt v18 0 then some false
                                                      else bif ine v18 v12.fst then some false else some true

def spec_l24Sents.s0  (d0 : (List DNumberedPacket × Int) × List DNumberedPacket) : Option ((List DNumberedPacket × Int) × List DNumberedPacket ⊕ List DNumberedPacket) :=
    bif ilt d0.fst.snd (llen d0.fst.fst) then
    bif idxOk d0.fst.snd (llen d0.fst.fst) then
      bif idxOk d0.fst.snd (llen d0.fst.fst) then
        bif appOk [] (lget TNumberedPacket d0.fst.fst d0.fst.snd).snd 1 then
          bif
              appOk d0.snd
                [((lget TNumberedPacket d0.fst.fst d0.fst.snd).fst,
                    lcat [] (lget TNumberedPacket d0.fst.fst d0.fst.snd).snd)]
                32 then
            some
              (Sum.inl
                ((d0.fst.fst, iadd IntKind.i64 d0.fst.snd 1),
                  lcat d0.snd
                    [((lget TNumberedPacket d0.fst.fst d0.fst.snd).fst,
                        lcat [] (lget TNumberedPacket d0.fst.fst d0.fst.snd).snd)]))
          else none
        else none
      else none
    else none
  else some (Sum.inr d0.snd)
def spec_l24Sents.f (k : Nat) (x : List DNumberedPacket) : Option (List DNumberedPacket) :=
    obind (loopN spec_l24Sents.s0 k ((x, 0), [])) fun v1 => some v1

def spec_l15Bodies.s0  (d0 : (List (List Int) × Int) × List (List Int)) : Option ((List (List Int) × Int) × List (List Int) ⊕ List (List Int)) :=
    bif ilt d0.fst.snd (llen d0.fst.fst) then
    bif idxOk d0.fst.snd (llen d0.fst.fst) then
      bif appOk [] (lget (Ty.sl (Ty.int IntKind.u8)) d0.fst.fst d0.fst.snd) 1 then
        bif appOk d0.snd [lcat [] (lget (Ty.sl (Ty.int IntKind.u8)) d0.fst.fst d0.fst.snd)] 24 then
          some
            (Sum.inl
              ((d0.fst.fst, iadd IntKind.i64 d0.fst.snd 1),
                lcat d0.snd [lcat [] (lget (Ty.sl (Ty.int IntKind.u8)) d0.fst.fst d0.fst.snd)]))
        else none
      else none
    else none
  else some (Sum.inr d0.snd)
def spec_l15Bodies.f (k : Nat) (x : List (List Int)) : Option (List (List Int)) :=
    obind (loopN spec_l15Bodies.s0 k ((x, 0), [])) fun v1 => some v1

def spec_l24Recv.f (k : Nat) (x : DReceiveWindow) : Option DReceiveWindow :=
    obind (spec_l24Sents.f k x.snd.fst) fun v0 => obind (spec_l15Bodies.f k x.snd.snd) fun v1 => some (x.fst, v0, v1)

def spec_l29Copy.f (k : Nat) (x : DDevice) : Option DDevice :=
    obind (spec_l24Recv.f k x.snd.snd.snd.snd.snd.snd.snd.snd) fun v0 =>
    some
      (x.fst, x.snd.fst, x.snd.snd.fst, x.snd.snd.snd.fst, x.snd.snd.snd.snd.fst, x.snd.snd.snd.snd.snd.fst,
        x.snd.snd.snd.snd.snd.snd.fst, x.snd.snd.snd.snd.snd.snd.snd.fst, v0)

def spec_EnterIdle.f (k : Nat) (x : DDevice) : Option DDevice :=
    obind (spec_l29Copy.f k x) fun v0 => bif ieq x.snd.fst 2 then some (v0.fst, 3, v0.snd.snd) else some v0

def impl_copyBytes.f (k : Nat) (x : List Int) : Option (List Int) :=
    bif makeOk (llen x) (llen x) 1 then
    some (lcopy (lrep (Ty.int IntKind.u8) (llen x)) 0 (llen (lrep (Ty.int IntKind.u8) (llen x))) x)
  else none

def impl_copyPayloads.s0 (k : Nat) (d0 : (List (List Int) × DSubscriberID) × List (List Int)) : Option ((List (List Int) × DSubscriberID) × List (List Int) ⊕ List (List Int)) :=
    bif ilt d0.fst.snd.snd d0.fst.snd.fst then
    bif idxOk d0.fst.snd.snd (llen d0.fst.fst) then
      obind (impl_copyBytes.f k (lget (Ty.sl (Ty.int IntKind.u8)) d0.fst.fst d0.fst.snd.snd)) fun v1 =>
        bif idxOk d0.fst.snd.snd (llen d0.snd) then
          some (Sum.inl ((d0.fst.fst, d0.fst.snd.fst, iadd IntKind.i64 d0.fst.snd.snd 1), lset d0.snd d0.fst.snd.snd v1))
        else none
    else none
  else some (Sum.inr d0.snd)
def impl_copyPayloads.f (k : Nat) (x : List (List Int)) : Option (List (List Int)) :=
    bif makeOk (llen x) (llen x) 24 then
    obind (loopN (impl_copyPayloads.s0 k) k ((x, llen x, 0), lrep (Ty.sl (Ty.int IntKind.u8)) (llen x))) fun v2 => some v2
  else none

def impl_copyNumbered.s0 (k : Nat) (d0 : (List DNumberedPacket × DSubscriberID) × List DNumberedPacket) : Option ((List DNumberedPacket × DSubscriberID) × List DNumberedPacket ⊕ List DNumberedPacket) :=
    bif ilt d0.fst.snd.snd d0.fst.snd.fst then
    bif idxOk d0.fst.snd.snd (llen d0.fst.fst) then
      obind (impl_copyBytes.f k (lget TNumberedPacket d0.fst.fst d0.fst.snd.snd).snd) fun v1 =>
        bif idxOk d0.fst.snd.snd (llen d0.snd) then
          some
            (Sum.inl
              ((d0.fst.fst, d0.fst.snd.fst, iadd IntKind.i64 d0.fst.snd.snd 1),
                lset d0.snd d0.fst.snd.snd ((lget TNumberedPacket d0.fst.fst d0.fst.snd.snd).fst, v1)))
        else none
    else none
  else some (Sum.inr d0.snd)
def impl_copyNumbered.f (k : Nat) (x : List DNumberedPacket) : Option (List DNumberedPacket) :=
    bif makeOk (llen x) (llen x) 32 then
    obind (loopN (impl_copyNumbered.s0 k) k ((x, llen x, 0), lrep TNumberedPacket (llen x))) fun v2 => some v2
  else none

def impl_copyReceiver.f (k : Nat) (x : DReceiveWindow) : Option DReceiveWindow :=
    obind (impl_copyNumbered.f k x.snd.fst) fun v0 => obind (impl_copyPayloads.f k x.snd.snd) fun v1 => some (x.fst, v0, v1)

def impl_copyDevice.f (k : Nat) (x : DDevice) : Option DDevice :=
    obind (impl_copyReceiver.f k x.snd.snd.snd.snd.snd.snd.snd.snd) fun v0 =>
    some
      (x.fst, x.snd.fst, x.snd.snd.fst, x.snd.snd.snd.fst, x.snd.snd.snd.snd.fst, x.snd.snd.snd.snd.snd.fst,
        x.snd.snd.snd.snd.snd.snd.fst, x.snd.snd.snd.snd.snd.snd.snd.fst, v0)

def impl_EnterIdle.f (k : Nat) (x : DDevice) : Option DDevice :=
    bif ieq x.snd.fst 2 then obind (impl_copyDevice.f k (x.fst, 3, x.snd.snd)) fun v0 => some v0
  else obind (impl_copyDevice.f k x) fun v1 => some v1

def laws_FnExactEnterIdle.f (k : Nat) (x : DDevice) : Option Bool :=
    obind (laws_szDevice.f k (x, 1048576)) fun v0 =>
    bif ilt v0 0 then some true
    else
      obind (laws_toDevice.f k x) fun v1 =>
        obind (spec_EnterIdle.f k v1) fun v2 =>
          obind (laws_toDevice.f k x) fun v3 =>
            obind (impl_EnterIdle.f k v3) fun v4 =>
              obind (laws_eqDevice.f k (v4, v2)) fun v5 =>
                bif dnot v5 then some false
                else
                  obind (laws_toDevice.f k x) fun v6 =>
                    obind (laws_eqDevice.f k (v3, v6)) fun v7 =>
                      bif dnot v7 then some false
                      else
                        obind (laws_markDevice.f k (v3, 1)) fun v8 =>
                          obind (bif dnot (ilt v8.fst 0) then laws_eqDevice.f k (v4, v2) else some false) fun v9 =>
                            bif bif ilt v8.fst 0 then true else dnot v9 then some false
                            else
                              obind (laws_markDevice.f k (v4, 1)) fun v10 =>
                                obind
                                  (laws_heldDevice.f k
                                    ((v4.fst, v4.snd.fst, v4.snd.snd.fst, v4.snd.snd.snd.fst, v4.snd.snd.snd.snd.fst,
                                        v4.snd.snd.snd.snd.snd.fst, v4.snd.snd.snd.snd.snd.snd.fst,
                                        v4.snd.snd.snd.snd.snd.snd.snd.fst, v4.snd.snd.snd.snd.snd.snd.snd.snd.fst,
                                        v10.snd.snd.snd.snd.snd.snd.snd.snd.snd.snd),
                                      1))
                                  fun v11 =>
                                  bif ilt v11 0 then some false
                                  else
                                    bif ine v11 v10.fst then some false
                                    else
                                      obind (laws_toDevice.f k x) fun v12 =>
                                        obind (impl_EnterIdle.f k v12) fun v13 =>
                                          obind (laws_eqDevice.f k (v13, v2)) fun v14 =>
                                            bif dnot v14 then some false
                                            else
                                              obind
                                                (laws_heldDevice.f k
                                                  ((v4.fst, v4.snd.fst, v4.snd.snd.fst, v4.snd.snd.snd.fst,
                                                      v4.snd.snd.snd.snd.fst, v4.snd.snd.snd.snd.snd.fst,
                                                      v4.snd.snd.snd.snd.snd.snd.fst, v4.snd.snd.snd.snd.snd.snd.snd.fst,
                                                      v4.snd.snd.snd.snd.snd.snd.snd.snd.fst,
                                                      v10.snd.snd.snd.snd.snd.snd.snd.snd.snd.snd),
                                                    1))
                                                fun v15 =>
                                                bif ilt v15 0 then some false
                                                else bif ine v15 v10.fst then some false else some true

def laws_szSendWindow.f (k : Nat) (x : DSendWindow × Int) : Option Int :=
    obind (laws_szNumberedPacketS.f k (x.fst.snd, x.snd)) fun v0 => bif ilt v0 0 then some (-1) else some v0

def laws_szSession.f (k : Nat) (x : DSession × Int) : Option Int :=
    obind (laws_szSubscription.f k (x.fst.snd.fst, x.snd)) fun v0 =>
    bif ilt v0 0 then some (-1)
    else
      obind (laws_szPayloadS.f k (x.fst.snd.snd.snd.snd.snd.snd.snd.snd.snd.snd.snd.fst, v0)) fun v1 =>
        bif ilt v1 0 then some (-1)
        else
          obind (laws_szSendWindow.f k (x.fst.snd.snd.snd.snd.snd.snd.snd.snd.snd.snd.snd.snd.fst, v1)) fun v2 =>
            bif ilt v2 0 then some (-1) else some v2

def spec_AcknowledgedPackets.f (k : Nat) (x : DSession) : Option Int :=
    some
    (isub IntKind.i64 (isub IntKind.i64 x.snd.snd.snd.snd.snd.snd.snd.snd.snd.snd.snd.snd.fst.fst 1)
      (llen x.snd.snd.snd.snd.snd.snd.snd.snd.snd.snd.snd.snd.fst.snd))

def laws_toAuthVector.f (k : Nat) (x : DAuthVector) : Option DAuthVector :=
    some x

def laws_toPagingState.f (k : Nat) (x : DQuota) : Option DQuota :=
    some x

def laws_toSendWindow.f (k : Nat) (x : DSendWindow) : Option DSendWindow :=
    obind (laws_toNumberedPacketS.f k x.snd) fun v0 => some (x.fst, v0)

def laws_toQuota.f (k : Nat) (x : DQuota) : Option DQuota :=
    some x

def laws_toSession.f (k : Nat) (x : DSession) : Option DSession :=
    obind (laws_toSubscriberRecord.f k x.fst) fun v0 =>
    obind (laws_toSubscription.f k x.snd.fst) fun v1 =>
      obind (laws_toAuthVector.f k x.snd.snd.snd.fst) fun v2 =>
        obind (laws_toPagingState.f k x.snd.snd.snd.snd.snd.snd.snd.snd.snd.snd.fst) fun v3 =>
          obind (laws_toPayloadS.f k x.snd.snd.snd.snd.snd.snd.snd.snd.snd.snd.snd.fst) fun v4 =>
            obind (laws_toSendWindow.f k x.snd.snd.snd.snd.snd.snd.snd.snd.snd.snd.snd.snd.fst) fun v5 =>
              obind (laws_toQuota.f k x.snd.snd.snd.snd.snd.snd.snd.snd.snd.snd.snd.snd.snd.snd) fun v6 =>
                some
                  (v0, v1, x.snd.snd.fst, v2, x.snd.snd.snd.snd.fst, x.snd.snd.snd.snd.snd.fst,
                    x.snd.snd.snd.snd.snd.snd.fst, x.snd.snd.snd.snd.snd.snd.snd.fst,
                    x.snd.snd.snd.snd.snd.snd.snd.snd.fst, x.snd.snd.snd.snd.snd.snd.snd.snd.snd.fst, v3, v4, v5,
                    x.snd.snd.snd.snd.snd.snd.snd.snd.snd.snd.snd.snd.snd.fst, v6)

def impl_AcknowledgedPackets.f (k : Nat) (x : DSession) : Option Int :=
    some
    (isub IntKind.i64 (isub IntKind.i64 x.snd.snd.snd.snd.snd.snd.snd.snd.snd.snd.snd.snd.fst.fst 1)
      (llen x.snd.snd.snd.snd.snd.snd.snd.snd.snd.snd.snd.snd.fst.snd))

def laws_FnExactAcknowledgedPackets.f (k : Nat) (x : DSession) : Option Bool :=
    obind (laws_szSession.f k (x, 1048576)) fun v0 =>
    bif ilt v0 0 then some true
    else
      obind (laws_toSession.f k x) fun v1 =>
        obind (spec_AcknowledgedPackets.f k v1) fun v2 =>
          obind (laws_toSession.f k x) fun v3 =>
            obind (impl_AcknowledgedPackets.f k v3) fun v4 =>
              bif ine v4 v2 then some false
              else
                obind (laws_toSession.f k x) fun v5 =>
                  obind (laws_eqSession.f k (v3, v5)) fun v6 => bif dnot v6 then some false else some true

def spec_l30Bytes.s0  (d0 : List DNumberedPacket × DSubscriberID) : Option (List DNumberedPacket × DSubscriberID ⊕ Int) :=
    bif ilt d0.snd.snd (llen d0.fst) then
    bif idxOk d0.snd.snd (llen d0.fst) then
      some
        (Sum.inl
          (d0.fst, iadd IntKind.i64 d0.snd.fst (llen (lget TNumberedPacket d0.fst d0.snd.snd).snd),
            iadd IntKind.i64 d0.snd.snd 1))
    else none
  else some (Sum.inr d0.snd.fst)
def spec_l30Bytes.f (k : Nat) (x : List DNumberedPacket) : Option Int :=
    obind (loopN spec_l30Bytes.s0 k (x, 0, 0)) fun v1 => some v1

def spec_OutstandingBytes.f (k : Nat) (x : DSession) : Option Int :=
    obind (spec_l30Bytes.f k x.snd.snd.snd.snd.snd.snd.snd.snd.snd.snd.snd.snd.fst.snd) fun v0 => some v0

def impl_numberedBytes.s0  (d0 : Int × List DNumberedPacket × DSubscriberID) : Option (Int × List DNumberedPacket × DSubscriberID ⊕ Int) :=
    bif ilt d0.snd.snd.snd d0.snd.snd.fst then
    bif idxOk d0.snd.snd.snd (llen d0.snd.fst) then
      some
        (Sum.inl
          (iadd IntKind.i64 d0.fst (llen (lget TNumberedPacket d0.snd.fst d0.snd.snd.snd).snd), d0.snd.fst,
            d0.snd.snd.fst, iadd IntKind.i64 d0.snd.snd.snd 1))
    else none
  else some (Sum.inr d0.fst)
def impl_numberedBytes.f (k : Nat) (x : List DNumberedPacket) : Option Int :=
    obind (loopN impl_numberedBytes.s0 k (0, x, llen x, 0)) fun v1 => some v1

def impl_OutstandingBytes.f (k : Nat) (x : DSession) : Option Int :=
    obind (impl_numberedBytes.f k x.snd.snd.snd.snd.snd.snd.snd.snd.snd.snd.snd.snd.fst.snd) fun v0 => some v0

def laws_FnExactOutstandingBytes.f (k : Nat) (x : DSession) : Option Bool :=
    obind (laws_szSession.f k (x, 1048576)) fun v0 =>
    bif ilt v0 0 then some true
    else
      obind (laws_toSession.f k x) fun v1 =>
        obind (spec_OutstandingBytes.f k v1) fun v2 =>
          obind (laws_toSession.f k x) fun v3 =>
            obind (impl_OutstandingBytes.f k v3) fun v4 =>
              bif ine v4 v2 then some false
              else
                obind (laws_toSession.f k x) fun v5 =>
                  obind (laws_eqSession.f k (v3, v5)) fun v6 => bif dnot v6 then some false else some true

def laws_big.f (k : Nat) (x : List Int) : Option Bool :=
    some (ilt 1048576 (llen x))

def spec_l1New.s0  (d0 : Dl1Cur) : Option (Dl1Cur ⊕ List Int × Int) :=
    bif bif ilt d0.snd.snd (llen d0.fst) then ilt d0.snd.snd 4000 else false then
    bif idxOk d0.snd.snd (llen d0.fst) then
      some
        (Sum.inl
          (d0.fst,
            iand IntKind.i64
              (iadd IntKind.i64
                (iadd IntKind.i64 (imul IntKind.i64 d0.snd.fst 137)
                  (icast IntKind.i64 (lget (Ty.int IntKind.u8) d0.fst d0.snd.snd)))
                11)
              1073741823,
            iadd IntKind.i64 d0.snd.snd 1))
    else none
  else some (Sum.inr (d0.fst, d0.snd.fst))
def spec_l1New.f (k : Nat) (x : List Int) : Option Dl1Cur :=
    obind (loopN spec_l1New.s0 k (x, iadd IntKind.i64 193017 (llen x), 0)) fun v1 => some (v1.fst, 0, v1.snd)

def spec_l1Byte.f (k : Nat) (x : Dl1Cur) : Option (Int × Dl1Cur) :=
    bif ile 0 33 then
    bif ile 0 47 then
      bif ilt x.snd.fst (llen x.fst) then
        bif idxOk x.snd.fst (llen x.fst) then
          some
            (iand IntKind.i64
                (iadd IntKind.i64
                  (iand IntKind.i64
                    (ixor IntKind.i64
                      (ishr IntKind.i64
                        (iadd IntKind.i64 (imul IntKind.i64 x.snd.snd 6364136223846793005) 1442695040888963407) 33)
                      (ishr IntKind.i64
                        (iadd IntKind.i64 (imul IntKind.i64 x.snd.snd 6364136223846793005) 1442695040888963407) 47))
                    255)
                  (icast IntKind.i64 (lget (Ty.int IntKind.u8) x.fst x.snd.fst)))
                255,
              x.fst, iadd IntKind.i64 x.snd.fst 1,
              iadd IntKind.i64 (imul IntKind.i64 x.snd.snd 6364136223846793005) 1442695040888963407)
        else none
      else
        some
          (iand IntKind.i64
              (ixor IntKind.i64
                (ishr IntKind.i64 (iadd IntKind.i64 (imul IntKind.i64 x.snd.snd 6364136223846793005) 1442695040888963407)
                  33)
                (ishr IntKind.i64 (iadd IntKind.i64 (imul IntKind.i64 x.snd.snd 6364136223846793005) 1442695040888963407)
                  47))
              255,
            x.fst, x.snd.fst, iadd IntKind.i64 (imul IntKind.i64 x.snd.snd 6364136223846793005) 1442695040888963407)
    else none
  else none

def spec_l1Below.f (k : Nat) (x : Dl1Cur × Int) : Option (Int × Dl1Cur) :=
    bif ile x.snd 0 then some (0, x.fst)
  else
    bif ile x.snd 256 then
      obind (spec_l1Byte.f k x.fst) fun v0 => bif ine x.snd 0 then some (irem IntKind.i64 v0.fst x.snd, v0.snd) else none
    else
      obind (spec_l1Byte.f k x.fst) fun v1 =>
        obind (spec_l1Byte.f k v1.snd) fun v2 =>
          obind (spec_l1Byte.f k v2.snd) fun v3 =>
            bif ine x.snd 0 then
              some
                (irem IntKind.i64
                    (iadd IntKind.i64 (iadd IntKind.i64 (imul IntKind.i64 v1.fst 65536) (imul IntKind.i64 v2.fst 256))
                      v3.fst)
                    x.snd,
                  v3.snd)
            else none

def spec_l1Int.f (k : Nat) (x : Dl1Cur × List Int) : Option (Int × Dl1Cur) :=
    obind (spec_l1Below.f k (x.fst, llen x.snd)) fun v0 =>
    bif idxOk v0.fst (llen x.snd) then some (lget (Ty.int IntKind.i64) x.snd v0.fst, v0.snd) else none

def spec_l1Once.f (k : Nat) (x : Dl1Cur × Int) : Option (Bool × Dl1Cur) :=
    obind (spec_l1Below.f k x) fun v0 => some (ieq v0.fst 0, v0.snd)

def spec_l24Sender.f (k : Nat) (x : DSendWindow) : Option DSendWindow :=
    obind (spec_l24Sents.f k x.snd) fun v0 => some (x.fst, v0)

def spec_l30Copy.f (k : Nat) (x : DSession) : Option DSession :=
    obind (spec_l30Plan.f k x.snd.fst) fun v0 =>
    obind (spec_l15Bodies.f k x.snd.snd.snd.snd.snd.snd.snd.snd.snd.snd.snd.fst) fun v1 =>
      obind (spec_l24Sender.f k x.snd.snd.snd.snd.snd.snd.snd.snd.snd.snd.snd.snd.fst) fun v2 =>
        some
          (x.fst, v0, x.snd.snd.fst, x.snd.snd.snd.fst, x.snd.snd.snd.snd.fst, x.snd.snd.snd.snd.snd.fst,
            x.snd.snd.snd.snd.snd.snd.fst, x.snd.snd.snd.snd.snd.snd.snd.fst, x.snd.snd.snd.snd.snd.snd.snd.snd.fst,
            x.snd.snd.snd.snd.snd.snd.snd.snd.snd.fst, x.snd.snd.snd.snd.snd.snd.snd.snd.snd.snd.fst, v1, v2,
            x.snd.snd.snd.snd.snd.snd.snd.snd.snd.snd.snd.snd.snd)

def spec_l25Body.f (k : Nat) (x : List Int) : Option (List Int) :=
    bif appOk [] x 1 then some (lcat [] x) else none

def spec_SubmitPacket.f (k : Nat) (x : DSession × List Int) : Option (DSession × Bool) :=
    obind (spec_l30Copy.f k x.fst) fun v0 =>
    bif bif ile 24 (llen x.fst.snd.snd.snd.snd.snd.snd.snd.snd.snd.snd.snd.fst) then true else ilt 60 (llen x.snd) then
      some (v0, false)
    else
      obind (spec_l25Body.f k x.snd) fun v1 =>
        bif appOk v0.snd.snd.snd.snd.snd.snd.snd.snd.snd.snd.snd.fst [v1] 24 then
          some
            ((v0.fst, v0.snd.fst, v0.snd.snd.fst, v0.snd.snd.snd.fst, v0.snd.snd.snd.snd.fst, v0.snd.snd.snd.snd.snd.fst,
                v0.snd.snd.snd.snd.snd.snd.fst, v0.snd.snd.snd.snd.snd.snd.snd.fst,
                v0.snd.snd.snd.snd.snd.snd.snd.snd.fst, v0.snd.snd.snd.snd.snd.snd.snd.snd.snd.fst,
                v0.snd.snd.snd.snd.snd.snd.snd.snd.snd.snd.fst,
                lcat v0.snd.snd.snd.snd.snd.snd.snd.snd.snd.snd.snd.fst [v1],
                v0.snd.snd.snd.snd.snd.snd.snd.snd.snd.snd.snd.snd),
              true)
        else none

def spec_l1Bytes.s0 (k : Nat) (d0 : DSubscriberID × Dl1Cur × List Int) : Option (DSubscriberID × Dl1Cur × List Int ⊕ Dl1Cur × List Int) :=
    bif ilt d0.fst.snd d0.fst.fst then
    obind (spec_l1Byte.f k d0.snd.fst) fun v1 =>
      bif appOk d0.snd.snd [icast IntKind.u8 v1.fst] 1 then
        some (Sum.inl ((d0.fst.fst, iadd IntKind.i64 d0.fst.snd 1), v1.snd, lcat d0.snd.snd [icast IntKind.u8 v1.fst]))
      else none
  else some (Sum.inr d0.snd)
def spec_l1Bytes.f (k : Nat) (x : Dl1Cur × Int) : Option (List Int × Dl1Cur) :=
    obind (loopN (spec_l1Bytes.s0 k) k ((x.snd, 0), x.fst, [])) fun v2 => some (v2.snd, v2.fst)

def spec_l4Who.f (k : Nat) (x : Dl1Cur) : Option (DSubscriberID × Dl1Cur) :=
    obind (spec_l1Below.f k (x, 3)) fun v0 => obind (spec_l1Below.f k (v0.snd, 5)) fun v1 => some ((v0.fst, v1.fst), v1.snd)

def spec_l5Key.f (k : Nat) (x : Dl1Cur) : Option (Int × Dl1Cur) :=
    obind (spec_l1Below.f k (x, 6)) fun v0 => some (iadd IntKind.i64 100 v0.fst, v0.snd)

def spec_l6Card.f (k : Nat) (x : Dl1Cur) : Option (DUSIM × Dl1Cur) :=
    obind (spec_l4Who.f k x) fun v0 =>
    obind (spec_l5Key.f k v0.snd) fun v1 =>
      obind (spec_l1Below.f k (v1.snd, 40)) fun v2 => some ((v0.fst, v1.fst, v2.fst), v2.snd)

def spec_l6Pair.f (k : Nat) (x : Dl1Cur) : Option ((DUSIM × DUSIM) × Dl1Cur) :=
    obind (spec_l6Card.f k x) fun v0 =>
    obind (spec_l1Below.f k (v0.snd, 4)) fun v1 =>
      obind (spec_l1Below.f k (v1.snd, 8)) fun v2 =>
        bif ieq v2.fst 0 then
          obind (spec_l1Int.f k (v2.snd, [0, iadd IntKind.i64 v0.fst.snd.snd 1500, 999998])) fun v3 =>
            some ((v0.fst, v0.fst.fst, v0.fst.snd.fst, v3.fst), v3.snd)
        else
          bif ieq v2.fst 1 then
            obind (spec_l1Int.f k (v2.snd, [0, 5000, 999990])) fun v4 =>
              some
                (((v0.fst.fst, v0.fst.snd.fst, v4.fst), v0.fst.fst, v0.fst.snd.fst,
                    iadd IntKind.i64 v0.fst.snd.snd v1.fst),
                  v4.snd)
          else some ((v0.fst, v0.fst.fst, v0.fst.snd.fst, iadd IntKind.i64 v0.fst.snd.snd v1.fst), v2.snd)

def spec_l20Plan.s0 (k : Nat) (d3 : Int × Dl1Cur × DQuota × DQuota × List Int × List Int) : Option (Int × Dl1Cur × DQuota × DQuota × List Int × List Int ⊕ Dl1Cur × DQuota × DQuota × List Int × List Int) :=
    bif ilt d3.fst 4 then
    obind (spec_l1Once.f k (d3.snd.fst, 3)) fun v4 =>
      bif v4.fst then
        bif appOk d3.snd.snd.snd.snd.snd [d3.fst] 8 then
          some
            (Sum.inl
              (iadd IntKind.i64 d3.fst 1, v4.snd, d3.snd.snd.fst, d3.snd.snd.snd.fst, d3.snd.snd.snd.snd.fst,
                lcat d3.snd.snd.snd.snd.snd [d3.fst]))
        else none
      else some (Sum.inl (iadd IntKind.i64 d3.fst 1, v4.snd, d3.snd.snd))
  else some (Sum.inr d3.snd)
def spec_l20Plan.f (k : Nat) (x : Dl1Cur) : Option (DSubscription × Dl1Cur) :=
    obind (spec_l1Below.f k (x, 9)) fun v0 =>
    obind (spec_l1Below.f k (v0.snd, 4)) fun v1 =>
      obind (spec_l1Below.f k (v1.snd, 20)) fun v2 =>
        obind
          (loopN (spec_l20Plan.s0 k) k
            (0, v2.snd, (0, 0, 0), (iadd IntKind.i64 1 v0.fst, iadd IntKind.i64 1 v1.fst, iadd IntKind.i64 1 v2.fst), [],
              []))
          fun v5 =>
          some ((v5.snd.snd.fst.fst, v5.snd.snd.fst.snd.fst, v5.snd.snd.fst.snd.snd, v5.snd.snd.snd.snd), v5.fst)

def spec_IsValidSubscriberRecord.f (k : Nat) (x : DUSIM) : Option Bool :=
    obind (spec_IsValidSubscriberID.f k x.fst) fun v0 =>
    obind (bif v0 then spec_IsValidKey.f k x.snd.fst else some false) fun v1 =>
      obind (bif bif v0 then v1 else false then spec_l1In.f k (x.snd.snd, 0, 999999) else some false) fun v2 =>
        some (bif bif v0 then v1 else false then v2 else false)

def spec_Mod.f (k : Nat) (x : DSubscriberID) : Option Int :=
    obind (spec_l1In.f k (x.snd, 1, 1000000000000)) fun v0 =>
    bif dnot v0 then some 0
    else
      bif ine x.snd 0 then
        bif ine x.snd 0 then some (irem IntKind.i64 (iadd IntKind.i64 (irem IntKind.i64 x.fst x.snd) x.snd) x.snd)
        else none
      else none

def spec_Hash.s0 (k : Nat) (d0 : Dl1Cur) : Option (Dl1Cur ⊕ Int) :=
    bif ilt d0.snd.snd (llen d0.fst) then
    bif idxOk d0.snd.snd (llen d0.fst) then
      obind (spec_Mod.f k (lget (Ty.int IntKind.i64) d0.fst d0.snd.snd, 2147483647)) fun v1 =>
        bif ine 2147483647 0 then
          some
            (Sum.inl
              (d0.fst,
                irem IntKind.i64 (iadd IntKind.i64 (iadd IntKind.i64 (imul IntKind.i64 d0.snd.fst 1000003) v1) 13)
                  2147483647,
                iadd IntKind.i64 d0.snd.snd 1))
        else none
    else none
  else some (Sum.inr d0.snd.fst)
def spec_Hash.f (k : Nat) (x : List Int) : Option Int :=
    obind (loopN (spec_Hash.s0 k) k (x, 11, 0)) fun v2 => some v2

def spec_KeyedHash.f (k : Nat) (x : DNumberedPacket) : Option Int :=
    bif appOk [x.fst] x.snd 8 then
    bif appOk (lcat [x.fst] x.snd) [x.fst] 8 then
      obind (spec_Hash.f k (lcat (lcat [x.fst] x.snd) [x.fst])) fun v0 => some v0
    else none
  else none

def spec_Max.f (k : Nat) (x : DSubscriberID) : Option Int :=
    bif ilt x.fst x.snd then some x.snd else some x.fst

def spec_SequenceMask.f (k : Nat) (x : DSubscriberID) : Option Int :=
    obind (spec_KeyedHash.f k (x.fst, [1, x.snd])) fun v0 => obind (spec_Mod.f k (v0, 1000000)) fun v1 => some v1

def spec_NewAuthVector.f (k : Nat) (x : DQuota) : Option DAuthVector :=
    obind (spec_l1In.f k (x.snd.snd, 0, 999999)) fun v0 =>
    bif dnot v0 then some (0, 0, 0, 0, 0)
    else
      obind (spec_SequenceMask.f k (x.fst, x.snd.fst)) fun v1 =>
        obind (spec_Mod.f k (iadd IntKind.i64 x.snd.snd v1, 1000000)) fun v2 =>
          obind (spec_KeyedHash.f k (x.fst, [2, x.snd.fst, x.snd.snd])) fun v3 =>
            obind (spec_KeyedHash.f k (x.fst, [3, x.snd.fst])) fun v4 =>
              obind (spec_KeyedHash.f k (x.fst, [4, x.snd.fst, x.snd.snd])) fun v5 =>
                obind (spec_Max.f k (1, v5)) fun v6 => some (x.snd.fst, v2, v3, v4, v6)

def spec_NextAuthVector.f (k : Nat) (x : DUSIM × Int) : Option (DUSIM × DAuthVector) :=
    obind (spec_IsValidSubscriberRecord.f k x.fst) fun v0 =>
    bif bif dnot v0 then true else ieq x.fst.snd.snd 999999 then some (x.fst, 0, 0, 0, 0, 0)
    else
      obind (spec_NewAuthVector.f k (x.fst.snd.fst, x.snd, iadd IntKind.i64 x.fst.snd.snd 1)) fun v1 =>
        some ((x.fst.fst, x.fst.snd.fst, iadd IntKind.i64 x.fst.snd.snd 1), v1)

def spec_ChallengeRand.f (k : Nat) (x : DSubscriberID × Int) : Option Int :=
    obind (spec_KeyedHash.f k (29, [x.fst.fst, x.fst.snd, x.snd])) fun v0 => some v0

def spec_l30None.f (k : Nat) (x : DSession) : Option DSessionResult :=
    obind (spec_l30Copy.f k x) fun v0 => some (v0, [])

def spec_ReceiveAttach.f (k : Nat) (x : DSession × DSignal) : Option DSessionResult :=
    obind (spec_ChallengeRand.f k (x.fst.fst.fst, iadd IntKind.i64 x.fst.fst.snd.snd 1)) fun v0 =>
    obind (spec_NextAuthVector.f k (x.fst.fst, v0)) fun v1 =>
      bif
          dand (ieq v1.fst.fst.fst x.fst.fst.fst.fst)
            (dand (ieq v1.fst.fst.snd x.fst.fst.fst.snd)
              (dand (ieq v1.fst.snd.fst x.fst.fst.snd.fst) (ieq v1.fst.snd.snd x.fst.fst.snd.snd))) then
        obind (spec_l30None.f k x.fst) fun v2 => some v2
      else
        obind (spec_l30Copy.f k x.fst) fun v3 =>
          some
            ((v1.fst, v3.snd.fst, v3.snd.snd.fst, v1.snd, v1.fst.snd.snd, v3.snd.snd.snd.snd.snd),
              [(2, x.snd.snd.fst, v1.fst.snd.snd, 0, 0, v1.snd, 0)])

def spec_ResponseMatches.f (k : Nat) (x : DAuthVector × Int) : Option Bool :=
    some (ieq x.snd x.fst.snd.snd.snd.fst)

def spec_DeriveKey.f (k : Nat) (x : DSubscriberID) : Option Int :=
    obind (spec_KeyedHash.f k (x.fst, [9, x.snd])) fun v0 => obind (spec_Max.f k (1, v0)) fun v1 => some v1

def spec_KeyForPath.s0 (k : Nat) (d0 : DSubscriberID × List Int) : Option (DSubscriberID × List Int ⊕ Int) :=
    bif ilt d0.fst.snd (llen d0.snd) then
    bif idxOk d0.fst.snd (llen d0.snd) then
      obind (spec_DeriveKey.f k (d0.fst.fst, lget (Ty.int IntKind.i64) d0.snd d0.fst.snd)) fun v1 =>
        some (Sum.inl ((v1, iadd IntKind.i64 d0.fst.snd 1), d0.snd))
    else none
  else some (Sum.inr d0.fst.fst)
def spec_KeyForPath.f (k : Nat) (x : DNumberedPacket) : Option Int :=
    obind (loopN (spec_KeyForPath.s0 k) k ((x.fst, 0), x.snd)) fun v2 => some v2

def spec_SignalingKeyPath.f (k : Nat) (x : Unit) : Option (List Int) :=
    some [1, 2]

def spec_SignalMAC.f (k : Nat) (x : Int × DSignal) : Option Int :=
    obind (spec_SignalingKeyPath.f k ()) fun v0 =>
    obind (spec_KeyForPath.f k (x.fst, v0)) fun v1 =>
      obind
        (spec_KeyedHash.f k
          (v1, [23, x.snd.fst, x.snd.snd.fst, x.snd.snd.snd.fst, x.snd.snd.snd.snd.fst, x.snd.snd.snd.snd.snd.fst]))
        fun v2 => some v2

def spec_SignSignal.f (k : Nat) (x : Int × DSignal) : Option DSignal :=
    obind (spec_SignalMAC.f k x) fun v0 =>
    some
      (x.snd.fst, x.snd.snd.fst, x.snd.snd.snd.fst, x.snd.snd.snd.snd.fst, x.snd.snd.snd.snd.snd.fst,
        x.snd.snd.snd.snd.snd.snd.fst, v0)

def spec_l30Signed.f (k : Nat) (x : DSession × Int) : Option DSessionResult :=
    obind
    (spec_SignSignal.f k
      (x.fst.snd.snd.snd.snd.snd.snd.fst, x.snd, x.fst.snd.snd.snd.snd.snd.snd.snd.snd.fst, x.fst.snd.snd.snd.snd.snd.fst,
        x.fst.snd.snd.snd.snd.snd.snd.snd.fst, 0, (0, 0, 0, 0, 0), 0))
    fun v0 => some (x.fst, [v0])

def spec_ReceiveResponse.f (k : Nat) (x : DSession × DSignal) : Option DSessionResult :=
    obind
    (bif dnot (bif ile x.fst.snd.snd.snd.snd.fst 0 then true else ine x.snd.snd.snd.fst x.fst.snd.snd.snd.snd.fst) then
      spec_ResponseMatches.f k (x.fst.snd.snd.snd.fst, x.snd.snd.snd.snd.snd.fst)
    else some false)
    fun v0 =>
    bif
        bif
            bif bif ile x.fst.snd.snd.snd.snd.fst 0 then true else ine x.snd.snd.snd.fst x.fst.snd.snd.snd.snd.fst then
              true
            else dnot v0 then
          true
        else ile 999999 x.fst.snd.snd.snd.snd.snd.snd.snd.fst then
      obind (spec_l30None.f k x.fst) fun v1 => some v1
    else
      obind (spec_l30Copy.f k x.fst) fun v2 =>
        obind
          (spec_l30Signed.f k
            ((v2.fst, v2.snd.fst, 1, (0, 0, 0, 0, 0), 0, x.fst.snd.snd.snd.snd.fst, x.fst.snd.snd.snd.fst.snd.snd.snd.snd,
                iadd IntKind.i64 x.fst.snd.snd.snd.snd.snd.snd.snd.fst 1, x.snd.snd.fst, 0, (0, 0, 0),
                v2.snd.snd.snd.snd.snd.snd.snd.snd.snd.snd.snd),
              4))
          fun v3 => some v3

def spec_IsValidSender.s0  (d0 : Int × DSendWindow) : Option (Int × DSendWindow ⊕ DSendWindow ⊕ Bool) :=
    bif ilt d0.fst (llen d0.snd.snd) then
    bif idxOk d0.fst (llen d0.snd.snd) then
      bif
          bif idxOk d0.fst (llen d0.snd.snd) then true
          else
            dnot
              (dnot
                (ine (lget TNumberedPacket d0.snd.snd d0.fst).fst
                  (iadd IntKind.i64 (isub IntKind.i64 d0.snd.fst (llen d0.snd.snd)) d0.fst))) then
        bif
            bif
                ine (lget TNumberedPacket d0.snd.snd d0.fst).fst
                  (iadd IntKind.i64 (isub IntKind.i64 d0.snd.fst (llen d0.snd.snd)) d0.fst) then
              true
            else ilt 60 (llen (lget TNumberedPacket d0.snd.snd d0.fst).snd) then
          some (Sum.inr (Sum.inr false))
        else some (Sum.inl (iadd IntKind.i64 d0.fst 1, d0.snd))
      else none
    else none
  else some (Sum.inr (Sum.inl d0.snd))
def spec_IsValidSender.f (k : Nat) (x : DSendWindow) : Option Bool :=
    obind (loopN spec_IsValidSender.s0 k (0, x)) fun v1 =>
    selim
      (fun v2 =>
        obind (spec_l1In.f k (v2.fst, 1, 100000)) fun v3 =>
          some
            (bif bif v3 then ile (llen v2.snd) 8 else false then ile 1 (isub IntKind.i64 v2.fst (llen v2.snd))
            else false))
      (fun v4 => some v4) v1

def spec_SendPacket.f (k : Nat) (x : DSendWindow × List Int) : Option (DSendWindow × DNumberedPacket × Bool) :=
    obind (spec_l24Sender.f k x.fst) fun v0 =>
    bif appOk [] x.snd 1 then
      bif appOk [] x.snd 1 then
        bif appOk v0.snd [(x.fst.fst, lcat [] x.snd)] 32 then
          obind (spec_IsValidSender.f k (iadd IntKind.i64 x.fst.fst 1, lcat v0.snd [(x.fst.fst, lcat [] x.snd)]))
            fun v1 =>
            bif dnot v1 then obind (spec_l24Sender.f k x.fst) fun v2 => some (v2, (0, []), false)
            else
              some
                ((iadd IntKind.i64 x.fst.fst 1, lcat v0.snd [(x.fst.fst, lcat [] x.snd)]), (x.fst.fst, lcat [] x.snd),
                  true)
        else none
      else none
    else none

def spec_IsValidQuota.f (k : Nat) (x : DQuota) : Option Bool :=
    obind (bif ile 0 x.fst then spec_l1In.f k (x.snd.fst, 0, 100000) else some false) fun v0 =>
    obind (bif bif ile 0 x.fst then v0 else false then spec_l1In.f k (x.snd.snd, 0, x.snd.fst) else some false) fun v1 =>
      some (bif bif ile 0 x.fst then v0 else false then v1 else false)

def spec_RemainingQuota.f (k : Nat) (x : DQuota) : Option Int :=
    obind (spec_IsValidQuota.f k x) fun v0 => bif dnot v0 then some 0 else some (isub IntKind.i64 x.snd.fst x.snd.snd)

def spec_l30Active.s0 (k : Nat) (d5 : Int ×
    Dl1Cur ×
      DSession ×
        (DUSIM × Int × Int × Int × Int × DAuthVector × Int × Int × Int × Int × Int × Int × DQuota × DAuthVector) ×
          List Int × List (List Int) × List DNumberedPacket) : Option
    (Int ×
        Dl1Cur ×
          DSession ×
            (DUSIM × Int × Int × Int × Int × DAuthVector × Int × Int × Int × Int × Int × Int × DQuota × DAuthVector) ×
              List Int × List (List Int) × List DNumberedPacket ⊕
      Dl1Cur ×
        DSession ×
          (DUSIM × Int × Int × Int × Int × DAuthVector × Int × Int × Int × Int × Int × Int × DQuota × DAuthVector) ×
            List Int × List (List Int) × List DNumberedPacket) :=
    bif ilt 0 d5.fst then
    obind (spec_l1Below.f k (d5.snd.fst, 4)) fun v6 =>
      obind (spec_l1Bytes.f k (v6.snd, v6.fst)) fun v7 =>
        obind
          (spec_SubmitPacket.f k
            ((d5.snd.snd.snd.fst.fst,
                (d5.snd.snd.snd.fst.snd.fst, d5.snd.snd.snd.fst.snd.snd.fst, d5.snd.snd.snd.fst.snd.snd.snd.fst,
                  d5.snd.snd.snd.snd.fst),
                d5.snd.snd.snd.fst.snd.snd.snd.snd.fst, d5.snd.snd.snd.fst.snd.snd.snd.snd.snd.fst,
                d5.snd.snd.snd.fst.snd.snd.snd.snd.snd.snd.fst, d5.snd.snd.snd.fst.snd.snd.snd.snd.snd.snd.snd.fst,
                d5.snd.snd.snd.fst.snd.snd.snd.snd.snd.snd.snd.snd.fst,
                d5.snd.snd.snd.fst.snd.snd.snd.snd.snd.snd.snd.snd.snd.fst,
                d5.snd.snd.snd.fst.snd.snd.snd.snd.snd.snd.snd.snd.snd.snd.fst,
                d5.snd.snd.snd.fst.snd.snd.snd.snd.snd.snd.snd.snd.snd.snd.snd.fst,
                d5.snd.snd.snd.fst.snd.snd.snd.snd.snd.snd.snd.snd.snd.snd.snd.snd.fst, d5.snd.snd.snd.snd.snd.fst,
                (d5.snd.snd.snd.fst.snd.snd.snd.snd.snd.snd.snd.snd.snd.snd.snd.snd.snd.fst, d5.snd.snd.snd.snd.snd.snd),
                d5.snd.snd.snd.fst.snd.snd.snd.snd.snd.snd.snd.snd.snd.snd.snd.snd.snd.snd),
              v7.fst))
          fun v8 =>
          some
            (Sum.inl
              (isub IntKind.i64 d5.fst 1, v7.snd, d5.snd.snd.fst,
                (v8.fst.fst, v8.fst.snd.fst.fst, v8.fst.snd.fst.snd.fst, v8.fst.snd.fst.snd.snd.fst, v8.fst.snd.snd.fst,
                  v8.fst.snd.snd.snd.fst, v8.fst.snd.snd.snd.snd.fst, v8.fst.snd.snd.snd.snd.snd.fst,
                  v8.fst.snd.snd.snd.snd.snd.snd.fst, v8.fst.snd.snd.snd.snd.snd.snd.snd.fst,
                  v8.fst.snd.snd.snd.snd.snd.snd.snd.snd.fst, v8.fst.snd.snd.snd.snd.snd.snd.snd.snd.snd.fst,
                  v8.fst.snd.snd.snd.snd.snd.snd.snd.snd.snd.snd.fst,
                  v8.fst.snd.snd.snd.snd.snd.snd.snd.snd.snd.snd.snd.snd.fst.fst,
                  v8.fst.snd.snd.snd.snd.snd.snd.snd.snd.snd.snd.snd.snd.snd),
                v8.fst.snd.fst.snd.snd.snd, v8.fst.snd.snd.snd.snd.snd.snd.snd.snd.snd.snd.snd.fst,
                v8.fst.snd.snd.snd.snd.snd.snd.snd.snd.snd.snd.snd.snd.fst.snd))
  else some (Sum.inr d5.snd)
def spec_l30Active.s1 (k : Nat) (d18 : Int ×
    Dl1Cur ×
      DSession ×
        (DUSIM × Int × Int × Int × Int × DAuthVector × Int × Int × Int × Int × Int × Int × DQuota × DAuthVector) ×
          List Int × List (List Int) × List DNumberedPacket) : Option
    (Int ×
        Dl1Cur ×
          DSession ×
            (DUSIM × Int × Int × Int × Int × DAuthVector × Int × Int × Int × Int × Int × Int × DQuota × DAuthVector) ×
              List Int × List (List Int) × List DNumberedPacket ⊕
      Dl1Cur ×
        DSession ×
          (DUSIM × Int × Int × Int × Int × DAuthVector × Int × Int × Int × Int × Int × Int × DQuota × DAuthVector) ×
            List Int × List (List Int) × List DNumberedPacket) :=
    bif
      bif ilt 0 d18.fst then
        ile d18.snd.snd.snd.fst.snd.snd.snd.snd.snd.snd.snd.snd.snd.snd.snd.snd.snd.fst (llen d18.snd.snd.snd.snd.snd.fst)
      else false then
    bif
        idxOk (isub IntKind.i64 d18.snd.snd.snd.fst.snd.snd.snd.snd.snd.snd.snd.snd.snd.snd.snd.snd.snd.fst 1)
          (llen d18.snd.snd.snd.snd.snd.fst) then
      obind
        (spec_SendPacket.f k
          ((d18.snd.snd.snd.fst.snd.snd.snd.snd.snd.snd.snd.snd.snd.snd.snd.snd.snd.fst, d18.snd.snd.snd.snd.snd.snd),
            lget (Ty.sl (Ty.int IntKind.u8)) d18.snd.snd.snd.snd.snd.fst
              (isub IntKind.i64 d18.snd.snd.snd.fst.snd.snd.snd.snd.snd.snd.snd.snd.snd.snd.snd.snd.snd.fst 1)))
        fun v19 =>
        obind (bif v19.snd.snd then spec_l30Bytes.f k v19.fst.snd else some 0) fun v20 =>
          obind
            (bif v19.snd.snd then
              spec_RemainingQuota.f k d18.snd.snd.snd.fst.snd.snd.snd.snd.snd.snd.snd.snd.snd.snd.snd.snd.snd.snd.snd
            else some 0)
            fun v21 =>
            bif bif v19.snd.snd then ile v20 v21 else false then
              some
                (Sum.inl
                  (isub IntKind.i64 d18.fst 1, d18.snd.fst, d18.snd.snd.fst,
                    (d18.snd.snd.snd.fst.fst, d18.snd.snd.snd.fst.snd.fst, d18.snd.snd.snd.fst.snd.snd.fst,
                      d18.snd.snd.snd.fst.snd.snd.snd.fst, d18.snd.snd.snd.fst.snd.snd.snd.snd.fst,
                      d18.snd.snd.snd.fst.snd.snd.snd.snd.snd.fst, d18.snd.snd.snd.fst.snd.snd.snd.snd.snd.snd.fst,
                      d18.snd.snd.snd.fst.snd.snd.snd.snd.snd.snd.snd.fst,
                      d18.snd.snd.snd.fst.snd.snd.snd.snd.snd.snd.snd.snd.fst,
                      d18.snd.snd.snd.fst.snd.snd.snd.snd.snd.snd.snd.snd.snd.fst,
                      d18.snd.snd.snd.fst.snd.snd.snd.snd.snd.snd.snd.snd.snd.snd.fst,
                      d18.snd.snd.snd.fst.snd.snd.snd.snd.snd.snd.snd.snd.snd.snd.snd.fst,
                      d18.snd.snd.snd.fst.snd.snd.snd.snd.snd.snd.snd.snd.snd.snd.snd.snd.fst, v19.fst.fst,
                      d18.snd.snd.snd.fst.snd.snd.snd.snd.snd.snd.snd.snd.snd.snd.snd.snd.snd.snd),
                    d18.snd.snd.snd.snd.fst, d18.snd.snd.snd.snd.snd.fst, v19.fst.snd))
            else some (Sum.inl (isub IntKind.i64 d18.fst 1, d18.snd))
    else none
  else some (Sum.inr d18.snd)
def spec_l30Active.f (k : Nat) (x : Dl1Cur) : Option (DSession × Dl1Cur) :=
    obind (spec_l6Pair.f k x) fun v0 =>
    obind (spec_l20Plan.f k v0.snd) fun v1 =>
      obind (spec_l1Below.f k (v1.snd, 4)) fun v2 =>
        obind (spec_NewSession.f k ((v0.fst.snd.fst, v0.fst.snd.snd.fst, v0.fst.fst.snd.snd), v1.fst, v2.fst)) fun v3 =>
          obind (spec_l1Below.f k (v2.snd, 6)) fun v4 =>
            obind
              (loopN (spec_l30Active.s0 k) k
                (v4.fst, v4.snd,
                  (((0, 0), 0, 0), (0, 0, 0, []), 0, (0, 0, 0, 0, 0), 0, 0, 0, 0, 0, 0, (0, 0, 0), [], (0, []), 0, 0, 0,
                    0),
                  (v3.fst, v3.snd.fst.fst, v3.snd.fst.snd.fst, v3.snd.fst.snd.snd.fst, v3.snd.snd.fst, v3.snd.snd.snd.fst,
                    v3.snd.snd.snd.snd.fst, v3.snd.snd.snd.snd.snd.fst, v3.snd.snd.snd.snd.snd.snd.fst,
                    v3.snd.snd.snd.snd.snd.snd.snd.fst, v3.snd.snd.snd.snd.snd.snd.snd.snd.fst,
                    v3.snd.snd.snd.snd.snd.snd.snd.snd.snd.fst, v3.snd.snd.snd.snd.snd.snd.snd.snd.snd.snd.fst,
                    v3.snd.snd.snd.snd.snd.snd.snd.snd.snd.snd.snd.snd.fst.fst,
                    v3.snd.snd.snd.snd.snd.snd.snd.snd.snd.snd.snd.snd.snd),
                  v3.snd.fst.snd.snd.snd, v3.snd.snd.snd.snd.snd.snd.snd.snd.snd.snd.snd.fst,
                  v3.snd.snd.snd.snd.snd.snd.snd.snd.snd.snd.snd.snd.fst.snd))
              fun v9 =>
              obind (spec_l1Once.f k (v9.fst, 6)) fun v10 =>
                bif v10.fst then
                  some
                    ((v9.snd.snd.fst.fst,
                        (v9.snd.snd.fst.snd.fst, v9.snd.snd.fst.snd.snd.fst, v9.snd.snd.fst.snd.snd.snd.fst,
                          v9.snd.snd.snd.fst),
                        v9.snd.snd.fst.snd.snd.snd.snd.fst, v9.snd.snd.fst.snd.snd.snd.snd.snd.fst,
                        v9.snd.snd.fst.snd.snd.snd.snd.snd.snd.fst, v9.snd.snd.fst.snd.snd.snd.snd.snd.snd.snd.fst,
                        v9.snd.snd.fst.snd.snd.snd.snd.snd.snd.snd.snd.fst,
                        v9.snd.snd.fst.snd.snd.snd.snd.snd.snd.snd.snd.snd.fst,
                        v9.snd.snd.fst.snd.snd.snd.snd.snd.snd.snd.snd.snd.snd.fst,
                        v9.snd.snd.fst.snd.snd.snd.snd.snd.snd.snd.snd.snd.snd.snd.fst,
                        v9.snd.snd.fst.snd.snd.snd.snd.snd.snd.snd.snd.snd.snd.snd.snd.fst, v9.snd.snd.snd.snd.fst,
                        (v9.snd.snd.fst.snd.snd.snd.snd.snd.snd.snd.snd.snd.snd.snd.snd.snd.fst, v9.snd.snd.snd.snd.snd),
                        v9.snd.snd.fst.snd.snd.snd.snd.snd.snd.snd.snd.snd.snd.snd.snd.snd.snd),
                      v10.snd)
                else
                  obind (spec_l1Below.f k (v10.snd, 4)) fun v11 =>
                    obind
                      (spec_ReceiveAttach.f k
                        ((v9.snd.snd.fst.fst,
                            (v9.snd.snd.fst.snd.fst, v9.snd.snd.fst.snd.snd.fst, v9.snd.snd.fst.snd.snd.snd.fst,
                              v9.snd.snd.snd.fst),
                            v9.snd.snd.fst.snd.snd.snd.snd.fst, v9.snd.snd.fst.snd.snd.snd.snd.snd.fst,
                            v9.snd.snd.fst.snd.snd.snd.snd.snd.snd.fst, v9.snd.snd.fst.snd.snd.snd.snd.snd.snd.snd.fst,
                            v9.snd.snd.fst.snd.snd.snd.snd.snd.snd.snd.snd.fst,
                            v9.snd.snd.fst.snd.snd.snd.snd.snd.snd.snd.snd.snd.fst,
                            v9.snd.snd.fst.snd.snd.snd.snd.snd.snd.snd.snd.snd.snd.fst,
                            v9.snd.snd.fst.snd.snd.snd.snd.snd.snd.snd.snd.snd.snd.snd.fst,
                            v9.snd.snd.fst.snd.snd.snd.snd.snd.snd.snd.snd.snd.snd.snd.snd.fst, v9.snd.snd.snd.snd.fst,
                            (v9.snd.snd.fst.snd.snd.snd.snd.snd.snd.snd.snd.snd.snd.snd.snd.snd.fst,
                              v9.snd.snd.snd.snd.snd),
                            v9.snd.snd.fst.snd.snd.snd.snd.snd.snd.snd.snd.snd.snd.snd.snd.snd.snd),
                          1, v11.fst, 0, 0, 0, (0, 0, 0, 0, 0), 0))
                      fun v12 =>
                      obind (spec_l1Once.f k (v11.snd, 6)) fun v13 =>
                        bif v13.fst then some (v12.fst, v13.snd)
                        else
                          obind (spec_l1Below.f k (v13.snd, 4)) fun v14 =>
                            obind
                              (spec_ReceiveResponse.f k
                                (v12.fst, 3, v14.fst, v12.fst.snd.snd.snd.snd.fst, 0,
                                  v12.fst.snd.snd.snd.fst.snd.snd.snd.fst, (0, 0, 0, 0, 0), 0))
                              fun v15 =>
                              obind (spec_l1Below.f k (v14.snd, 20)) fun v16 =>
                                obind (spec_l1Below.f k (v16.snd, 4)) fun v17 =>
                                  obind
                                    (loopN (spec_l30Active.s1 k) k
                                      (v17.fst, v17.snd, v9.snd.fst,
                                        (v15.fst.fst, v15.fst.snd.fst.fst, v15.fst.snd.fst.snd.fst,
                                          v15.fst.snd.fst.snd.snd.fst, v15.fst.snd.snd.fst, v15.fst.snd.snd.snd.fst,
                                          v15.fst.snd.snd.snd.snd.fst, v15.fst.snd.snd.snd.snd.snd.fst,
                                          v15.fst.snd.snd.snd.snd.snd.snd.fst, v15.fst.snd.snd.snd.snd.snd.snd.snd.fst,
                                          v15.fst.snd.snd.snd.snd.snd.snd.snd.snd.fst,
                                          v15.fst.snd.snd.snd.snd.snd.snd.snd.snd.snd.fst,
                                          v15.fst.snd.snd.snd.snd.snd.snd.snd.snd.snd.snd.fst,
                                          v15.fst.snd.snd.snd.snd.snd.snd.snd.snd.snd.snd.snd.snd.fst.fst,
                                          v15.fst.snd.snd.snd.snd.snd.snd.snd.snd.snd.snd.snd.snd.snd.fst,
                                          v15.fst.snd.snd.snd.snd.snd.snd.snd.snd.snd.snd.snd.snd.snd.snd.fst,
                                          iadd IntKind.i64 10 v16.fst,
                                          v15.fst.snd.snd.snd.snd.snd.snd.snd.snd.snd.snd.snd.snd.snd.snd.snd.snd),
                                        v15.fst.snd.fst.snd.snd.snd,
                                        v15.fst.snd.snd.snd.snd.snd.snd.snd.snd.snd.snd.snd.fst,
                                        v15.fst.snd.snd.snd.snd.snd.snd.snd.snd.snd.snd.snd.snd.fst.snd))
                                    fun v22 =>
                                    some
                                      ((v22.snd.snd.fst.fst,
                                          (v22.snd.snd.fst.snd.fst, v22.snd.snd.fst.snd.snd.fst,
                                            v22.snd.snd.fst.snd.snd.snd.fst, v22.snd.snd.snd.fst),
                                          v22.snd.snd.fst.snd.snd.snd.snd.fst, v22.snd.snd.fst.snd.snd.snd.snd.snd.fst,
                                          v22.snd.snd.fst.snd.snd.snd.snd.snd.snd.fst,
                                          v22.snd.snd.fst.snd.snd.snd.snd.snd.snd.snd.fst,
                                          v22.snd.snd.fst.snd.snd.snd.snd.snd.snd.snd.snd.fst,
                                          v22.snd.snd.fst.snd.snd.snd.snd.snd.snd.snd.snd.snd.fst,
                                          v22.snd.snd.fst.snd.snd.snd.snd.snd.snd.snd.snd.snd.snd.fst,
                                          v22.snd.snd.fst.snd.snd.snd.snd.snd.snd.snd.snd.snd.snd.snd.fst,
                                          v22.snd.snd.fst.snd.snd.snd.snd.snd.snd.snd.snd.snd.snd.snd.snd.fst,
                                          v22.snd.snd.snd.snd.fst,
                                          (v22.snd.snd.fst.snd.snd.snd.snd.snd.snd.snd.snd.snd.snd.snd.snd.snd.fst,
                                            v22.snd.snd.snd.snd.snd),
                                          v22.snd.snd.fst.snd.snd.snd.snd.snd.snd.snd.snd.snd.snd.snd.snd.snd.snd),
                                        v22.fst)

def spec_AcknowledgeBelow.s0  (d1 : DSubscriberID × DSendWindow × DSendWindow × DSendWindow) : Option (DSubscriberID × DSendWindow × DSendWindow × DSendWindow ⊕ DSendWindow × DSendWindow) :=
    bif ilt d1.fst.snd (llen d1.snd.fst.snd) then
    bif idxOk d1.fst.snd (llen d1.snd.fst.snd) then
      bif ile d1.fst.fst (lget TNumberedPacket d1.snd.fst.snd d1.fst.snd).fst then
        bif idxOk d1.fst.snd (llen d1.snd.fst.snd) then
          bif idxOk d1.fst.snd (llen d1.snd.fst.snd) then
            bif appOk [] (lget TNumberedPacket d1.snd.fst.snd d1.fst.snd).snd 1 then
              bif
                  appOk d1.snd.snd.snd.snd
                    [((lget TNumberedPacket d1.snd.fst.snd d1.fst.snd).fst,
                        lcat [] (lget TNumberedPacket d1.snd.fst.snd d1.fst.snd).snd)]
                    32 then
                some
                  (Sum.inl
                    ((d1.fst.fst, iadd IntKind.i64 d1.fst.snd 1), d1.snd.fst, d1.snd.snd.fst, d1.snd.snd.snd.fst,
                      lcat d1.snd.snd.snd.snd
                        [((lget TNumberedPacket d1.snd.fst.snd d1.fst.snd).fst,
                            lcat [] (lget TNumberedPacket d1.snd.fst.snd d1.fst.snd).snd)]))
              else none
            else none
          else none
        else none
      else some (Sum.inl ((d1.fst.fst, iadd IntKind.i64 d1.fst.snd 1), d1.snd))
    else none
  else some (Sum.inr d1.snd.snd)
def spec_AcknowledgeBelow.f (k : Nat) (x : DSendWindow × Int) : Option DSendWindow :=
    obind (spec_l24Sender.f k x.fst) fun v0 =>
    bif ilt x.fst.fst x.snd then some v0
    else obind (loopN spec_AcknowledgeBelow.s0 k ((x.snd, 0), x.fst, (0, []), v0.fst, [])) fun v2 => some v2.snd

def spec_l24DrawSender.s0 (k : Nat) (d1 : Int × Dl1Cur × Int × Int × List DNumberedPacket × List DNumberedPacket) : Option
    (Int × Dl1Cur × Int × Int × List DNumberedPacket × List DNumberedPacket ⊕
      Dl1Cur × Int × Int × List DNumberedPacket × List DNumberedPacket) :=
    bif ilt 0 d1.fst then
    obind (spec_l1Once.f k (d1.snd.fst, 3)) fun v2 =>
      bif v2.fst then
        obind (spec_l1Below.f k (v2.snd, 3)) fun v3 =>
          obind
            (spec_AcknowledgeBelow.f k
              ((d1.snd.snd.snd.fst, d1.snd.snd.snd.snd.snd), isub IntKind.i64 d1.snd.snd.snd.fst v3.fst))
            fun v4 =>
            some (Sum.inl (isub IntKind.i64 d1.fst 1, v3.snd, d1.snd.snd.fst, v4.fst, d1.snd.snd.snd.snd.fst, v4.snd))
      else
        obind (spec_l1Below.f k (v2.snd, 3)) fun v5 =>
          obind (spec_l1Bytes.f k (v5.snd, v5.fst)) fun v6 =>
            obind (spec_SendPacket.f k ((d1.snd.snd.snd.fst, d1.snd.snd.snd.snd.snd), v6.fst)) fun v7 =>
              some
                (Sum.inl
                  (isub IntKind.i64 d1.fst 1, v6.snd, d1.snd.snd.fst, v7.fst.fst, d1.snd.snd.snd.snd.fst, v7.fst.snd))
  else some (Sum.inr d1.snd)
def spec_l24DrawSender.f (k : Nat) (x : Dl1Cur) : Option (DSendWindow × Dl1Cur) :=
    obind (spec_l1Below.f k (x, 12)) fun v0 =>
    obind (loopN (spec_l24DrawSender.s0 k) k (v0.fst, v0.snd, 0, 1, [], [])) fun v8 =>
      some ((v8.snd.snd.fst, v8.snd.snd.snd.snd), v8.fst)

def spec_l24AnySender.f (k : Nat) (x : Dl1Cur) : Option (DSendWindow × Dl1Cur) :=
    obind (spec_l24DrawSender.f k x) fun v0 =>
    obind (spec_l1Below.f k (v0.snd, 8)) fun v1 =>
      bif ieq v1.fst 0 then
        obind (spec_l1Int.f k (v1.snd, [0, 100000, 100001, iadd IntKind.i64 v0.fst.fst 1])) fun v2 =>
          some ((v2.fst, v0.fst.snd), v2.snd)
      else
        bif ieq v1.fst 1 then
          obind (spec_l1Below.f k (v1.snd, 9)) fun v3 =>
            bif appOk v0.fst.snd [(v3.fst, [])] 32 then some ((v0.fst.fst, lcat v0.fst.snd [(v3.fst, [])]), v3.snd)
            else none
        else some (v0.fst, v1.snd)

def spec_l30Any.f (k : Nat) (x : Dl1Cur) : Option (DSession × Dl1Cur) :=
    obind (spec_l30Active.f k x) fun v0 =>
    obind (spec_l1Below.f k (v0.snd, 14)) fun v1 =>
      bif ieq v1.fst 0 then
        obind (spec_l1Below.f k (v1.snd, 4)) fun v2 =>
          some ((v0.fst.fst, v0.fst.snd.fst, isub IntKind.i64 v2.fst 1, v0.fst.snd.snd.snd), v2.snd)
      else
        bif ieq v1.fst 1 then
          obind (spec_l1Int.f k (v1.snd, [0, -1, 2147483647])) fun v3 =>
            some
              ((v0.fst.fst, v0.fst.snd.fst, v0.fst.snd.snd.fst, v0.fst.snd.snd.snd.fst, v0.fst.snd.snd.snd.snd.fst,
                  v0.fst.snd.snd.snd.snd.snd.fst, v3.fst, v0.fst.snd.snd.snd.snd.snd.snd.snd),
                v3.snd)
        else
          bif ieq v1.fst 2 then
            obind (spec_l1Int.f k (v1.snd, [-1, 999999, 1000000])) fun v4 =>
              some
                ((v0.fst.fst, v0.fst.snd.fst, v0.fst.snd.snd.fst, v0.fst.snd.snd.snd.fst, v4.fst,
                    v0.fst.snd.snd.snd.snd.snd),
                  v4.snd)
          else
            bif ieq v1.fst 3 then
              obind (spec_l1Int.f k (v1.snd, [-1, 999999, 1000000])) fun v5 =>
                some
                  ((v0.fst.fst, v0.fst.snd.fst, v0.fst.snd.snd.fst, v0.fst.snd.snd.snd.fst, v0.fst.snd.snd.snd.snd.fst,
                      v0.fst.snd.snd.snd.snd.snd.fst, v0.fst.snd.snd.snd.snd.snd.snd.fst, v5.fst,
                      v0.fst.snd.snd.snd.snd.snd.snd.snd.snd),
                    v5.snd)
            else
              bif ieq v1.fst 4 then
                obind (spec_l1Int.f k (v1.snd, [-1, 5, 6])) fun v6 =>
                  some
                    ((v0.fst.fst, v0.fst.snd.fst, v0.fst.snd.snd.fst, v0.fst.snd.snd.snd.fst, v0.fst.snd.snd.snd.snd.fst,
                        v0.fst.snd.snd.snd.snd.snd.fst, v0.fst.snd.snd.snd.snd.snd.snd.fst,
                        v0.fst.snd.snd.snd.snd.snd.snd.snd.fst, v0.fst.snd.snd.snd.snd.snd.snd.snd.snd.fst, v6.fst,
                        v0.fst.snd.snd.snd.snd.snd.snd.snd.snd.snd.snd),
                      v6.snd)
              else
                bif ieq v1.fst 5 then
                  obind (spec_l24AnySender.f k v1.snd) fun v7 =>
                    some
                      ((v0.fst.fst, v0.fst.snd.fst, v0.fst.snd.snd.fst, v0.fst.snd.snd.snd.fst,
                          v0.fst.snd.snd.snd.snd.fst, v0.fst.snd.snd.snd.snd.snd.fst, v0.fst.snd.snd.snd.snd.snd.snd.fst,
                          v0.fst.snd.snd.snd.snd.snd.snd.snd.fst, v0.fst.snd.snd.snd.snd.snd.snd.snd.snd.fst,
                          v0.fst.snd.snd.snd.snd.snd.snd.snd.snd.snd.fst,
                          v0.fst.snd.snd.snd.snd.snd.snd.snd.snd.snd.snd.fst,
                          v0.fst.snd.snd.snd.snd.snd.snd.snd.snd.snd.snd.snd.fst, v7.fst,
                          v0.fst.snd.snd.snd.snd.snd.snd.snd.snd.snd.snd.snd.snd.snd),
                        v7.snd)
                else
                  bif ieq v1.fst 6 then
                    obind (spec_l1Below.f k (v1.snd, 4)) fun v8 =>
                      some
                        ((v0.fst.fst, v0.fst.snd.fst, v0.fst.snd.snd.fst, v0.fst.snd.snd.snd.fst,
                            v0.fst.snd.snd.snd.snd.fst, v0.fst.snd.snd.snd.snd.snd.fst,
                            v0.fst.snd.snd.snd.snd.snd.snd.fst, v0.fst.snd.snd.snd.snd.snd.snd.snd.fst,
                            v0.fst.snd.snd.snd.snd.snd.snd.snd.snd.fst, v0.fst.snd.snd.snd.snd.snd.snd.snd.snd.snd.fst,
                            v0.fst.snd.snd.snd.snd.snd.snd.snd.snd.snd.snd.fst,
                            v0.fst.snd.snd.snd.snd.snd.snd.snd.snd.snd.snd.snd.fst,
                            v0.fst.snd.snd.snd.snd.snd.snd.snd.snd.snd.snd.snd.snd.fst,
                            v0.fst.snd.snd.snd.snd.snd.snd.snd.snd.snd.snd.snd.snd.snd.fst,
                            v0.fst.snd.snd.snd.snd.snd.snd.snd.snd.snd.snd.snd.snd.snd.snd.fst, v8.fst,
                            v0.fst.snd.snd.snd.snd.snd.snd.snd.snd.snd.snd.snd.snd.snd.snd.snd.snd),
                          v8.snd)
                  else
                    bif ieq v1.fst 7 then
                      obind (spec_l1Int.f k (v1.snd, [-1, 5, 6])) fun v9 =>
                        some
                          ((v0.fst.fst, v0.fst.snd.fst, v0.fst.snd.snd.fst, v0.fst.snd.snd.snd.fst,
                              v0.fst.snd.snd.snd.snd.fst, v0.fst.snd.snd.snd.snd.snd.fst,
                              v0.fst.snd.snd.snd.snd.snd.snd.fst, v0.fst.snd.snd.snd.snd.snd.snd.snd.fst, v9.fst,
                              v0.fst.snd.snd.snd.snd.snd.snd.snd.snd.snd),
                            v9.snd)
                    else some (v0.fst, v1.snd)

def spec_DrawSubmitPacket.s0 (k : Nat) (d2 : Int ×
    DSession ×
      Dl1Cur ×
        (DUSIM × Int × Int × Int × Int × DAuthVector × Int × Int × Int × Int × Int × Int × DQuota × DAuthVector) ×
          List Int × List (List Int) × List DNumberedPacket) : Option
    (Int ×
        DSession ×
          Dl1Cur ×
            (DUSIM × Int × Int × Int × Int × DAuthVector × Int × Int × Int × Int × Int × Int × DQuota × DAuthVector) ×
              List Int × List (List Int) × List DNumberedPacket ⊕
      DSession ×
        Dl1Cur ×
          (DUSIM × Int × Int × Int × Int × DAuthVector × Int × Int × Int × Int × Int × Int × DQuota × DAuthVector) ×
            List Int × List (List Int) × List DNumberedPacket) :=
    obind (spec_l1Once.f k (d2.snd.snd.fst, 8)) fun v3 =>
    bif bif v3.fst then ilt d2.fst 24 else false then
      obind
        (spec_SubmitPacket.f k
          ((d2.snd.snd.snd.fst.fst,
              (d2.snd.snd.snd.fst.snd.fst, d2.snd.snd.snd.fst.snd.snd.fst, d2.snd.snd.snd.fst.snd.snd.snd.fst,
                d2.snd.snd.snd.snd.fst),
              d2.snd.snd.snd.fst.snd.snd.snd.snd.fst, d2.snd.snd.snd.fst.snd.snd.snd.snd.snd.fst,
              d2.snd.snd.snd.fst.snd.snd.snd.snd.snd.snd.fst, d2.snd.snd.snd.fst.snd.snd.snd.snd.snd.snd.snd.fst,
              d2.snd.snd.snd.fst.snd.snd.snd.snd.snd.snd.snd.snd.fst,
              d2.snd.snd.snd.fst.snd.snd.snd.snd.snd.snd.snd.snd.snd.fst,
              d2.snd.snd.snd.fst.snd.snd.snd.snd.snd.snd.snd.snd.snd.snd.fst,
              d2.snd.snd.snd.fst.snd.snd.snd.snd.snd.snd.snd.snd.snd.snd.snd.fst,
              d2.snd.snd.snd.fst.snd.snd.snd.snd.snd.snd.snd.snd.snd.snd.snd.snd.fst, d2.snd.snd.snd.snd.snd.fst,
              (d2.snd.snd.snd.fst.snd.snd.snd.snd.snd.snd.snd.snd.snd.snd.snd.snd.snd.fst, d2.snd.snd.snd.snd.snd.snd),
              d2.snd.snd.snd.fst.snd.snd.snd.snd.snd.snd.snd.snd.snd.snd.snd.snd.snd.snd),
            [1]))
        fun v4 =>
        some
          (Sum.inl
            (iadd IntKind.i64 d2.fst 1, d2.snd.fst, v3.snd,
              (v4.fst.fst, v4.fst.snd.fst.fst, v4.fst.snd.fst.snd.fst, v4.fst.snd.fst.snd.snd.fst, v4.fst.snd.snd.fst,
                v4.fst.snd.snd.snd.fst, v4.fst.snd.snd.snd.snd.fst, v4.fst.snd.snd.snd.snd.snd.fst,
                v4.fst.snd.snd.snd.snd.snd.snd.fst, v4.fst.snd.snd.snd.snd.snd.snd.snd.fst,
                v4.fst.snd.snd.snd.snd.snd.snd.snd.snd.fst, v4.fst.snd.snd.snd.snd.snd.snd.snd.snd.snd.fst,
                v4.fst.snd.snd.snd.snd.snd.snd.snd.snd.snd.snd.fst,
                v4.fst.snd.snd.snd.snd.snd.snd.snd.snd.snd.snd.snd.snd.fst.fst,
                v4.fst.snd.snd.snd.snd.snd.snd.snd.snd.snd.snd.snd.snd.snd),
              v4.fst.snd.fst.snd.snd.snd, v4.fst.snd.snd.snd.snd.snd.snd.snd.snd.snd.snd.snd.fst,
              v4.fst.snd.snd.snd.snd.snd.snd.snd.snd.snd.snd.snd.snd.fst.snd))
    else some (Sum.inr (d2.snd.fst, v3.snd, d2.snd.snd.snd))
def spec_DrawSubmitPacket.f (k : Nat) (x : List Int) : Option (DSession × List Int) :=
    obind (spec_l1New.f k x) fun v0 =>
    obind (spec_l30Any.f k v0) fun v1 =>
      obind
        (loopN (spec_DrawSubmitPacket.s0 k) k
          (0, (((0, 0), 0, 0), (0, 0, 0, []), 0, (0, 0, 0, 0, 0), 0, 0, 0, 0, 0, 0, (0, 0, 0), [], (0, []), 0, 0, 0, 0),
            v1.snd,
            (v1.fst.fst, v1.fst.snd.fst.fst, v1.fst.snd.fst.snd.fst, v1.fst.snd.fst.snd.snd.fst, v1.fst.snd.snd.fst,
              v1.fst.snd.snd.snd.fst, v1.fst.snd.snd.snd.snd.fst, v1.fst.snd.snd.snd.snd.snd.fst,
              v1.fst.snd.snd.snd.snd.snd.snd.fst, v1.fst.snd.snd.snd.snd.snd.snd.snd.fst,
              v1.fst.snd.snd.snd.snd.snd.snd.snd.snd.fst, v1.fst.snd.snd.snd.snd.snd.snd.snd.snd.snd.fst,
              v1.fst.snd.snd.snd.snd.snd.snd.snd.snd.snd.snd.fst,
              v1.fst.snd.snd.snd.snd.snd.snd.snd.snd.snd.snd.snd.snd.fst.fst,
              v1.fst.snd.snd.snd.snd.snd.snd.snd.snd.snd.snd.snd.snd.snd),
            v1.fst.snd.fst.snd.snd.snd, v1.fst.snd.snd.snd.snd.snd.snd.snd.snd.snd.snd.snd.fst,
            v1.fst.snd.snd.snd.snd.snd.snd.snd.snd.snd.snd.snd.snd.fst.snd))
        fun v5 =>
        obind (spec_l1Int.f k (v5.snd.fst, [0, 2, 60, 61])) fun v6 =>
          obind (spec_l1Bytes.f k (v6.snd, v6.fst)) fun v7 =>
            some
              ((v5.snd.snd.fst.fst,
                  (v5.snd.snd.fst.snd.fst, v5.snd.snd.fst.snd.snd.fst, v5.snd.snd.fst.snd.snd.snd.fst,
                    v5.snd.snd.snd.fst),
                  v5.snd.snd.fst.snd.snd.snd.snd.fst, v5.snd.snd.fst.snd.snd.snd.snd.snd.fst,
                  v5.snd.snd.fst.snd.snd.snd.snd.snd.snd.fst, v5.snd.snd.fst.snd.snd.snd.snd.snd.snd.snd.fst,
                  v5.snd.snd.fst.snd.snd.snd.snd.snd.snd.snd.snd.fst,
                  v5.snd.snd.fst.snd.snd.snd.snd.snd.snd.snd.snd.snd.fst,
                  v5.snd.snd.fst.snd.snd.snd.snd.snd.snd.snd.snd.snd.snd.fst,
                  v5.snd.snd.fst.snd.snd.snd.snd.snd.snd.snd.snd.snd.snd.snd.fst,
                  v5.snd.snd.fst.snd.snd.snd.snd.snd.snd.snd.snd.snd.snd.snd.snd.fst, v5.snd.snd.snd.snd.fst,
                  (v5.snd.snd.fst.snd.snd.snd.snd.snd.snd.snd.snd.snd.snd.snd.snd.snd.fst, v5.snd.snd.snd.snd.snd),
                  v5.snd.snd.fst.snd.snd.snd.snd.snd.snd.snd.snd.snd.snd.snd.snd.snd.snd),
                v7.fst)

def impl_copySender.f (k : Nat) (x : DSendWindow) : Option DSendWindow :=
    obind (impl_copyNumbered.f k x.snd) fun v0 => some (x.fst, v0)

def impl_copySession.f (k : Nat) (x : DSession) : Option DSession :=
    obind (impl_copySubscription.f k x.snd.fst) fun v0 =>
    obind (impl_copyPayloads.f k x.snd.snd.snd.snd.snd.snd.snd.snd.snd.snd.snd.fst) fun v1 =>
      obind (impl_copySender.f k x.snd.snd.snd.snd.snd.snd.snd.snd.snd.snd.snd.snd.fst) fun v2 =>
        some
          (x.fst, v0, x.snd.snd.fst, x.snd.snd.snd.fst, x.snd.snd.snd.snd.fst, x.snd.snd.snd.snd.snd.fst,
            x.snd.snd.snd.snd.snd.snd.fst, x.snd.snd.snd.snd.snd.snd.snd.fst, x.snd.snd.snd.snd.snd.snd.snd.snd.fst,
            x.snd.snd.snd.snd.snd.snd.snd.snd.snd.fst, x.snd.snd.snd.snd.snd.snd.snd.snd.snd.snd.fst, v1, v2,
            x.snd.snd.snd.snd.snd.snd.snd.snd.snd.snd.snd.snd.snd)

def impl_SubmitPacket.f (k : Nat) (x : DSession × List Int) : Option (DSession × Bool) :=
    obind (impl_copySession.f k x.fst) fun v0 =>
    bif bif ile 24 (llen x.fst.snd.snd.snd.snd.snd.snd.snd.snd.snd.snd.snd.fst) then true else ilt 60 (llen x.snd) then
      some (v0, false)
    else
      obind (impl_copyBytes.f k x.snd) fun v1 =>
        bif appOk v0.snd.snd.snd.snd.snd.snd.snd.snd.snd.snd.snd.fst [v1] 24 then
          some
            ((v0.fst, v0.snd.fst, v0.snd.snd.fst, v0.snd.snd.snd.fst, v0.snd.snd.snd.snd.fst, v0.snd.snd.snd.snd.snd.fst,
                v0.snd.snd.snd.snd.snd.snd.fst, v0.snd.snd.snd.snd.snd.snd.snd.fst,
                v0.snd.snd.snd.snd.snd.snd.snd.snd.fst, v0.snd.snd.snd.snd.snd.snd.snd.snd.snd.fst,
                v0.snd.snd.snd.snd.snd.snd.snd.snd.snd.snd.fst,
                lcat v0.snd.snd.snd.snd.snd.snd.snd.snd.snd.snd.snd.fst [v1],
                v0.snd.snd.snd.snd.snd.snd.snd.snd.snd.snd.snd.snd),
              true)
        else none

def laws_sameBytes.s0  (d0 : List Int × List Int × Int) : Option (List Int × List Int × Int ⊕ Unit ⊕ Bool) :=
    bif ilt d0.snd.snd (llen d0.fst) then
    bif idxOk d0.snd.snd (llen d0.fst) then
      bif idxOk d0.snd.snd (llen d0.snd.fst) then
        bif ine (lget (Ty.int IntKind.u8) d0.fst d0.snd.snd) (lget (Ty.int IntKind.u8) d0.snd.fst d0.snd.snd) then
          some (Sum.inr (Sum.inr false))
        else some (Sum.inl (d0.fst, d0.snd.fst, iadd IntKind.i64 d0.snd.snd 1))
      else none
    else none
  else some (Sum.inr (Sum.inl ()))
def laws_sameBytes.f (k : Nat) (x : List Int × List Int) : Option Bool :=
    bif ine (llen x.fst) (llen x.snd) then some false
  else obind (loopN laws_sameBytes.s0 k (x.fst, x.snd, 0)) fun v1 => selim (fun v2 => some true) (fun v3 => some v3) v1

def laws_samePayloads.s0 (k : Nat) (d0 : List (List Int) × List (List Int) × Int) : Option (List (List Int) × List (List Int) × Int ⊕ Unit ⊕ Bool) :=
    bif ilt d0.snd.snd (llen d0.fst) then
    bif idxOk d0.snd.snd (llen d0.fst) then
      bif idxOk d0.snd.snd (llen d0.snd.fst) then
        obind
          (laws_sameBytes.f k
            (lget (Ty.sl (Ty.int IntKind.u8)) d0.fst d0.snd.snd, lget (Ty.sl (Ty.int IntKind.u8)) d0.snd.fst d0.snd.snd))
          fun v1 =>
          bif dnot v1 then some (Sum.inr (Sum.inr false))
          else some (Sum.inl (d0.fst, d0.snd.fst, iadd IntKind.i64 d0.snd.snd 1))
      else none
    else none
  else some (Sum.inr (Sum.inl ()))
def laws_samePayloads.f (k : Nat) (x : List (List Int) × List (List Int)) : Option Bool :=
    bif ine (llen x.fst) (llen x.snd) then some false
  else
    obind (loopN (laws_samePayloads.s0 k) k (x.fst, x.snd, 0)) fun v2 =>
      selim (fun v3 => some true) (fun v4 => some v4) v2

def laws_samePackets.s0 (k : Nat) (d0 : List DNumberedPacket × List DNumberedPacket × Int) : Option (List DNumberedPacket × List DNumberedPacket × Int ⊕ Unit ⊕ Bool) :=
    bif ilt d0.snd.snd (llen d0.fst) then
    bif idxOk d0.snd.snd (llen d0.fst) then
      bif idxOk d0.snd.snd (llen d0.snd.fst) then
        bif
            bif idxOk d0.snd.snd (llen d0.fst) then true
            else
              dnot
                (dnot
                  (ine (lget TNumberedPacket d0.fst d0.snd.snd).fst
                    (lget TNumberedPacket d0.snd.fst d0.snd.snd).fst)) then
          bif
              bif idxOk d0.snd.snd (llen d0.snd.fst) then true
              else
                dnot
                  (dnot
                    (ine (lget TNumberedPacket d0.fst d0.snd.snd).fst
                      (lget TNumberedPacket d0.snd.fst d0.snd.snd).fst)) then
            obind
              (bif
                  dnot
                    (ine (lget TNumberedPacket d0.fst d0.snd.snd).fst
                      (lget TNumberedPacket d0.snd.fst d0.snd.snd).fst) then
                laws_sameBytes.f k
                  ((lget TNumberedPacket d0.fst d0.snd.snd).snd, (lget TNumberedPacket d0.snd.fst d0.snd.snd).snd)
              else some false)
              fun v1 =>
              bif
                  bif
                      ine (lget TNumberedPacket d0.fst d0.snd.snd).fst
                        (lget TNumberedPacket d0.snd.fst d0.snd.snd).fst then
                    true
                  else dnot v1 then
                some (Sum.inr (Sum.inr false))
              else some (Sum.inl (d0.fst, d0.snd.fst, iadd IntKind.i64 d0.snd.snd 1))
          else none
        else none
      else none
    else none
  else some (Sum.inr (Sum.inl ()))
def laws_samePackets.f (k : Nat) (x : List DNumberedPacket × List DNumberedPacket) : Option Bool :=
    bif ine (llen x.fst) (llen x.snd) then some false
  else
    obind (loopN (laws_samePackets.s0 k) k (x.fst, x.snd, 0)) fun v2 => selim (fun v3 => some true) (fun v4 => some v4) v2

def laws_sameSender.f (k : Nat) (x : DSendWindow × DSendWindow) : Option Bool :=
    obind (bif ieq x.fst.fst x.snd.fst then laws_samePackets.f k (x.fst.snd, x.snd.snd) else some false) fun v0 =>
    some (bif ieq x.fst.fst x.snd.fst then v0 else false)

def laws_sameInts.s0  (d0 : List Int × List Int × Int) : Option (List Int × List Int × Int ⊕ Unit ⊕ Bool) :=
    bif ilt d0.snd.snd (llen d0.fst) then
    bif idxOk d0.snd.snd (llen d0.fst) then
      bif idxOk d0.snd.snd (llen d0.snd.fst) then
        bif ine (lget (Ty.int IntKind.i64) d0.fst d0.snd.snd) (lget (Ty.int IntKind.i64) d0.snd.fst d0.snd.snd) then
          some (Sum.inr (Sum.inr false))
        else some (Sum.inl (d0.fst, d0.snd.fst, iadd IntKind.i64 d0.snd.snd 1))
      else none
    else none
  else some (Sum.inr (Sum.inl ()))
def laws_sameInts.f (k : Nat) (x : List Int × List Int) : Option Bool :=
    bif ine (llen x.fst) (llen x.snd) then some false
  else obind (loopN laws_sameInts.s0 k (x.fst, x.snd, 0)) fun v1 => selim (fun v2 => some true) (fun v3 => some v3) v1

def laws_samePlan.f (k : Nat) (x : DSubscription × DSubscription) : Option Bool :=
    obind
    (bif
        bif bif ieq x.fst.fst x.snd.fst then ieq x.fst.snd.fst x.snd.snd.fst else false then
          ieq x.fst.snd.snd.fst x.snd.snd.snd.fst
        else false then
      laws_sameInts.f k (x.fst.snd.snd.snd, x.snd.snd.snd.snd)
    else some false)
    fun v0 =>
    some
      (bif
          bif bif ieq x.fst.fst x.snd.fst then ieq x.fst.snd.fst x.snd.snd.fst else false then
            ieq x.fst.snd.snd.fst x.snd.snd.snd.fst
          else false then
        v0
      else false)

def laws_sameSession.f (k : Nat) (x : DSession × DSession) : Option Bool :=
    obind
    (bif
        dnot
          (dnot
            (dand (ieq x.fst.fst.fst.fst x.snd.fst.fst.fst)
              (dand (ieq x.fst.fst.fst.snd x.snd.fst.fst.snd)
                (dand (ieq x.fst.fst.snd.fst x.snd.fst.snd.fst) (ieq x.fst.fst.snd.snd x.snd.fst.snd.snd))))) then
      laws_samePlan.f k (x.fst.snd.fst, x.snd.snd.fst)
    else some false)
    fun v0 =>
    bif
        bif
            bif
                bif
                    bif
                        bif
                            bif
                                bif
                                    bif
                                        dnot
                                          (dand (ieq x.fst.fst.fst.fst x.snd.fst.fst.fst)
                                            (dand (ieq x.fst.fst.fst.snd x.snd.fst.fst.snd)
                                              (dand (ieq x.fst.fst.snd.fst x.snd.fst.snd.fst)
                                                (ieq x.fst.fst.snd.snd x.snd.fst.snd.snd)))) then
                                      true
                                    else dnot v0 then
                                  true
                                else ine x.fst.snd.snd.fst x.snd.snd.snd.fst then
                              true
                            else
                              dnot
                                (dand (ieq x.fst.snd.snd.snd.fst.fst x.snd.snd.snd.snd.fst.fst)
                                  (dand (ieq x.fst.snd.snd.snd.fst.snd.fst x.snd.snd.snd.snd.fst.snd.fst)
                                    (dand (ieq x.fst.snd.snd.snd.fst.snd.snd.fst x.snd.snd.snd.snd.fst.snd.snd.fst)
                                      (dand
                                        (ieq x.fst.snd.snd.snd.fst.snd.snd.snd.fst x.snd.snd.snd.snd.fst.snd.snd.snd.fst)
                                        (ieq x.fst.snd.snd.snd.fst.snd.snd.snd.snd
                                          x.snd.snd.snd.snd.fst.snd.snd.snd.snd))))) then
                          true
                        else ine x.fst.snd.snd.snd.snd.fst x.snd.snd.snd.snd.snd.fst then
                      true
                    else ine x.fst.snd.snd.snd.snd.snd.fst x.snd.snd.snd.snd.snd.snd.fst then
                  true
                else ine x.fst.snd.snd.snd.snd.snd.snd.fst x.snd.snd.snd.snd.snd.snd.snd.fst then
              true
            else ine x.fst.snd.snd.snd.snd.snd.snd.snd.fst x.snd.snd.snd.snd.snd.snd.snd.snd.fst then
          true
        else ine x.fst.snd.snd.snd.snd.snd.snd.snd.snd.fst x.snd.snd.snd.snd.snd.snd.snd.snd.snd.fst then
      some false
    else
      obind
        (bif
            bif ieq x.fst.snd.snd.snd.snd.snd.snd.snd.snd.snd.fst x.snd.snd.snd.snd.snd.snd.snd.snd.snd.snd.fst then
              dand
                (ieq x.fst.snd.snd.snd.snd.snd.snd.snd.snd.snd.snd.fst.fst
                  x.snd.snd.snd.snd.snd.snd.snd.snd.snd.snd.snd.fst.fst)
                (dand
                  (ieq x.fst.snd.snd.snd.snd.snd.snd.snd.snd.snd.snd.fst.snd.fst
                    x.snd.snd.snd.snd.snd.snd.snd.snd.snd.snd.snd.fst.snd.fst)
                  (ieq x.fst.snd.snd.snd.snd.snd.snd.snd.snd.snd.snd.fst.snd.snd
                    x.snd.snd.snd.snd.snd.snd.snd.snd.snd.snd.snd.fst.snd.snd))
            else false then
          laws_samePayloads.f k
            (x.fst.snd.snd.snd.snd.snd.snd.snd.snd.snd.snd.snd.fst, x.snd.snd.snd.snd.snd.snd.snd.snd.snd.snd.snd.snd.fst)
        else some false)
        fun v1 =>
        obind
          (bif
              bif
                  bif ieq x.fst.snd.snd.snd.snd.snd.snd.snd.snd.snd.fst x.snd.snd.snd.snd.snd.snd.snd.snd.snd.snd.fst then
                    dand
                      (ieq x.fst.snd.snd.snd.snd.snd.snd.snd.snd.snd.snd.fst.fst
                        x.snd.snd.snd.snd.snd.snd.snd.snd.snd.snd.snd.fst.fst)
                      (dand
                        (ieq x.fst.snd.snd.snd.snd.snd.snd.snd.snd.snd.snd.fst.snd.fst
                          x.snd.snd.snd.snd.snd.snd.snd.snd.snd.snd.snd.fst.snd.fst)
                        (ieq x.fst.snd.snd.snd.snd.snd.snd.snd.snd.snd.snd.fst.snd.snd
                          x.snd.snd.snd.snd.snd.snd.snd.snd.snd.snd.snd.fst.snd.snd))
                  else false then
                v1
              else false then
            laws_sameSender.f k
              (x.fst.snd.snd.snd.snd.snd.snd.snd.snd.snd.snd.snd.snd.fst,
                x.snd.snd.snd.snd.snd.snd.snd.snd.snd.snd.snd.snd.snd.fst)
          else some false)
          fun v2 =>
          some
            (bif
                bif
                    bif
                        bif
                            bif
                                ieq x.fst.snd.snd.snd.snd.snd.snd.snd.snd.snd.fst
                                  x.snd.snd.snd.snd.snd.snd.snd.snd.snd.snd.fst then
                              dand
                                (ieq x.fst.snd.snd.snd.snd.snd.snd.snd.snd.snd.snd.fst.fst
                                  x.snd.snd.snd.snd.snd.snd.snd.snd.snd.snd.snd.fst.fst)
                                (dand
                                  (ieq x.fst.snd.snd.snd.snd.snd.snd.snd.snd.snd.snd.fst.snd.fst
                                    x.snd.snd.snd.snd.snd.snd.snd.snd.snd.snd.snd.fst.snd.fst)
                                  (ieq x.fst.snd.snd.snd.snd.snd.snd.snd.snd.snd.snd.fst.snd.snd
                                    x.snd.snd.snd.snd.snd.snd.snd.snd.snd.snd.snd.fst.snd.snd))
                            else false then
                          v1
                        else false then
                      v2
                    else false then
                  ieq x.fst.snd.snd.snd.snd.snd.snd.snd.snd.snd.snd.snd.snd.snd.fst
                    x.snd.snd.snd.snd.snd.snd.snd.snd.snd.snd.snd.snd.snd.snd.fst
                else false then
              dand
                (ieq x.fst.snd.snd.snd.snd.snd.snd.snd.snd.snd.snd.snd.snd.snd.snd.fst
                  x.snd.snd.snd.snd.snd.snd.snd.snd.snd.snd.snd.snd.snd.snd.snd.fst)
                (dand
                  (ieq x.fst.snd.snd.snd.snd.snd.snd.snd.snd.snd.snd.snd.snd.snd.snd.snd.fst
                    x.snd.snd.snd.snd.snd.snd.snd.snd.snd.snd.snd.snd.snd.snd.snd.snd.fst)
                  (ieq x.fst.snd.snd.snd.snd.snd.snd.snd.snd.snd.snd.snd.snd.snd.snd.snd.snd
                    x.snd.snd.snd.snd.snd.snd.snd.snd.snd.snd.snd.snd.snd.snd.snd.snd.snd))
            else false)

def laws_FnSubmissions.f (k : Nat) (x : List Int) : Option Bool :=
    obind (laws_big.f k x) fun v0 =>
    bif v0 then some true
    else
      obind (spec_DrawSubmitPacket.f k x) fun v1 =>
        obind (impl_SubmitPacket.f k v1) fun v2 =>
          bif
              bne' v2.snd
                (bif ilt (llen v1.fst.snd.snd.snd.snd.snd.snd.snd.snd.snd.snd.snd.fst) 24 then ile (llen v1.snd) 60
                else false) then
            some false
          else
            bif dnot v2.snd then obind (laws_sameSession.f k (v2.fst, v1.fst)) fun v3 => some v3
            else
              bif
                  bif
                      cutOk 0 (llen v1.fst.snd.snd.snd.snd.snd.snd.snd.snd.snd.snd.snd.fst)
                        (llen v2.fst.snd.snd.snd.snd.snd.snd.snd.snd.snd.snd.snd.fst) then
                    true
                  else
                    dnot
                      (ieq (llen v2.fst.snd.snd.snd.snd.snd.snd.snd.snd.snd.snd.snd.fst)
                        (iadd IntKind.i64 (llen v1.fst.snd.snd.snd.snd.snd.snd.snd.snd.snd.snd.snd.fst) 1)) then
                obind
                  (bif
                      ieq (llen v2.fst.snd.snd.snd.snd.snd.snd.snd.snd.snd.snd.snd.fst)
                        (iadd IntKind.i64 (llen v1.fst.snd.snd.snd.snd.snd.snd.snd.snd.snd.snd.snd.fst) 1) then
                    laws_samePayloads.f k
                      (ltake v2.fst.snd.snd.snd.snd.snd.snd.snd.snd.snd.snd.snd.fst
                          (llen v1.fst.snd.snd.snd.snd.snd.snd.snd.snd.snd.snd.snd.fst),
                        v1.fst.snd.snd.snd.snd.snd.snd.snd.snd.snd.snd.snd.fst)
                  else some false)
                  fun v4 =>
                  bif
                      bif
                          idxOk (llen v1.fst.snd.snd.snd.snd.snd.snd.snd.snd.snd.snd.snd.fst)
                            (llen v2.fst.snd.snd.snd.snd.snd.snd.snd.snd.snd.snd.snd.fst) then
                        true
                      else
                        dnot
                          (bif
                              ieq (llen v2.fst.snd.snd.snd.snd.snd.snd.snd.snd.snd.snd.snd.fst)
                                (iadd IntKind.i64 (llen v1.fst.snd.snd.snd.snd.snd.snd.snd.snd.snd.snd.snd.fst) 1) then
                            v4
                          else false) then
                    obind
                      (bif
                          bif
                              ieq (llen v2.fst.snd.snd.snd.snd.snd.snd.snd.snd.snd.snd.snd.fst)
                                (iadd IntKind.i64 (llen v1.fst.snd.snd.snd.snd.snd.snd.snd.snd.snd.snd.snd.fst) 1) then
                            v4
                          else false then
                        laws_sameBytes.f k
                          (lget (Ty.sl (Ty.int IntKind.u8)) v2.fst.snd.snd.snd.snd.snd.snd.snd.snd.snd.snd.snd.fst
                              (llen v1.fst.snd.snd.snd.snd.snd.snd.snd.snd.snd.snd.snd.fst),
                            v1.snd)
                      else some false)
                      fun v5 =>
                      obind
                        (bif
                            bif
                                bif
                                    ieq (llen v2.fst.snd.snd.snd.snd.snd.snd.snd.snd.snd.snd.snd.fst)
                                      (iadd IntKind.i64 (llen v1.fst.snd.snd.snd.snd.snd.snd.snd.snd.snd.snd.snd.fst)
                                        1) then
                                  v4
                                else false then
                              v5
                            else false then
                          laws_sameSender.f k
                            (v2.fst.snd.snd.snd.snd.snd.snd.snd.snd.snd.snd.snd.snd.fst,
                              v1.fst.snd.snd.snd.snd.snd.snd.snd.snd.snd.snd.snd.snd.fst)
                        else some false)
                        fun v6 =>
                        some
                          (bif
                              bif
                                  bif
                                      ieq (llen v2.fst.snd.snd.snd.snd.snd.snd.snd.snd.snd.snd.snd.fst)
                                        (iadd IntKind.i64 (llen v1.fst.snd.snd.snd.snd.snd.snd.snd.snd.snd.snd.snd.fst)
                                          1) then
                                    v4
                                  else false then
                                v5
                              else false then
                            v6
                          else false)
                  else none
              else none

def spec_l3Word.f (k : Nat) (x : Dl1Cur) : Option (Int × Dl1Cur) :=
    obind (spec_l1Once.f k (x, 10)) fun v0 =>
    bif v0.fst then obind (spec_l1Int.f k (v0.snd, [-1, 2147483647, 2147483648])) fun v1 => some v1
    else
      obind (spec_l1Once.f k (v0.snd, 4)) fun v2 =>
        bif v2.fst then obind (spec_l1Int.f k (v2.snd, [0, 1, 2147483646])) fun v3 => some v3
        else
          obind (spec_l1Below.f k (v2.snd, 1000000)) fun v4 =>
            obind (spec_l1Below.f k (v4.snd, 2000)) fun v5 => some (imul IntKind.i64 v4.fst v5.fst, v5.snd)

def spec_l30Signal.f (k : Nat) (x : Dl1Cur × DSession) : Option (DSignal × Dl1Cur) :=
    obind (spec_l1Below.f k (x.fst, 8)) fun v0 =>
    obind (spec_l1Below.f k (v0.snd, 5)) fun v1 =>
      obind (spec_l1Below.f k (v1.snd, 3)) fun v2 =>
        obind (spec_l1Below.f k (v2.snd, 2)) fun v3 =>
          bif ieq (iadd IntKind.i64 1 v0.fst) 3 then
            obind
              (spec_SignSignal.f k
                (x.snd.snd.snd.snd.snd.snd.snd.fst, iadd IntKind.i64 1 v0.fst, v1.fst, x.snd.snd.snd.snd.snd.fst,
                  isub IntKind.i64 (iadd IntKind.i64 x.snd.snd.snd.snd.snd.snd.snd.snd.fst v2.fst) v3.fst,
                  x.snd.snd.snd.snd.fst.snd.snd.snd.fst, (0, 0, 0, 0, 0), 0))
              fun v4 =>
              obind (spec_l1Below.f k (v3.snd, 8)) fun v5 =>
                bif ieq v5.fst 0 then
                  obind (spec_l3Word.f k v5.snd) fun v6 =>
                    some
                      ((v4.fst, v4.snd.fst, v4.snd.snd.fst, v4.snd.snd.snd.fst, v4.snd.snd.snd.snd.fst,
                          v4.snd.snd.snd.snd.snd.fst, v6.fst),
                        v6.snd)
                else
                  bif ieq v5.fst 1 then
                    some
                      ((v4.fst, v4.snd.fst, v4.snd.snd.fst, v4.snd.snd.snd.fst, iadd IntKind.i64 v4.snd.snd.snd.snd.fst 1,
                          v4.snd.snd.snd.snd.snd),
                        v5.snd)
                  else
                    bif ieq v5.fst 2 then
                      some ((v4.fst, v4.snd.fst, iadd IntKind.i64 v4.snd.snd.fst 1, v4.snd.snd.snd), v5.snd)
                    else some (v4, v5.snd)
          else
            bif ieq (iadd IntKind.i64 1 v0.fst) 8 then
              obind (spec_l1Below.f k (v3.snd, 4)) fun v7 =>
                obind (spec_l1Below.f k (v7.snd, 2)) fun v8 =>
                  obind
                    (spec_Max.f k
                      (0,
                        iadd IntKind.i64
                          (isub IntKind.i64 x.snd.snd.snd.snd.snd.snd.snd.snd.snd.snd.snd.snd.snd.fst.fst v7.fst) v8.fst))
                    fun v9 =>
                    obind
                      (spec_SignSignal.f k
                        (x.snd.snd.snd.snd.snd.snd.snd.fst, iadd IntKind.i64 1 v0.fst, v1.fst,
                          x.snd.snd.snd.snd.snd.snd.fst,
                          isub IntKind.i64 (iadd IntKind.i64 x.snd.snd.snd.snd.snd.snd.snd.snd.fst v2.fst) v3.fst, v9,
                          (0, 0, 0, 0, 0), 0))
                      fun v10 =>
                      obind (spec_l1Below.f k (v8.snd, 8)) fun v11 =>
                        bif ieq v11.fst 0 then
                          obind (spec_l3Word.f k v11.snd) fun v12 =>
                            some
                              ((v10.fst, v10.snd.fst, v10.snd.snd.fst, v10.snd.snd.snd.fst, v10.snd.snd.snd.snd.fst,
                                  v10.snd.snd.snd.snd.snd.fst, v12.fst),
                                v12.snd)
                        else
                          bif ieq v11.fst 1 then
                            some
                              ((v10.fst, v10.snd.fst, v10.snd.snd.fst, v10.snd.snd.snd.fst,
                                  iadd IntKind.i64 v10.snd.snd.snd.snd.fst 1, v10.snd.snd.snd.snd.snd),
                                v11.snd)
                          else
                            bif ieq v11.fst 2 then
                              some ((v10.fst, v10.snd.fst, iadd IntKind.i64 v10.snd.snd.fst 1, v10.snd.snd.snd), v11.snd)
                            else some (v10, v11.snd)
            else
              obind
                (spec_SignSignal.f k
                  (x.snd.snd.snd.snd.snd.snd.snd.fst, iadd IntKind.i64 1 v0.fst, v1.fst, x.snd.snd.snd.snd.snd.snd.fst,
                    isub IntKind.i64 (iadd IntKind.i64 x.snd.snd.snd.snd.snd.snd.snd.snd.fst v2.fst) v3.fst, 0,
                    (0, 0, 0, 0, 0), 0))
                fun v13 =>
                obind (spec_l1Below.f k (v3.snd, 8)) fun v14 =>
                  bif ieq v14.fst 0 then
                    obind (spec_l3Word.f k v14.snd) fun v15 =>
                      some
                        ((v13.fst, v13.snd.fst, v13.snd.snd.fst, v13.snd.snd.snd.fst, v13.snd.snd.snd.snd.fst,
                            v13.snd.snd.snd.snd.snd.fst, v15.fst),
                          v15.snd)
                  else
                    bif ieq v14.fst 1 then
                      some
                        ((v13.fst, v13.snd.fst, v13.snd.snd.fst, v13.snd.snd.snd.fst,
                            iadd IntKind.i64 v13.snd.snd.snd.snd.fst 1, v13.snd.snd.snd.snd.snd),
                          v14.snd)
                    else
                      bif ieq v14.fst 2 then
                        some ((v13.fst, v13.snd.fst, iadd IntKind.i64 v13.snd.snd.fst 1, v13.snd.snd.snd), v14.snd)
                      else some (v13, v14.snd)

def spec_l30Kind.s0 (k : Nat) (d3 : DSubscriberID ×
    DSession ×
      DSignal ×
        Dl1Cur ×
          (DUSIM × Int × Int × Int × Int × DAuthVector × Int × Int × Int × Int × Int × Int × DQuota × DAuthVector) ×
            DSignal × List Int × List (List Int) × List DNumberedPacket) : Option
    (DSubscriberID ×
        DSession ×
          DSignal ×
            Dl1Cur ×
              (DUSIM × Int × Int × Int × Int × DAuthVector × Int × Int × Int × Int × Int × Int × DQuota × DAuthVector) ×
                DSignal × List Int × List (List Int) × List DNumberedPacket ⊕
      DSession ×
        DSignal ×
          (DUSIM × Int × Int × Int × Int × DAuthVector × Int × Int × Int × Int × Int × Int × DQuota × DAuthVector) ×
            DSignal × List Int × List (List Int) × List DNumberedPacket) :=
    bif bif ine d3.snd.snd.snd.snd.snd.fst.fst d3.fst.fst then ilt d3.fst.snd 40 else false then
    obind
      (spec_l30Signal.f k
        (d3.snd.snd.snd.fst, d3.snd.snd.snd.snd.fst.fst,
          (d3.snd.snd.snd.snd.fst.snd.fst, d3.snd.snd.snd.snd.fst.snd.snd.fst, d3.snd.snd.snd.snd.fst.snd.snd.snd.fst,
            d3.snd.snd.snd.snd.snd.snd.fst),
          d3.snd.snd.snd.snd.fst.snd.snd.snd.snd.fst, d3.snd.snd.snd.snd.fst.snd.snd.snd.snd.snd.fst,
          d3.snd.snd.snd.snd.fst.snd.snd.snd.snd.snd.snd.fst, d3.snd.snd.snd.snd.fst.snd.snd.snd.snd.snd.snd.snd.fst,
          d3.snd.snd.snd.snd.fst.snd.snd.snd.snd.snd.snd.snd.snd.fst,
          d3.snd.snd.snd.snd.fst.snd.snd.snd.snd.snd.snd.snd.snd.snd.fst,
          d3.snd.snd.snd.snd.fst.snd.snd.snd.snd.snd.snd.snd.snd.snd.snd.fst,
          d3.snd.snd.snd.snd.fst.snd.snd.snd.snd.snd.snd.snd.snd.snd.snd.snd.fst,
          d3.snd.snd.snd.snd.fst.snd.snd.snd.snd.snd.snd.snd.snd.snd.snd.snd.snd.fst, d3.snd.snd.snd.snd.snd.snd.snd.fst,
          (d3.snd.snd.snd.snd.fst.snd.snd.snd.snd.snd.snd.snd.snd.snd.snd.snd.snd.snd.fst,
            d3.snd.snd.snd.snd.snd.snd.snd.snd),
          d3.snd.snd.snd.snd.fst.snd.snd.snd.snd.snd.snd.snd.snd.snd.snd.snd.snd.snd.snd))
      fun v4 =>
      some
        (Sum.inl
          ((d3.fst.fst, iadd IntKind.i64 d3.fst.snd 1), d3.snd.fst, d3.snd.snd.fst, v4.snd, d3.snd.snd.snd.snd.fst,
            v4.fst, d3.snd.snd.snd.snd.snd.snd))
  else some (Sum.inr (d3.snd.fst, d3.snd.snd.fst, d3.snd.snd.snd.snd))
def spec_l30Kind.f (k : Nat) (x : List Int × Int) : Option (DSession × DSignal) :=
    obind (spec_l1New.f k x.fst) fun v0 =>
    obind (spec_l30Any.f k v0) fun v1 =>
      obind (spec_l30Signal.f k (v1.snd, v1.fst)) fun v2 =>
        obind
          (loopN (spec_l30Kind.s0 k) k
            ((x.snd, 0),
              (((0, 0), 0, 0), (0, 0, 0, []), 0, (0, 0, 0, 0, 0), 0, 0, 0, 0, 0, 0, (0, 0, 0), [], (0, []), 0, 0, 0, 0),
              (0, 0, 0, 0, 0, (0, 0, 0, 0, 0), 0), v2.snd,
              (v1.fst.fst, v1.fst.snd.fst.fst, v1.fst.snd.fst.snd.fst, v1.fst.snd.fst.snd.snd.fst, v1.fst.snd.snd.fst,
                v1.fst.snd.snd.snd.fst, v1.fst.snd.snd.snd.snd.fst, v1.fst.snd.snd.snd.snd.snd.fst,
                v1.fst.snd.snd.snd.snd.snd.snd.fst, v1.fst.snd.snd.snd.snd.snd.snd.snd.fst,
                v1.fst.snd.snd.snd.snd.snd.snd.snd.snd.fst, v1.fst.snd.snd.snd.snd.snd.snd.snd.snd.snd.fst,
                v1.fst.snd.snd.snd.snd.snd.snd.snd.snd.snd.snd.fst,
                v1.fst.snd.snd.snd.snd.snd.snd.snd.snd.snd.snd.snd.snd.fst.fst,
                v1.fst.snd.snd.snd.snd.snd.snd.snd.snd.snd.snd.snd.snd.snd),
              v2.fst, v1.fst.snd.fst.snd.snd.snd, v1.fst.snd.snd.snd.snd.snd.snd.snd.snd.snd.snd.snd.fst,
              v1.fst.snd.snd.snd.snd.snd.snd.snd.snd.snd.snd.snd.snd.fst.snd))
          fun v5 =>
          some
            ((v5.snd.snd.fst.fst,
                (v5.snd.snd.fst.snd.fst, v5.snd.snd.fst.snd.snd.fst, v5.snd.snd.fst.snd.snd.snd.fst,
                  v5.snd.snd.snd.snd.fst),
                v5.snd.snd.fst.snd.snd.snd.snd.fst, v5.snd.snd.fst.snd.snd.snd.snd.snd.fst,
                v5.snd.snd.fst.snd.snd.snd.snd.snd.snd.fst, v5.snd.snd.fst.snd.snd.snd.snd.snd.snd.snd.fst,
                v5.snd.snd.fst.snd.snd.snd.snd.snd.snd.snd.snd.fst,
                v5.snd.snd.fst.snd.snd.snd.snd.snd.snd.snd.snd.snd.fst,
                v5.snd.snd.fst.snd.snd.snd.snd.snd.snd.snd.snd.snd.snd.fst,
                v5.snd.snd.fst.snd.snd.snd.snd.snd.snd.snd.snd.snd.snd.snd.fst,
                v5.snd.snd.fst.snd.snd.snd.snd.snd.snd.snd.snd.snd.snd.snd.snd.fst, v5.snd.snd.snd.snd.snd.fst,
                (v5.snd.snd.fst.snd.snd.snd.snd.snd.snd.snd.snd.snd.snd.snd.snd.snd.fst, v5.snd.snd.snd.snd.snd.snd),
                v5.snd.snd.fst.snd.snd.snd.snd.snd.snd.snd.snd.snd.snd.snd.snd.snd.snd),
              v5.snd.snd.snd.fst)

def spec_DrawReceivePathUpdate.f (k : Nat) (x : List Int) : Option (DSession × DSignal) :=
    obind (spec_l30Kind.f k (x, 5)) fun v0 => some v0

def impl_Mod.f (k : Nat) (x : DSubscriberID) : Option Int :=
    obind (impl_InRange.f k (x.snd, 1, 1000000000000)) fun v0 =>
    bif dnot v0 then some 0
    else
      bif ine x.snd 0 then
        bif ilt (irem IntKind.i64 x.fst x.snd) 0 then some (iadd IntKind.i64 (irem IntKind.i64 x.fst x.snd) x.snd)
        else some (irem IntKind.i64 x.fst x.snd)
      else none

def impl_hashStep.f (k : Nat) (x : DSubscriberID) : Option Int :=
    obind (impl_Mod.f k (x.snd, 2147483647)) fun v0 =>
    bif ine 2147483647 0 then
      some (irem IntKind.i64 (iadd IntKind.i64 (iadd IntKind.i64 (imul IntKind.i64 x.fst 1000003) v0) 13) 2147483647)
    else none

def impl_KeyedHash.s0 (k : Nat) (d1 : Int × Int × Dl1Cur) : Option (Int × Int × Dl1Cur ⊕ DSubscriberID) :=
    bif ilt d1.snd.snd.snd.snd d1.snd.snd.snd.fst then
    bif idxOk d1.snd.snd.snd.snd (llen d1.snd.snd.fst) then
      obind (impl_hashStep.f k (d1.snd.fst, lget (Ty.int IntKind.i64) d1.snd.snd.fst d1.snd.snd.snd.snd)) fun v2 =>
        some (Sum.inl (d1.fst, v2, d1.snd.snd.fst, d1.snd.snd.snd.fst, iadd IntKind.i64 d1.snd.snd.snd.snd 1))
    else none
  else some (Sum.inr (d1.fst, d1.snd.fst))
def impl_KeyedHash.f (k : Nat) (x : DNumberedPacket) : Option Int :=
    obind (impl_hashStep.f k (11, x.fst)) fun v0 =>
    obind (loopN (impl_KeyedHash.s0 k) k (x.fst, v0, x.snd, llen x.snd, 0)) fun v3 =>
      obind (impl_hashStep.f k (v3.snd, v3.fst)) fun v4 => some v4

def impl_DeriveKey.f (k : Nat) (x : DSubscriberID) : Option Int :=
    obind (impl_KeyedHash.f k (x.fst, [9, x.snd])) fun v0 => bif ieq v0 0 then some 1 else some v0

def impl_deriveSteps.s0 (k : Nat) (d0 : Int × Dl1Cur) : Option (Int × Dl1Cur ⊕ Int) :=
    bif ilt d0.snd.snd.snd d0.snd.snd.fst then
    bif idxOk d0.snd.snd.snd (llen d0.snd.fst) then
      obind (impl_DeriveKey.f k (d0.fst, lget (Ty.int IntKind.i64) d0.snd.fst d0.snd.snd.snd)) fun v1 =>
        some (Sum.inl (v1, d0.snd.fst, d0.snd.snd.fst, iadd IntKind.i64 d0.snd.snd.snd 1))
    else none
  else some (Sum.inr d0.fst)
def impl_deriveSteps.f (k : Nat) (x : DNumberedPacket) : Option Int :=
    obind (loopN (impl_deriveSteps.s0 k) k (x.fst, x.snd, llen x.snd, 0)) fun v2 => some v2

def impl_KeyForPath.f (k : Nat) (x : DNumberedPacket) : Option Int :=
    obind (impl_deriveSteps.f k x) fun v0 => some v0

def impl_SignalingKeyPath.f (k : Nat) (x : Unit) : Option (List Int) :=
    some [1, 2]

def impl_SignalMAC.f (k : Nat) (x : Int × DSignal) : Option Int :=
    obind (impl_SignalingKeyPath.f k ()) fun v0 =>
    obind (impl_KeyForPath.f k (x.fst, v0)) fun v1 =>
      obind
        (impl_KeyedHash.f k
          (v1, [23, x.snd.fst, x.snd.snd.fst, x.snd.snd.snd.fst, x.snd.snd.snd.snd.fst, x.snd.snd.snd.snd.snd.fst]))
        fun v2 => some v2

def impl_VerifySignal.f (k : Nat) (x : Int × DSignal) : Option Bool :=
    obind (impl_SignalMAC.f k x) fun v0 => some (ieq x.snd.snd.snd.snd.snd.snd.snd v0)

def impl_copyItems_impl_Signal.f (k : Nat) (x : List DSignal) : Option (List DSignal) :=
    bif makeOk (llen x) (llen x) 88 then some (lcopy (lrep TSignal (llen x)) 0 (llen (lrep TSignal (llen x))) x) else none

def impl_sessionResult.f (k : Nat) (x : DSessionResult) : Option DSessionResult :=
    obind (impl_copySession.f k x.fst) fun v0 => obind (impl_copyItems_impl_Signal.f k x.snd) fun v1 => some (v0, v1)

def impl_SignSignal.f (k : Nat) (x : Int × DSignal) : Option DSignal :=
    obind (impl_SignalMAC.f k x) fun v0 =>
    some
      (x.snd.fst, x.snd.snd.fst, x.snd.snd.snd.fst, x.snd.snd.snd.snd.fst, x.snd.snd.snd.snd.snd.fst,
        x.snd.snd.snd.snd.snd.snd.fst, v0)

def impl_signedSignal.f (k : Nat) (x : DSession × Int) : Option DSignal :=
    obind
    (impl_SignSignal.f k
      (x.fst.snd.snd.snd.snd.snd.snd.fst, x.snd, x.fst.snd.snd.snd.snd.snd.snd.snd.snd.fst, x.fst.snd.snd.snd.snd.snd.fst,
        x.fst.snd.snd.snd.snd.snd.snd.snd.fst, 0, (0, 0, 0, 0, 0), 0))
    fun v0 => some v0

def impl_ReceivePathUpdate.f (k : Nat) (x : DSession × DSignal) : Option DSessionResult :=
    obind
    (bif dnot (bif ine x.fst.snd.snd.fst 1 then true else ine x.snd.snd.snd.fst x.fst.snd.snd.snd.snd.snd.fst) then
      impl_VerifySignal.f k (x.fst.snd.snd.snd.snd.snd.snd.fst, x.snd)
    else some false)
    fun v0 =>
    bif
        bif bif ine x.fst.snd.snd.fst 1 then true else ine x.snd.snd.snd.fst x.fst.snd.snd.snd.snd.snd.fst then true
        else dnot v0 then
      obind (impl_sessionResult.f k (x.fst, [])) fun v1 => some v1
    else
      bif
          bif ilt x.snd.snd.snd.snd.fst x.fst.snd.snd.snd.snd.snd.snd.snd.fst then true
          else
            bif ieq x.snd.snd.snd.snd.fst x.fst.snd.snd.snd.snd.snd.snd.snd.fst then
              ine x.snd.snd.fst x.fst.snd.snd.snd.snd.snd.snd.snd.snd.fst
            else false then
        obind (impl_sessionResult.f k (x.fst, [])) fun v2 => some v2
      else
        obind
          (impl_signedSignal.f k
            ((x.fst.fst, x.fst.snd.fst, x.fst.snd.snd.fst, x.fst.snd.snd.snd.fst, x.fst.snd.snd.snd.snd.fst,
                x.fst.snd.snd.snd.snd.snd.fst, x.fst.snd.snd.snd.snd.snd.snd.fst, x.snd.snd.snd.snd.fst, x.snd.snd.fst, 0,
                (0, 0, 0), x.fst.snd.snd.snd.snd.snd.snd.snd.snd.snd.snd.snd.fst,
                x.fst.snd.snd.snd.snd.snd.snd.snd.snd.snd.snd.snd.snd.fst, 0,
                x.fst.snd.snd.snd.snd.snd.snd.snd.snd.snd.snd.snd.snd.snd.snd),
              6))
          fun v3 =>
          obind
            (impl_sessionResult.f k
              ((x.fst.fst, x.fst.snd.fst, x.fst.snd.snd.fst, x.fst.snd.snd.snd.fst, x.fst.snd.snd.snd.snd.fst,
                  x.fst.snd.snd.snd.snd.snd.fst, x.fst.snd.snd.snd.snd.snd.snd.fst, x.snd.snd.snd.snd.fst, x.snd.snd.fst,
                  0, (0, 0, 0), x.fst.snd.snd.snd.snd.snd.snd.snd.snd.snd.snd.snd.fst,
                  x.fst.snd.snd.snd.snd.snd.snd.snd.snd.snd.snd.snd.snd.fst, 0,
                  x.fst.snd.snd.snd.snd.snd.snd.snd.snd.snd.snd.snd.snd.snd.snd),
                [v3]))
            fun v4 => some v4

def spec_VerifySignal.f (k : Nat) (x : Int × DSignal) : Option Bool :=
    obind (spec_SignalMAC.f k x) fun v0 => some (ieq x.snd.snd.snd.snd.snd.snd.snd v0)

def laws_FnPathUpdates.f (k : Nat) (x : List Int) : Option Bool :=
    obind (laws_big.f k x) fun v0 =>
    bif v0 then some true
    else
      obind (spec_DrawReceivePathUpdate.f k x) fun v1 =>
        obind (impl_ReceivePathUpdate.f k v1) fun v2 =>
          obind
            (bif bif ieq v1.fst.snd.snd.fst 1 then ieq v1.snd.snd.snd.fst v1.fst.snd.snd.snd.snd.snd.fst else false then
              spec_VerifySignal.f k (v1.fst.snd.snd.snd.snd.snd.snd.fst, v1.snd)
            else some false)
            fun v3 =>
            bif
                dnot
                  (bif
                      bif
                          bif ieq v1.fst.snd.snd.fst 1 then ieq v1.snd.snd.snd.fst v1.fst.snd.snd.snd.snd.snd.fst
                          else false then
                        v3
                      else false then
                    bif ilt v1.fst.snd.snd.snd.snd.snd.snd.snd.fst v1.snd.snd.snd.snd.fst then true
                    else
                      bif ieq v1.snd.snd.snd.snd.fst v1.fst.snd.snd.snd.snd.snd.snd.snd.fst then
                        ieq v1.snd.snd.fst v1.fst.snd.snd.snd.snd.snd.snd.snd.snd.fst
                      else false
                  else false) then
              obind (bif ieq (llen v2.snd) 0 then laws_sameSession.f k (v2.fst, v1.fst) else some false) fun v4 =>
                some (bif ieq (llen v2.snd) 0 then v4 else false)
            else
              obind (impl_ReceivePathUpdate.f k (v2.fst, v1.snd)) fun v5 =>
                bif bif ine (llen v2.snd) 1 then true else ine (llen v5.snd) 1 then some false
                else
                  bif idxOk 0 (llen v2.snd) then
                    obind
                      (bif
                          bif
                              bif
                                  bif ieq v2.fst.snd.snd.snd.snd.snd.snd.snd.fst v1.snd.snd.snd.snd.fst then
                                    ieq v2.fst.snd.snd.snd.snd.snd.snd.snd.snd.fst v1.snd.snd.fst
                                  else false then
                                ieq v2.fst.snd.snd.snd.snd.snd.snd.snd.snd.snd.snd.snd.snd.snd.fst 0
                              else false then
                            ieq v2.fst.snd.snd.snd.snd.snd.snd.snd.snd.snd.fst 0
                          else false then
                        laws_sameSession.f k (v5.fst, v2.fst)
                      else some false)
                      fun v6 =>
                      obind
                        (bif
                            bif
                                bif
                                    bif
                                        bif
                                            bif
                                                bif ieq v2.fst.snd.snd.snd.snd.snd.snd.snd.fst v1.snd.snd.snd.snd.fst then
                                                  ieq v2.fst.snd.snd.snd.snd.snd.snd.snd.snd.fst v1.snd.snd.fst
                                                else false then
                                              ieq v2.fst.snd.snd.snd.snd.snd.snd.snd.snd.snd.snd.snd.snd.snd.fst 0
                                            else false then
                                          ieq v2.fst.snd.snd.snd.snd.snd.snd.snd.snd.snd.fst 0
                                        else false then
                                      v6
                                    else false then
                                  ieq (lget TSignal v2.snd 0).fst 6
                                else false then
                              ieq (lget TSignal v2.snd 0).snd.snd.snd.fst v1.snd.snd.snd.snd.fst
                            else false then
                          impl_VerifySignal.f k (v1.fst.snd.snd.snd.snd.snd.snd.fst, lget TSignal v2.snd 0)
                        else some false)
                        fun v7 =>
                        obind
                          (bif
                              bif
                                  bif
                                      bif
                                          bif
                                              bif
                                                  bif
                                                      bif
                                                          ieq v2.fst.snd.snd.snd.snd.snd.snd.snd.fst
                                                            v1.snd.snd.snd.snd.fst then
                                                        ieq v2.fst.snd.snd.snd.snd.snd.snd.snd.snd.fst v1.snd.snd.fst
                                                      else false then
                                                    ieq v2.fst.snd.snd.snd.snd.snd.snd.snd.snd.snd.snd.snd.snd.snd.fst 0
                                                  else false then
                                                ieq v2.fst.snd.snd.snd.snd.snd.snd.snd.snd.snd.fst 0
                                              else false then
                                            v6
                                          else false then
                                        ieq (lget TSignal v2.snd 0).fst 6
                                      else false then
                                    ieq (lget TSignal v2.snd 0).snd.snd.snd.fst v1.snd.snd.snd.snd.fst
                                  else false then
                                v7
                              else false then
                            laws_sameSender.f k
                              (v2.fst.snd.snd.snd.snd.snd.snd.snd.snd.snd.snd.snd.snd.fst,
                                v1.fst.snd.snd.snd.snd.snd.snd.snd.snd.snd.snd.snd.snd.fst)
                          else some false)
                          fun v8 =>
                          some
                            (bif
                                bif
                                    bif
                                        bif
                                            bif
                                                bif
                                                    bif
                                                        bif
                                                            ieq v2.fst.snd.snd.snd.snd.snd.snd.snd.fst
                                                              v1.snd.snd.snd.snd.fst then
                                                          ieq v2.fst.snd.snd.snd.snd.snd.snd.snd.snd.fst v1.snd.snd.fst
                                                        else false then
                                                      ieq v2.fst.snd.snd.snd.snd.snd.snd.snd.snd.snd.snd.snd.snd.snd.fst 0
                                                    else false then
                                                  ieq v2.fst.snd.snd.snd.snd.snd.snd.snd.snd.snd.fst 0
                                                else false then
                                              v6
                                            else false then
                                          ieq (lget TSignal v2.snd 0).fst 6
                                        else false then
                                      ieq (lget TSignal v2.snd 0).snd.snd.snd.fst v1.snd.snd.snd.snd.fst
                                    else false then
                                  v7
                                else false then
                              v8
                            else false)
                  else none

def spec_DrawReceiveResponse.f (k : Nat) (x : List Int) : Option (DSession × DSignal) :=
    obind (spec_l30Kind.f k (x, 3)) fun v0 => some v0

def impl_ResponseMatches.f (k : Nat) (x : DAuthVector × Int) : Option Bool :=
    some (ieq x.snd x.fst.snd.snd.snd.fst)

def impl_ReceiveResponse.f (k : Nat) (x : DSession × DSignal) : Option DSessionResult :=
    obind
    (bif dnot (bif ile x.fst.snd.snd.snd.snd.fst 0 then true else ine x.snd.snd.snd.fst x.fst.snd.snd.snd.snd.fst) then
      impl_ResponseMatches.f k (x.fst.snd.snd.snd.fst, x.snd.snd.snd.snd.snd.fst)
    else some false)
    fun v0 =>
    bif
        bif
            bif bif ile x.fst.snd.snd.snd.snd.fst 0 then true else ine x.snd.snd.snd.fst x.fst.snd.snd.snd.snd.fst then
              true
            else dnot v0 then
          true
        else ile 999999 x.fst.snd.snd.snd.snd.snd.snd.snd.fst then
      obind (impl_sessionResult.f k (x.fst, [])) fun v1 => some v1
    else
      obind
        (impl_signedSignal.f k
          ((x.fst.fst, x.fst.snd.fst, 1, (0, 0, 0, 0, 0), 0, x.fst.snd.snd.snd.snd.fst,
              x.fst.snd.snd.snd.fst.snd.snd.snd.snd, iadd IntKind.i64 x.fst.snd.snd.snd.snd.snd.snd.snd.fst 1,
              x.snd.snd.fst, 0, (0, 0, 0), x.fst.snd.snd.snd.snd.snd.snd.snd.snd.snd.snd.snd),
            4))
        fun v2 =>
        obind
          (impl_sessionResult.f k
            ((x.fst.fst, x.fst.snd.fst, 1, (0, 0, 0, 0, 0), 0, x.fst.snd.snd.snd.snd.fst,
                x.fst.snd.snd.snd.fst.snd.snd.snd.snd, iadd IntKind.i64 x.fst.snd.snd.snd.snd.snd.snd.snd.fst 1,
                x.snd.snd.fst, 0, (0, 0, 0), x.fst.snd.snd.snd.snd.snd.snd.snd.snd.snd.snd.snd),
              [v2]))
          fun v3 => some v3

def laws_FnCoreAuthentication.f (k : Nat) (x : List Int) : Option Bool :=
    obind (laws_big.f k x) fun v0 =>
    bif v0 then some true
    else
      obind (spec_DrawReceiveResponse.f k x) fun v1 =>
        obind (impl_ReceiveResponse.f k v1) fun v2 =>
          bif
              bif
                  bif
                      bif ile v1.fst.snd.snd.snd.snd.fst 0 then true
                      else ine v1.snd.snd.snd.fst v1.fst.snd.snd.snd.snd.fst then
                    true
                  else ine v1.snd.snd.snd.snd.snd.fst v1.fst.snd.snd.snd.fst.snd.snd.snd.fst then
                true
              else ile 999999 v1.fst.snd.snd.snd.snd.snd.snd.snd.fst then
            obind (bif ieq (llen v2.snd) 0 then laws_sameSession.f k (v2.fst, v1.fst) else some false) fun v3 =>
              some (bif ieq (llen v2.snd) 0 then v3 else false)
          else
            obind (impl_ReceiveResponse.f k (v2.fst, v1.snd)) fun v4 =>
              obind
                (bif dnot (bif ine (llen v2.snd) 1 then true else ine (llen v4.snd) 0) then
                  laws_sameSession.f k (v4.fst, v2.fst)
                else some false)
                fun v5 =>
                bif bif bif ine (llen v2.snd) 1 then true else ine (llen v4.snd) 0 then true else dnot v5 then some false
                else
                  bif idxOk 0 (llen v2.snd) then
                    obind
                      (bif
                          bif
                              bif
                                  bif
                                      bif
                                          bif
                                              bif
                                                  bif
                                                      bif ieq v2.fst.snd.snd.fst 1 then
                                                        ieq v2.fst.snd.snd.snd.snd.snd.snd.fst
                                                          v1.fst.snd.snd.snd.fst.snd.snd.snd.snd
                                                      else false then
                                                    ieq v2.fst.snd.snd.snd.snd.snd.fst v1.fst.snd.snd.snd.snd.fst
                                                  else false then
                                                ieq v2.fst.snd.snd.snd.snd.fst 0
                                              else false then
                                            ieq v2.fst.snd.snd.snd.snd.snd.snd.snd.fst
                                              (iadd IntKind.i64 v1.fst.snd.snd.snd.snd.snd.snd.snd.fst 1)
                                          else false then
                                        ieq v2.fst.snd.snd.snd.snd.snd.snd.snd.snd.fst v1.snd.snd.fst
                                      else false then
                                    ieq (lget TSignal v2.snd 0).fst 4
                                  else false then
                                ieq (lget TSignal v2.snd 0).snd.fst v1.snd.snd.fst
                              else false then
                            ieq (lget TSignal v2.snd 0).snd.snd.snd.fst v2.fst.snd.snd.snd.snd.snd.snd.snd.fst
                          else false then
                        impl_VerifySignal.f k (v1.fst.snd.snd.snd.fst.snd.snd.snd.snd, lget TSignal v2.snd 0)
                      else some false)
                      fun v6 =>
                      some
                        (bif
                            bif
                                bif
                                    bif
                                        bif
                                            bif
                                                bif
                                                    bif
                                                        bif ieq v2.fst.snd.snd.fst 1 then
                                                          ieq v2.fst.snd.snd.snd.snd.snd.snd.fst
                                                            v1.fst.snd.snd.snd.fst.snd.snd.snd.snd
                                                        else false then
                                                      ieq v2.fst.snd.snd.snd.snd.snd.fst v1.fst.snd.snd.snd.snd.fst
                                                    else false then
                                                  ieq v2.fst.snd.snd.snd.snd.fst 0
                                                else false then
                                              ieq v2.fst.snd.snd.snd.snd.snd.snd.snd.fst
                                                (iadd IntKind.i64 v1.fst.snd.snd.snd.snd.snd.snd.snd.fst 1)
                                            else false then
                                          ieq v2.fst.snd.snd.snd.snd.snd.snd.snd.snd.fst v1.snd.snd.fst
                                        else false then
                                      ieq (lget TSignal v2.snd 0).fst 4
                                    else false then
                                  ieq (lget TSignal v2.snd 0).snd.fst v1.snd.snd.fst
                                else false then
                              ieq (lget TSignal v2.snd 0).snd.snd.snd.fst v2.fst.snd.snd.snd.snd.snd.snd.snd.fst
                            else false then
                          v6
                        else false)
                  else none

end Go.Proofs.XF
/- Plain laws: what the laws' own functions (to, eq, sz, mark, held) do, for every kind of data at once. -/
set_option linter.unusedVariables false
set_option linter.unusedSimpArgs false
namespace Go.Proofs.XF
open Go Go.Proofs.XTv

theorem lset_lset {α : Type} (l : List α) (i : Int) (v w : α) : lset (lset l i v) i w = lset l i w := by simp [lset]
theorem llen_lset {α : Type} (l : List α) (i : Int) (v : α) : llen (lset l i v) = llen l := by simp [lset, llen]
theorem lget_lset {e : Ty} (l : List e.den) {i : Nat} (h : i < l.length) (v : e.den) : lget e (lset l (i : Int) v) (i : Int) = v := by simp [lget, lset, h]

/-- An element, all its numbers marked. -/
def mkE : (t : Ty) → t.den → Nat → t.den × Nat
  | .int .i64, _, n => ((n : Int), n + 1)
  | .int k, _, n => (k.wrap (n : Int), n + 1)
  | .bool, _, n => (ieq (irem .i64 (n : Int) 3) 0, n + 1)
  | .str, x, n => (x, n)
  | .sl e, xs, n => mkL (mkE e) xs n
  | .unit, x, n => (x, n)
  | .pair a b, x, n => (((mkE a x.1 n).1, (mkE b x.2 (mkE a x.1 n).2).1), (mkE b x.2 (mkE a x.1 n).2).2)
/-- A datum that was handed over by value: what its slices hold is marked. -/
def mkTop : (t : Ty) → t.den → Nat → t.den × Nat
  | .int _, x, n => (x, n)
  | .bool, x, n => (x, n)
  | .str, x, n => (x, n)
  | .sl e, xs, n => mkL (mkE e) xs n
  | .unit, x, n => (x, n)
  | .pair a b, x, n => (((mkTop a x.1 n).1, (mkTop b x.2 (mkTop a x.1 n).2).1), (mkTop b x.2 (mkTop a x.1 n).2).2)
def cE : (t : Ty) → t.den → Nat
  | .int _, _ => 1
  | .bool, _ => 1
  | .str, _ => 0
  | .sl e, xs => (List.map (cE e) xs).sum
  | .unit, _ => 0
  | .pair a b, x => cE a x.1 + cE b x.2
def cTop : (t : Ty) → t.den → Nat
  | .sl e, xs => (List.map (cE e) xs).sum
  | .pair a b, x => cTop a x.1 + cTop b x.2
  | _, _ => 0
theorem mkL_eq {α : Type} (m : α → Nat → α × Nat) (c : α → Nat) : ∀ (xs : List α), (∀ x ∈ xs, ∀ n, (m x n).2 = n + c x) → ∀ n, (mkL m xs n).2 = n + (xs.map c).sum
  | [], _, n => rfl
  | x :: xs, h, n => by
    have h1 := h x (List.mem_cons_self ..) n
    have h2 := mkL_eq m c xs (fun y hy => h y (List.mem_cons_of_mem _ hy)) (m x n).2
    simp only [mkL, List.map_cons, List.sum_cons]
    omega
theorem mkE_n : ∀ (t : Ty) (x : t.den) (n : Nat), (mkE t x n).2 = n + cE t x
  | .int k, _, _ => by cases k <;> rfl
  | .bool, _, _ => rfl
  | .str, _, _ => rfl
  | .unit, _, _ => rfl
  | .sl e, xs, n => mkL_eq _ _ xs (fun x _ n => mkE_n e x n) n
  | .pair a b, x, n => by
    have h1 := mkE_n a x.1 n
    have h2 := mkE_n b x.2 (mkE a x.1 n).2
    simp only [mkE, cE]
    omega
theorem mkTop_n : ∀ (t : Ty) (x : t.den) (n : Nat), (mkTop t x n).2 = n + cTop t x
  | .int _, _, _ => rfl
  | .bool, _, _ => rfl
  | .str, _, _ => rfl
  | .unit, _, _ => rfl
  | .sl e, xs, n => mkL_eq _ _ xs (fun x _ n => mkE_n e x n) n
  | .pair a b, x, n => by
    have h1 := mkTop_n a x.1 n
    have h2 := mkTop_n b x.2 (mkTop a x.1 n).2
    simp only [mkTop, cTop]
    omega
/-- The elements' own numbers, at the most. -/
def elMax : Ty → Nat
  | .sl e => max e.size (elMax e)
  | .pair a b => max (elMax a) (elMax b)
  | _ => 0
theorem cE_le : ∀ (t : Ty) (x : t.den) (M : Nat), elMax t ≤ M → cE t x ≤ t.size + M * cnt t x
  | .int _, _, _, _ => by simp [cE, Ty.size]
  | .bool, _, _, _ => by simp [cE, Ty.size]
  | .str, _, _, _ => by simp [cE, Ty.size]
  | .unit, _, _, _ => by simp [cE, Ty.size]
  | .sl e, xs, M, h => by
    simp only [elMax] at h
    have key : ∀ l : List e.den, (l.map (cE e)).sum ≤ M * (l.length + (l.map (cnt e)).sum) := by
      intro l
      induction l with
      | nil => simp
      | cons y l ih =>
        have h1 := cE_le e y M (by omega)
        have h2 : e.size ≤ M := by omega
        simp only [List.map_cons, List.sum_cons, List.length_cons]
        have : M * (l.length + 1 + (cnt e y + (l.map (cnt e)).sum)) = M + M * cnt e y + M * (l.length + (l.map (cnt e)).sum) := by
          simp only [Nat.mul_add, Nat.mul_one]; omega
        omega
    have := key xs
    simp only [cE, cnt]
    omega
  | .pair a b, x, M, h => by
    simp only [elMax] at h
    have h1 := cE_le a x.1 M (by omega)
    have h2 := cE_le b x.2 M (by omega)
    simp only [cE, cnt, Ty.size, Nat.mul_add]
    omega
theorem cTop_le : ∀ (t : Ty) (x : t.den) (M : Nat), elMax t ≤ M → cTop t x ≤ M * cnt t x
  | .int _, _, _, _ => by simp [cTop]
  | .bool, _, _, _ => by simp [cTop]
  | .str, _, _, _ => by simp [cTop]
  | .unit, _, _, _ => by simp [cTop]
  | .sl e, xs, M, h => by
    simp only [elMax] at h
    have key : ∀ l : List e.den, (l.map (cE e)).sum ≤ M * (l.length + (l.map (cnt e)).sum) := by
      intro l
      induction l with
      | nil => simp
      | cons y l ih =>
        have h1 := cE_le e y M (by omega)
        have h2 : e.size ≤ M := by omega
        simp only [List.map_cons, List.sum_cons, List.length_cons]
        have : M * (l.length + 1 + (cnt e y + (l.map (cnt e)).sum)) = M + M * cnt e y + M * (l.length + (l.map (cnt e)).sum) := by
          simp only [Nat.mul_add, Nat.mul_one]; omega
        omega
    have := key xs
    simp only [cTop, cnt]
    omega
  | .pair a b, x, M, h => by
    simp only [elMax] at h
    have h1 := cTop_le a x.1 M (by omega)
    have h2 := cTop_le b x.2 M (by omega)
    simp only [cTop, cnt, Nat.mul_add]
    omega
/-- A datum with few places is no great one. -/
theorem ok_of_cnt : ∀ (t : Ty) (x : t.den), Good' t x → cnt t x ≤ 4294967296 → Ok t x
  | .int _, _, h, _ => h
  | .bool, _, _, _ => trivial
  | .str, _, h, _ => h
  | .unit, _, _, _ => trivial
  | .sl e, xs, h, hc => by
    simp only [cnt] at hc
    refine ⟨by show List.length xs ≤ _; omega, fun y hy => ok_of_cnt e y (h.2 y hy) ?_⟩
    have : ∀ {l : List e.den}, y ∈ l → cnt e y ≤ (l.map (cnt e)).sum := by
      intro l
      induction l with
      | nil => intro h; cases h
      | cons z l ih =>
        intro h
        simp only [List.map_cons, List.sum_cons]
        rcases List.mem_cons.1 h with rfl | h
        · omega
        · have := ih h; omega
    have := this hy
    omega
  | .pair a b, x, h, hc => by
    simp only [cnt] at hc
    exact ⟨ok_of_cnt a x.1 h.1 (by omega), ok_of_cnt b x.2 h.2 (by omega)⟩

theorem sz_seq {a b : Nat} {L : Int} (h0 : 0 ≤ L) {f : Int → Option Int} (hf : ∀ M, 0 ≤ M → M ≤ L → f M = some (if (b : Int) ≤ M then M - b else -1)) :
    (obind (some (if (a : Int) ≤ L then L - a else -1)) fun v => bif ilt v 0 then some (-1) else f v) = some (if ((a + b : Nat) : Int) ≤ L then L - (a + b : Nat) else -1) := by
  rw [ob_some]
  by_cases h : (a : Int) ≤ L
  · rw [if_pos h, ilt_f (by omega), cond_false, hf _ (by omega) (by omega)]
    by_cases h2 : (b : Int) ≤ L - a
    · rw [if_pos h2, if_pos (by omega)]; congr 1; omega
    · rw [if_neg h2, if_neg (by omega)]
  · rw [if_neg h, ilt_t (by omega), cond_true, if_neg (by omega)]
theorem sz_end {a : Nat} {L : Int} (h0 : 0 ≤ L) : (obind (some (if (a : Int) ≤ L then L - a else -1)) fun v => bif ilt v 0 then some (-1) else some v) = some (if (a : Int) ≤ L then L - a else -1) := by
  rw [ob_some]
  by_cases h : (a : Int) ≤ L
  · rw [if_pos h, ilt_f (by omega), cond_false]
  · rw [if_neg h, ilt_t (by omega), cond_true]
theorem sum_zero {α : Type} : ∀ l : List α, (List.map (fun _ => 0) l).sum = 0
  | [] => rfl
  | _ :: l => by rw [List.map_cons, List.sum_cons, sum_zero l]
theorem ilt_nn (n : Nat) : ilt (n : Int) 0 = false := ilt_f (by omega)
theorem mkLE_n (e : Ty) (xs : List e.den) (n : Nat) : (mkL (mkE e) xs n).2 = n + (xs.map (cE e)).sum := mkL_eq _ _ _ (fun x _ n => mkE_n e x n) n
theorem held_seq {n : Nat} {f : Int → Option Int} : (obind (some (n : Int)) fun v => bif ilt v 0 then some (-1) else f v) = f n := by
  rw [ob_some, ilt_f (by omega), cond_false]
/-! ### The chain of a law -/
theorem ob_of {α β : Type} {m : Option α} {v : α} (h : m = some v) {f : α → Option β} {r : Option β} (hf : f v = r) : obind m f = r := by rw [h]; exact hf
theorem bif_t {α : Type} {c : Bool} (hc : c = true) {a b r : α} (h : a = r) : (bif c then a else b) = r := by rw [hc]; exact h
theorem bif_f {α : Type} {c : Bool} (hc : c = false) {a b r : α} (h : b = r) : (bif c then a else b) = r := by rw [hc]; exact h
theorem ob_bif {α β : Type} {c : Bool} (hc : c = true) {m m2 : Option α} {v : α} (h : m = some v) {f : α → Option β} {r : Option β} (hf : f v = r) : obind (bif c then m else m2) f = r := by rw [hc, cond_true, h]; exact hf
theorem law_sz {c : Nat} {L : Int} (h0 : 0 ≤ L) {m : Option Int} (hm : m = some (if (c : Int) ≤ L then L - c else -1)) {f : Int → Option Bool} (hf : (c : Int) ≤ L → f (L - c) = some true) :
    (obind m fun v => bif ilt v 0 then some true else f v) = some true := by
  rw [hm, ob_some]
  by_cases h : (c : Int) ≤ L
  · rw [if_pos h, ilt_f (by omega), cond_false]; exact hf h
  · rw [if_neg h, ilt_t (by omega), cond_true]
end Go.Proofs.XF
/- The laws' own functions: what they do to each kind of data. -/
set_option linter.unusedVariables false
set_option linter.unusedSimpArgs false
set_option maxRecDepth 4000
namespace Go.Proofs.XF
open Go Go.Proofs.XTv
theorem toAuthVector {k : Nat} (hk : FU ≤ k) {x : (TAuthVector : Ty).den} (h : Ok TAuthVector x) : laws_toAuthVector.f k x = some x := by
  unfold laws_toAuthVector.f
  rfl
theorem toByteS {k : Nat} (hk : FU ≤ k) {x : ((.sl (.int .u8)) : Ty).den} (h : Ok (.sl (.int .u8)) x) : laws_toByteS.f k x = some x := by
  have hl := ok_len h
  unfold laws_toByteS.f
  rw [make_len (by omega), cond_true, to_loop hk (e := (.int .u8)) (s := laws_toByteS.s0) (ok_len h) (fun i acc hi hl => by
    have hi' : i < acc.length := hl ▸ hi
    simp only [laws_toByteS.s0, ilt_len, idx_len, decide_eq_true hi, decide_eq_true hi', cond_true, lget_nat _ hi, ob_some, lset_nat, iadd_nat (show i < 9223372036854775807 by omega)]) (fun acc => by
    simp only [laws_toByteS.s0, ilt_len, Nat.lt_irrefl, decide_false, cond_false]), ob_some]
theorem toSubscriberID {k : Nat} (hk : FU ≤ k) {x : (TSubscriberID : Ty).den} (h : Ok TSubscriberID x) : laws_toSubscriberID.f k x = some x := by
  unfold laws_toSubscriberID.f
  rfl
theorem toUSIM {k : Nat} (hk : FU ≤ k) {x : (TUSIM : Ty).den} (h : Ok TUSIM x) : laws_toUSIM.f k x = some x := by
  have e0 := toSubscriberID hk (x := x.1) h.1
  unfold laws_toUSIM.f
  simp only [e0, ob_some]
theorem toPayload {k : Nat} (hk : FU ≤ k) {x : ((.sl (.int .u8)) : Ty).den} (h : Ok (.sl (.int .u8)) x) : laws_toPayload.f k x = some x := by
  have e0 := toByteS hk (x := x) h
  unfold laws_toPayload.f
  simp only [e0, ob_some]
theorem toPayloadS {k : Nat} (hk : FU ≤ k) {x : ((.sl (.sl (.int .u8))) : Ty).den} (h : Ok (.sl (.sl (.int .u8))) x) : laws_toPayloadS.f k x = some x := by
  have hl := ok_len h
  unfold laws_toPayloadS.f
  rw [make_len (by omega), cond_true, to_loop hk (e := (.sl (.int .u8))) (s := (laws_toPayloadS.s0 k)) (ok_len h) (fun i acc hi hl => by
    have hi' : i < acc.length := hl ▸ hi
    simp only [laws_toPayloadS.s0, ilt_len, idx_len, decide_eq_true hi, decide_eq_true hi', cond_true, lget_nat _ hi, toPayload hk (ok_get h hi), ob_some, lset_nat, iadd_nat (show i < 9223372036854775807 by omega)]) (fun acc => by
    simp only [laws_toPayloadS.s0, ilt_len, Nat.lt_irrefl, decide_false, cond_false]), ob_some]
theorem toNumberedPacket {k : Nat} (hk : FU ≤ k) {x : (TNumberedPacket : Ty).den} (h : Ok TNumberedPacket x) : laws_toNumberedPacket.f k x = some x := by
  have e0 := toByteS hk (x := x.2) h.2
  unfold laws_toNumberedPacket.f
  simp only [e0, ob_some]
theorem toNumberedPacketS {k : Nat} (hk : FU ≤ k) {x : ((.sl TNumberedPacket) : Ty).den} (h : Ok (.sl TNumberedPacket) x) : laws_toNumberedPacketS.f k x = some x := by
  have hl := ok_len h
  unfold laws_toNumberedPacketS.f
  rw [make_len (by omega), cond_true, to_loop hk (e := TNumberedPacket) (s := (laws_toNumberedPacketS.s0 k)) (ok_len h) (fun i acc hi hl => by
    have hi' : i < acc.length := hl ▸ hi
    simp only [laws_toNumberedPacketS.s0, ilt_len, idx_len, decide_eq_true hi, decide_eq_true hi', cond_true, lget_nat _ hi, toNumberedPacket hk (ok_get h hi), ob_some, lset_nat, iadd_nat (show i < 9223372036854775807 by omega)]) (fun acc => by
    simp only [laws_toNumberedPacketS.s0, ilt_len, Nat.lt_irrefl, decide_false, cond_false]), ob_some]
theorem toReceiveWindow {k : Nat} (hk : FU ≤ k) {x : (TReceiveWindow : Ty).den} (h : Ok TReceiveWindow x) : laws_toReceiveWindow.f k x = some x := by
  have e0 := toNumberedPacketS hk (x := x.2.1) h.2.1
  have e1 := toPayloadS hk (x := x.2.2) h.2.2
  unfold laws_toReceiveWindow.f
  simp only [e0, e1, ob_some]
theorem toDevice {k : Nat} (hk : FU ≤ k) {x : (TDevice : Ty).den} (h : Ok TDevice x) : laws_toDevice.f k x = some x := by
  have e0 := toUSIM hk (x := x.1) h.1
  have e1 := toReceiveWindow hk (x := x.2.2.2.2.2.2.2.2) h.2.2.2.2.2.2.2.2
  unfold laws_toDevice.f
  simp only [e0, e1, ob_some]
theorem toIntS {k : Nat} (hk : FU ≤ k) {x : ((.sl (.int .i64)) : Ty).den} (h : Ok (.sl (.int .i64)) x) : laws_toIntS.f k x = some x := by
  have hl := ok_len h
  unfold laws_toIntS.f
  rw [make_len (by omega), cond_true, to_loop hk (e := (.int .i64)) (s := laws_toIntS.s0) (ok_len h) (fun i acc hi hl => by
    have hi' : i < acc.length := hl ▸ hi
    simp only [laws_toIntS.s0, ilt_len, idx_len, decide_eq_true hi, decide_eq_true hi', cond_true, lget_nat _ hi, ob_some, lset_nat, iadd_nat (show i < 9223372036854775807 by omega)]) (fun acc => by
    simp only [laws_toIntS.s0, ilt_len, Nat.lt_irrefl, decide_false, cond_false]), ob_some]
theorem toPagingState {k : Nat} (hk : FU ≤ k) {x : (TQuota : Ty).den} (h : Ok TQuota x) : laws_toPagingState.f k x = some x := by
  unfold laws_toPagingState.f
  rfl
theorem toQuota {k : Nat} (hk : FU ≤ k) {x : (TQuota : Ty).den} (h : Ok TQuota x) : laws_toQuota.f k x = some x := by
  unfold laws_toQuota.f
  rfl
theorem toSendWindow {k : Nat} (hk : FU ≤ k) {x : (TSendWindow : Ty).den} (h : Ok TSendWindow x) : laws_toSendWindow.f k x = some x := by
  have e0 := toNumberedPacketS hk (x := x.2) h.2
  unfold laws_toSendWindow.f
  simp only [e0, ob_some]
theorem toSubscriberRecord {k : Nat} (hk : FU ≤ k) {x : (TUSIM : Ty).den} (h : Ok TUSIM x) : laws_toSubscriberRecord.f k x = some x := by
  have e0 := toSubscriberID hk (x := x.1) h.1
  unfold laws_toSubscriberRecord.f
  simp only [e0, ob_some]
theorem toSubscription {k : Nat} (hk : FU ≤ k) {x : (TSubscription : Ty).den} (h : Ok TSubscription x) : laws_toSubscription.f k x = some x := by
  have e0 := toIntS hk (x := x.2.2.2) h.2.2.2
  unfold laws_toSubscription.f
  simp only [e0, ob_some]
theorem toSession {k : Nat} (hk : FU ≤ k) {x : (TSession : Ty).den} (h : Ok TSession x) : laws_toSession.f k x = some x := by
  have e0 := toSubscriberRecord hk (x := x.1) h.1
  have e1 := toSubscription hk (x := x.2.1) h.2.1
  have e2 := toAuthVector hk (x := x.2.2.2.1) h.2.2.2.1
  have e3 := toPagingState hk (x := x.2.2.2.2.2.2.2.2.2.2.1) h.2.2.2.2.2.2.2.2.2.2.1
  have e4 := toPayloadS hk (x := x.2.2.2.2.2.2.2.2.2.2.2.1) h.2.2.2.2.2.2.2.2.2.2.2.1
  have e5 := toSendWindow hk (x := x.2.2.2.2.2.2.2.2.2.2.2.2.1) h.2.2.2.2.2.2.2.2.2.2.2.2.1
  have e6 := toQuota hk (x := x.2.2.2.2.2.2.2.2.2.2.2.2.2.2) h.2.2.2.2.2.2.2.2.2.2.2.2.2.2
  unfold laws_toSession.f
  simp only [e0, e1, e2, e3, e4, e5, e6, ob_some]
theorem eqAuthVector {k : Nat} (hk : FU ≤ k) {x : (TAuthVector : Ty).den} (h : Ok TAuthVector x) : laws_eqAuthVector.f k (x, x) = some true := by
  unfold laws_eqAuthVector.f
  simp only [ob_some, cond_true, cond_false, dnot_t, dnot_f, ine_self, bne_self, seq_self, ilt_nn]
theorem eqByteS {k : Nat} (hk : FU ≤ k) {x : ((.sl (.int .u8)) : Ty).den} (h : Ok (.sl (.int .u8)) x) : laws_eqByteS.f k (x, x) = some true := by
  have hl := ok_len h
  unfold laws_eqByteS.f
  simp only [ine_self, cond_false]
  rw [eq_loop hk (e := (.int .u8)) (s := laws_eqByteS.s0) (ok_len h) (fun i hi => by
    simp only [laws_eqByteS.s0, ilt_len, idx_len, decide_eq_true hi, lget_nat _ hi, iadd_nat (show i < 9223372036854775807 by omega), ob_some, cond_true, cond_false, dnot_t, dnot_f, ine_self, bne_self, seq_self, ilt_nn]) (by
    simp only [laws_eqByteS.s0, ilt_len, Nat.lt_irrefl, decide_false, cond_false])]
  rfl
theorem eqSubscriberID {k : Nat} (hk : FU ≤ k) {x : (TSubscriberID : Ty).den} (h : Ok TSubscriberID x) : laws_eqSubscriberID.f k (x, x) = some true := by
  unfold laws_eqSubscriberID.f
  simp only [ob_some, cond_true, cond_false, dnot_t, dnot_f, ine_self, bne_self, seq_self, ilt_nn]
theorem eqUSIM {k : Nat} (hk : FU ≤ k) {x : (TUSIM : Ty).den} (h : Ok TUSIM x) : laws_eqUSIM.f k (x, x) = some true := by
  have e0 := eqSubscriberID hk (x := x.1) h.1
  unfold laws_eqUSIM.f
  simp only [e0, ob_some, cond_true, cond_false, dnot_t, dnot_f, ine_self, bne_self, seq_self, ilt_nn]
theorem eqPayload {k : Nat} (hk : FU ≤ k) {x : ((.sl (.int .u8)) : Ty).den} (h : Ok (.sl (.int .u8)) x) : laws_eqPayload.f k (x, x) = some true := by
  have e0 := eqByteS hk (x := x) h
  unfold laws_eqPayload.f
  simp only [e0, ob_some, cond_true, cond_false, dnot_t, dnot_f, ine_self, bne_self, seq_self, ilt_nn]
theorem eqPayloadS {k : Nat} (hk : FU ≤ k) {x : ((.sl (.sl (.int .u8))) : Ty).den} (h : Ok (.sl (.sl (.int .u8))) x) : laws_eqPayloadS.f k (x, x) = some true := by
  have hl := ok_len h
  unfold laws_eqPayloadS.f
  simp only [ine_self, cond_false]
  rw [eq_loop hk (e := (.sl (.int .u8))) (s := (laws_eqPayloadS.s0 k)) (ok_len h) (fun i hi => by
    simp only [laws_eqPayloadS.s0, ilt_len, idx_len, decide_eq_true hi, lget_nat _ hi, iadd_nat (show i < 9223372036854775807 by omega), eqPayload hk (ok_get h hi), ob_some, cond_true, cond_false, dnot_t, dnot_f, ine_self, bne_self, seq_self, ilt_nn]) (by
    simp only [laws_eqPayloadS.s0, ilt_len, Nat.lt_irrefl, decide_false, cond_false])]
  rfl
theorem eqNumberedPacket {k : Nat} (hk : FU ≤ k) {x : (TNumberedPacket : Ty).den} (h : Ok TNumberedPacket x) : laws_eqNumberedPacket.f k (x, x) = some true := by
  have e0 := eqByteS hk (x := x.2) h.2
  unfold laws_eqNumberedPacket.f
  simp only [e0, ob_some, cond_true, cond_false, dnot_t, dnot_f, ine_self, bne_self, seq_self, ilt_nn]
theorem eqNumberedPacketS {k : Nat} (hk : FU ≤ k) {x : ((.sl TNumberedPacket) : Ty).den} (h : Ok (.sl TNumberedPacket) x) : laws_eqNumberedPacketS.f k (x, x) = some true := by
  have hl := ok_len h
  unfold laws_eqNumberedPacketS.f
  simp only [ine_self, cond_false]
  rw [eq_loop hk (e := TNumberedPacket) (s := (laws_eqNumberedPacketS.s0 k)) (ok_len h) (fun i hi => by
    simp only [laws_eqNumberedPacketS.s0, ilt_len, idx_len, decide_eq_true hi, lget_nat _ hi, iadd_nat (show i < 9223372036854775807 by omega), eqNumberedPacket hk (ok_get h hi), ob_some, cond_true, cond_false, dnot_t, dnot_f, ine_self, bne_self, seq_self, ilt_nn]) (by
    simp only [laws_eqNumberedPacketS.s0, ilt_len, Nat.lt_irrefl, decide_false, cond_false])]
  rfl
theorem eqReceiveWindow {k : Nat} (hk : FU ≤ k) {x : (TReceiveWindow : Ty).den} (h : Ok TReceiveWindow x) : laws_eqReceiveWindow.f k (x, x) = some true := by
  have e0 := eqNumberedPacketS hk (x := x.2.1) h.2.1
  have e1 := eqPayloadS hk (x := x.2.2) h.2.2
  unfold laws_eqReceiveWindow.f
  simp only [e0, e1, ob_some, cond_true, cond_false, dnot_t, dnot_f, ine_self, bne_self, seq_self, ilt_nn]
theorem eqDevice {k : Nat} (hk : FU ≤ k) {x : (TDevice : Ty).den} (h : Ok TDevice x) : laws_eqDevice.f k (x, x) = some true := by
  have e0 := eqUSIM hk (x := x.1) h.1
  have e1 := eqReceiveWindow hk (x := x.2.2.2.2.2.2.2.2) h.2.2.2.2.2.2.2.2
  unfold laws_eqDevice.f
  simp only [e0, e1, ob_some, cond_true, cond_false, dnot_t, dnot_f, ine_self, bne_self, seq_self, ilt_nn]
theorem eqIntS {k : Nat} (hk : FU ≤ k) {x : ((.sl (.int .i64)) : Ty).den} (h : Ok (.sl (.int .i64)) x) : laws_eqIntS.f k (x, x) = some true := by
  have hl := ok_len h
  unfold laws_eqIntS.f
  simp only [ine_self, cond_false]
  rw [eq_loop hk (e := (.int .i64)) (s := laws_eqIntS.s0) (ok_len h) (fun i hi => by
    simp only [laws_eqIntS.s0, ilt_len, idx_len, decide_eq_true hi, lget_nat _ hi, iadd_nat (show i < 9223372036854775807 by omega), ob_some, cond_true, cond_false, dnot_t, dnot_f, ine_self, bne_self, seq_self, ilt_nn]) (by
    simp only [laws_eqIntS.s0, ilt_len, Nat.lt_irrefl, decide_false, cond_false])]
  rfl
theorem eqPagingState {k : Nat} (hk : FU ≤ k) {x : (TQuota : Ty).den} (h : Ok TQuota x) : laws_eqPagingState.f k (x, x) = some true := by
  unfold laws_eqPagingState.f
  simp only [ob_some, cond_true, cond_false, dnot_t, dnot_f, ine_self, bne_self, seq_self, ilt_nn]
theorem eqQuota {k : Nat} (hk : FU ≤ k) {x : (TQuota : Ty).den} (h : Ok TQuota x) : laws_eqQuota.f k (x, x) = some true := by
  unfold laws_eqQuota.f
  simp only [ob_some, cond_true, cond_false, dnot_t, dnot_f, ine_self, bne_self, seq_self, ilt_nn]
theorem eqSendWindow {k : Nat} (hk : FU ≤ k) {x : (TSendWindow : Ty).den} (h : Ok TSendWindow x) : laws_eqSendWindow.f k (x, x) = some true := by
  have e0 := eqNumberedPacketS hk (x := x.2) h.2
  unfold laws_eqSendWindow.f
  simp only [e0, ob_some, cond_true, cond_false, dnot_t, dnot_f, ine_self, bne_self, seq_self, ilt_nn]
theorem eqSubscription {k : Nat} (hk : FU ≤ k) {x : (TSubscription : Ty).den} (h : Ok TSubscription x) : laws_eqSubscription.f k (x, x) = some true := by
  have e0 := eqIntS hk (x := x.2.2.2) h.2.2.2
  unfold laws_eqSubscription.f
  simp only [e0, ob_some, cond_true, cond_false, dnot_t, dnot_f, ine_self, bne_self, seq_self, ilt_nn]
theorem eqSubscriberRecord {k : Nat} (hk : FU ≤ k) {x : (TUSIM : Ty).den} (h : Ok TUSIM x) : laws_eqSubscriberRecord.f k (x, x) = some true := by
  have e0 := eqSubscriberID hk (x := x.1) h.1
  unfold laws_eqSubscriberRecord.f
  simp only [e0, ob_some, cond_true, cond_false, dnot_t, dnot_f, ine_self, bne_self, seq_self, ilt_nn]
theorem eqSession {k : Nat} (hk : FU ≤ k) {x : (TSession : Ty).den} (h : Ok TSession x) : laws_eqSession.f k (x, x) = some true := by
  have e0 := eqSubscriberRecord hk (x := x.1) h.1
  have e1 := eqSubscription hk (x := x.2.1) h.2.1
  have e2 := eqAuthVector hk (x := x.2.2.2.1) h.2.2.2.1
  have e3 := eqPagingState hk (x := x.2.2.2.2.2.2.2.2.2.2.1) h.2.2.2.2.2.2.2.2.2.2.1
  have e4 := eqPayloadS hk (x := x.2.2.2.2.2.2.2.2.2.2.2.1) h.2.2.2.2.2.2.2.2.2.2.2.1
  have e5 := eqSendWindow hk (x := x.2.2.2.2.2.2.2.2.2.2.2.2.1) h.2.2.2.2.2.2.2.2.2.2.2.2.1
  have e6 := eqQuota hk (x := x.2.2.2.2.2.2.2.2.2.2.2.2.2.2) h.2.2.2.2.2.2.2.2.2.2.2.2.2.2
  unfold laws_eqSession.f
  simp only [e0, e1, e2, e3, e4, e5, e6, ob_some, cond_true, cond_false, dnot_t, dnot_f, ine_self, bne_self, seq_self, ilt_nn]
theorem szByteS {k : Nat} (hk : FU ≤ k) {x : ((.sl (.int .u8)) : Ty).den} (h : Good' (.sl (.int .u8)) x) {L : Int} (h0 : 0 ≤ L) (h1 : L ≤ 4294967296) : laws_szByteS.f k (x, L) = some (if (cnt (.sl (.int .u8)) x : Int) ≤ L then L - cnt (.sl (.int .u8)) x else -1) := by
  have hl := good_len h
  have hs : isub .i64 L (llen x) = L - (x.length : Int) := isub_eq (by show _ ≤ L - (x.length : Int); omega) (by show L - (x.length : Int) ≤ _; omega)
  have hc : cnt (.sl (.int .u8)) x = x.length := by
    show x.length + (x.map fun _ => 0).sum = _
    rw [sum_zero]; rfl
  unfold laws_szByteS.f
  simp only [hs, hc]
  by_cases hd : (x.length : Int) ≤ L
  · rw [ilt_f (by omega), cond_false, if_pos hd]
  · rw [ilt_t (by omega), cond_true, if_neg hd]
theorem szPayload {k : Nat} (hk : FU ≤ k) {x : ((.sl (.int .u8)) : Ty).den} (h : Good' (.sl (.int .u8)) x) {L : Int} (h0 : 0 ≤ L) (h1 : L ≤ 4294967296) : laws_szPayload.f k (x, L) = some (if (cnt (.sl (.int .u8)) x : Int) ≤ L then L - cnt (.sl (.int .u8)) x else -1) := by
  have hc : cnt (.sl (.int .u8)) x = cnt (.sl (.int .u8)) x := by simp only [cnt]; try omega
  rw [hc]
  unfold laws_szPayload.f
  have e0 := szByteS hk (x := x) h (L := L) h0 h1
  (try simp only [])
  rw [e0]
  exact sz_end h0
theorem szPayloadS {k : Nat} (hk : FU ≤ k) {x : ((.sl (.sl (.int .u8))) : Ty).den} (h : Good' (.sl (.sl (.int .u8))) x) {L : Int} (h0 : 0 ≤ L) (h1 : L ≤ 4294967296) : laws_szPayloadS.f k (x, L) = some (if (cnt (.sl (.sl (.int .u8))) x : Int) ≤ L then L - cnt (.sl (.sl (.int .u8))) x else -1) := by
  have hl := good_len h
  have hs : isub .i64 L (llen x) = L - (x.length : Int) := isub_eq (by show _ ≤ L - (x.length : Int); omega) (by show L - (x.length : Int) ≤ _; omega)
  have hcn : cnt (.sl (.sl (.int .u8))) x = x.length + (x.map (cnt (.sl (.int .u8)))).sum := rfl
  rw [hcn]
  unfold laws_szPayloadS.f
  simp only [hs]
  by_cases hc : (x.length : Int) ≤ L
  · rw [ilt_f (by omega), cond_false, sz_loop hk (e := (.sl (.int .u8))) (cnt (.sl (.int .u8))) (s := (laws_szPayloadS.s0 k)) hl (fun i hi L h0 h1 => by
      have e1 := szPayload hk (good_get h hi) h0 h1
      simp only [laws_szPayloadS.s0, ilt_len, idx_len, decide_eq_true hi, lget_nat _ hi, iadd_nat (show i < 9223372036854775807 by omega), e1, ob_some, cond_true]
      by_cases hd : (cnt (.sl (.int .u8)) x[i] : Int) ≤ L
      · rw [if_pos hd, if_pos hd, ilt_f (by omega), cond_false]
      · rw [if_neg hd, if_neg hd, ilt_t (by omega), cond_true]) (fun L => by
      simp only [laws_szPayloadS.s0, ilt_len, Nat.lt_irrefl, decide_false, cond_false]) (by omega) (by omega), ob_some]
    by_cases hd : ((x.map (cnt (.sl (.int .u8)))).sum : Int) ≤ L - x.length
    · rw [if_pos hd, sel_l, if_pos (by omega)]; congr 1; omega
    · rw [if_neg hd, sel_r, if_neg (by omega)]
  · rw [ilt_t (by omega), cond_true, if_neg (by omega)]
theorem szNumberedPacket {k : Nat} (hk : FU ≤ k) {x : (TNumberedPacket : Ty).den} (h : Good' TNumberedPacket x) {L : Int} (h0 : 0 ≤ L) (h1 : L ≤ 4294967296) : laws_szNumberedPacket.f k (x, L) = some (if (cnt TNumberedPacket x : Int) ≤ L then L - cnt TNumberedPacket x else -1) := by
  have hc : cnt TNumberedPacket x = cnt (.sl (.int .u8)) x.2 := by simp only [cnt]; try omega
  rw [hc]
  unfold laws_szNumberedPacket.f
  have e0 := szByteS hk (x := x.2) h.2 (L := L) h0 h1
  (try simp only [])
  rw [e0]
  exact sz_end h0
theorem szNumberedPacketS {k : Nat} (hk : FU ≤ k) {x : ((.sl TNumberedPacket) : Ty).den} (h : Good' (.sl TNumberedPacket) x) {L : Int} (h0 : 0 ≤ L) (h1 : L ≤ 4294967296) : laws_szNumberedPacketS.f k (x, L) = some (if (cnt (.sl TNumberedPacket) x : Int) ≤ L then L - cnt (.sl TNumberedPacket) x else -1) := by
  have hl := good_len h
  have hs : isub .i64 L (llen x) = L - (x.length : Int) := isub_eq (by show _ ≤ L - (x.length : Int); omega) (by show L - (x.length : Int) ≤ _; omega)
  have hcn : cnt (.sl TNumberedPacket) x = x.length + (x.map (cnt TNumberedPacket)).sum := rfl
  rw [hcn]
  unfold laws_szNumberedPacketS.f
  simp only [hs]
  by_cases hc : (x.length : Int) ≤ L
  · rw [ilt_f (by omega), cond_false, sz_loop hk (e := TNumberedPacket) (cnt TNumberedPacket) (s := (laws_szNumberedPacketS.s0 k)) hl (fun i hi L h0 h1 => by
      have e1 := szNumberedPacket hk (good_get h hi) h0 h1
      simp only [laws_szNumberedPacketS.s0, ilt_len, idx_len, decide_eq_true hi, lget_nat _ hi, iadd_nat (show i < 9223372036854775807 by omega), e1, ob_some, cond_true]
      by_cases hd : (cnt TNumberedPacket x[i] : Int) ≤ L
      · rw [if_pos hd, if_pos hd, ilt_f (by omega), cond_false]
      · rw [if_neg hd, if_neg hd, ilt_t (by omega), cond_true]) (fun L => by
      simp only [laws_szNumberedPacketS.s0, ilt_len, Nat.lt_irrefl, decide_false, cond_false]) (by omega) (by omega), ob_some]
    by_cases hd : ((x.map (cnt TNumberedPacket)).sum : Int) ≤ L - x.length
    · rw [if_pos hd, sel_l, if_pos (by omega)]; congr 1; omega
    · rw [if_neg hd, sel_r, if_neg (by omega)]
  · rw [ilt_t (by omega), cond_true, if_neg (by omega)]
theorem szReceiveWindow {k : Nat} (hk : FU ≤ k) {x : (TReceiveWindow : Ty).den} (h : Good' TReceiveWindow x) {L : Int} (h0 : 0 ≤ L) (h1 : L ≤ 4294967296) : laws_szReceiveWindow.f k (x, L) = some (if (cnt TReceiveWindow x : Int) ≤ L then L - cnt TReceiveWindow x else -1) := by
  have hc : cnt TReceiveWindow x = cnt (.sl TNumberedPacket) x.2.1 + (cnt (.sl (.sl (.int .u8))) x.2.2) := by simp only [cnt]; try omega
  rw [hc]
  unfold laws_szReceiveWindow.f
  have e0 := szNumberedPacketS hk (x := x.2.1) h.2.1 (L := L) h0 h1
  (try simp only [])
  rw [e0]
  refine sz_seq h0 fun M1 h01 h11 => ?_
  have hM1 : M1 ≤ 4294967296 := Int.le_trans h11 h1
  have e1 := szPayloadS hk (x := x.2.2) h.2.2 (L := M1) h01 hM1
  rw [e1]
  exact sz_end h01
theorem szDevice {k : Nat} (hk : FU ≤ k) {x : (TDevice : Ty).den} (h : Good' TDevice x) {L : Int} (h0 : 0 ≤ L) (h1 : L ≤ 4294967296) : laws_szDevice.f k (x, L) = some (if (cnt TDevice x : Int) ≤ L then L - cnt TDevice x else -1) := by
  have hc : cnt TDevice x = cnt TReceiveWindow x.2.2.2.2.2.2.2.2 := by simp only [cnt]; try omega
  rw [hc]
  unfold laws_szDevice.f
  have e0 := szReceiveWindow hk (x := x.2.2.2.2.2.2.2.2) h.2.2.2.2.2.2.2.2 (L := L) h0 h1
  (try simp only [])
  rw [e0]
  exact sz_end h0
theorem szIntS {k : Nat} (hk : FU ≤ k) {x : ((.sl (.int .i64)) : Ty).den} (h : Good' (.sl (.int .i64)) x) {L : Int} (h0 : 0 ≤ L) (h1 : L ≤ 4294967296) : laws_szIntS.f k (x, L) = some (if (cnt (.sl (.int .i64)) x : Int) ≤ L then L - cnt (.sl (.int .i64)) x else -1) := by
  have hl := good_len h
  have hs : isub .i64 L (llen x) = L - (x.length : Int) := isub_eq (by show _ ≤ L - (x.length : Int); omega) (by show L - (x.length : Int) ≤ _; omega)
  have hc : cnt (.sl (.int .i64)) x = x.length := by
    show x.length + (x.map fun _ => 0).sum = _
    rw [sum_zero]; rfl
  unfold laws_szIntS.f
  simp only [hs, hc]
  by_cases hd : (x.length : Int) ≤ L
  · rw [ilt_f (by omega), cond_false, if_pos hd]
  · rw [ilt_t (by omega), cond_true, if_neg hd]
theorem szSendWindow {k : Nat} (hk : FU ≤ k) {x : (TSendWindow : Ty).den} (h : Good' TSendWindow x) {L : Int} (h0 : 0 ≤ L) (h1 : L ≤ 4294967296) : laws_szSendWindow.f k (x, L) = some (if (cnt TSendWindow x : Int) ≤ L then L - cnt TSendWindow x else -1) := by
  have hc : cnt TSendWindow x = cnt (.sl TNumberedPacket) x.2 := by simp only [cnt]; try omega
  rw [hc]
  unfold laws_szSendWindow.f
  have e0 := szNumberedPacketS hk (x := x.2) h.2 (L := L) h0 h1
  (try simp only [])
  rw [e0]
  exact sz_end h0
theorem szSubscription {k : Nat} (hk : FU ≤ k) {x : (TSubscription : Ty).den} (h : Good' TSubscription x) {L : Int} (h0 : 0 ≤ L) (h1 : L ≤ 4294967296) : laws_szSubscription.f k (x, L) = some (if (cnt TSubscription x : Int) ≤ L then L - cnt TSubscription x else -1) := by
  have hc : cnt TSubscription x = cnt (.sl (.int .i64)) x.2.2.2 := by simp only [cnt]; try omega
  rw [hc]
  unfold laws_szSubscription.f
  have e0 := szIntS hk (x := x.2.2.2) h.2.2.2 (L := L) h0 h1
  (try simp only [])
  rw [e0]
  exact sz_end h0
theorem szSession {k : Nat} (hk : FU ≤ k) {x : (TSession : Ty).den} (h : Good' TSession x) {L : Int} (h0 : 0 ≤ L) (h1 : L ≤ 4294967296) : laws_szSession.f k (x, L) = some (if (cnt TSession x : Int) ≤ L then L - cnt TSession x else -1) := by
  have hc : cnt TSession x = cnt TSubscription x.2.1 + (cnt (.sl (.sl (.int .u8))) x.2.2.2.2.2.2.2.2.2.2.2.1 + (cnt TSendWindow x.2.2.2.2.2.2.2.2.2.2.2.2.1)) := by simp only [cnt]; try omega
  rw [hc]
  unfold laws_szSession.f
  have e0 := szSubscription hk (x := x.2.1) h.2.1 (L := L) h0 h1
  (try simp only [])
  rw [e0]
  refine sz_seq h0 fun M1 h01 h11 => ?_
  have hM1 : M1 ≤ 4294967296 := Int.le_trans h11 h1
  have e1 := szPayloadS hk (x := x.2.2.2.2.2.2.2.2.2.2.2.1) h.2.2.2.2.2.2.2.2.2.2.2.1 (L := M1) h01 hM1
  rw [e1]
  refine sz_seq h01 fun M2 h02 h12 => ?_
  have hM2 : M2 ≤ 4294967296 := Int.le_trans h12 hM1
  have e2 := szSendWindow hk (x := x.2.2.2.2.2.2.2.2.2.2.2.2.1) h.2.2.2.2.2.2.2.2.2.2.2.2.1 (L := M2) h02 hM2
  rw [e2]
  exact sz_end h02
theorem markByteS {k : Nat} (hk : FU ≤ k) {x : List ((.int .u8) : Ty).den} (h : Ok (.sl (.int .u8)) x) {n : Nat} (hn : n + cTop (.sl (.int .u8)) x ≤ 4611686018427387904) : laws_markByteS.f k (x, (n : Int)) = some (((mkL (mkE (.int .u8)) x n).2 : Int), (mkL (mkE (.int .u8)) x n).1) := by
  have hl := ok_len h
  unfold laws_markByteS.f
  rw [mark_loop hk (mkE (.int .u8)) (cE (.int .u8)) (s := laws_markByteS.s0) hl (fun x _ n => by rw [mkE_n]; omega) (fun ys i n hi hm hl' hb => by
    have hb' : n + 1 ≤ 4611686018427387904 := hb
    have a0 : iadd .i64 ((n : Nat) : Int) 1 = ((n + 1 : Nat) : Int) := iadd_nat (by omega)
    simp only [laws_markByteS.s0, ilt_len, idx_len, decide_eq_true hi, cond_true, llen_lset, lget_nat _ hi, lget_lset _ hi, lset_lset, ob_some, iadd_nat (show i < 9223372036854775807 by omega), a0]
    simp only [lset_nat]
    try rfl) (fun ys n => by
    simp only [laws_markByteS.s0, ilt_len, Nat.lt_irrefl, decide_false, cond_false]) hn, ob_some]
theorem heldByteS {k : Nat} (hk : FU ≤ k) {x : List ((.int .u8) : Ty).den} (h : Ok (.sl (.int .u8)) x) {n : Nat} (hn : n + cTop (.sl (.int .u8)) x ≤ 4611686018427387904) : laws_heldByteS.f k ((mkL (mkE (.int .u8)) x n).1, (n : Int)) = some ((mkL (mkE (.int .u8)) x n).2 : Int) := by
  have hl := ok_len h
  unfold laws_heldByteS.f
  rw [held_loop hk (mkE (.int .u8)) (cE (.int .u8)) (s := laws_heldByteS.s0) hl (fun x _ n => by rw [mkE_n]; omega) (fun ys z i n hi hm hl' hy hb => by
    have hb' : n + 1 ≤ 4611686018427387904 := hb
    have a0 : iadd .i64 ((n : Nat) : Int) 1 = ((n + 1 : Nat) : Int) := iadd_nat (by omega)
    have y0 : ys[i] = icast .u8 ((n : Nat) : Int) := by rw [hy]; rfl
    simp only [laws_heldByteS.s0, ilt_len, idx_len, decide_eq_true hi, cond_true, lget_nat _ hi]
    simp only [ine_self, bne_self, cond_false, cond_true, ob_some, ilt_nn, iadd_nat (show i < 9223372036854775807 by omega), a0, y0]
    try rfl) (fun ys n => by
    simp only [laws_heldByteS.s0, ilt_len, Nat.lt_irrefl, decide_false, cond_false]) hn, ob_some]
  rfl
theorem markPayloadS {k : Nat} (hk : FU ≤ k) {x : List ((.sl (.int .u8)) : Ty).den} (h : Ok (.sl (.sl (.int .u8))) x) {n : Nat} (hn : n + cTop (.sl (.sl (.int .u8))) x ≤ 4611686018427387904) : laws_markPayloadS.f k (x, (n : Int)) = some (((mkL (mkE (.sl (.int .u8))) x n).2 : Int), (mkL (mkE (.sl (.int .u8))) x n).1) := by
  have hl := ok_len h
  unfold laws_markPayloadS.f
  rw [mark_loop hk (mkE (.sl (.int .u8))) (cE (.sl (.int .u8))) (s := (laws_markPayloadS.s0 k)) hl (fun x _ n => by rw [mkE_n]; omega) (fun ys i n hi hm hl' hb => by
    have hb' : n + (List.map (cE (.int .u8)) ys[i]).sum ≤ 4611686018427387904 := hb
    have a0 := markByteS hk (x := ys[i]) (h.2 _ hm) (n := n) (by show n + (List.map (cE (.int .u8)) ys[i]).sum ≤ _; omega)
    have q0 := mkLE_n (.int .u8) ys[i] n
    simp only [laws_markPayloadS.s0, ilt_len, idx_len, decide_eq_true hi, cond_true, llen_lset, lget_nat _ hi, lget_lset _ hi, lset_lset, ob_some, iadd_nat (show i < 9223372036854775807 by omega), a0]
    simp only [lset_nat]
    try rfl) (fun ys n => by
    simp only [laws_markPayloadS.s0, ilt_len, Nat.lt_irrefl, decide_false, cond_false]) hn, ob_some]
theorem heldPayloadS {k : Nat} (hk : FU ≤ k) {x : List ((.sl (.int .u8)) : Ty).den} (h : Ok (.sl (.sl (.int .u8))) x) {n : Nat} (hn : n + cTop (.sl (.sl (.int .u8))) x ≤ 4611686018427387904) : laws_heldPayloadS.f k ((mkL (mkE (.sl (.int .u8))) x n).1, (n : Int)) = some ((mkL (mkE (.sl (.int .u8))) x n).2 : Int) := by
  have hl := ok_len h
  unfold laws_heldPayloadS.f
  rw [held_loop hk (mkE (.sl (.int .u8))) (cE (.sl (.int .u8))) (s := (laws_heldPayloadS.s0 k)) hl (fun x _ n => by rw [mkE_n]; omega) (fun ys z i n hi hm hl' hy hb => by
    have hb' : n + (List.map (cE (.int .u8)) z).sum ≤ 4611686018427387904 := hb
    have a0 := heldByteS hk (x := z) (h.2 _ hm) (n := n) (by show n + (List.map (cE (.int .u8)) z).sum ≤ _; omega)
    have q0 := mkLE_n (.int .u8) z n
    have y0 : ys[i] = (mkL (mkE (.int .u8)) z n).1 := by rw [hy]; rfl
    simp only [laws_heldPayloadS.s0, ilt_len, idx_len, decide_eq_true hi, cond_true, lget_nat _ hi]
    simp only [ine_self, bne_self, cond_false, cond_true, ob_some, ilt_nn, iadd_nat (show i < 9223372036854775807 by omega), a0, y0]
    try rfl) (fun ys n => by
    simp only [laws_heldPayloadS.s0, ilt_len, Nat.lt_irrefl, decide_false, cond_false]) hn, ob_some]
  rfl
theorem markNumberedPacketS {k : Nat} (hk : FU ≤ k) {x : List (TNumberedPacket : Ty).den} (h : Ok (.sl TNumberedPacket) x) {n : Nat} (hn : n + cTop (.sl TNumberedPacket) x ≤ 4611686018427387904) : laws_markNumberedPacketS.f k (x, (n : Int)) = some (((mkL (mkE TNumberedPacket) x n).2 : Int), (mkL (mkE TNumberedPacket) x n).1) := by
  have hl := ok_len h
  unfold laws_markNumberedPacketS.f
  rw [mark_loop hk (mkE TNumberedPacket) (cE TNumberedPacket) (s := (laws_markNumberedPacketS.s0 k)) hl (fun x _ n => by rw [mkE_n]; omega) (fun ys i n hi hm hl' hb => by
    have hb' : n + (1 + (List.map (cE (.int .u8)) ys[i].2).sum) ≤ 4611686018427387904 := hb
    have a0 : iadd .i64 ((n : Nat) : Int) 1 = ((n + 1 : Nat) : Int) := iadd_nat (by omega)
    have a1 := markByteS hk (x := ys[i].2) (h.2 _ hm).2 (n := (n + 1)) (by show (n + 1) + (List.map (cE (.int .u8)) ys[i].2).sum ≤ _; omega)
    have q1 := mkLE_n (.int .u8) ys[i].2 (n + 1)
    simp only [laws_markNumberedPacketS.s0, ilt_len, idx_len, decide_eq_true hi, cond_true, llen_lset, lget_nat _ hi, lget_lset _ hi, lset_lset, ob_some, iadd_nat (show i < 9223372036854775807 by omega), a0, a1]
    simp only [lset_nat]
    try rfl) (fun ys n => by
    simp only [laws_markNumberedPacketS.s0, ilt_len, Nat.lt_irrefl, decide_false, cond_false]) hn, ob_some]
theorem heldNumberedPacketS {k : Nat} (hk : FU ≤ k) {x : List (TNumberedPacket : Ty).den} (h : Ok (.sl TNumberedPacket) x) {n : Nat} (hn : n + cTop (.sl TNumberedPacket) x ≤ 4611686018427387904) : laws_heldNumberedPacketS.f k ((mkL (mkE TNumberedPacket) x n).1, (n : Int)) = some ((mkL (mkE TNumberedPacket) x n).2 : Int) := by
  have hl := ok_len h
  unfold laws_heldNumberedPacketS.f
  rw [held_loop hk (mkE TNumberedPacket) (cE TNumberedPacket) (s := (laws_heldNumberedPacketS.s0 k)) hl (fun x _ n => by rw [mkE_n]; omega) (fun ys z i n hi hm hl' hy hb => by
    have hb' : n + (1 + (List.map (cE (.int .u8)) z.2).sum) ≤ 4611686018427387904 := hb
    have a0 : iadd .i64 ((n : Nat) : Int) 1 = ((n + 1 : Nat) : Int) := iadd_nat (by omega)
    have y0 : ys[i].1 = ((n : Nat) : Int) := by rw [hy]; rfl
    have a1 := heldByteS hk (x := z.2) (h.2 _ hm).2 (n := (n + 1)) (by show (n + 1) + (List.map (cE (.int .u8)) z.2).sum ≤ _; omega)
    have q1 := mkLE_n (.int .u8) z.2 (n + 1)
    have y1 : ys[i].2 = (mkL (mkE (.int .u8)) z.2 (n + 1)).1 := by rw [hy]; rfl
    simp only [laws_heldNumberedPacketS.s0, ilt_len, idx_len, decide_eq_true hi, cond_true, lget_nat _ hi]
    simp only [ine_self, bne_self, cond_false, cond_true, ob_some, ilt_nn, iadd_nat (show i < 9223372036854775807 by omega), a0, y0, a1, y1]
    try rfl) (fun ys n => by
    simp only [laws_heldNumberedPacketS.s0, ilt_len, Nat.lt_irrefl, decide_false, cond_false]) hn, ob_some]
  rfl
theorem markReceiveWindow {k : Nat} (hk : FU ≤ k) {x : (TReceiveWindow : Ty).den} (h : Ok TReceiveWindow x) {n : Nat} (hn : n + cTop TReceiveWindow x ≤ 4611686018427387904) : laws_markReceiveWindow.f k (x, (n : Int)) = some (((mkTop TReceiveWindow x n).2 : Int), (mkTop TReceiveWindow x n).1) := by
  have hc : cTop TReceiveWindow x = cTop (.sl TNumberedPacket) x.2.1 + cTop (.sl (.sl (.int .u8))) x.2.2 := by simp only [cTop]; try omega
  have e0 : laws_markNumberedPacketS.f k (x.2.1, ((n : Nat) : Int)) = some (((mkTop (.sl TNumberedPacket) x.2.1 n).2 : Int), (mkTop (.sl TNumberedPacket) x.2.1 n).1) := markNumberedPacketS hk (x := x.2.1) h.2.1 (n := n) (by omega)
  have q0 := mkTop_n (.sl TNumberedPacket) x.2.1 n
  have e1 : laws_markPayloadS.f k (x.2.2, (((mkTop (.sl TNumberedPacket) x.2.1 n).2 : Nat) : Int)) = some (((mkTop (.sl (.sl (.int .u8))) x.2.2 (mkTop (.sl TNumberedPacket) x.2.1 n).2).2 : Int), (mkTop (.sl (.sl (.int .u8))) x.2.2 (mkTop (.sl TNumberedPacket) x.2.1 n).2).1) := markPayloadS hk (x := x.2.2) h.2.2 (n := (mkTop (.sl TNumberedPacket) x.2.1 n).2) (by omega)
  have q1 := mkTop_n (.sl (.sl (.int .u8))) x.2.2 (mkTop (.sl TNumberedPacket) x.2.1 n).2
  unfold laws_markReceiveWindow.f
  simp only [e0, e1, ob_some, ilt_nn, cond_false]
  rfl
theorem heldReceiveWindow {k : Nat} (hk : FU ≤ k) {x : (TReceiveWindow : Ty).den} (h : Ok TReceiveWindow x) {n : Nat} (hn : n + cTop TReceiveWindow x ≤ 4611686018427387904) : laws_heldReceiveWindow.f k ((mkTop TReceiveWindow x n).1, (n : Int)) = some ((mkTop TReceiveWindow x n).2 : Int) := by
  have hc : cTop TReceiveWindow x = cTop (.sl TNumberedPacket) x.2.1 + cTop (.sl (.sl (.int .u8))) x.2.2 := by simp only [cTop]; try omega
  have e0 : laws_heldNumberedPacketS.f k ((mkTop TReceiveWindow x n).1.2.1, ((n : Nat) : Int)) = some ((mkTop (.sl TNumberedPacket) x.2.1 n).2 : Int) := heldNumberedPacketS hk (x := x.2.1) h.2.1 (n := n) (by omega)
  have q0 := mkTop_n (.sl TNumberedPacket) x.2.1 n
  have e1 : laws_heldPayloadS.f k ((mkTop TReceiveWindow x n).1.2.2, (((mkTop (.sl TNumberedPacket) x.2.1 n).2 : Nat) : Int)) = some ((mkTop (.sl (.sl (.int .u8))) x.2.2 (mkTop (.sl TNumberedPacket) x.2.1 n).2).2 : Int) := heldPayloadS hk (x := x.2.2) h.2.2 (n := (mkTop (.sl TNumberedPacket) x.2.1 n).2) (by omega)
  have q1 := mkTop_n (.sl (.sl (.int .u8))) x.2.2 (mkTop (.sl TNumberedPacket) x.2.1 n).2
  unfold laws_heldReceiveWindow.f
  simp only [e0, e1, ob_some, ilt_nn, cond_false]
  rfl
theorem markDevice {k : Nat} (hk : FU ≤ k) {x : (TDevice : Ty).den} (h : Ok TDevice x) {n : Nat} (hn : n + cTop TDevice x ≤ 4611686018427387904) : laws_markDevice.f k (x, (n : Int)) = some (((mkTop TDevice x n).2 : Int), (mkTop TDevice x n).1) := by
  have hc : cTop TDevice x = cTop TReceiveWindow x.2.2.2.2.2.2.2.2 := by simp only [cTop]; try omega
  have e0 : laws_markReceiveWindow.f k (x.2.2.2.2.2.2.2.2, ((n : Nat) : Int)) = some (((mkTop TReceiveWindow x.2.2.2.2.2.2.2.2 n).2 : Int), (mkTop TReceiveWindow x.2.2.2.2.2.2.2.2 n).1) := markReceiveWindow hk (x := x.2.2.2.2.2.2.2.2) h.2.2.2.2.2.2.2.2 (n := n) (by omega)
  have q0 := mkTop_n TReceiveWindow x.2.2.2.2.2.2.2.2 n
  unfold laws_markDevice.f
  simp only [e0, ob_some, ilt_nn, cond_false]
  rfl
theorem heldDevice {k : Nat} (hk : FU ≤ k) {x : (TDevice : Ty).den} (h : Ok TDevice x) {n : Nat} (hn : n + cTop TDevice x ≤ 4611686018427387904) : laws_heldDevice.f k ((mkTop TDevice x n).1, (n : Int)) = some ((mkTop TDevice x n).2 : Int) := by
  have hc : cTop TDevice x = cTop TReceiveWindow x.2.2.2.2.2.2.2.2 := by simp only [cTop]; try omega
  have e0 : laws_heldReceiveWindow.f k ((mkTop TDevice x n).1.2.2.2.2.2.2.2.2, ((n : Nat) : Int)) = some ((mkTop TReceiveWindow x.2.2.2.2.2.2.2.2 n).2 : Int) := heldReceiveWindow hk (x := x.2.2.2.2.2.2.2.2) h.2.2.2.2.2.2.2.2 (n := n) (by omega)
  have q0 := mkTop_n TReceiveWindow x.2.2.2.2.2.2.2.2 n
  unfold laws_heldDevice.f
  simp only [e0, ob_some, ilt_nn, cond_false]
  rfl
theorem markIntS {k : Nat} (hk : FU ≤ k) {x : List ((.int .i64) : Ty).den} (h : Ok (.sl (.int .i64)) x) {n : Nat} (hn : n + cTop (.sl (.int .i64)) x ≤ 4611686018427387904) : laws_markIntS.f k (x, (n : Int)) = some (((mkL (mkE (.int .i64)) x n).2 : Int), (mkL (mkE (.int .i64)) x n).1) := by
  have hl := ok_len h
  unfold laws_markIntS.f
  rw [mark_loop hk (mkE (.int .i64)) (cE (.int .i64)) (s := laws_markIntS.s0) hl (fun x _ n => by rw [mkE_n]; omega) (fun ys i n hi hm hl' hb => by
    have hb' : n + 1 ≤ 4611686018427387904 := hb
    have a0 : iadd .i64 ((n : Nat) : Int) 1 = ((n + 1 : Nat) : Int) := iadd_nat (by omega)
    simp only [laws_markIntS.s0, ilt_len, idx_len, decide_eq_true hi, cond_true, llen_lset, lget_nat _ hi, lget_lset _ hi, lset_lset, ob_some, iadd_nat (show i < 9223372036854775807 by omega), a0]
    simp only [lset_nat]
    try rfl) (fun ys n => by
    simp only [laws_markIntS.s0, ilt_len, Nat.lt_irrefl, decide_false, cond_false]) hn, ob_some]
theorem heldIntS {k : Nat} (hk : FU ≤ k) {x : List ((.int .i64) : Ty).den} (h : Ok (.sl (.int .i64)) x) {n : Nat} (hn : n + cTop (.sl (.int .i64)) x ≤ 4611686018427387904) : laws_heldIntS.f k ((mkL (mkE (.int .i64)) x n).1, (n : Int)) = some ((mkL (mkE (.int .i64)) x n).2 : Int) := by
  have hl := ok_len h
  unfold laws_heldIntS.f
  rw [held_loop hk (mkE (.int .i64)) (cE (.int .i64)) (s := laws_heldIntS.s0) hl (fun x _ n => by rw [mkE_n]; omega) (fun ys z i n hi hm hl' hy hb => by
    have hb' : n + 1 ≤ 4611686018427387904 := hb
    have a0 : iadd .i64 ((n : Nat) : Int) 1 = ((n + 1 : Nat) : Int) := iadd_nat (by omega)
    have y0 : ys[i] = ((n : Nat) : Int) := by rw [hy]; rfl
    simp only [laws_heldIntS.s0, ilt_len, idx_len, decide_eq_true hi, cond_true, lget_nat _ hi]
    simp only [ine_self, bne_self, cond_false, cond_true, ob_some, ilt_nn, iadd_nat (show i < 9223372036854775807 by omega), a0, y0]
    try rfl) (fun ys n => by
    simp only [laws_heldIntS.s0, ilt_len, Nat.lt_irrefl, decide_false, cond_false]) hn, ob_some]
  rfl
theorem markSendWindow {k : Nat} (hk : FU ≤ k) {x : (TSendWindow : Ty).den} (h : Ok TSendWindow x) {n : Nat} (hn : n + cTop TSendWindow x ≤ 4611686018427387904) : laws_markSendWindow.f k (x, (n : Int)) = some (((mkTop TSendWindow x n).2 : Int), (mkTop TSendWindow x n).1) := by
  have hc : cTop TSendWindow x = cTop (.sl TNumberedPacket) x.2 := by simp only [cTop]; try omega
  have e0 : laws_markNumberedPacketS.f k (x.2, ((n : Nat) : Int)) = some (((mkTop (.sl TNumberedPacket) x.2 n).2 : Int), (mkTop (.sl TNumberedPacket) x.2 n).1) := markNumberedPacketS hk (x := x.2) h.2 (n := n) (by omega)
  have q0 := mkTop_n (.sl TNumberedPacket) x.2 n
  unfold laws_markSendWindow.f
  simp only [e0, ob_some, ilt_nn, cond_false]
  rfl
theorem heldSendWindow {k : Nat} (hk : FU ≤ k) {x : (TSendWindow : Ty).den} (h : Ok TSendWindow x) {n : Nat} (hn : n + cTop TSendWindow x ≤ 4611686018427387904) : laws_heldSendWindow.f k ((mkTop TSendWindow x n).1, (n : Int)) = some ((mkTop TSendWindow x n).2 : Int) := by
  have hc : cTop TSendWindow x = cTop (.sl TNumberedPacket) x.2 := by simp only [cTop]; try omega
  have e0 : laws_heldNumberedPacketS.f k ((mkTop TSendWindow x n).1.2, ((n : Nat) : Int)) = some ((mkTop (.sl TNumberedPacket) x.2 n).2 : Int) := heldNumberedPacketS hk (x := x.2) h.2 (n := n) (by omega)
  have q0 := mkTop_n (.sl TNumberedPacket) x.2 n
  unfold laws_heldSendWindow.f
  simp only [e0, ob_some, ilt_nn, cond_false]
  rfl
theorem markSubscription {k : Nat} (hk : FU ≤ k) {x : (TSubscription : Ty).den} (h : Ok TSubscription x) {n : Nat} (hn : n + cTop TSubscription x ≤ 4611686018427387904) : laws_markSubscription.f k (x, (n : Int)) = some (((mkTop TSubscription x n).2 : Int), (mkTop TSubscription x n).1) := by
  have hc : cTop TSubscription x = cTop (.sl (.int .i64)) x.2.2.2 := by simp only [cTop]; try omega
  have e0 : laws_markIntS.f k (x.2.2.2, ((n : Nat) : Int)) = some (((mkTop (.sl (.int .i64)) x.2.2.2 n).2 : Int), (mkTop (.sl (.int .i64)) x.2.2.2 n).1) := markIntS hk (x := x.2.2.2) h.2.2.2 (n := n) (by omega)
  have q0 := mkTop_n (.sl (.int .i64)) x.2.2.2 n
  unfold laws_markSubscription.f
  simp only [e0, ob_some, ilt_nn, cond_false]
  rfl
theorem heldSubscription {k : Nat} (hk : FU ≤ k) {x : (TSubscription : Ty).den} (h : Ok TSubscription x) {n : Nat} (hn : n + cTop TSubscription x ≤ 4611686018427387904) : laws_heldSubscription.f k ((mkTop TSubscription x n).1, (n : Int)) = some ((mkTop TSubscription x n).2 : Int) := by
  have hc : cTop TSubscription x = cTop (.sl (.int .i64)) x.2.2.2 := by simp only [cTop]; try omega
  have e0 : laws_heldIntS.f k ((mkTop TSubscription x n).1.2.2.2, ((n : Nat) : Int)) = some ((mkTop (.sl (.int .i64)) x.2.2.2 n).2 : Int) := heldIntS hk (x := x.2.2.2) h.2.2.2 (n := n) (by omega)
  have q0 := mkTop_n (.sl (.int .i64)) x.2.2.2 n
  unfold laws_heldSubscription.f
  simp only [e0, ob_some, ilt_nn, cond_false]
  rfl
theorem markSession {k : Nat} (hk : FU ≤ k) {x : (TSession : Ty).den} (h : Ok TSession x) {n : Nat} (hn : n + cTop TSession x ≤ 4611686018427387904) : laws_markSession.f k (x, (n : Int)) = some (((mkTop TSession x n).2 : Int), (mkTop TSession x n).1) := by
  have hc : cTop TSession x = cTop TSubscription x.2.1 + cTop (.sl (.sl (.int .u8))) x.2.2.2.2.2.2.2.2.2.2.2.1 + cTop TSendWindow x.2.2.2.2.2.2.2.2.2.2.2.2.1 := by simp only [cTop]; try omega
  have e0 : laws_markSubscription.f k (x.2.1, ((n : Nat) : Int)) = some (((mkTop TSubscription x.2.1 n).2 : Int), (mkTop TSubscription x.2.1 n).1) := markSubscription hk (x := x.2.1) h.2.1 (n := n) (by omega)
  have q0 := mkTop_n TSubscription x.2.1 n
  have e1 : laws_markPayloadS.f k (x.2.2.2.2.2.2.2.2.2.2.2.1, (((mkTop TSubscription x.2.1 n).2 : Nat) : Int)) = some (((mkTop (.sl (.sl (.int .u8))) x.2.2.2.2.2.2.2.2.2.2.2.1 (mkTop TSubscription x.2.1 n).2).2 : Int), (mkTop (.sl (.sl (.int .u8))) x.2.2.2.2.2.2.2.2.2.2.2.1 (mkTop TSubscription x.2.1 n).2).1) := markPayloadS hk (x := x.2.2.2.2.2.2.2.2.2.2.2.1) h.2.2.2.2.2.2.2.2.2.2.2.1 (n := (mkTop TSubscription x.2.1 n).2) (by omega)
  have q1 := mkTop_n (.sl (.sl (.int .u8))) x.2.2.2.2.2.2.2.2.2.2.2.1 (mkTop TSubscription x.2.1 n).2
  have e2 : laws_markSendWindow.f k (x.2.2.2.2.2.2.2.2.2.2.2.2.1, (((mkTop (.sl (.sl (.int .u8))) x.2.2.2.2.2.2.2.2.2.2.2.1 (mkTop TSubscription x.2.1 n).2).2 : Nat) : Int)) = some (((mkTop TSendWindow x.2.2.2.2.2.2.2.2.2.2.2.2.1 (mkTop (.sl (.sl (.int .u8))) x.2.2.2.2.2.2.2.2.2.2.2.1 (mkTop TSubscription x.2.1 n).2).2).2 : Int), (mkTop TSendWindow x.2.2.2.2.2.2.2.2.2.2.2.2.1 (mkTop (.sl (.sl (.int .u8))) x.2.2.2.2.2.2.2.2.2.2.2.1 (mkTop TSubscription x.2.1 n).2).2).1) := markSendWindow hk (x := x.2.2.2.2.2.2.2.2.2.2.2.2.1) h.2.2.2.2.2.2.2.2.2.2.2.2.1 (n := (mkTop (.sl (.sl (.int .u8))) x.2.2.2.2.2.2.2.2.2.2.2.1 (mkTop TSubscription x.2.1 n).2).2) (by omega)
  have q2 := mkTop_n TSendWindow x.2.2.2.2.2.2.2.2.2.2.2.2.1 (mkTop (.sl (.sl (.int .u8))) x.2.2.2.2.2.2.2.2.2.2.2.1 (mkTop TSubscription x.2.1 n).2).2
  unfold laws_markSession.f
  simp only [e0, e1, e2, ob_some, ilt_nn, cond_false]
  rfl
theorem heldSession {k : Nat} (hk : FU ≤ k) {x : (TSession : Ty).den} (h : Ok TSession x) {n : Nat} (hn : n + cTop TSession x ≤ 4611686018427387904) : laws_heldSession.f k ((mkTop TSession x n).1, (n : Int)) = some ((mkTop TSession x n).2 : Int) := by
  have hc : cTop TSession x = cTop TSubscription x.2.1 + cTop (.sl (.sl (.int .u8))) x.2.2.2.2.2.2.2.2.2.2.2.1 + cTop TSendWindow x.2.2.2.2.2.2.2.2.2.2.2.2.1 := by simp only [cTop]; try omega
  have e0 : laws_heldSubscription.f k ((mkTop TSession x n).1.2.1, ((n : Nat) : Int)) = some ((mkTop TSubscription x.2.1 n).2 : Int) := heldSubscription hk (x := x.2.1) h.2.1 (n := n) (by omega)
  have q0 := mkTop_n TSubscription x.2.1 n
  have e1 : laws_heldPayloadS.f k ((mkTop TSession x n).1.2.2.2.2.2.2.2.2.2.2.2.1, (((mkTop TSubscription x.2.1 n).2 : Nat) : Int)) = some ((mkTop (.sl (.sl (.int .u8))) x.2.2.2.2.2.2.2.2.2.2.2.1 (mkTop TSubscription x.2.1 n).2).2 : Int) := heldPayloadS hk (x := x.2.2.2.2.2.2.2.2.2.2.2.1) h.2.2.2.2.2.2.2.2.2.2.2.1 (n := (mkTop TSubscription x.2.1 n).2) (by omega)
  have q1 := mkTop_n (.sl (.sl (.int .u8))) x.2.2.2.2.2.2.2.2.2.2.2.1 (mkTop TSubscription x.2.1 n).2
  have e2 : laws_heldSendWindow.f k ((mkTop TSession x n).1.2.2.2.2.2.2.2.2.2.2.2.2.1, (((mkTop (.sl (.sl (.int .u8))) x.2.2.2.2.2.2.2.2.2.2.2.1 (mkTop TSubscription x.2.1 n).2).2 : Nat) : Int)) = some ((mkTop TSendWindow x.2.2.2.2.2.2.2.2.2.2.2.2.1 (mkTop (.sl (.sl (.int .u8))) x.2.2.2.2.2.2.2.2.2.2.2.1 (mkTop TSubscription x.2.1 n).2).2).2 : Int) := heldSendWindow hk (x := x.2.2.2.2.2.2.2.2.2.2.2.2.1) h.2.2.2.2.2.2.2.2.2.2.2.2.1 (n := (mkTop (.sl (.sl (.int .u8))) x.2.2.2.2.2.2.2.2.2.2.2.1 (mkTop TSubscription x.2.1 n).2).2) (by omega)
  have q2 := mkTop_n TSendWindow x.2.2.2.2.2.2.2.2.2.2.2.2.1 (mkTop (.sl (.sl (.int .u8))) x.2.2.2.2.2.2.2.2.2.2.2.1 (mkTop TSubscription x.2.1 n).2).2
  unfold laws_heldSession.f
  simp only [e0, e1, e2, ob_some, ilt_nn, cond_false]
  rfl
end Go.Proofs.XF
/- Plain laws: program and reference agree: copies, devices, sessions. -/
set_option linter.unusedVariables false
set_option linter.unusedSimpArgs false
set_option linter.unusedSectionVars false
set_option maxRecDepth 4000
namespace Go.Proofs.XF
open Go Go.Proofs.XTv

theorem app1 {α : Type} {l : List α} {v : α} {b : Nat} (h : l.length ≤ 4294967296) (hb : b ≤ 16384) : appOk l [v] b = true := by
  refine app_ok ?_
  have : (l.length + 1) * b ≤ 4294967297 * 16384 := Nat.mul_le_mul (by omega) hb
  show (l.length + 1) * b ≤ _
  omega
theorem app0 {α : Type} {l : List α} {b : Nat} (h : l.length ≤ 4294967296) (hb : b ≤ 16384) : appOk [] l b = true := by
  refine app_ok ?_
  have : l.length * b ≤ 4294967296 * 16384 := Nat.mul_le_mul h hb
  simp only [List.length_nil, Nat.zero_add]
  omega
theorem okn {n : Int} (h : -2147483648 ≤ n ∧ n ≤ 2147483647) : Ok (.int .i64) n := by
  show -9223372036854775808 ≤ n ∧ n ≤ 9223372036854775807
  omega
theorem takeL {α : Type} {l : List α} {i : Nat} (h : i < l.length) (hl : l.length ≤ 4294967296) : (l.take i).length ≤ 4294967296 := by simp; omega

section
variable {k : Nat} (hk : FU ≤ k)
/-! ### Copies -/
theorem i_copyBytes (hk : FU ≤ k) {x : List Int} (h : x.length ≤ 4294967296) : impl_copyBytes.f k x = some x := by
  unfold impl_copyBytes.f
  rw [make_len (by omega), cond_true, lcopy_all (e := .int .u8)]
theorem i_copyInts (hk : FU ≤ k) {x : List Int} (h : x.length ≤ 4294967296) : impl_copyInts.f k x = some x := by
  unfold impl_copyInts.f
  rw [make_len (by omega), cond_true, lcopy_all (e := .int .i64)]
theorem i_copySignals (hk : FU ≤ k) {x : List DSignal} (h : x.length ≤ 4294967296) : impl_copyItems_impl_Signal.f k x = some x := by
  unfold impl_copyItems_impl_Signal.f
  rw [make_len (by omega), cond_true, lcopy_all (e := TSignal)]
theorem i_copyPayloads (hk : FU ≤ k) {x : List (List Int)} (h : Ok (.sl (.sl (.int .u8))) x) : impl_copyPayloads.f k x = some x := by
  have hl := ok_len h
  unfold impl_copyPayloads.f
  rw [make_len (by omega), cond_true, copy_loop hk (e := .sl (.int .u8)) (s := impl_copyPayloads.s0 k) hl (fun i acc hi ha => by
    have hi' : i < acc.length := ha ▸ hi
    simp only [impl_copyPayloads.s0, ilt_nat, idx_len, decide_eq_true hi, decide_eq_true hi', cond_true, lget_nat (e := .sl (.int .u8)) _ hi, i_copyBytes hk (ok_len (ok_get h hi)), ob_some, lset_nat, iadd_nat (show i < 9223372036854775807 by omega)]) (fun acc => by
    simp only [impl_copyPayloads.s0, ilt_nat, Nat.lt_irrefl, decide_false, cond_false]), ob_some]
theorem i_copyNumbered (hk : FU ≤ k) {x : List DNumberedPacket} (h : Ok (.sl TNumberedPacket) x) : impl_copyNumbered.f k x = some x := by
  have hl := ok_len h
  unfold impl_copyNumbered.f
  rw [make_len (by omega), cond_true, copy_loop hk (e := TNumberedPacket) (s := impl_copyNumbered.s0 k) hl (fun i acc hi ha => by
    have hi' : i < acc.length := ha ▸ hi
    simp only [impl_copyNumbered.s0, ilt_nat, idx_len, decide_eq_true hi, decide_eq_true hi', cond_true, lget_nat (e := TNumberedPacket) _ hi, i_copyBytes hk (ok_len (ok_get h hi).2), ob_some, lset_nat, iadd_nat (show i < 9223372036854775807 by omega)]) (fun acc => by
    simp only [impl_copyNumbered.s0, ilt_nat, Nat.lt_irrefl, decide_false, cond_false]), ob_some]
theorem s_bodies (hk : FU ≤ k) {x : List (List Int)} (h : Ok (.sl (.sl (.int .u8))) x) : spec_l15Bodies.f k x = some x := by
  have hl := ok_len h
  unfold spec_l15Bodies.f
  rw [cat_loop hk (e := .sl (.int .u8)) (s := spec_l15Bodies.s0) hl (fun i hi => by
    simp only [spec_l15Bodies.s0, ilt_len, idx_len, decide_eq_true hi, cond_true, lget_nat (e := .sl (.int .u8)) _ hi, app0 (ok_len (ok_get h hi)) (show 1 ≤ 16384 by omega), app1 (takeL hi hl) (show 24 ≤ 16384 by omega), lcat_nil, lcat_eq, List.nil_append, iadd_nat (show i < 9223372036854775807 by omega)]) (by
    simp only [spec_l15Bodies.s0, ilt_len, Nat.lt_irrefl, decide_false, cond_false]), ob_some]
theorem s_sents (hk : FU ≤ k) {x : List DNumberedPacket} (h : Ok (.sl TNumberedPacket) x) : spec_l24Sents.f k x = some x := by
  have hl := ok_len h
  unfold spec_l24Sents.f
  rw [cat_loop hk (e := TNumberedPacket) (s := spec_l24Sents.s0) hl (fun i hi => by
    simp only [spec_l24Sents.s0, ilt_len, idx_len, decide_eq_true hi, cond_true, lget_nat (e := TNumberedPacket) _ hi, app0 (ok_len (ok_get h hi).2) (show 1 ≤ 16384 by omega), app1 (takeL hi hl) (show 32 ≤ 16384 by omega), lcat_nil, lcat_eq, List.nil_append, iadd_nat (show i < 9223372036854775807 by omega)]) (by
    simp only [spec_l24Sents.s0, ilt_len, Nat.lt_irrefl, decide_false, cond_false]), ob_some]
theorem s_body (hk : FU ≤ k) {x : List Int} (h : x.length ≤ 4294967296) : spec_l25Body.f k x = some x := by
  unfold spec_l25Body.f
  rw [app0 h (by omega), cond_true]; rfl
theorem s_plan (hk : FU ≤ k) {x : DSubscription} (h : Ok TSubscription x) : spec_l30Plan.f k x = some x := by
  unfold spec_l30Plan.f
  have h1 : x.2.2.2.length ≤ 4294967296 := ok_len h.2.2.2
  simp only [app0 h1 (show 8 ≤ 16384 by omega), cond_true, lcat_nil]
theorem i_copySubscription (hk : FU ≤ k) {x : DSubscription} (h : Ok TSubscription x) : impl_copySubscription.f k x = some x := by
  unfold impl_copySubscription.f
  simp only [i_copyInts hk (ok_len h.2.2.2), ob_some]
theorem i_copyReceiver (hk : FU ≤ k) {x : DReceiveWindow} (h : Ok TReceiveWindow x) : impl_copyReceiver.f k x = some x := by
  unfold impl_copyReceiver.f
  simp only [i_copyNumbered hk h.2.1, i_copyPayloads hk h.2.2, ob_some]
theorem s_recv (hk : FU ≤ k) {x : DReceiveWindow} (h : Ok TReceiveWindow x) : spec_l24Recv.f k x = some x := by
  unfold spec_l24Recv.f
  simp only [s_sents hk h.2.1, s_bodies hk h.2.2, ob_some]
theorem i_copySender (hk : FU ≤ k) {x : DSendWindow} (h : Ok TSendWindow x) : impl_copySender.f k x = some x := by
  unfold impl_copySender.f
  simp only [i_copyNumbered hk h.2, ob_some]
theorem s_sender (hk : FU ≤ k) {x : DSendWindow} (h : Ok TSendWindow x) : spec_l24Sender.f k x = some x := by
  unfold spec_l24Sender.f
  simp only [s_sents hk h.2, ob_some]
theorem i_copyDevice (hk : FU ≤ k) {x : DDevice} (h : Ok TDevice x) : impl_copyDevice.f k x = some x := by
  unfold impl_copyDevice.f
  simp only [i_copyReceiver hk h.2.2.2.2.2.2.2.2, ob_some]
theorem s_copyDevice (hk : FU ≤ k) {x : DDevice} (h : Ok TDevice x) : spec_l29Copy.f k x = some x := by
  unfold spec_l29Copy.f
  simp only [s_recv hk h.2.2.2.2.2.2.2.2, ob_some]
theorem i_copySession (hk : FU ≤ k) {x : DSession} (h : Ok TSession x) : impl_copySession.f k x = some x := by
  unfold impl_copySession.f
  simp only [i_copySubscription hk h.2.1, i_copyPayloads hk h.2.2.2.2.2.2.2.2.2.2.2.1, i_copySender hk h.2.2.2.2.2.2.2.2.2.2.2.2.1, ob_some]
theorem s_copySession (hk : FU ≤ k) {x : DSession} (h : Ok TSession x) : spec_l30Copy.f k x = some x := by
  unfold spec_l30Copy.f
  simp only [s_plan hk h.2.1, s_bodies hk h.2.2.2.2.2.2.2.2.2.2.2.1, s_sender hk h.2.2.2.2.2.2.2.2.2.2.2.2.1, ob_some]

/-! ### Devices -/
theorem both_NewDevice (hk : FU ≤ k) {x : (.pair TUSIM (.int .i64) : Ty).den} (h : Ok (.pair TUSIM (.int .i64)) x) (hn : cnt (.pair TUSIM (.int .i64)) x ≤ 1048576) :
    ∃ r, spec_NewDevice.f k x = some r ∧ impl_NewDevice.f k x = some r ∧ Ok TDevice r ∧ cnt TDevice r ≤ 67108864 := by
  refine ⟨_, rfl, rfl, ?_, ?_⟩
  · refine ⟨h.1, okn (n := 0) (by omega), h.2, okn (n := 0) (by omega), okn (n := 0) (by omega), okn (n := 0) (by omega), trivial, okn (n := 0) (by omega), okn (n := 1) (by omega), ⟨by show (0 : Nat) ≤ _; omega, fun x hx => by cases hx⟩, ⟨by show (0 : Nat) ≤ _; omega, fun x hx => by cases hx⟩⟩
  · simp [cnt]
theorem in_eq (x : DQuota) : impl_InRange.f k x = spec_l1In.f k x := rfl
theorem both_EnterIdle (hk : FU ≤ k) {x : DDevice} (h : Ok TDevice x) (hn : cnt TDevice x ≤ 1048576) :
    ∃ r, spec_EnterIdle.f k x = some r ∧ impl_EnterIdle.f k x = some r ∧ Ok TDevice r ∧ cnt TDevice r ≤ 67108864 := by
  have h3 : Ok TDevice (x.1, 3, x.2.2) := ⟨h.1, okn (n := 3) (by omega), h.2.2⟩
  cases hc : ieq x.2.1 2
  · refine ⟨x, ?_, ?_, h, by omega⟩
    · unfold spec_EnterIdle.f
      simp only [s_copyDevice hk h, ob_some, hc, cond_false]
    · unfold impl_EnterIdle.f
      simp only [i_copyDevice hk h, ob_some, hc, cond_false]
  · refine ⟨(x.1, 3, x.2.2), ?_, ?_, h3, ?_⟩
    · unfold spec_EnterIdle.f
      simp only [s_copyDevice hk h, ob_some, hc, cond_true]
    · unfold impl_EnterIdle.f
      simp only [i_copyDevice hk h3, ob_some, hc, cond_true]
    · have : cnt TDevice (x.1, 3, x.2.2) = cnt TDevice x := rfl
      omega
/-! ### Sessions -/
theorem both_NewSession (hk : FU ≤ k) {x : (.pair TUSIM (.pair TSubscription (.int .i64)) : Ty).den} (h : Ok (.pair TUSIM (.pair TSubscription (.int .i64))) x) (hn : cnt (.pair TUSIM (.pair TSubscription (.int .i64))) x ≤ 1048576) :
    ∃ r, spec_NewSession.f k x = some r ∧ impl_NewSession.f k x = some r ∧ Ok TSession r ∧ cnt TSession r ≤ 67108864 := by
  have z : Ok (.int .i64) (0 : Int) := okn (by omega)
  have nl : ∀ e : Ty, Ok (.sl e) ([] : List e.den) := fun e => ⟨by show (0 : Nat) ≤ _; omega, fun x hx => by cases hx⟩
  refine ⟨(x.1, x.2.1, 0, (0, 0, 0, 0, 0), 0, 0, 0, 0, 0, 0, (0, 0, 0), [], (1, []), 0, x.2.2, 0, 0), ?_, ?_, ⟨h.1, h.2.1, z, ⟨z, z, z, z, z⟩, z, z, z, z, z, z, ⟨z, z, z⟩, nl _, ⟨okn (n := 1) (by omega), nl _⟩, z, h.2.2, z, z⟩, ?_⟩
  · unfold spec_NewSession.f
    simp only [s_plan hk h.2.1, ob_some]
  · unfold impl_NewSession.f
    simp only [i_copySubscription hk h.2.1, ob_some]
  · have h1 : cnt TSession (x.1, x.2.1, 0, (0, 0, 0, 0, 0), 0, 0, 0, 0, 0, 0, (0, 0, 0), [], (1, []), 0, x.2.2, 0, 0) = cnt (.pair TUSIM (.pair TSubscription (.int .i64))) x := by simp [cnt]
    omega
theorem both_AcknowledgedPackets (hk : FU ≤ k) {x : DSession} (h : Ok TSession x) (hn : cnt TSession x ≤ 1048576) : ∃ r, spec_AcknowledgedPackets.f k x = some r ∧ impl_AcknowledgedPackets.f k x = some r := ⟨_, rfl, rfl⟩
/-- The bytes of numbered packets, one after the other. -/
def bytesFrom : List DNumberedPacket → Int → Int
  | [], n => n
  | p :: ps, n => bytesFrom ps (iadd .i64 n (llen p.2))
theorem bytesFrom_snoc (p : DNumberedPacket) : ∀ (l : List DNumberedPacket) (n : Int), bytesFrom (l ++ [p]) n = iadd .i64 (bytesFrom l n) (llen p.2)
  | [], n => rfl
  | q :: l, n => bytesFrom_snoc p l _
theorem i_numberedBytes (hk : FU ≤ k) {x : List DNumberedPacket} (hl : x.length ≤ 4294967296) : impl_numberedBytes.f k x = some (bytesFrom x 0) := by
  have := loop_up (step := impl_numberedBytes.s0) (e := bytesFrom x 0) x.length k (fun i => (bytesFrom (x.take i) 0, x, (x.length : Int), (i : Int))) (by unfold FU at hk; omega)
    (fun i hi => by simp only [impl_numberedBytes.s0, ilt_nat, idx_len, decide_eq_true hi, cond_true, lget_nat (e := TNumberedPacket) _ hi, iadd_nat (show i < 9223372036854775807 by omega)]; rw [← take_snoc x hi, bytesFrom_snoc])
    (by simp only [impl_numberedBytes.s0, ilt_nat, Nat.lt_irrefl, decide_false, cond_false, List.take_length])
  unfold impl_numberedBytes.f
  rw [llen_eq]
  rw [show loopN impl_numberedBytes.s0 k (0, x, (x.length : Int), 0) = some (bytesFrom x 0) by simpa [bytesFrom] using this, ob_some]
theorem s_bytes (hk : FU ≤ k) {x : List DNumberedPacket} (hl : x.length ≤ 4294967296) : spec_l30Bytes.f k x = some (bytesFrom x 0) := by
  have := loop_up (step := spec_l30Bytes.s0) (e := bytesFrom x 0) x.length k (fun i => (x, bytesFrom (x.take i) 0, (i : Int))) (by unfold FU at hk; omega)
    (fun i hi => by simp only [spec_l30Bytes.s0, ilt_len, idx_len, decide_eq_true hi, cond_true, lget_nat (e := TNumberedPacket) _ hi, iadd_nat (show i < 9223372036854775807 by omega)]; rw [← take_snoc x hi, bytesFrom_snoc])
    (by simp only [spec_l30Bytes.s0, ilt_len, Nat.lt_irrefl, decide_false, cond_false, List.take_length])
  unfold spec_l30Bytes.f
  rw [show loopN spec_l30Bytes.s0 k (x, 0, 0) = some (bytesFrom x 0) by simpa [bytesFrom] using this, ob_some]
theorem both_OutstandingBytes (hk : FU ≤ k) {x : DSession} (h : Ok TSession x) (hn : cnt TSession x ≤ 1048576) : ∃ r, spec_OutstandingBytes.f k x = some r ∧ impl_OutstandingBytes.f k x = some r := by
  have hl := ok_len h.2.2.2.2.2.2.2.2.2.2.2.2.1.2
  refine ⟨bytesFrom x.2.2.2.2.2.2.2.2.2.2.2.2.1.2 0, ?_, ?_⟩
  · unfold spec_OutstandingBytes.f; rw [s_bytes hk hl, ob_some]
  · unfold impl_OutstandingBytes.f; rw [i_numberedBytes hk hl, ob_some]
end
end Go.Proofs.XF
/- Plain laws: which receivers and devices are valid. -/
set_option linter.unusedVariables false
set_option linter.unusedSimpArgs false
set_option linter.unusedSectionVars false
set_option maxRecDepth 4000
namespace Go.Proofs.XF
open Go Go.Proofs.XTv

def fitB (l : List (List Int)) (j : Nat) : Bool := dnot (ilt 60 (llen (lget (.sl (.int .u8)) l (j : Int))))
def recvB (x : DReceiveWindow) (i : Nat) : Bool :=
  (bif ile (iadd .i64 x.1 1) (lget TNumberedPacket x.2.1 (i : Int)).1 then ile (lget TNumberedPacket x.2.1 (i : Int)).1 (isub .i64 (iadd .i64 x.1 8) 1) else false) &&
  dnot (ilt 60 (llen (lget TNumberedPacket x.2.1 (i : Int)).2)) &&
  dnot (ilt 0 (i : Int) && ile (lget TNumberedPacket x.2.1 (i : Int)).1 (lget TNumberedPacket x.2.1 (isub .i64 (i : Int) 1)).1)
def recvOk (x : DReceiveWindow) : Bool :=
  decide (ieq x.1 (iadd .i64 (llen x.2.2) 1) = true ∧ ile (llen x.2.2) 24 = true ∧ (∀ j, j < x.2.2.length → fitB x.2.2 j = true) ∧ ile (llen x.2.1) 8 = true ∧ ∀ i, i < x.2.1.length → recvB x i = true)
theorem idx_pred {α : Type} {l : List α} {i : Nat} (hi : i < l.length) (hl : l.length ≤ 4294967296) (h : ilt 0 (i : Int) = true) : idxOk (isub .i64 (i : Int) 1) (llen l) = true := by
  have h0 : (0 : Int) < (i : Int) := of_decide_eq_true h
  rw [isub_eq (by omega) (by omega)]
  exact decide_eq_true ⟨by omega, by show (i : Int) - 1 < (l.length : Int); omega⟩
theorem not_ilt_ile (x y : Int) : dnot (ilt x y) = ile y x := by
  by_cases h : x < y
  · rw [ilt_t h, ile_f (by omega)]; rfl
  · rw [ilt_f h, ile_t (by omega)]; rfl
theorem not_ine (x y : Int) : dnot (ine x y) = ieq x y := by
  unfold dnot ine ieq bne
  rw [Bool.not_not]
theorem ine_not (x y : Int) : ine x y = dnot (ieq x y) := rfl

section
variable {k : Nat} (hk : FU ≤ k)
theorem i_fitPayload (hk : FU ≤ k) {x : List (List Int)} (hl : x.length ≤ 4294967296) : impl_fitPayload.f k x = some (decide (∀ j, j < x.length → fitB x j = true)) := by
  have := all_loop (step := impl_fitPayload.s0) (fitB x) (fin := .inl ()) (bad := .inr false) (fun i => (x, (x.length : Int), (i : Int))) x.length
    (fun i hi => by
      simp only [impl_fitPayload.s0, ilt_nat, idx_len, decide_eq_true hi, cond_true, iadd_nat (show i < 9223372036854775807 by omega), fitB]
      cases ilt 60 (llen (lget (.sl (.int .u8)) x (i : Int))) <;> rfl)
    (by simp only [impl_fitPayload.s0, ilt_nat, Nat.lt_irrefl, decide_false, cond_false]) (N := k) (by unfold FU at hk; omega)
  unfold impl_fitPayload.f
  rw [llen_eq, show loopN impl_fitPayload.s0 k (x, (x.length : Int), 0) = _ from this, ob_some]
  by_cases h : ∀ j, j < x.length → fitB x j = true
  · rw [if_pos h, decide_eq_true h]; rfl
  · rw [if_neg h, decide_eq_false h]; rfl
theorem i_IsValidReceiver (hk : FU ≤ k) {x : DReceiveWindow} (h : Ok TReceiveWindow x) : impl_IsValidReceiver.f k x = some (recvOk x) := by
  have hl := ok_len h.2.1
  have hf := i_fitPayload hk (ok_len h.2.2)
  have hloop := all_loop (step := impl_IsValidReceiver.s0 k) (recvB x) (fin := .inl ()) (bad := .inr false) (fun i => ((x.2.1, (x.2.1.length : Int), (i : Int)), x)) x.2.1.length
    (fun i hi => by
      have hE := idx_pred hi hl
      simp only [impl_IsValidReceiver.s0, impl_InRange.f, ilt_nat, idx_len, decide_eq_true hi, cond_true, iadd_nat (show i < 9223372036854775807 by omega), recvB]
      have h0 : (0 : Int) = ((0 : Nat) : Int) := rfl
      generalize ilt 60 (llen (lget TNumberedPacket x.2.1 (i : Int)).2) = b
      generalize (bif ile (iadd .i64 x.1 1) (lget TNumberedPacket x.2.1 (i : Int)).1 then ile (lget TNumberedPacket x.2.1 (i : Int)).1 (isub .i64 (iadd .i64 x.1 8) 1) else false) = a
      generalize ile (lget TNumberedPacket x.2.1 (i : Int)).1 (lget TNumberedPacket x.2.1 (isub .i64 (i : Int) 1)).1 = d
      generalize idxOk (isub .i64 (i : Int) 1) (llen x.2.1) = e at hE ⊢
      generalize ilt 0 (i : Int) = c at hE ⊢
      cases b <;> cases a <;> cases c <;> cases d <;> cases e <;> simp_all [dnot, obind])
    (by simp only [impl_IsValidReceiver.s0, ilt_nat, Nat.lt_irrefl, decide_false, cond_false]) (N := k) (by unfold FU at hk; omega)
  unfold impl_IsValidReceiver.f
  rw [llen_eq x.2.1, show loopN (impl_IsValidReceiver.s0 k) k ((x.2.1, (x.2.1.length : Int), 0), x) = _ from hloop, hf]
  unfold recvOk
  rw [← llen_eq x.2.1]
  simp only [ine_not]
  have e24 := not_ilt_ile 24 (llen x.2.2)
  have e8 := not_ilt_ile 8 (llen x.2.1)
  by_cases h1 : ieq x.1 (iadd .i64 (llen x.2.2) 1) = true
  · by_cases h2 : ile (llen x.2.2) 24 = true
    · have h2' : ilt 24 (llen x.2.2) = false := by rw [h2] at e24; simpa [dnot] using e24
      by_cases h3 : ∀ j, j < x.2.2.length → fitB x.2.2 j = true
      · by_cases h4 : ile (llen x.2.1) 8 = true
        · have h4' : ilt 8 (llen x.2.1) = false := by rw [h4] at e8; simpa [dnot] using e8
          by_cases h5 : ∀ i, i < x.2.1.length → recvB x i = true
          · rw [if_pos h5, decide_eq_true h3, decide_eq_true ⟨h1, h2, h3, h4, h5⟩, h1, h2', h4']; rfl
          · rw [if_neg h5, decide_eq_true h3, decide_eq_false (fun hh => h5 hh.2.2.2.2), h1, h2', h4']; rfl
        · have h4' : ilt 8 (llen x.2.1) = true := by
            have : ile (llen x.2.1) 8 = false := by simpa using h4
            rw [this] at e8; simpa [dnot] using e8
          rw [decide_eq_true h3, decide_eq_false (fun hh => h4 hh.2.2.2.1), h1, h2', h4']; rfl
      · rw [decide_eq_false h3, decide_eq_false (fun hh => h3 hh.2.2.1), h1, h2']; rfl
    · have h2' : ilt 24 (llen x.2.2) = true := by
        have : ile (llen x.2.2) 24 = false := by simpa using h2
        rw [this] at e24; simpa [dnot] using e24
      rw [decide_eq_false (p := _ ∧ _) (fun hh => h2 hh.2.1), h1, h2']; rfl
  · have h1' : ieq x.1 (iadd .i64 (llen x.2.2) 1) = false := by simpa using h1
    rw [decide_eq_false (p := _ ∧ _) (fun hh => h1 hh.1), h1']; rfl
theorem s_IsValidReceiver (hk : FU ≤ k) {x : DReceiveWindow} (h : Ok TReceiveWindow x) : spec_IsValidReceiver.f k x = some (recvOk x) := by
  have hl := ok_len h.2.1
  have hl2 := ok_len h.2.2
  have hloop := all_loop (step := spec_IsValidReceiver.s0 k) (recvB x) (fin := .inl x) (bad := .inr false) (fun i => ((i : Int), x)) x.2.1.length
    (fun i hi => by
      have hE := idx_pred hi hl
      simp only [spec_IsValidReceiver.s0, spec_l1In.f, ilt_len, idx_len, decide_eq_true hi, cond_true, ob_some, iadd_nat (show i < 9223372036854775807 by omega), recvB]
      generalize ilt 60 (llen (lget TNumberedPacket x.2.1 (i : Int)).2) = b
      generalize (bif ile (iadd .i64 x.1 1) (lget TNumberedPacket x.2.1 (i : Int)).1 then ile (lget TNumberedPacket x.2.1 (i : Int)).1 (isub .i64 (iadd .i64 x.1 8) 1) else false) = a
      generalize ile (lget TNumberedPacket x.2.1 (i : Int)).1 (lget TNumberedPacket x.2.1 (isub .i64 (i : Int) 1)).1 = d
      generalize idxOk (isub .i64 (i : Int) 1) (llen x.2.1) = e at hE ⊢
      generalize ilt 0 (i : Int) = c at hE ⊢
      cases b <;> cases a <;> cases c <;> cases d <;> cases e <;> simp_all [dnot, dand])
    (by simp only [spec_IsValidReceiver.s0, ilt_len, Nat.lt_irrefl, decide_false, cond_false]) (N := k) (by unfold FU at hk; omega)
  have hloop2 := all_loop (step := spec_IsValidReceiver.s1) (fitB x.2.2) (fin := .inl x) (bad := .inr false) (fun i => ((i : Int), x)) x.2.2.length
    (fun i hi => by
      simp only [spec_IsValidReceiver.s1, ilt_len, idx_len, decide_eq_true hi, cond_true, iadd_nat (show i < 9223372036854775807 by omega), fitB]
      cases ilt 60 (llen (lget (.sl (.int .u8)) x.2.2 (i : Int))) <;> rfl)
    (by simp only [spec_IsValidReceiver.s1, ilt_len, Nat.lt_irrefl, decide_false, cond_false]) (N := k) (by unfold FU at hk; omega)
  unfold spec_IsValidReceiver.f
  rw [show loopN (spec_IsValidReceiver.s0 k) k (0, x) = _ from hloop, ob_some]
  unfold recvOk
  by_cases h5 : ∀ i, i < x.2.1.length → recvB x i = true
  · rw [if_pos h5, sel_l]
    rw [show loopN spec_IsValidReceiver.s1 k (0, x) = _ from hloop2, ob_some]
    by_cases h3 : ∀ j, j < x.2.2.length → fitB x.2.2 j = true
    · rw [if_pos h3, sel_l]
      simp only [bif_and]
      by_cases h1 : ieq x.1 (iadd .i64 (llen x.2.2) 1) = true
      · by_cases h2 : ile (llen x.2.2) 24 = true
        · by_cases h4 : ile (llen x.2.1) 8 = true
          · rw [decide_eq_true ⟨h1, h2, h3, h4, h5⟩, h1, h2, h4]; rfl
          · rw [decide_eq_false (p := _ ∧ _) (fun hh => h4 hh.2.2.2.1), h1, h2, show ile (llen x.2.1) 8 = false by simpa using h4]; rfl
        · rw [decide_eq_false (p := _ ∧ _) (fun hh => h2 hh.2.1), h1, show ile (llen x.2.2) 24 = false by simpa using h2]; rfl
      · rw [decide_eq_false (p := _ ∧ _) (fun hh => h1 hh.1), show ieq x.1 (iadd .i64 (llen x.2.2) 1) = false by simpa using h1]; rfl
    · rw [if_neg h3, sel_r, decide_eq_false (p := _ ∧ _) (fun hh => h3 hh.2.2.1)]
  · rw [if_neg h5, sel_r, decide_eq_false (p := _ ∧ _) (fun hh => h5 hh.2.2.2.2)]

def inB (x l h : Int) : Bool := bif ile l x then ile x h else false
theorem i_in (x l h : Int) : impl_InRange.f k (x, l, h) = some (inB x l h) := rfl
theorem s_in (x l h : Int) : spec_l1In.f k (x, l, h) = some (inB x l h) := rfl
theorem in_23 (x : Int) : inB x 2 3 = (ieq x 2 || ieq x 3) := by
  unfold inB
  by_cases h2 : x = 2
  · subst h2; rfl
  · by_cases h3 : x = 3
    · subst h3; rfl
    · rw [ieq_f h2, ieq_f h3]
      by_cases h : 2 ≤ x
      · rw [ile_t h, cond_true, ile_f (by omega)]; rfl
      · rw [ile_f h]; rfl
theorem ob_pick {α β : Type} (c : Bool) (a b : α) (f : α → Option β) : obind (bif c then some a else some b) f = f (bif c then a else b) := by cases c <;> rfl
theorem v_USIM (x : DUSIM) : ∃ u, impl_IsValidUSIM.f k x = some u ∧ spec_IsValidUSIM.f k x = some u := by
  refine ⟨inB x.1.1 0 3 && inB x.1.2 0 99 && inB x.2.1 1 2147483646 && inB x.2.2 0 999999, ?_, ?_⟩
  · unfold impl_IsValidUSIM.f impl_IsValidKey.f impl_IsValidSubscriberID.f
    simp only [i_in, ob_some, ob_pick]
    generalize inB x.1.1 0 3 = a
    generalize inB x.1.2 0 99 = b
    generalize inB x.2.1 1 2147483646 = c
    generalize inB x.2.2 0 999999 = d
    revert a b c d
    decide
  · unfold spec_IsValidUSIM.f spec_IsValidKey.f spec_IsValidSubscriberID.f
    simp only [s_in, ob_some, ob_pick]
    generalize inB x.1.1 0 3 = a
    generalize inB x.1.2 0 99 = b
    generalize inB x.2.1 1 2147483646 = c
    generalize inB x.2.2 0 999999 = d
    revert a b c d
    decide
theorem both_IsValidDevice (hk : FU ≤ k) {x : DDevice} (h : Ok TDevice x) (hn : cnt TDevice x ≤ 1048576) : ∃ r, spec_IsValidDevice.f k x = some r ∧ impl_IsValidDevice.f k x = some r := by
  have hi := i_IsValidReceiver hk h.2.2.2.2.2.2.2.2
  have hs := s_IsValidReceiver hk h.2.2.2.2.2.2.2.2
  obtain ⟨u, hu1, hu2⟩ := v_USIM (k := k) x.1
  refine ⟨u && inB x.2.1 0 3 && inB x.2.2.1 0 5 && inB x.2.2.2.1 0 999999 && inB x.2.2.2.2.2.1 0 999999 && inB x.2.2.2.2.1 0 2147483646 && (dnot (ieq x.2.1 2 || ieq x.2.1 3) || inB x.2.2.2.2.1 1 2147483646) && inB x.2.2.2.2.2.2.2.1 0 3 && recvOk x.2.2.2.2.2.2.2.2, ?_, ?_⟩
  · unfold spec_IsValidDevice.f spec_IsValidKey.f
    simp only [s_in, hu2, hs, ob_some, ob_pick, in_23]
    generalize recvOk x.2.2.2.2.2.2.2.2 = a1
    generalize inB x.2.2.2.2.2.2.2.1 0 3 = a2
    generalize inB x.2.2.2.2.1 0 2147483646 = a3
    generalize inB x.2.2.2.2.1 1 2147483646 = a4
    generalize inB x.2.2.2.2.2.1 0 999999 = a5
    generalize inB x.2.2.2.1 0 999999 = a6
    generalize inB x.2.2.1 0 5 = a7
    generalize inB x.2.1 0 3 = a8
    generalize ieq x.2.1 2 = a9
    generalize ieq x.2.1 3 = a10
    clear hi hs hu1 hu2
    revert u a1 a2 a3 a4 a5 a6 a7 a8 a9 a10
    decide +kernel
  · unfold impl_IsValidDevice.f impl_IsValidKey.f
    simp only [i_in, hu1, hi, ob_some, ob_pick]
    generalize recvOk x.2.2.2.2.2.2.2.2 = a1
    generalize inB x.2.2.2.2.2.2.2.1 0 3 = a2
    generalize inB x.2.2.2.2.1 0 2147483646 = a3
    generalize inB x.2.2.2.2.1 1 2147483646 = a4
    generalize inB x.2.2.2.2.2.1 0 999999 = a5
    generalize inB x.2.2.2.1 0 999999 = a6
    generalize inB x.2.2.1 0 5 = a7
    generalize inB x.2.1 0 3 = a8
    generalize ieq x.2.1 2 = a9
    generalize ieq x.2.1 3 = a10
    clear hi hs hu1 hu2
    revert u a1 a2 a3 a4 a5 a6 a7 a8 a9 a10
    decide +kernel
end
end Go.Proofs.XF
/- Plain laws: hashes, keys, message codes: program and reference reckon the same. -/
set_option linter.unusedVariables false
set_option linter.unusedSimpArgs false
set_option linter.unusedSectionVars false
set_option maxRecDepth 4000
namespace Go.Proofs.XF
open Go Go.Proofs.XTv

def modF (x m : Int) : Int := if 1 ≤ m ∧ m ≤ 1000000000000 then x % m else 0
theorem modF_bd {x m : Int} (h : 1 ≤ m) (h2 : m ≤ 1000000000000) : 0 ≤ modF x m ∧ modF x m < m := by
  unfold modF
  rw [if_pos ⟨h, h2⟩]
  exact ⟨Int.emod_nonneg x (by omega), Int.emod_lt_of_pos x (by omega)⟩
theorem tmod_bd (x : Int) {m : Int} (h : 0 < m) : -m < x.tmod m ∧ x.tmod m < m := by
  constructor
  · have := Int.lt_tmod_of_pos x h; omega
  · exact Int.tmod_lt_of_pos x h
theorem tmod_emod (x : Int) {m : Int} (h : 0 < m) : x % m = if x.tmod m < 0 then x.tmod m + m else x.tmod m := by
  have hb := tmod_bd x h
  have h1 : x = m * x.tdiv m + x.tmod m := (Int.mul_tdiv_add_tmod x m).symm
  split
  · have : x = (x.tmod m + m) + m * (x.tdiv m - 1) := by rw [Int.mul_sub]; omega
    rw [this, Int.add_mul_emod_self_left]
    have e : x.tmod m + m + m * (x.tdiv m - 1) = x := this.symm
    rw [e]
    exact Int.emod_eq_of_lt (by omega) (by omega)
  · conv => lhs; rw [h1, Int.add_comm, Int.add_mul_emod_self_left]
    exact Int.emod_eq_of_lt (by omega) (by omega)
def hstep (h x : Int) : Int := irem .i64 (iadd .i64 (iadd .i64 (imul .i64 h 1000003) (modF x 2147483647)) 13) 2147483647
theorem hstep_bd {h x : Int} (h0 : 0 ≤ h) (h1 : h < 2147483647) : 0 ≤ hstep h x ∧ hstep h x < 2147483647 := by
  have hb := modF_bd (x := x) (m := 2147483647) (by omega) (by omega)
  unfold hstep
  rw [imul_eq (by omega) (by omega), iadd_eq (x := h * 1000003) (y := modF x 2147483647) (by omega) (by omega), iadd_eq (by omega) (by omega)]
  unfold irem
  have := tmod_bd (h * 1000003 + modF x 2147483647 + 13) (m := 2147483647) (by omega)
  exact ⟨Int.tmod_nonneg _ (by omega), this.2⟩
def hfold (h : Int) (l : List Int) : Int := l.foldl hstep h
theorem hfold_bd : ∀ (l : List Int) {h : Int}, 0 ≤ h → h < 2147483647 → 0 ≤ hfold h l ∧ hfold h l < 2147483647
  | [], h, h0, h1 => ⟨h0, h1⟩
  | x :: l, h, h0, h1 => by
    have := hstep_bd (x := x) h0 h1
    exact hfold_bd l this.1 this.2
theorem hfold_snoc (h : Int) (l : List Int) (x : Int) : hfold h (l ++ [x]) = hstep (hfold h l) x := by simp [hfold]
def khash (key : Int) (l : List Int) : Int := hfold 11 (key :: l ++ [key])
theorem khash_bd (key : Int) (l : List Int) : 0 ≤ khash key l ∧ khash key l < 2147483647 := hfold_bd _ (by omega) (by omega)
def derive (key x : Int) : Int := if khash key [9, x] = 0 then 1 else khash key [9, x]
theorem derive_bd (key x : Int) : 1 ≤ derive key x ∧ derive key x < 2147483647 := by
  have := khash_bd key [9, x]
  unfold derive
  split <;> omega
def pathKey (key : Int) (l : List Int) : Int := l.foldl derive key
theorem pathKey_snoc (key : Int) (l : List Int) (x : Int) : pathKey key (l ++ [x]) = derive (pathKey key l) x := by simp [pathKey]
def macF (key : Int) (m : DSignal) : Int := khash (pathKey key [1, 2]) [23, m.1, m.2.1, m.2.2.1, m.2.2.2.1, m.2.2.2.2.1]

section
variable {k : Nat} (hk : FU ≤ k)
theorem i_mod (hk : FU ≤ k) (x m : Int) : impl_Mod.f k (x, m) = some (modF x m) := by
  unfold impl_Mod.f
  rw [i_in, ob_some]
  unfold inB modF
  by_cases h : 1 ≤ m ∧ m ≤ 1000000000000
  · rw [ile_t h.1, ile_t h.2, if_pos h, ine_t (show m ≠ 0 by omega)]
    simp only [cond_true, dnot_t, cond_false]
    have hb := tmod_bd x (m := m) (by omega)
    rw [tmod_emod x (m := m) (by omega)]
    unfold irem
    by_cases hn : x.tmod m < 0
    · rw [ilt_t hn, cond_true, if_pos hn, iadd_eq (by omega) (by omega)]
    · rw [ilt_f hn, cond_false, if_neg hn]
  · rw [if_neg h]
    by_cases h1 : 1 ≤ m
    · rw [ile_t h1, cond_true, ile_f (by omega)]; rfl
    · rw [ile_f h1]; rfl
theorem s_mod (hk : FU ≤ k) (x m : Int) : spec_Mod.f k (x, m) = some (modF x m) := by
  unfold spec_Mod.f
  rw [s_in, ob_some]
  unfold inB modF
  by_cases h : 1 ≤ m ∧ m ≤ 1000000000000
  · rw [ile_t h.1, ile_t h.2, if_pos h, ine_t (show m ≠ 0 by omega)]
    simp only [cond_true, dnot_t, cond_false]
    have hb := tmod_bd x (m := m) (by omega)
    rw [tmod_emod x (m := m) (by omega)]
    unfold irem
    rw [iadd_eq (by omega) (by omega)]
    by_cases hn : x.tmod m < 0
    · rw [if_pos hn, Int.tmod_eq_of_lt (by omega) (by omega)]
    · rw [if_neg hn, Int.tmod_eq_emod_of_nonneg (by omega), Int.add_emod_right, Int.emod_eq_of_lt (by omega) (by omega)]
  · rw [if_neg h]
    by_cases h1 : 1 ≤ m
    · rw [ile_t h1, cond_true, ile_f (by omega)]; rfl
    · rw [ile_f h1]; rfl
theorem i_hashStep (hk : FU ≤ k) (h x : Int) : impl_hashStep.f k (h, x) = some (hstep h x) := by
  unfold impl_hashStep.f
  rw [i_mod hk, ob_some]; rfl
theorem s_hash (hk : FU ≤ k) {l : List Int} (hl : l.length ≤ 4294967296) : spec_Hash.f k l = some (hfold 11 l) := by
  have := loop_up (step := spec_Hash.s0 k) (e := hfold 11 l) l.length k (fun i => (l, hfold 11 (l.take i), (i : Int))) (by unfold FU at hk; omega)
    (fun i hi => by
      simp only [spec_Hash.s0, ilt_len, idx_len, decide_eq_true hi, cond_true, lget_nat (e := .int .i64) _ hi, s_mod hk, ob_some, iadd_nat (show i < 9223372036854775807 by omega)]
      rw [← take_snoc l hi, hfold_snoc]; rfl)
    (by simp only [spec_Hash.s0, ilt_len, Nat.lt_irrefl, decide_false, cond_false, List.take_length])
  unfold spec_Hash.f
  rw [show loopN (spec_Hash.s0 k) k (l, 11, 0) = some (hfold 11 l) by simpa [hfold] using this, ob_some]
theorem s_khash (hk : FU ≤ k) {key : Int} {l : List Int} (hl : l.length ≤ 1000000) : spec_KeyedHash.f k (key, l) = some (khash key l) := by
  unfold spec_KeyedHash.f
  rw [app_ok (by simp; omega), app_ok (by simp [lcat]; omega)]
  simp only [cond_true]
  rw [s_hash hk (by simp [lcat]; omega), ob_some]
  rfl
theorem i_khash (hk : FU ≤ k) {key : Int} {l : List Int} (hl : l.length ≤ 4294967296) : impl_KeyedHash.f k (key, l) = some (khash key l) := by
  have := loop_up (step := impl_KeyedHash.s0 k) (e := (key, hfold 11 (key :: l))) l.length k (fun i => (key, hfold 11 (key :: l.take i), l, (l.length : Int), (i : Int))) (by unfold FU at hk; omega)
    (fun i hi => by
      simp only [impl_KeyedHash.s0, ilt_nat, idx_len, decide_eq_true hi, cond_true, lget_nat (e := .int .i64) _ hi, i_hashStep hk, ob_some, iadd_nat (show i < 9223372036854775807 by omega)]
      rw [← take_snoc l hi, ← List.cons_append, hfold_snoc])
    (by simp only [impl_KeyedHash.s0, ilt_nat, Nat.lt_irrefl, decide_false, cond_false, List.take_length])
  unfold impl_KeyedHash.f
  rw [i_hashStep hk, ob_some, llen_eq]
  rw [show loopN (impl_KeyedHash.s0 k) k (key, hstep 11 key, l, (l.length : Int), 0) = some (key, hfold 11 (key :: l)) by simpa [hfold] using this, ob_some, i_hashStep hk, ob_some]
  unfold khash
  rw [hfold_snoc]
theorem i_derive (hk : FU ≤ k) (key x : Int) : impl_DeriveKey.f k (key, x) = some (derive key x) := by
  unfold impl_DeriveKey.f derive
  rw [i_khash hk (by simp), ob_some]
  by_cases h : khash key [9, x] = 0
  · rw [if_pos h, ieq_t h, cond_true]
  · rw [if_neg h, ieq_f h, cond_false]
theorem s_max (hk : FU ≤ k) (a b : Int) : spec_Max.f k (a, b) = some (if a ≤ b then b else a) := by
  unfold spec_Max.f
  by_cases h : a ≤ b
  · rw [if_pos h]
    first
      | (rw [ilt_f (by omega)]; rfl)
      | (by_cases h2 : a < b
         · rw [ilt_t h2]; rfl
         · have : a = b := by omega
           subst this; rw [ilt_f h2]; rfl)
      | (rw [ile_t h]; rfl)
  · rw [if_neg h]
    first
      | (rw [ilt_t (by omega)]; rfl)
      | (rw [ilt_f (by omega)]; rfl)
      | (rw [ile_f h]; rfl)
theorem s_derive (hk : FU ≤ k) (key x : Int) : spec_DeriveKey.f k (key, x) = some (derive key x) := by
  have hb := khash_bd key [9, x]
  unfold spec_DeriveKey.f derive
  rw [s_khash hk (by simp), ob_some, s_max hk, ob_some]
  show some (if (1 : Int) ≤ khash key [9, x] then khash key [9, x] else 1) = some (if khash key [9, x] = 0 then 1 else khash key [9, x])
  by_cases h : khash key [9, x] = 0
  · rw [if_pos h, if_neg (by omega)]
  · rw [if_neg h, if_pos (by omega)]
theorem i_pathKey (hk : FU ≤ k) {key : Int} {l : List Int} (hl : l.length ≤ 4294967296) : impl_KeyForPath.f k (key, l) = some (pathKey key l) := by
  have := loop_up (step := impl_deriveSteps.s0 k) (e := pathKey key l) l.length k (fun i => (pathKey key (l.take i), l, (l.length : Int), (i : Int))) (by unfold FU at hk; omega)
    (fun i hi => by
      simp only [impl_deriveSteps.s0, ilt_nat, idx_len, decide_eq_true hi, cond_true, lget_nat (e := .int .i64) _ hi, i_derive hk, ob_some, iadd_nat (show i < 9223372036854775807 by omega)]
      rw [← take_snoc l hi, pathKey_snoc])
    (by simp only [impl_deriveSteps.s0, ilt_nat, Nat.lt_irrefl, decide_false, cond_false, List.take_length])
  unfold impl_KeyForPath.f impl_deriveSteps.f
  rw [llen_eq]
  rw [show loopN (impl_deriveSteps.s0 k) k (key, l, (l.length : Int), 0) = some (pathKey key l) by simpa [pathKey] using this]
  rfl
theorem s_pathKey (hk : FU ≤ k) {key : Int} {l : List Int} (hl : l.length ≤ 4294967296) : spec_KeyForPath.f k (key, l) = some (pathKey key l) := by
  have := loop_up (step := spec_KeyForPath.s0 k) (e := pathKey key l) l.length k (fun i => ((pathKey key (l.take i), (i : Int)), l)) (by unfold FU at hk; omega)
    (fun i hi => by
      simp only [spec_KeyForPath.s0, ilt_len, idx_len, decide_eq_true hi, cond_true, lget_nat (e := .int .i64) _ hi, s_derive hk, ob_some, iadd_nat (show i < 9223372036854775807 by omega)]
      rw [← take_snoc l hi, pathKey_snoc])
    (by simp only [spec_KeyForPath.s0, ilt_len, Nat.lt_irrefl, decide_false, cond_false, List.take_length])
  unfold spec_KeyForPath.f
  rw [show loopN (spec_KeyForPath.s0 k) k ((key, 0), l) = some (pathKey key l) by simpa [pathKey] using this]
  rfl
theorem i_mac (hk : FU ≤ k) (key : Int) (m : DSignal) : impl_SignalMAC.f k (key, m) = some (macF key m) := by
  unfold impl_SignalMAC.f impl_SignalingKeyPath.f
  rw [ob_some, i_pathKey hk (by simp), ob_some, i_khash hk (by simp), ob_some]; rfl
theorem s_mac (hk : FU ≤ k) (key : Int) (m : DSignal) : spec_SignalMAC.f k (key, m) = some (macF key m) := by
  unfold spec_SignalMAC.f spec_SignalingKeyPath.f
  rw [ob_some, s_pathKey hk (by simp), ob_some, s_khash hk (by simp), ob_some]; rfl
theorem i_sign (hk : FU ≤ k) (key : Int) (m : DSignal) : impl_SignSignal.f k (key, m) = some (m.1, m.2.1, m.2.2.1, m.2.2.2.1, m.2.2.2.2.1, m.2.2.2.2.2.1, macF key m) := by
  unfold impl_SignSignal.f
  rw [i_mac hk, ob_some]
theorem s_sign (hk : FU ≤ k) (key : Int) (m : DSignal) : spec_SignSignal.f k (key, m) = some (m.1, m.2.1, m.2.2.1, m.2.2.2.1, m.2.2.2.2.1, m.2.2.2.2.2.1, macF key m) := by
  unfold spec_SignSignal.f
  rw [s_mac hk, ob_some]
theorem i_verify (hk : FU ≤ k) (key : Int) (m : DSignal) : impl_VerifySignal.f k (key, m) = some (ieq m.2.2.2.2.2.2 (macF key m)) := by
  unfold impl_VerifySignal.f
  rw [i_mac hk, ob_some]
theorem s_verify (hk : FU ≤ k) (key : Int) (m : DSignal) : spec_VerifySignal.f k (key, m) = some (ieq m.2.2.2.2.2.2 (macF key m)) := by
  unfold spec_VerifySignal.f
  rw [s_mac hk, ob_some]
end
end Go.Proofs.XF
/- Plain laws: what is drawn out of bytes. -/
set_option linter.unusedVariables false
set_option linter.unusedSimpArgs false
set_option linter.unusedSectionVars false
set_option maxRecDepth 4000
namespace Go.Proofs.XF
open Go Go.Proofs.XTv

/-- A cursor over bytes. -/
def CurOk (c : Dl1Cur) : Prop := c.1.length ≤ 281474976710656 ∧ 0 ≤ c.2.1 ∧ c.2.1 ≤ (c.1.length : Int)
theorem iand_bd (x : Int) : 0 ≤ iand .i64 x 255 ∧ iand .i64 x 255 ≤ 255 := by
  have h : (BitVec.ofInt 64 x &&& BitVec.ofInt 64 255).toNat ≤ 255 := by
    rw [BitVec.toNat_and]
    exact Nat.le_trans Nat.and_le_right (by decide)
  have e : iand .i64 x 255 = ((BitVec.ofInt 64 x &&& BitVec.ofInt 64 255).toNat : Int) := by
    unfold iand
    exact wrap_i64 (by show _ ≤ (((BitVec.ofInt 64 x &&& BitVec.ofInt 64 255).toNat : Nat) : Int); omega) (by show (((BitVec.ofInt 64 x &&& BitVec.ofInt 64 255).toNat : Nat) : Int) ≤ _; omega)
  rw [e]
  omega
section
variable {k : Nat} (hk : FU ≤ k)
theorem d_byte (hk : FU ≤ k) {c : Dl1Cur} (h : CurOk c) : ∃ b c', spec_l1Byte.f k c = some (b, c') ∧ 0 ≤ b ∧ b ≤ 255 ∧ CurOk c' := by
  obtain ⟨h1, h2, h3⟩ := h
  unfold spec_l1Byte.f
  rw [ile_t (show (0 : Int) ≤ 33 by omega), ile_t (show (0 : Int) ≤ 47 by omega)]
  simp only [cond_true]
  by_cases hi : c.2.1 < llen c.1
  · have hi2 : c.2.1 < (c.1.length : Int) := hi
    rw [ilt_t hi, show idxOk c.2.1 (llen c.1) = true from decide_eq_true ⟨h2, hi⟩]
    refine ⟨_, _, rfl, (iand_bd _).1, (iand_bd _).2, h1, ?_, ?_⟩
    · show 0 ≤ iadd .i64 c.2.1 1
      rw [iadd_eq (by omega) (by omega)]; omega
    · show iadd .i64 c.2.1 1 ≤ (c.1.length : Int)
      rw [iadd_eq (by omega) (by omega)]; omega
  · rw [ilt_f hi]
    exact ⟨_, _, rfl, (iand_bd _).1, (iand_bd _).2, h1, h2, h3⟩
theorem d_below (hk : FU ≤ k) {c : Dl1Cur} (h : CurOk c) (n : Int) : ∃ r c', spec_l1Below.f k (c, n) = some (r, c') ∧ 0 ≤ r ∧ (0 < n → r < n) ∧ (n ≤ 0 → r = 0) ∧ CurOk c' := by
  unfold spec_l1Below.f
  by_cases h0 : n ≤ 0
  · rw [ile_t h0]
    exact ⟨0, c, rfl, by omega, fun h => by omega, fun _ => rfl, h⟩
  · rw [ile_f h0]
    simp only [cond_false, ine_t (show n ≠ 0 by omega)]
    by_cases h1 : n ≤ 256
    · rw [ile_t h1]
      obtain ⟨b, c', e, b0, b1, hc⟩ := d_byte hk h
      simp only [cond_true, e, ob_some]
      exact ⟨_, _, rfl, Int.tmod_nonneg _ b0, fun _ => Int.tmod_lt_of_pos _ (by omega), fun h => by omega, hc⟩
    · rw [ile_f h1]
      obtain ⟨b, c1, e1, b0, b1, hc1⟩ := d_byte hk h
      obtain ⟨d, c2, e2, d0, d1, hc2⟩ := d_byte hk hc1
      obtain ⟨f, c3, e3, f0, f1, hc3⟩ := d_byte hk hc2
      simp only [cond_true, cond_false, e1, e2, e3, ob_some]
      refine ⟨_, _, rfl, ?_, fun _ => Int.tmod_lt_of_pos _ (by omega), fun h => by omega, hc3⟩
      rw [imul_eq (by omega) (by omega), imul_eq (by omega) (by omega), iadd_eq (x := b * 65536) (y := d * 256) (by omega) (by omega), iadd_eq (by omega) (by omega)]
      exact Int.tmod_nonneg _ (by omega)
theorem d_once (hk : FU ≤ k) {c : Dl1Cur} (h : CurOk c) (n : Int) : ∃ r c', spec_l1Once.f k (c, n) = some (r, c') ∧ CurOk c' := by
  obtain ⟨r, c', e, _, _, _, hc⟩ := d_below hk h n
  unfold spec_l1Once.f
  rw [e]
  exact ⟨_, _, rfl, hc⟩
theorem d_int (hk : FU ≤ k) {c : Dl1Cur} (h : CurOk c) {l : List Int} (hl : l ≠ []) : ∃ v c', spec_l1Int.f k (c, l) = some (v, c') ∧ v ∈ l ∧ CurOk c' := by
  have hp : 0 < l.length := List.length_pos_iff.2 hl
  obtain ⟨r, c', e, h0, h1, _, hc⟩ := d_below hk h (llen l)
  have h1 := h1 (by show (0 : Int) < (l.length : Int); omega)
  unfold spec_l1Int.f
  rw [e]
  simp only [ob_some]
  rw [show idxOk r (llen l) = true from decide_eq_true ⟨h0, h1⟩]
  refine ⟨_, _, rfl, ?_, hc⟩
  obtain ⟨i, rfl⟩ := Int.eq_ofNat_of_zero_le h0
  have hi : i < l.length := by have h1 : (i : Int) < (l.length : Int) := h1; omega
  show lget (.int .i64) l (i : Int) ∈ l
  rw [lget_nat (e := .int .i64) l hi]
  exact List.getElem_mem hi
theorem d_new (hk : FU ≤ k) {x : List Int} (h : x.length ≤ 281474976710656) : ∃ c, spec_l1New.f k x = some c ∧ CurOk c := by
  have hloop := loop_inv (step := spec_l1New.s0) (fun d => d.1 = x ∧ 0 ≤ d.2.2 ∧ d.2.2 ≤ 4000) (fun d => (4000 - d.2.2).toNat) (fun e => e.1 = x)
    (fun d ⟨hd, h0, h1⟩ => by
      obtain ⟨y, hh, i⟩ := d
      simp only at hd h0 h1
      subst hd
      unfold spec_l1New.s0
      simp only
      by_cases c1 : i < llen y
      · by_cases c2 : i < 4000
        · left
          rw [ilt_t c1, ilt_t c2, show idxOk i (llen y) = true from decide_eq_true ⟨h0, c1⟩]
          refine ⟨_, rfl, ⟨rfl, ?_, ?_⟩, ?_⟩
          · show 0 ≤ iadd .i64 i 1
            rw [iadd_eq (by omega) (by omega)]; omega
          · show iadd .i64 i 1 ≤ 4000
            rw [iadd_eq (by omega) (by omega)]; omega
          · show (4000 - iadd .i64 i 1).toNat < (4000 - i).toNat
            rw [iadd_eq (by omega) (by omega)]; omega
        · right
          rw [ilt_t c1, ilt_f c2]
          exact ⟨_, rfl, rfl⟩
      · right
        rw [ilt_f c1]
        exact ⟨_, rfl, rfl⟩) k (x, iadd .i64 193017 (llen x), 0) ⟨rfl, by simp, by simp⟩ (by unfold FU at hk; simp; omega)
  obtain ⟨e, he, hq⟩ := hloop
  unfold spec_l1New.f
  rw [he, ob_some]
  refine ⟨_, rfl, ?_⟩
  have hq : e.1 = x := hq
  exact ⟨by show e.1.length ≤ _; rw [hq]; exact h, by simp, by simp⟩
theorem d_bytes (hk : FU ≤ k) {c : Dl1Cur} (h : CurOk c) {n : Int} (hn : n ≤ 1000000) : ∃ l c', spec_l1Bytes.f k (c, n) = some (l, c') ∧ l.length ≤ 1000000 ∧ (∀ b ∈ l, 0 ≤ b ∧ b ≤ 255) ∧ CurOk c' := by
  have hloop := loop_inv (step := spec_l1Bytes.s0 k) (fun d => d.1.1 = n ∧ 0 ≤ d.1.2 ∧ d.1.2 ≤ 1000000 ∧ CurOk d.2.1 ∧ (d.2.2.length : Int) = d.1.2 ∧ ∀ b ∈ d.2.2, 0 ≤ b ∧ b ≤ 255) (fun d => (n - d.1.2).toNat) (fun e => CurOk e.1 ∧ e.2.length ≤ 1000000 ∧ ∀ b ∈ e.2, 0 ≤ b ∧ b ≤ 255)
    (fun d ⟨hd, h0, h1, h2, h3, h4⟩ => by
      obtain ⟨⟨m, i⟩, cc, acc⟩ := d
      simp only at hd h0 h1 h2 h3 h4
      subst hd
      unfold spec_l1Bytes.s0
      simp only
      by_cases c1 : i < m
      · left
        obtain ⟨b, c', e, b0, b1, hc⟩ := d_byte hk h2
        have hb : icast .u8 b = b := wrap_u8 b0 b1
        rw [ilt_t c1, e]
        simp only [ob_some, cond_true, hb]
        rw [app_ok (by simp; omega)]
        refine ⟨_, rfl, ⟨rfl, ?_, ?_, hc, ?_, ?_⟩, ?_⟩
        · show 0 ≤ iadd .i64 i 1
          rw [iadd_eq (by omega) (by omega)]; omega
        · show iadd .i64 i 1 ≤ 1000000
          rw [iadd_eq (by omega) (by omega)]; omega
        · show ((acc ++ [b]).length : Int) = iadd .i64 i 1
          rw [iadd_eq (by omega) (by omega)]; simp; omega
        · intro z hz
          have hz : z ∈ acc ++ [b] := hz
          rcases List.mem_append.1 hz with hz | hz
          · exact h4 z hz
          · simp only [List.mem_singleton] at hz; subst hz; exact ⟨b0, b1⟩
        · show (m - iadd .i64 i 1).toNat < (m - i).toNat
          rw [iadd_eq (by omega) (by omega)]; omega
      · right
        rw [ilt_f c1]
        exact ⟨_, rfl, h2, by show acc.length ≤ _; omega, h4⟩) k ((n, 0), c, []) ⟨rfl, by simp, by simp, h, by simp, fun b hb => by cases hb⟩ (by unfold FU at hk; simp; omega)
  obtain ⟨e, he, hq1, hq2, hq3⟩ := hloop
  unfold spec_l1Bytes.f
  rw [he, ob_some]
  exact ⟨_, _, rfl, hq2, hq3, hq1⟩
end
end Go.Proofs.XF
/- Plain laws: drawn subscribers, plans, windows, sessions. -/
set_option linter.unusedVariables false
set_option linter.unusedSimpArgs false
set_option linter.unusedSectionVars false
set_option maxRecDepth 4000
namespace Go.Proofs.XF
open Go Go.Proofs.XTv

theorem ok_wrap (x : Int) : Ok (.int .i64) (IntKind.i64.wrap x) := by
  show -9223372036854775808 ≤ IntKind.i64.wrap x ∧ IntKind.i64.wrap x ≤ 9223372036854775807
  simp [IntKind.wrap, IntKind.signed, IntKind.bits]
  omega
theorem ok_add (x y : Int) : Ok (.int .i64) (iadd .i64 x y) := ok_wrap _
theorem ok_sub (x y : Int) : Ok (.int .i64) (isub .i64 x y) := ok_wrap _
theorem ok_mul (x y : Int) : Ok (.int .i64) (imul .i64 x y) := ok_wrap _
theorem ok_nil (e : Ty) : Ok (.sl e) ([] : List e.den) := ⟨by show (0 : Nat) ≤ _; omega, fun x hx => by cases hx⟩
theorem ok_app {e : Ty} {l m : List e.den} (h1 : Ok (.sl e) l) (h2 : Ok (.sl e) m) (hl : (l ++ m).length ≤ 4294967296) : Ok (.sl e) (l ++ m) :=
  ⟨hl, fun x hx => (List.mem_append.1 hx).elim (h1.2 x) (h2.2 x)⟩
theorem ok_one {e : Ty} {x : e.den} (h : Ok e x) : Ok (.sl e) [x] := ⟨by show (1 : Nat) ≤ _; omega, fun y hy => by simp only [List.mem_singleton] at hy; subst hy; exact h⟩
theorem ok_mem {l : List Int} {v : Int} (h : v ∈ l) (hl : ∀ x ∈ l, -1000000000000 ≤ x ∧ x ≤ 1000000000000) : Ok (.int .i64) v := by
  have := hl v h
  show -9223372036854775808 ≤ v ∧ v ≤ 9223372036854775807
  omega
theorem ok_bytes {l : List Int} (hl : l.length ≤ 1000000) (h : ∀ b ∈ l, 0 ≤ b ∧ b ≤ 255) : Ok (.sl (.int .u8)) l := ⟨by show l.length ≤ _; omega, h⟩

/-- A window that can be used. -/
def WOk (w : DSendWindow) : Prop := Ok TSendWindow w ∧ w.2.length ≤ 8 ∧ 1 ≤ w.1 ∧ w.1 ≤ 100000
/-- A session whose streams are in bounds. -/
def SOk (s : DSession) : Prop := Ok TSession s ∧ s.2.2.2.2.2.2.2.2.2.2.2.1.length ≤ 24 ∧ WOk s.2.2.2.2.2.2.2.2.2.2.2.2.1

section
variable {k : Nat} (hk : FU ≤ k)
theorem d_who (hk : FU ≤ k) {c : Dl1Cur} (h : CurOk c) : ∃ r c', spec_l4Who.f k c = some (r, c') ∧ Ok TSubscriberID r ∧ CurOk c' := by
  obtain ⟨a, c1, e1, a0, a1, _, h1⟩ := d_below hk h 3
  obtain ⟨b, c2, e2, b0, b1, _, h2⟩ := d_below hk h1 5
  have a1 := a1 (by omega)
  have b1 := b1 (by omega)
  unfold spec_l4Who.f
  simp only [e1, e2, ob_some]
  exact ⟨_, _, rfl, ⟨okn (by omega), okn (by omega)⟩, h2⟩
theorem d_key (hk : FU ≤ k) {c : Dl1Cur} (h : CurOk c) : ∃ r c', spec_l5Key.f k c = some (r, c') ∧ Ok (.int .i64) r ∧ CurOk c' := by
  obtain ⟨a, c1, e1, a0, a1, _, h1⟩ := d_below hk h 6
  unfold spec_l5Key.f
  simp only [e1, ob_some]
  exact ⟨_, _, rfl, ok_add _ _, h1⟩
theorem d_card (hk : FU ≤ k) {c : Dl1Cur} (h : CurOk c) : ∃ r c', spec_l6Card.f k c = some (r, c') ∧ Ok TUSIM r ∧ CurOk c' := by
  obtain ⟨a, c1, e1, a1, h1⟩ := d_who hk h
  obtain ⟨b, c2, e2, b1, h2⟩ := d_key hk h1
  obtain ⟨d, c3, e3, d0, d1, _, h3⟩ := d_below hk h2 40
  have d1 := d1 (by omega)
  unfold spec_l6Card.f
  simp only [e1, e2, e3, ob_some]
  exact ⟨_, _, rfl, ⟨a1, b1, okn (n := d) (by omega)⟩, h3⟩
theorem d_pair (hk : FU ≤ k) {c : Dl1Cur} (h : CurOk c) : ∃ r c', spec_l6Pair.f k c = some (r, c') ∧ Ok TUSIM r.1 ∧ Ok TUSIM r.2 ∧ CurOk c' := by
  obtain ⟨a, c1, e1, a1, h1⟩ := d_card hk h
  obtain ⟨b, c2, e2, b0, b1, _, h2⟩ := d_below hk h1 4
  obtain ⟨d, c3, e3, d0, d1, _, h3⟩ := d_below hk h2 8
  unfold spec_l6Pair.f
  simp only [e1, e2, e3, ob_some]
  cases ieq d 0
  · simp only [cond_false]
    cases ieq d 1
    · exact ⟨_, _, rfl, a1, ⟨a1.1, a1.2.1, ok_add _ _⟩, h3⟩
    · obtain ⟨v, c4, e4, v1, h4⟩ := d_int hk h3 (l := [0, 5000, 999990]) (by simp)
      simp only [cond_true, e4, ob_some]
      exact ⟨_, _, rfl, ⟨a1.1, a1.2.1, ok_mem v1 (by simp)⟩, ⟨a1.1, a1.2.1, ok_add _ _⟩, h4⟩
  · obtain ⟨v, c4, e4, v1, h4⟩ := d_int hk h3 (l := [0, iadd .i64 a.2.2 1500, 999998]) (by simp)
    simp only [cond_true, e4, ob_some]
    refine ⟨_, _, rfl, a1, ⟨a1.1, a1.2.1, ?_⟩, h4⟩
    simp only [List.mem_cons, List.not_mem_nil, or_false] at v1
    rcases v1 with rfl | rfl | rfl
    · exact okn (n := 0) (by omega)
    · exact ok_add _ _
    · exact okn (n := 999998) (by omega)
theorem d_plan (hk : FU ≤ k) {c : Dl1Cur} (h : CurOk c) : ∃ r c', spec_l20Plan.f k c = some (r, c') ∧ Ok TSubscription r ∧ r.2.2.2.length ≤ 4 ∧ CurOk c' := by
  obtain ⟨a, c1, e1, a0, a1, _, h1⟩ := d_below hk h 9
  obtain ⟨b, c2, e2, b0, b1, _, h2⟩ := d_below hk h1 4
  obtain ⟨d, c3, e3, d0, d1, _, h3⟩ := d_below hk h2 20
  have hloop := loop_inv (step := spec_l20Plan.s0 k) (fun z => 0 ≤ z.1 ∧ z.1 ≤ 4 ∧ CurOk z.2.1 ∧ z.2.2.2.1 = (iadd .i64 1 a, iadd .i64 1 b, iadd .i64 1 d) ∧ (z.2.2.2.2.2.length : Int) ≤ z.1 ∧ ∀ y ∈ z.2.2.2.2.2, 0 ≤ y ∧ y ≤ 4) (fun z => (4 - z.1).toNat)
    (fun e => CurOk e.1 ∧ e.2.2.1 = (iadd .i64 1 a, iadd .i64 1 b, iadd .i64 1 d) ∧ e.2.2.2.2.length ≤ 4 ∧ ∀ y ∈ e.2.2.2.2, 0 ≤ y ∧ y ≤ 4)
    (fun z ⟨i0, i1, i2, i3, i4, i5⟩ => by
      unfold spec_l20Plan.s0
      by_cases hi : z.1 < 4
      · left
        obtain ⟨r, c', e, hc⟩ := d_once hk i2 3
        have hs : iadd .i64 z.1 1 = z.1 + 1 := iadd_eq (by omega) (by omega)
        rw [ilt_t hi]
        simp only [cond_true, e, ob_some, hs]
        cases r
        · exact ⟨_, rfl, ⟨by show 0 ≤ z.1 + 1; omega, by show z.1 + 1 ≤ 4; omega, hc, i3, by show (z.2.2.2.2.2.length : Int) ≤ z.1 + 1; omega, i5⟩, by show (4 - (z.1 + 1)).toNat < _; omega⟩
        · simp only [cond_true]
          rw [app_ok (by simp; omega)]
          refine ⟨_, rfl, ⟨by show 0 ≤ z.1 + 1; omega, by show z.1 + 1 ≤ 4; omega, hc, i3, ?_, ?_⟩, by show (4 - (z.1 + 1)).toNat < _; omega⟩
          · show ((z.2.2.2.2.2 ++ [z.1]).length : Int) ≤ z.1 + 1
            simp; omega
          · intro y hy
            have hy : y ∈ z.2.2.2.2.2 ++ [z.1] := hy
            rcases List.mem_append.1 hy with hy | hy
            · exact i5 y hy
            · simp only [List.mem_singleton] at hy; subst hy; omega
      · right
        rw [ilt_f hi]
        exact ⟨_, rfl, i2, i3, by show z.2.2.2.2.2.length ≤ 4; omega, i5⟩) k
    (0, c3, (0, 0, 0), (iadd .i64 1 a, iadd .i64 1 b, iadd .i64 1 d), [], []) ⟨by simp, by simp, h3, rfl, by simp, fun y hy => by cases hy⟩ (by unfold FU at hk; simp; omega)
  obtain ⟨e, he, q1, q2, q3, q4⟩ := hloop
  unfold spec_l20Plan.f
  simp only [e1, e2, e3, ob_some, he]
  refine ⟨_, _, rfl, ⟨?_, ?_, ?_, by show e.2.2.2.2.length ≤ _; omega, fun y hy => okn (by have := q4 y hy; omega)⟩, q3, q1⟩
  · show Ok (.int .i64) e.2.2.1.1
    rw [q2]; exact ok_add _ _
  · show Ok (.int .i64) e.2.2.1.2.1
    rw [q2]; exact ok_add _ _
  · show Ok (.int .i64) e.2.2.1.2.2
    rw [q2]; exact ok_add _ _
theorem d_word (hk : FU ≤ k) {c : Dl1Cur} (h : CurOk c) : ∃ r c', spec_l3Word.f k c = some (r, c') ∧ Ok (.int .i64) r ∧ CurOk c' := by
  obtain ⟨a, c1, e1, h1⟩ := d_once hk h 10
  unfold spec_l3Word.f
  simp only [e1, ob_some]
  cases a
  · obtain ⟨b, c2, e2, h2⟩ := d_once hk h1 4
    simp only [cond_false, e2, ob_some]
    cases b
    · obtain ⟨x, c3, e3, x0, x1, _, h3⟩ := d_below hk h2 1000000
      obtain ⟨y, c4, e4, y0, y1, _, h4⟩ := d_below hk h3 2000
      simp only [cond_false, e3, e4, ob_some]
      exact ⟨_, _, rfl, ok_mul _ _, h4⟩
    · obtain ⟨v, c3, e3, v1, h3⟩ := d_int hk h2 (l := [0, 1, 2147483646]) (by simp)
      simp only [cond_true, e3, ob_some]
      exact ⟨_, _, rfl, ok_mem v1 (by simp), h3⟩
  · obtain ⟨v, c3, e3, v1, h3⟩ := d_int hk h1 (l := [-1, 2147483647, 2147483648]) (by simp)
    simp only [cond_true, e3, ob_some]
    exact ⟨_, _, rfl, ok_mem v1 (by simp), h3⟩

/-! ### Windows -/
theorem s_validSender (hk : FU ≤ k) {w : DSendWindow} (hl : w.2.length ≤ 4294967296) : ∃ b, spec_IsValidSender.f k w = some b ∧ (b = true → 1 ≤ w.1 ∧ w.1 ≤ 100000 ∧ w.2.length ≤ 8) := by
  have hloop := loop_inv (step := spec_IsValidSender.s0) (fun d => 0 ≤ d.1 ∧ d.1 ≤ (w.2.length : Int) ∧ d.2 = w) (fun d => ((w.2.length : Int) - d.1).toNat) (fun e => match e with | .inl x => x = w | .inr b => b = false)
    (fun d ⟨h0, h1, h2⟩ => by
      obtain ⟨i, x⟩ := d
      simp only at h0 h1 h2
      subst h2
      unfold spec_IsValidSender.s0
      simp only
      by_cases hi : i < llen x.2
      · have hi' : i < (x.2.length : Int) := hi
        have hx : idxOk i (llen x.2) = true := decide_eq_true ⟨h0, hi⟩
        rw [ilt_t hi, hx]
        simp only [cond_true]
        have hs : iadd .i64 i 1 = i + 1 := iadd_eq (by omega) (by omega)
        cases hc : (bif ine (lget TNumberedPacket x.2 i).1 (iadd .i64 (isub .i64 x.1 (llen x.2)) i) then true else ilt 60 (llen (lget TNumberedPacket x.2 i).2))
        · left
          simp only [cond_false]
          exact ⟨_, rfl, ⟨by show 0 ≤ iadd .i64 i 1; omega, by show iadd .i64 i 1 ≤ _; omega, rfl⟩, by show ((x.2.length : Int) - iadd .i64 i 1).toNat < _; omega⟩
        · right
          exact ⟨_, rfl, rfl⟩
      · right
        rw [ilt_f hi]
        exact ⟨_, rfl, rfl⟩) k (0, w) ⟨by simp, by simp, rfl⟩ (by unfold FU at hk; simp; omega)
  obtain ⟨e, he, hq⟩ := hloop
  unfold spec_IsValidSender.f
  rw [he, ob_some]
  cases e with
  | inr b =>
    have hq : b = false := hq
    subst hq
    exact ⟨false, rfl, fun h => by cases h⟩
  | inl x =>
    have hq : x = w := hq
    subst hq
    simp only [sel_l, s_in, ob_some]
    refine ⟨_, rfl, fun h => ?_⟩
    unfold inB at h
    by_cases h1 : (1 : Int) ≤ x.1
    · rw [ile_t h1, cond_true] at h
      by_cases h2 : x.1 ≤ 100000
      · rw [ile_t h2] at h
        by_cases h3 : llen x.2 ≤ 8
        · have h3 : (x.2.length : Int) ≤ 8 := h3
          exact ⟨h1, h2, by omega⟩
        · rw [ile_f h3] at h; simp at h
      · rw [ile_f h2] at h; simp at h
    · rw [ile_f h1] at h; simp at h
theorem s_send (hk : FU ≤ k) {w : DSendWindow} (h : WOk w) {data : List Int} (hd : Ok (.sl (.int .u8)) data) : ∃ w' p b, spec_SendPacket.f k (w, data) = some (w', p, b) ∧ WOk w' := by
  obtain ⟨h1, h2, h3, h4⟩ := h
  unfold spec_SendPacket.f
  simp only [s_sender hk h1, ob_some, app0 (ok_len hd) (show 1 ≤ 16384 by omega), cond_true]
  rw [app1 (show w.2.length ≤ 4294967296 by omega) (show 32 ≤ 16384 by omega)]
  simp only [cond_true]
  obtain ⟨b, e, hb⟩ := s_validSender hk (w := (iadd .i64 w.1 1, lcat w.2 [(w.1, lcat [] data)])) (by show (w.2 ++ [_]).length ≤ _; simp; omega)
  rw [e]
  simp only [ob_some]
  cases b
  · exact ⟨w, _, _, rfl, h1, h2, h3, h4⟩
  · obtain ⟨k1, k2, k3⟩ := hb rfl
    refine ⟨_, _, _, rfl, ⟨ok_add _ _, ok_app h1.2 (ok_one ⟨h1.1, hd⟩) (by simp; omega)⟩, k3, k1, k2⟩
theorem s_ackBelow (hk : FU ≤ k) {w : DSendWindow} (h : WOk w) (n : Int) : ∃ w', spec_AcknowledgeBelow.f k (w, n) = some w' ∧ WOk w' := by
  obtain ⟨h1, h2, h3, h4⟩ := h
  unfold spec_AcknowledgeBelow.f
  simp only [s_sender hk h1, ob_some]
  cases ilt w.1 n
  · simp only [cond_false]
    have hloop := loop_inv (step := spec_AcknowledgeBelow.s0) (fun d => d.1.1 = n ∧ 0 ≤ d.1.2 ∧ d.1.2 ≤ (w.2.length : Int) ∧ d.2.1 = w ∧ d.2.2.2.1 = w.1 ∧ Ok (.sl TNumberedPacket) d.2.2.2.2 ∧ (d.2.2.2.2.length : Int) ≤ d.1.2) (fun d => ((w.2.length : Int) - d.1.2).toNat)
      (fun e => e.2.1 = w.1 ∧ Ok (.sl TNumberedPacket) e.2.2 ∧ e.2.2.length ≤ 8)
      (fun d ⟨i0, i1, i2, i3, i4, i5, i6⟩ => by
        obtain ⟨⟨m, i⟩, x, y, nx, acc⟩ := d
        simp only at i0 i1 i2 i3 i4 i5 i6
        subst i0 i3 i4
        unfold spec_AcknowledgeBelow.s0
        simp only
        by_cases hi : i < llen x.2
        · left
          have hi' : i < (x.2.length : Int) := hi
          have hx : idxOk i (llen x.2) = true := decide_eq_true ⟨i1, hi⟩
          have hs : iadd .i64 i 1 = i + 1 := iadd_eq (by omega) (by omega)
          obtain ⟨j, rfl⟩ := Int.eq_ofNat_of_zero_le i1
          have hj : j < x.2.length := by have hi' : (j : Int) < (x.2.length : Int) := hi'; omega
          have hg := lget_nat (e := TNumberedPacket) x.2 hj
          have hok := ok_get h1.2 hj
          simp only [Int.ofNat_eq_natCast] at *
          rw [ilt_t hi, hx, hg, hs]
          simp only [cond_true]
          cases ile m (x.2[j]).1
          · exact ⟨_, rfl, ⟨rfl, by show (0 : Int) ≤ (j : Int) + 1; omega, by show (j : Int) + 1 ≤ _; omega, rfl, rfl, i5, by show (acc.length : Int) ≤ (j : Int) + 1; omega⟩, by show ((x.2.length : Int) - ((j : Int) + 1)).toNat < ((x.2.length : Int) - (j : Int)).toNat; omega⟩
          · simp only [cond_true]
            rw [app0 (ok_len hok.2) (show 1 ≤ 16384 by omega), app1 (show acc.length ≤ 4294967296 by omega) (show 32 ≤ 16384 by omega)]
            refine ⟨_, rfl, ⟨rfl, by show (0 : Int) ≤ (j : Int) + 1; omega, by show (j : Int) + 1 ≤ _; omega, rfl, rfl, ok_app i5 (ok_one hok) (by simp; omega), ?_⟩, by show ((x.2.length : Int) - ((j : Int) + 1)).toNat < ((x.2.length : Int) - (j : Int)).toNat; omega⟩
            show ((acc ++ [_]).length : Int) ≤ (j : Int) + 1
            simp; omega
        · right
          rw [ilt_f hi]
          exact ⟨_, rfl, rfl, i5, by show acc.length ≤ 8; omega⟩) k ((n, 0), w, (0, []), w.1, []) ⟨rfl, by simp, by simp, rfl, rfl, ok_nil _, by simp⟩ (by unfold FU at hk; simp; omega)
    obtain ⟨e, he, q1, q2, q3⟩ := hloop
    rw [he, ob_some]
    exact ⟨_, rfl, ⟨by show Ok (.int .i64) e.2.1; rw [q1]; exact h1.1, q2⟩, q3, by show 1 ≤ e.2.1; rw [q1]; exact h3, by show e.2.1 ≤ _; rw [q1]; exact h4⟩
  · exact ⟨w, rfl, h1, h2, h3, h4⟩
end
end Go.Proofs.XF
/- Plain laws: drawn sessions, signals. -/
set_option linter.unusedVariables false
set_option linter.unusedSimpArgs false
set_option linter.unusedSectionVars false
set_option maxRecDepth 4000
namespace Go.Proofs.XF
open Go Go.Proofs.XTv

def maskF (key r : Int) : Int := modF (khash key [1, r]) 1000000
def vecF (key r seq : Int) : DAuthVector :=
  bif inB seq 0 999999 then (r, modF (iadd .i64 seq (maskF key r)) 1000000, khash key [2, r, seq], khash key [3, r], if 1 ≤ khash key [4, r, seq] then khash key [4, r, seq] else 1) else (0, 0, 0, 0, 0)
def recOk (r : DUSIM) : Bool := inB r.1.1 0 3 && inB r.1.2 0 99 && inB r.2.1 1 2147483646 && inB r.2.2 0 999999
theorem ok_khash (key : Int) (l : List Int) : Ok (.int .i64) (khash key l) := by
  have := khash_bd key l
  exact okn (by omega)
theorem ok_mod (x : Int) : Ok (.int .i64) (modF x 1000000) := by
  have := modF_bd (x := x) (m := 1000000) (by omega) (by omega)
  exact okn (by omega)
theorem ok_vec {key r seq : Int} (h : Ok (.int .i64) r) : Ok TAuthVector (vecF key r seq) := by
  unfold vecF
  cases inB seq 0 999999
  · exact ⟨okn (n := 0) (by omega), okn (n := 0) (by omega), okn (n := 0) (by omega), okn (n := 0) (by omega), okn (n := 0) (by omega)⟩
  · refine ⟨h, ok_mod _, ok_khash _ _, ok_khash _ _, ?_⟩
    show Ok (.int .i64) (if 1 ≤ khash key [4, r, seq] then khash key [4, r, seq] else 1)
    split
    · exact ok_khash _ _
    · exact okn (by omega)
section
variable {k : Nat} (hk : FU ≤ k)
theorem s_mask (hk : FU ≤ k) (key r : Int) : spec_SequenceMask.f k (key, r) = some (maskF key r) := by
  unfold spec_SequenceMask.f
  rw [s_khash hk (by simp), ob_some, s_mod hk, ob_some]; rfl
theorem s_vec (hk : FU ≤ k) (key r seq : Int) : spec_NewAuthVector.f k (key, r, seq) = some (vecF key r seq) := by
  unfold spec_NewAuthVector.f vecF
  simp only [s_in, ob_some, s_mask hk, s_mod hk, s_max hk]
  rw [s_khash hk (by simp), s_khash hk (by simp), s_khash hk (by simp)]
  simp only [ob_some, s_max hk]
  cases inB seq 0 999999 <;> rfl
theorem s_recOk (hk : FU ≤ k) (r : DUSIM) : spec_IsValidSubscriberRecord.f k r = some (recOk r) := by
  unfold spec_IsValidSubscriberRecord.f spec_IsValidKey.f spec_IsValidSubscriberID.f recOk
  simp only [s_in, ob_some, ob_pick]
  generalize inB r.1.1 0 3 = a
  generalize inB r.1.2 0 99 = b
  generalize inB r.2.1 1 2147483646 = c
  generalize inB r.2.2 0 999999 = d
  revert a b c d
  decide
def nextF (r : DUSIM) (q : Int) : DUSIM × DAuthVector := bif (dnot (recOk r) || ieq r.2.2 999999) then (r, 0, 0, 0, 0, 0) else ((r.1, r.2.1, iadd .i64 r.2.2 1), vecF r.2.1 q (iadd .i64 r.2.2 1))
theorem s_next (hk : FU ≤ k) (r : DUSIM) (q : Int) : spec_NextAuthVector.f k (r, q) = some (nextF r q) := by
  unfold spec_NextAuthVector.f nextF
  simp only [s_recOk hk, ob_some, s_vec hk, bif_or]
  cases (dnot (recOk r) || ieq r.2.2 999999) <;> rfl
theorem s_challenge (hk : FU ≤ k) (id : DSubscriberID) (seq : Int) : spec_ChallengeRand.f k (id, seq) = some (khash 29 [id.1, id.2, seq]) := by
  unfold spec_ChallengeRand.f
  rw [s_khash hk (by simp), ob_some]
theorem ok_next {r : DUSIM} {q : Int} (h : Ok TUSIM r) (hq : Ok (.int .i64) q) : Ok TUSIM (nextF r q).1 ∧ Ok TAuthVector (nextF r q).2 := by
  unfold nextF
  cases (dnot (recOk r) || ieq r.2.2 999999)
  · exact ⟨⟨h.1, h.2.1, ok_add _ _⟩, ok_vec hq⟩
  · exact ⟨h, okn (n := 0) (by omega), okn (n := 0) (by omega), okn (n := 0) (by omega), okn (n := 0) (by omega), okn (n := 0) (by omega)⟩
theorem s_none (hk : FU ≤ k) {s : DSession} (h : Ok TSession s) : spec_l30None.f k s = some (s, []) := by
  unfold spec_l30None.f
  rw [s_copySession hk h, ob_some]
theorem d_attach (hk : FU ≤ k) {s : DSession} {m : DSignal} (h : SOk s) : ∃ r, spec_ReceiveAttach.f k (s, m) = some r ∧ SOk r.1 := by
  obtain ⟨h1, h2, h3⟩ := h
  have hn := ok_next h1.1 (ok_khash 29 [s.1.1.1, s.1.1.2, iadd .i64 s.1.2.2 1])
  unfold spec_ReceiveAttach.f
  simp only [s_challenge hk, s_next hk, ob_some, s_none hk h1, s_copySession hk h1]
  cases (dand (ieq (nextF s.1 (khash 29 [s.1.1.1, s.1.1.2, iadd .i64 s.1.2.2 1])).1.1.1 s.1.1.1) (dand (ieq (nextF s.1 (khash 29 [s.1.1.1, s.1.1.2, iadd .i64 s.1.2.2 1])).1.1.2 s.1.1.2) (dand (ieq (nextF s.1 (khash 29 [s.1.1.1, s.1.1.2, iadd .i64 s.1.2.2 1])).1.2.1 s.1.2.1) (ieq (nextF s.1 (khash 29 [s.1.1.1, s.1.1.2, iadd .i64 s.1.2.2 1])).1.2.2 s.1.2.2))))
  · simp only [cond_false]
    exact ⟨_, rfl, ⟨hn.1, h1.2.1, h1.2.2.1, hn.2, hn.1.2.2, h1.2.2.2.2.2⟩, h2, h3⟩
  · simp only [cond_true]
    exact ⟨_, rfl, h1, h2, h3⟩
theorem d_response (hk : FU ≤ k) {s : DSession} {m : DSignal} (h : SOk s) (hm : Ok TSignal m) : ∃ r, spec_ReceiveResponse.f k (s, m) = some r ∧ SOk r.1 := by
  obtain ⟨h1, h2, h3⟩ := h
  unfold spec_ReceiveResponse.f spec_ResponseMatches.f spec_l30Signed.f
  simp only [s_none hk h1, s_copySession hk h1, s_sign hk, ob_some, ob_pick]
  generalize (bif bif bif ile s.2.2.2.2.1 0 then true else ine m.2.2.1 s.2.2.2.2.1 then true else dnot (bif dnot (bif ile s.2.2.2.2.1 0 then true else ine m.2.2.1 s.2.2.2.2.1) then ieq m.2.2.2.2.1 s.2.2.2.1.2.2.2.1 else false) then true else ile 999999 s.2.2.2.2.2.2.2.1) = cc
  have z : Ok (.int .i64) (0 : Int) := okn (by omega)
  cases cc
  · simp only [cond_false]
    exact ⟨_, rfl, ⟨h1.1, h1.2.1, okn (n := 1) (by omega), ⟨z, z, z, z, z⟩, z, h1.2.2.2.2.1, h1.2.2.2.1.2.2.2.2, ok_add _ _, hm.2.1, z, ⟨z, z, z⟩, h1.2.2.2.2.2.2.2.2.2.2.2⟩, h2, h3⟩
  · simp only [cond_true]
    exact ⟨_, rfl, h1, h2, h3⟩
theorem d_submit' (hk : FU ≤ k) {s : DSession} {l : List Int} (h1 : Ok TSession s) (h2 : s.2.2.2.2.2.2.2.2.2.2.2.1.length ≤ 24) (hl : Ok (.sl (.int .u8)) l) :
    ∃ r b, spec_SubmitPacket.f k (s, l) = some (r, b) ∧ Ok TSession r ∧ r.2.2.2.2.2.2.2.2.2.2.2.1.length ≤ 24 ∧ r.2.2.2.2.2.2.2.2.2.2.2.2.1 = s.2.2.2.2.2.2.2.2.2.2.2.2.1 := by
  unfold spec_SubmitPacket.f
  simp only [s_copySession hk h1, s_body hk (ok_len hl), ob_some]
  by_cases hc : (24 : Int) ≤ llen s.2.2.2.2.2.2.2.2.2.2.2.1
  · rw [ile_t hc]
    exact ⟨_, _, rfl, h1, h2, rfl⟩
  · rw [ile_f hc]
    have hc : ¬ (24 : Int) ≤ (s.2.2.2.2.2.2.2.2.2.2.2.1.length : Int) := hc
    simp only [cond_false]
    cases ilt 60 (llen l)
    · simp only [cond_false]
      rw [app1 (show s.2.2.2.2.2.2.2.2.2.2.2.1.length ≤ 4294967296 by omega) (show 24 ≤ 16384 by omega)]
      refine ⟨_, _, rfl, ⟨h1.1, h1.2.1, h1.2.2.1, h1.2.2.2.1, h1.2.2.2.2.1, h1.2.2.2.2.2.1, h1.2.2.2.2.2.2.1, h1.2.2.2.2.2.2.2.1, h1.2.2.2.2.2.2.2.2.1, h1.2.2.2.2.2.2.2.2.2.1, h1.2.2.2.2.2.2.2.2.2.2.1, ok_app h1.2.2.2.2.2.2.2.2.2.2.2.1 (ok_one hl) (by simp; omega), h1.2.2.2.2.2.2.2.2.2.2.2.2⟩, ?_, rfl⟩
      show (s.2.2.2.2.2.2.2.2.2.2.2.1 ++ [l]).length ≤ 24
      simp; omega
    · exact ⟨_, _, rfl, h1, h2, rfl⟩
theorem d_submit (hk : FU ≤ k) {s : DSession} {l : List Int} (h : SOk s) (hl : Ok (.sl (.int .u8)) l) : ∃ r b, spec_SubmitPacket.f k (s, l) = some (r, b) ∧ SOk r := by
  obtain ⟨r, b, e, h1, h2, h3⟩ := d_submit' hk h.1 h.2.1 hl
  exact ⟨r, b, e, h1, h2, h3 ▸ h.2.2⟩
/-! ### The windows drawn -/
theorem d_sender (hk : FU ≤ k) {c : Dl1Cur} (h : CurOk c) : ∃ r c', spec_l24DrawSender.f k c = some (r, c') ∧ WOk r ∧ CurOk c' := by
  obtain ⟨a, c1, e1, a0, a1, _, h1⟩ := d_below hk h 12
  have a1 := a1 (by omega)
  have hloop := loop_inv (step := spec_l24DrawSender.s0 k) (fun d => d.1 ≤ 12 ∧ CurOk d.2.1 ∧ WOk (d.2.2.2.1, d.2.2.2.2.2)) (fun d => d.1.toNat) (fun e => CurOk e.1 ∧ WOk (e.2.2.1, e.2.2.2.2))
    (fun d ⟨i0, i1, i2⟩ => by
      unfold spec_l24DrawSender.s0
      by_cases hi : 0 < d.1
      · left
        have hs : isub .i64 d.1 1 = d.1 - 1 := isub_eq (by omega) (by omega)
        obtain ⟨b, c2, e2, h2⟩ := d_once hk i1 3
        rw [ilt_t hi]
        simp only [cond_true, e2, ob_some]
        cases b
        · obtain ⟨x, c3, e3, x0, x1, _, h3⟩ := d_below hk h2 3
          have x1 := x1 (by omega)
          obtain ⟨l, c4, e4, l1, l2, h4⟩ := d_bytes hk h3 (n := x) (by omega)
          obtain ⟨w', p, b, e5, h5⟩ := s_send hk i2 (ok_bytes l1 l2)
          simp only [cond_false, e3, e4, e5, ob_some]
          exact ⟨_, rfl, ⟨by show isub .i64 d.1 1 ≤ 12; omega, h4, h5⟩, by show (isub .i64 d.1 1).toNat < d.1.toNat; omega⟩
        · obtain ⟨x, c3, e3, x0, x1, _, h3⟩ := d_below hk h2 3
          obtain ⟨w', e5, h5⟩ := s_ackBelow hk i2 (isub .i64 d.2.2.2.1 x)
          simp only [cond_true, e3, e5, ob_some]
          exact ⟨_, rfl, ⟨by show isub .i64 d.1 1 ≤ 12; omega, h3, h5⟩, by show (isub .i64 d.1 1).toNat < d.1.toNat; omega⟩
      · right
        rw [ilt_f hi]
        exact ⟨_, rfl, i1, i2⟩) k (a, c1, 0, 1, [], []) ⟨by show a ≤ 12; omega, h1, ⟨okn (n := 1) (by omega), ok_nil _⟩, by simp, by show (1 : Int) ≤ 1; omega, by show (1 : Int) ≤ 100000; omega⟩ (by unfold FU at hk; show a.toNat < k; omega)
  obtain ⟨e, he, q1, q2⟩ := hloop
  unfold spec_l24DrawSender.f
  simp only [e1, ob_some, he]
  exact ⟨_, _, rfl, q2, q1⟩
theorem d_anySender (hk : FU ≤ k) {c : Dl1Cur} (h : CurOk c) : ∃ r c', spec_l24AnySender.f k c = some (r, c') ∧ Ok TSendWindow r ∧ r.2.length ≤ 9 ∧ CurOk c' := by
  obtain ⟨w, c1, e1, hw, h1⟩ := d_sender hk h
  obtain ⟨a, c2, e2, a0, a1, _, h2⟩ := d_below hk h1 8
  unfold spec_l24AnySender.f
  simp only [e1, e2, ob_some]
  cases ieq a 0
  · simp only [cond_false]
    cases ieq a 1
    · exact ⟨_, _, rfl, hw.1, by have := hw.2.1; show w.2.length ≤ 9; omega, h2⟩
    · obtain ⟨x, c3, e3, x0, x1, _, h3⟩ := d_below hk h2 9
      have x1 := x1 (by omega)
      have := hw.2.1
      simp only [cond_true, e3, ob_some]
      rw [app1 (show w.2.length ≤ 4294967296 by omega) (show 32 ≤ 16384 by omega)]
      refine ⟨_, _, rfl, ⟨hw.1.1, ok_app hw.1.2 (ok_one ⟨okn (n := x) (by omega), ok_nil _⟩) (by simp; omega)⟩, ?_, h3⟩
      show (w.2 ++ [_]).length ≤ 9
      simp; omega
  · obtain ⟨v, c3, e3, v1, h3⟩ := d_int hk h2 (l := [0, 100000, 100001, iadd .i64 w.1 1]) (by simp)
    simp only [cond_true, e3, ob_some]
    refine ⟨_, _, rfl, ⟨?_, hw.1.2⟩, by have := hw.2.1; show w.2.length ≤ 9; omega, h3⟩
    simp only [List.mem_cons, List.not_mem_nil, or_false] at v1
    rcases v1 with rfl | rfl | rfl | rfl
    · exact okn (n := 0) (by omega)
    · exact okn (n := 100000) (by omega)
    · exact okn (n := 100001) (by omega)
    · exact ok_add _ _
end
end Go.Proofs.XF
