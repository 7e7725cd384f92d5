/- What the law rests on: part 4 of 4. -/
import Derived.Test.YtphigiidfanbbaaGreatV2
set_option linter.unusedVariables false
set_option linter.unusedSimpArgs false
set_option linter.unusedSectionVars false
/- What each function is to be given and gives. -/
set_option linter.unusedVariables false
set_option maxRecDepth 100000
namespace Go.Proofs.YtphigiidfanbbaaGreat.XS
open Go Go.Proofs.XTv Go.Proofs.XF
def laws_szIntS.ps : List PK := [.val (.sl (.int .i64)) false, .val (.int .i64) false]
def laws_szIntS.rs : List RK := [⟨(.int .i64), false, .own⟩]
def laws_szIntS.con : Con := ⟨laws_szIntS.ps, laws_szIntS.rs, laws_szIntS.f⟩
def laws_szIntS.cx : Cx := { cx0 with con := look [], loop := look [] }
def laws_szCell.ps : List PK := [.val TCell true, .val (.int .i64) false]
def laws_szCell.rs : List RK := [⟨(.int .i64), false, .own⟩]
def laws_szCell.con : Con := ⟨laws_szCell.ps, laws_szCell.rs, laws_szCell.f⟩
def laws_szCell.cx : Cx := { cx0 with con := look [(86, laws_szIntS.con)], loop := look [] }
def laws_szCellS.ps : List PK := [.val (.sl TCell) false, .val (.int .i64) false]
def laws_szCellS.rs : List RK := [⟨(.int .i64), false, .own⟩]
def laws_szCellS.con : Con := ⟨laws_szCellS.ps, laws_szCellS.rs, laws_szCellS.f⟩
def laws_szCellS.cx : Cx := { cx0 with con := look [(48, laws_szCell.con)], loop := look [(5, ⟨⟨[(0, false, [.dat (.sl TCell) [0]]), (1, false, [.dat (.int .i64) []]), (5, false, [.dat (.int .i64) []])], []⟩, [(.exit 0, ⟨[(1, false, [.dat (.int .i64) []])], []⟩), (.ret, ⟨[(4, false, [.dat (.int .i64) []])], []⟩)]⟩)] }
def laws_szCellMap.ps : List PK := [.val (.sl TCell) true, .val (.int .i64) false]
def laws_szCellMap.rs : List RK := [⟨(.int .i64), false, .own⟩]
def laws_szCellMap.con : Con := ⟨laws_szCellMap.ps, laws_szCellMap.rs, laws_szCellMap.f⟩
def laws_szCellMap.cx : Cx := { cx0 with con := look [(28, laws_szCellS.con)], loop := look [] }
def laws_szByteS.ps : List PK := [.val (.sl (.int .u8)) false, .val (.int .i64) false]
def laws_szByteS.rs : List RK := [⟨(.int .i64), false, .own⟩]
def laws_szByteS.con : Con := ⟨laws_szByteS.ps, laws_szByteS.rs, laws_szByteS.f⟩
def laws_szByteS.cx : Cx := { cx0 with con := look [], loop := look [] }
def laws_szPayload.ps : List PK := [.val (.sl (.int .u8)) true, .val (.int .i64) false]
def laws_szPayload.rs : List RK := [⟨(.int .i64), false, .own⟩]
def laws_szPayload.con : Con := ⟨laws_szPayload.ps, laws_szPayload.rs, laws_szPayload.f⟩
def laws_szPayload.cx : Cx := { cx0 with con := look [(105, laws_szByteS.con)], loop := look [] }
def laws_szPayloadS.ps : List PK := [.val (.sl (.sl (.int .u8))) false, .val (.int .i64) false]
def laws_szPayloadS.rs : List RK := [⟨(.int .i64), false, .own⟩]
def laws_szPayloadS.con : Con := ⟨laws_szPayloadS.ps, laws_szPayloadS.rs, laws_szPayloadS.f⟩
def laws_szPayloadS.cx : Cx := { cx0 with con := look [(88, laws_szPayload.con)], loop := look [(5, ⟨⟨[(0, false, [.dat (.sl (.sl (.int .u8))) [0]]), (1, false, [.dat (.int .i64) []]), (5, false, [.dat (.int .i64) []])], []⟩, [(.exit 0, ⟨[(1, false, [.dat (.int .i64) []])], []⟩), (.ret, ⟨[(4, false, [.dat (.int .i64) []])], []⟩)]⟩)] }
def laws_szNumberedPacket.ps : List PK := [.val TNumberedPacket true, .val (.int .i64) false]
def laws_szNumberedPacket.rs : List RK := [⟨(.int .i64), false, .own⟩]
def laws_szNumberedPacket.con : Con := ⟨laws_szNumberedPacket.ps, laws_szNumberedPacket.rs, laws_szNumberedPacket.f⟩
def laws_szNumberedPacket.cx : Cx := { cx0 with con := look [(105, laws_szByteS.con)], loop := look [] }
def laws_szNumberedPacketS.ps : List PK := [.val (.sl TNumberedPacket) false, .val (.int .i64) false]
def laws_szNumberedPacketS.rs : List RK := [⟨(.int .i64), false, .own⟩]
def laws_szNumberedPacketS.con : Con := ⟨laws_szNumberedPacketS.ps, laws_szNumberedPacketS.rs, laws_szNumberedPacketS.f⟩
def laws_szNumberedPacketS.cx : Cx := { cx0 with con := look [(104, laws_szNumberedPacket.con)], loop := look [(5, ⟨⟨[(0, false, [.dat (.sl TNumberedPacket) [0]]), (1, false, [.dat (.int .i64) []]), (5, false, [.dat (.int .i64) []])], []⟩, [(.exit 0, ⟨[(1, false, [.dat (.int .i64) []])], []⟩), (.ret, ⟨[(4, false, [.dat (.int .i64) []])], []⟩)]⟩)] }
def laws_szReceiveWindow.ps : List PK := [.val TReceiveWindow true, .val (.int .i64) false]
def laws_szReceiveWindow.rs : List RK := [⟨(.int .i64), false, .own⟩]
def laws_szReceiveWindow.con : Con := ⟨laws_szReceiveWindow.ps, laws_szReceiveWindow.rs, laws_szReceiveWindow.f⟩
def laws_szReceiveWindow.cx : Cx := { cx0 with con := look [(51, laws_szPayloadS.con), (87, laws_szNumberedPacketS.con)], loop := look [] }
def laws_szDevice.ps : List PK := [.val TDevice true, .val (.int .i64) false]
def laws_szDevice.rs : List RK := [⟨(.int .i64), false, .own⟩]
def laws_szDevice.con : Con := ⟨laws_szDevice.ps, laws_szDevice.rs, laws_szDevice.f⟩
def laws_szDevice.cx : Cx := { cx0 with con := look [(49, laws_szReceiveWindow.con)], loop := look [] }
def laws_szDeviceS.ps : List PK := [.val (.sl TDevice) false, .val (.int .i64) false]
def laws_szDeviceS.rs : List RK := [⟨(.int .i64), false, .own⟩]
def laws_szDeviceS.con : Con := ⟨laws_szDeviceS.ps, laws_szDeviceS.rs, laws_szDeviceS.f⟩
def laws_szDeviceS.cx : Cx := { cx0 with con := look [(29, laws_szDevice.con)], loop := look [(5, ⟨⟨[(0, false, [.dat (.sl TDevice) [0]]), (1, false, [.dat (.int .i64) []]), (5, false, [.dat (.int .i64) []])], []⟩, [(.exit 0, ⟨[(1, false, [.dat (.int .i64) []])], []⟩), (.ret, ⟨[(4, false, [.dat (.int .i64) []])], []⟩)]⟩)] }
def laws_szSubscription.ps : List PK := [.val TSubscription true, .val (.int .i64) false]
def laws_szSubscription.rs : List RK := [⟨(.int .i64), false, .own⟩]
def laws_szSubscription.con : Con := ⟨laws_szSubscription.ps, laws_szSubscription.rs, laws_szSubscription.f⟩
def laws_szSubscription.cx : Cx := { cx0 with con := look [(86, laws_szIntS.con)], loop := look [] }
def laws_szSendWindow.ps : List PK := [.val TSendWindow true, .val (.int .i64) false]
def laws_szSendWindow.rs : List RK := [⟨(.int .i64), false, .own⟩]
def laws_szSendWindow.con : Con := ⟨laws_szSendWindow.ps, laws_szSendWindow.rs, laws_szSendWindow.f⟩
def laws_szSendWindow.cx : Cx := { cx0 with con := look [(87, laws_szNumberedPacketS.con)], loop := look [] }
def laws_szSession.ps : List PK := [.val TSession true, .val (.int .i64) false]
def laws_szSession.rs : List RK := [⟨(.int .i64), false, .own⟩]
def laws_szSession.con : Con := ⟨laws_szSession.ps, laws_szSession.rs, laws_szSession.f⟩
def laws_szSession.cx : Cx := { cx0 with con := look [(50, laws_szSubscription.con), (51, laws_szPayloadS.con), (52, laws_szSendWindow.con)], loop := look [] }
def laws_szSessionS.ps : List PK := [.val (.sl TSession) false, .val (.int .i64) false]
def laws_szSessionS.rs : List RK := [⟨(.int .i64), false, .own⟩]
def laws_szSessionS.con : Con := ⟨laws_szSessionS.ps, laws_szSessionS.rs, laws_szSessionS.f⟩
def laws_szSessionS.cx : Cx := { cx0 with con := look [(30, laws_szSession.con)], loop := look [(5, ⟨⟨[(0, false, [.dat (.sl TSession) [0]]), (1, false, [.dat (.int .i64) []]), (5, false, [.dat (.int .i64) []])], []⟩, [(.exit 0, ⟨[(1, false, [.dat (.int .i64) []])], []⟩), (.ret, ⟨[(4, false, [.dat (.int .i64) []])], []⟩)]⟩)] }
def laws_szReservationS.ps : List PK := [.val (.sl TSubscriberID) false, .val (.int .i64) false]
def laws_szReservationS.rs : List RK := [⟨(.int .i64), false, .own⟩]
def laws_szReservationS.con : Con := ⟨laws_szReservationS.ps, laws_szReservationS.rs, laws_szReservationS.f⟩
def laws_szReservationS.cx : Cx := { cx0 with con := look [], loop := look [] }
def laws_szAccount.ps : List PK := [.val TAccount true, .val (.int .i64) false]
def laws_szAccount.rs : List RK := [⟨(.int .i64), false, .own⟩]
def laws_szAccount.con : Con := ⟨laws_szAccount.ps, laws_szAccount.rs, laws_szAccount.f⟩
def laws_szAccount.cx : Cx := { cx0 with con := look [(53, laws_szReservationS.con)], loop := look [] }
def laws_szAccountS.ps : List PK := [.val (.sl TAccount) false, .val (.int .i64) false]
def laws_szAccountS.rs : List RK := [⟨(.int .i64), false, .own⟩]
def laws_szAccountS.con : Con := ⟨laws_szAccountS.ps, laws_szAccountS.rs, laws_szAccountS.f⟩
def laws_szAccountS.cx : Cx := { cx0 with con := look [(31, laws_szAccount.con)], loop := look [(5, ⟨⟨[(0, false, [.dat (.sl TAccount) [0]]), (1, false, [.dat (.int .i64) []]), (5, false, [.dat (.int .i64) []])], []⟩, [(.exit 0, ⟨[(1, false, [.dat (.int .i64) []])], []⟩), (.ret, ⟨[(4, false, [.dat (.int .i64) []])], []⟩)]⟩)] }
def laws_szSecuredMessage.ps : List PK := [.val TSecuredMessage true, .val (.int .i64) false]
def laws_szSecuredMessage.rs : List RK := [⟨(.int .i64), false, .own⟩]
def laws_szSecuredMessage.con : Con := ⟨laws_szSecuredMessage.ps, laws_szSecuredMessage.rs, laws_szSecuredMessage.f⟩
def laws_szSecuredMessage.cx : Cx := { cx0 with con := look [(105, laws_szByteS.con)], loop := look [] }
def laws_szRadioPacket.ps : List PK := [.val TRadioPacket true, .val (.int .i64) false]
def laws_szRadioPacket.rs : List RK := [⟨(.int .i64), false, .own⟩]
def laws_szRadioPacket.con : Con := ⟨laws_szRadioPacket.ps, laws_szRadioPacket.rs, laws_szRadioPacket.f⟩
def laws_szRadioPacket.cx : Cx := { cx0 with con := look [(89, laws_szSecuredMessage.con)], loop := look [] }
def laws_szFlight.ps : List PK := [.val TFlight true, .val (.int .i64) false]
def laws_szFlight.rs : List RK := [⟨(.int .i64), false, .own⟩]
def laws_szFlight.con : Con := ⟨laws_szFlight.ps, laws_szFlight.rs, laws_szFlight.f⟩
def laws_szFlight.cx : Cx := { cx0 with con := look [(54, laws_szRadioPacket.con)], loop := look [] }
def laws_szFlightS.ps : List PK := [.val (.sl TFlight) false, .val (.int .i64) false]
def laws_szFlightS.rs : List RK := [⟨(.int .i64), false, .own⟩]
def laws_szFlightS.con : Con := ⟨laws_szFlightS.ps, laws_szFlightS.rs, laws_szFlightS.f⟩
def laws_szFlightS.cx : Cx := { cx0 with con := look [(32, laws_szFlight.con)], loop := look [(5, ⟨⟨[(0, false, [.dat (.sl TFlight) [0]]), (1, false, [.dat (.int .i64) []]), (5, false, [.dat (.int .i64) []])], []⟩, [(.exit 0, ⟨[(1, false, [.dat (.int .i64) []])], []⟩), (.ret, ⟨[(4, false, [.dat (.int .i64) []])], []⟩)]⟩)] }
def laws_szNetwork.ps : List PK := [.val TNetwork true, .val (.int .i64) false]
def laws_szNetwork.rs : List RK := [⟨(.int .i64), false, .own⟩]
def laws_szNetwork.con : Con := ⟨laws_szNetwork.ps, laws_szNetwork.rs, laws_szNetwork.f⟩
def laws_szNetwork.cx : Cx := { cx0 with con := look [(9, laws_szCellMap.con), (10, laws_szDeviceS.con), (11, laws_szSessionS.con), (12, laws_szAccountS.con), (13, laws_szFlightS.con)], loop := look [] }
def spec_l1In.ps : List PK := [.val (.int .i64) false, .val (.int .i64) false, .val (.int .i64) false]
def spec_l1In.rs : List RK := [⟨.bool, false, .own⟩]
def spec_l1In.con : Con := ⟨spec_l1In.ps, spec_l1In.rs, spec_l1In.f⟩
def spec_l1In.cx : Cx := { cx0 with con := look [], loop := look [] }
def spec_IsValidPool.ps : List PK := [.val TSubscriberID true]
def spec_IsValidPool.rs : List RK := [⟨.bool, false, .own⟩]
def spec_IsValidPool.con : Con := ⟨spec_IsValidPool.ps, spec_IsValidPool.rs, spec_IsValidPool.f⟩
def spec_IsValidPool.cx : Cx := { cx0 with con := look [(56, spec_l1In.con)], loop := look [] }
def spec_IsServerUp.ps : List PK := [.val TSubscriberID true, .val (.int .i64) false]
def spec_IsServerUp.rs : List RK := [⟨.bool, false, .own⟩]
def spec_IsServerUp.con : Con := ⟨spec_IsServerUp.ps, spec_IsServerUp.rs, spec_IsServerUp.f⟩
def spec_IsServerUp.cx : Cx := { cx0 with con := look [(55, spec_IsValidPool.con), (56, spec_l1In.con)], loop := look [] }
def spec_Mod.ps : List PK := [.val (.int .i64) false, .val (.int .i64) false]
def spec_Mod.rs : List RK := [⟨(.int .i64), false, .own⟩]
def spec_Mod.con : Con := ⟨spec_Mod.ps, spec_Mod.rs, spec_Mod.f⟩
def spec_Mod.cx : Cx := { cx0 with con := look [(56, spec_l1In.con)], loop := look [] }
def spec_Hash.ps : List PK := [.val (.sl (.int .i64)) false]
def spec_Hash.rs : List RK := [⟨(.int .i64), false, .own⟩]
def spec_Hash.con : Con := ⟨spec_Hash.ps, spec_Hash.rs, spec_Hash.f⟩
def spec_Hash.cx : Cx := { cx0 with con := look [(106, spec_Mod.con)], loop := look [(3, ⟨⟨[(0, false, [.dat (.sl (.int .i64)) [0]]), (3, false, [.dat (.int .i64) []]), (4, false, [.dat (.int .i64) []])], []⟩, [(.exit 0, ⟨[(3, false, [.dat (.int .i64) []])], []⟩)]⟩)] }
def spec_KeyedHash.ps : List PK := [.val (.int .i64) false, .val (.sl (.int .i64)) false]
def spec_KeyedHash.rs : List RK := [⟨(.int .i64), false, .own⟩]
def spec_KeyedHash.con : Con := ⟨spec_KeyedHash.ps, spec_KeyedHash.rs, spec_KeyedHash.f⟩
def spec_KeyedHash.cx : Cx := { cx0 with con := look [(90, spec_Hash.con)], loop := look [] }
def spec_RendezvousWeight.ps : List PK := [.val (.int .i64) false, .val (.int .i64) false]
def spec_RendezvousWeight.rs : List RK := [⟨(.int .i64), false, .own⟩]
def spec_RendezvousWeight.con : Con := ⟨spec_RendezvousWeight.ps, spec_RendezvousWeight.rs, spec_RendezvousWeight.f⟩
def spec_RendezvousWeight.cx : Cx := { cx0 with con := look [(57, spec_KeyedHash.con)], loop := look [] }
def spec_SelectServer.ps : List PK := [.val TSubscriberID true, .val (.int .i64) false]
def spec_SelectServer.rs : List RK := [⟨(.int .i64), false, .own⟩]
def spec_SelectServer.con : Con := ⟨spec_SelectServer.ps, spec_SelectServer.rs, spec_SelectServer.f⟩
def spec_SelectServer.cx : Cx := { cx0 with con := look [(33, spec_IsServerUp.con), (34, spec_RendezvousWeight.con)], loop := look [(3, ⟨⟨[(1, false, [.dat (.int .i64) []]), (2, false, [.ptr 768 0]), (5, false, [.dat (.int .i64) []]), (6, false, [.dat (.int .i64) []])], [(768, .box [.dat TSubscriberID []])]⟩, [(.exit 0, ⟨[(5, false, [.dat (.int .i64) []])], []⟩)]⟩)] }
def spec_ServerFor.ps : List PK := [.val TNetwork true, .val (.int .i64) false]
def spec_ServerFor.rs : List RK := [⟨(.int .i64), false, .own⟩]
def spec_ServerFor.con : Con := ⟨spec_ServerFor.ps, spec_ServerFor.rs, spec_ServerFor.f⟩
def spec_ServerFor.cx : Cx := { cx0 with con := look [(14, spec_SelectServer.con)], loop := look [] }
def laws_toIntS.ps : List PK := [.val (.sl (.int .i64)) false]
def laws_toIntS.rs : List RK := [⟨(.sl (.int .i64)), false, .own⟩]
def laws_toIntS.con : Con := ⟨laws_toIntS.ps, laws_toIntS.rs, laws_toIntS.f⟩
def laws_toIntS.cx : Cx := { cx0 with con := look [], loop := look [(3, ⟨⟨[(0, false, [.dat (.sl (.int .i64)) [0]]), (3, false, [.own 1279]), (4, false, [.dat (.int .i64) []])], [(1279, .arr (.int .i64) true [])]⟩, [(.exit 0, ⟨[(3, false, [.own 1279])], [(1279, .arr (.int .i64) true [])]⟩)]⟩)] }
def laws_toCell.ps : List PK := [.val TCell true]
def laws_toCell.rs : List RK := [⟨TCell, true, .own⟩]
def laws_toCell.con : Con := ⟨laws_toCell.ps, laws_toCell.rs, laws_toCell.f⟩
def laws_toCell.cx : Cx := { cx0 with con := look [(91, laws_toIntS.con)], loop := look [] }
def laws_toCellS.ps : List PK := [.val (.sl TCell) false]
def laws_toCellS.rs : List RK := [⟨(.sl TCell), false, .own⟩]
def laws_toCellS.con : Con := ⟨laws_toCellS.ps, laws_toCellS.rs, laws_toCellS.f⟩
def laws_toCellS.cx : Cx := { cx0 with con := look [(58, laws_toCell.con)], loop := look [(3, ⟨⟨[(0, false, [.dat (.sl TCell) [0]]), (3, false, [.own 1279]), (4, false, [.dat (.int .i64) []])], [(1279, .arr TCell true [])]⟩, [(.exit 0, ⟨[(3, false, [.own 1279])], [(1279, .arr TCell true [])]⟩)]⟩)] }
def laws_toCellMap.ps : List PK := [.val (.sl TCell) true]
def laws_toCellMap.rs : List RK := [⟨(.sl TCell), true, .own⟩]
def laws_toCellMap.con : Con := ⟨laws_toCellMap.ps, laws_toCellMap.rs, laws_toCellMap.f⟩
def laws_toCellMap.cx : Cx := { cx0 with con := look [(35, laws_toCellS.con)], loop := look [] }
def laws_toSubscriberID.ps : List PK := [.val TSubscriberID true]
def laws_toSubscriberID.rs : List RK := [⟨TSubscriberID, true, .own⟩]
def laws_toSubscriberID.con : Con := ⟨laws_toSubscriberID.ps, laws_toSubscriberID.rs, laws_toSubscriberID.f⟩
def laws_toSubscriberID.cx : Cx := { cx0 with con := look [], loop := look [] }
def laws_toUSIM.ps : List PK := [.val TUSIM true]
def laws_toUSIM.rs : List RK := [⟨TUSIM, true, .own⟩]
def laws_toUSIM.con : Con := ⟨laws_toUSIM.ps, laws_toUSIM.rs, laws_toUSIM.f⟩
def laws_toUSIM.cx : Cx := { cx0 with con := look [(92, laws_toSubscriberID.con)], loop := look [] }
def laws_toByteS.ps : List PK := [.val (.sl (.int .u8)) false]
def laws_toByteS.rs : List RK := [⟨(.sl (.int .u8)), false, .own⟩]
def laws_toByteS.con : Con := ⟨laws_toByteS.ps, laws_toByteS.rs, laws_toByteS.f⟩
def laws_toByteS.cx : Cx := { cx0 with con := look [], loop := look [(3, ⟨⟨[(0, false, [.dat (.sl (.int .u8)) [0]]), (3, false, [.own 1279]), (4, false, [.dat (.int .i64) []])], [(1279, .arr (.int .u8) true [])]⟩, [(.exit 0, ⟨[(3, false, [.own 1279])], [(1279, .arr (.int .u8) true [])]⟩)]⟩)] }
def laws_toPayload.ps : List PK := [.val (.sl (.int .u8)) true]
def laws_toPayload.rs : List RK := [⟨(.sl (.int .u8)), true, .own⟩]
def laws_toPayload.con : Con := ⟨laws_toPayload.ps, laws_toPayload.rs, laws_toPayload.f⟩
def laws_toPayload.cx : Cx := { cx0 with con := look [(108, laws_toByteS.con)], loop := look [] }
def laws_toPayloadS.ps : List PK := [.val (.sl (.sl (.int .u8))) false]
def laws_toPayloadS.rs : List RK := [⟨(.sl (.sl (.int .u8))), false, .own⟩]
def laws_toPayloadS.con : Con := ⟨laws_toPayloadS.ps, laws_toPayloadS.rs, laws_toPayloadS.f⟩
def laws_toPayloadS.cx : Cx := { cx0 with con := look [(94, laws_toPayload.con)], loop := look [(3, ⟨⟨[(0, false, [.dat (.sl (.sl (.int .u8))) [0]]), (3, false, [.own 1279]), (4, false, [.dat (.int .i64) []])], [(1279, .arr (.sl (.int .u8)) true [])]⟩, [(.exit 0, ⟨[(3, false, [.own 1279])], [(1279, .arr (.sl (.int .u8)) true [])]⟩)]⟩)] }
def laws_toNumberedPacket.ps : List PK := [.val TNumberedPacket true]
def laws_toNumberedPacket.rs : List RK := [⟨TNumberedPacket, true, .own⟩]
def laws_toNumberedPacket.con : Con := ⟨laws_toNumberedPacket.ps, laws_toNumberedPacket.rs, laws_toNumberedPacket.f⟩
def laws_toNumberedPacket.cx : Cx := { cx0 with con := look [(108, laws_toByteS.con)], loop := look [] }
def laws_toNumberedPacketS.ps : List PK := [.val (.sl TNumberedPacket) false]
def laws_toNumberedPacketS.rs : List RK := [⟨(.sl TNumberedPacket), false, .own⟩]
def laws_toNumberedPacketS.con : Con := ⟨laws_toNumberedPacketS.ps, laws_toNumberedPacketS.rs, laws_toNumberedPacketS.f⟩
def laws_toNumberedPacketS.cx : Cx := { cx0 with con := look [(107, laws_toNumberedPacket.con)], loop := look [(3, ⟨⟨[(0, false, [.dat (.sl TNumberedPacket) [0]]), (3, false, [.own 1279]), (4, false, [.dat (.int .i64) []])], [(1279, .arr TNumberedPacket true [])]⟩, [(.exit 0, ⟨[(3, false, [.own 1279])], [(1279, .arr TNumberedPacket true [])]⟩)]⟩)] }
def laws_toReceiveWindow.ps : List PK := [.val TReceiveWindow true]
def laws_toReceiveWindow.rs : List RK := [⟨TReceiveWindow, true, .own⟩]
def laws_toReceiveWindow.con : Con := ⟨laws_toReceiveWindow.ps, laws_toReceiveWindow.rs, laws_toReceiveWindow.f⟩
def laws_toReceiveWindow.cx : Cx := { cx0 with con := look [(65, laws_toPayloadS.con), (93, laws_toNumberedPacketS.con)], loop := look [] }
def laws_toDevice.ps : List PK := [.val TDevice true]
def laws_toDevice.rs : List RK := [⟨TDevice, true, .own⟩]
def laws_toDevice.con : Con := ⟨laws_toDevice.ps, laws_toDevice.rs, laws_toDevice.f⟩
def laws_toDevice.cx : Cx := { cx0 with con := look [(59, laws_toUSIM.con), (60, laws_toReceiveWindow.con)], loop := look [] }
def laws_toDeviceS.ps : List PK := [.val (.sl TDevice) false]
def laws_toDeviceS.rs : List RK := [⟨(.sl TDevice), false, .own⟩]
def laws_toDeviceS.con : Con := ⟨laws_toDeviceS.ps, laws_toDeviceS.rs, laws_toDeviceS.f⟩
def laws_toDeviceS.cx : Cx := { cx0 with con := look [(36, laws_toDevice.con)], loop := look [(3, ⟨⟨[(0, false, [.dat (.sl TDevice) [0]]), (3, false, [.own 1279]), (4, false, [.dat (.int .i64) []])], [(1279, .arr TDevice true [])]⟩, [(.exit 0, ⟨[(3, false, [.own 1279])], [(1279, .arr TDevice true [])]⟩)]⟩)] }
def laws_toSubscriberRecord.ps : List PK := [.val TUSIM true]
def laws_toSubscriberRecord.rs : List RK := [⟨TUSIM, true, .own⟩]
def laws_toSubscriberRecord.con : Con := ⟨laws_toSubscriberRecord.ps, laws_toSubscriberRecord.rs, laws_toSubscriberRecord.f⟩
def laws_toSubscriberRecord.cx : Cx := { cx0 with con := look [(92, laws_toSubscriberID.con)], loop := look [] }
def laws_toSubscription.ps : List PK := [.val TSubscription true]
def laws_toSubscription.rs : List RK := [⟨TSubscription, true, .own⟩]
def laws_toSubscription.con : Con := ⟨laws_toSubscription.ps, laws_toSubscription.rs, laws_toSubscription.f⟩
def laws_toSubscription.cx : Cx := { cx0 with con := look [(91, laws_toIntS.con)], loop := look [] }
def laws_toAuthVector.ps : List PK := [.val TAuthVector true]
def laws_toAuthVector.rs : List RK := [⟨TAuthVector, true, .own⟩]
def laws_toAuthVector.con : Con := ⟨laws_toAuthVector.ps, laws_toAuthVector.rs, laws_toAuthVector.f⟩
def laws_toAuthVector.cx : Cx := { cx0 with con := look [], loop := look [] }
def laws_toPagingState.ps : List PK := [.val TQuota true]
def laws_toPagingState.rs : List RK := [⟨TQuota, true, .own⟩]
def laws_toPagingState.con : Con := ⟨laws_toPagingState.ps, laws_toPagingState.rs, laws_toPagingState.f⟩
def laws_toPagingState.cx : Cx := { cx0 with con := look [], loop := look [] }
def laws_toSendWindow.ps : List PK := [.val TSendWindow true]
def laws_toSendWindow.rs : List RK := [⟨TSendWindow, true, .own⟩]
def laws_toSendWindow.con : Con := ⟨laws_toSendWindow.ps, laws_toSendWindow.rs, laws_toSendWindow.f⟩
def laws_toSendWindow.cx : Cx := { cx0 with con := look [(93, laws_toNumberedPacketS.con)], loop := look [] }
def laws_toQuota.ps : List PK := [.val TQuota true]
def laws_toQuota.rs : List RK := [⟨TQuota, true, .own⟩]
def laws_toQuota.con : Con := ⟨laws_toQuota.ps, laws_toQuota.rs, laws_toQuota.f⟩
def laws_toQuota.cx : Cx := { cx0 with con := look [], loop := look [] }
def laws_toSession.ps : List PK := [.val TSession true]
def laws_toSession.rs : List RK := [⟨TSession, true, .own⟩]
def laws_toSession.con : Con := ⟨laws_toSession.ps, laws_toSession.rs, laws_toSession.f⟩
def laws_toSession.cx : Cx := { cx0 with con := look [(61, laws_toSubscriberRecord.con), (62, laws_toSubscription.con), (63, laws_toAuthVector.con), (64, laws_toPagingState.con), (65, laws_toPayloadS.con), (66, laws_toSendWindow.con), (67, laws_toQuota.con)], loop := look [] }
def laws_toSessionS.ps : List PK := [.val (.sl TSession) false]
def laws_toSessionS.rs : List RK := [⟨(.sl TSession), false, .own⟩]
def laws_toSessionS.con : Con := ⟨laws_toSessionS.ps, laws_toSessionS.rs, laws_toSessionS.f⟩
def laws_toSessionS.cx : Cx := { cx0 with con := look [(37, laws_toSession.con)], loop := look [(3, ⟨⟨[(0, false, [.dat (.sl TSession) [0]]), (3, false, [.own 1279]), (4, false, [.dat (.int .i64) []])], [(1279, .arr TSession true [])]⟩, [(.exit 0, ⟨[(3, false, [.own 1279])], [(1279, .arr TSession true [])]⟩)]⟩)] }
def laws_toReservation.ps : List PK := [.val TSubscriberID true]
def laws_toReservation.rs : List RK := [⟨TSubscriberID, true, .own⟩]
def laws_toReservation.con : Con := ⟨laws_toReservation.ps, laws_toReservation.rs, laws_toReservation.f⟩
def laws_toReservation.cx : Cx := { cx0 with con := look [], loop := look [] }
def laws_toReservationS.ps : List PK := [.val (.sl TSubscriberID) false]
def laws_toReservationS.rs : List RK := [⟨(.sl TSubscriberID), false, .own⟩]
def laws_toReservationS.con : Con := ⟨laws_toReservationS.ps, laws_toReservationS.rs, laws_toReservationS.f⟩
def laws_toReservationS.cx : Cx := { cx0 with con := look [(95, laws_toReservation.con)], loop := look [(3, ⟨⟨[(0, false, [.dat (.sl TSubscriberID) [0]]), (3, false, [.own 1279]), (4, false, [.dat (.int .i64) []])], [(1279, .arr TSubscriberID true [])]⟩, [(.exit 0, ⟨[(3, false, [.own 1279])], [(1279, .arr TSubscriberID true [])]⟩)]⟩)] }
def laws_toAccount.ps : List PK := [.val TAccount true]
def laws_toAccount.rs : List RK := [⟨TAccount, true, .own⟩]
def laws_toAccount.con : Con := ⟨laws_toAccount.ps, laws_toAccount.rs, laws_toAccount.f⟩
def laws_toAccount.cx : Cx := { cx0 with con := look [(68, laws_toReservationS.con)], loop := look [] }
def laws_toAccountS.ps : List PK := [.val (.sl TAccount) false]
def laws_toAccountS.rs : List RK := [⟨(.sl TAccount), false, .own⟩]
def laws_toAccountS.con : Con := ⟨laws_toAccountS.ps, laws_toAccountS.rs, laws_toAccountS.f⟩
def laws_toAccountS.cx : Cx := { cx0 with con := look [(38, laws_toAccount.con)], loop := look [(3, ⟨⟨[(0, false, [.dat (.sl TAccount) [0]]), (3, false, [.own 1279]), (4, false, [.dat (.int .i64) []])], [(1279, .arr TAccount true [])]⟩, [(.exit 0, ⟨[(3, false, [.own 1279])], [(1279, .arr TAccount true [])]⟩)]⟩)] }
def laws_toSignal.ps : List PK := [.val TSignal true]
def laws_toSignal.rs : List RK := [⟨TSignal, true, .own⟩]
def laws_toSignal.con : Con := ⟨laws_toSignal.ps, laws_toSignal.rs, laws_toSignal.f⟩
def laws_toSignal.cx : Cx := { cx0 with con := look [(63, laws_toAuthVector.con)], loop := look [] }
def laws_toSecuredMessage.ps : List PK := [.val TSecuredMessage true]
def laws_toSecuredMessage.rs : List RK := [⟨TSecuredMessage, true, .own⟩]
def laws_toSecuredMessage.con : Con := ⟨laws_toSecuredMessage.ps, laws_toSecuredMessage.rs, laws_toSecuredMessage.f⟩
def laws_toSecuredMessage.cx : Cx := { cx0 with con := look [(108, laws_toByteS.con)], loop := look [] }
def laws_toRadioPacket.ps : List PK := [.val TRadioPacket true]
def laws_toRadioPacket.rs : List RK := [⟨TRadioPacket, true, .own⟩]
def laws_toRadioPacket.con : Con := ⟨laws_toRadioPacket.ps, laws_toRadioPacket.rs, laws_toRadioPacket.f⟩
def laws_toRadioPacket.cx : Cx := { cx0 with con := look [(96, laws_toSecuredMessage.con)], loop := look [] }
def laws_toFlight.ps : List PK := [.val TFlight true]
def laws_toFlight.rs : List RK := [⟨TFlight, true, .own⟩]
def laws_toFlight.con : Con := ⟨laws_toFlight.ps, laws_toFlight.rs, laws_toFlight.f⟩
def laws_toFlight.cx : Cx := { cx0 with con := look [(69, laws_toSignal.con), (70, laws_toRadioPacket.con)], loop := look [] }
def laws_toFlightS.ps : List PK := [.val (.sl TFlight) false]
def laws_toFlightS.rs : List RK := [⟨(.sl TFlight), false, .own⟩]
def laws_toFlightS.con : Con := ⟨laws_toFlightS.ps, laws_toFlightS.rs, laws_toFlightS.f⟩
def laws_toFlightS.cx : Cx := { cx0 with con := look [(39, laws_toFlight.con)], loop := look [(3, ⟨⟨[(0, false, [.dat (.sl TFlight) [0]]), (3, false, [.own 1279]), (4, false, [.dat (.int .i64) []])], [(1279, .arr TFlight true [])]⟩, [(.exit 0, ⟨[(3, false, [.own 1279])], [(1279, .arr TFlight true [])]⟩)]⟩)] }
def laws_toServerPool.ps : List PK := [.val TSubscriberID true]
def laws_toServerPool.rs : List RK := [⟨TSubscriberID, true, .own⟩]
def laws_toServerPool.con : Con := ⟨laws_toServerPool.ps, laws_toServerPool.rs, laws_toServerPool.f⟩
def laws_toServerPool.cx : Cx := { cx0 with con := look [], loop := look [] }
def laws_toNetwork.ps : List PK := [.val TNetwork true]
def laws_toNetwork.rs : List RK := [⟨TNetwork, true, .own⟩]
def laws_toNetwork.con : Con := ⟨laws_toNetwork.ps, laws_toNetwork.rs, laws_toNetwork.f⟩
def laws_toNetwork.cx : Cx := { cx0 with con := look [(15, laws_toCellMap.con), (16, laws_toDeviceS.con), (17, laws_toSessionS.con), (18, laws_toAccountS.con), (19, laws_toFlightS.con), (20, laws_toServerPool.con)], loop := look [] }
def impl_InRange.ps : List PK := [.val (.int .i64) false, .val (.int .i64) false, .val (.int .i64) false]
def impl_InRange.rs : List RK := [⟨.bool, false, .own⟩]
def impl_InRange.con : Con := ⟨impl_InRange.ps, impl_InRange.rs, impl_InRange.f⟩
def impl_InRange.cx : Cx := { cx0 with con := look [], loop := look [] }
def impl_IsValidPool.ps : List PK := [.val TSubscriberID true]
def impl_IsValidPool.rs : List RK := [⟨.bool, false, .own⟩]
def impl_IsValidPool.con : Con := ⟨impl_IsValidPool.ps, impl_IsValidPool.rs, impl_IsValidPool.f⟩
def impl_IsValidPool.cx : Cx := { cx0 with con := look [(71, impl_InRange.con)], loop := look [] }
def impl_IsServerUp.ps : List PK := [.val TSubscriberID true, .val (.int .i64) false]
def impl_IsServerUp.rs : List RK := [⟨.bool, false, .own⟩]
def impl_IsServerUp.con : Con := ⟨impl_IsServerUp.ps, impl_IsServerUp.rs, impl_IsServerUp.f⟩
def impl_IsServerUp.cx : Cx := { cx0 with con := look [(40, impl_IsValidPool.con), (71, impl_InRange.con)], loop := look [] }
def impl_Mod.ps : List PK := [.val (.int .i64) false, .val (.int .i64) false]
def impl_Mod.rs : List RK := [⟨(.int .i64), false, .own⟩]
def impl_Mod.con : Con := ⟨impl_Mod.ps, impl_Mod.rs, impl_Mod.f⟩
def impl_Mod.cx : Cx := { cx0 with con := look [(71, impl_InRange.con)], loop := look [] }
def impl_hashStep.ps : List PK := [.val (.int .i64) false, .val (.int .i64) false]
def impl_hashStep.rs : List RK := [⟨(.int .i64), false, .own⟩]
def impl_hashStep.con : Con := ⟨impl_hashStep.ps, impl_hashStep.rs, impl_hashStep.f⟩
def impl_hashStep.cx : Cx := { cx0 with con := look [(109, impl_Mod.con)], loop := look [] }
def impl_KeyedHash.ps : List PK := [.val (.int .i64) false, .val (.sl (.int .i64)) false]
def impl_KeyedHash.rs : List RK := [⟨(.int .i64), false, .own⟩]
def impl_KeyedHash.con : Con := ⟨impl_KeyedHash.ps, impl_KeyedHash.rs, impl_KeyedHash.f⟩
def impl_KeyedHash.cx : Cx := { cx0 with con := look [(97, impl_hashStep.con)], loop := look [(3, ⟨⟨[(0, false, [.dat (.int .i64) []]), (5, false, [.dat (.int .i64) []]), (10, false, [.dat (.sl (.int .i64)) [0]]), (11, false, [.dat (.int .i64) []]), (12, false, [.dat (.int .i64) []])], []⟩, [(.exit 0, ⟨[(0, false, [.dat (.int .i64) []]), (5, false, [.dat (.int .i64) []])], []⟩)]⟩)] }
def impl_RendezvousWeight.ps : List PK := [.val (.int .i64) false, .val (.int .i64) false]
def impl_RendezvousWeight.rs : List RK := [⟨(.int .i64), false, .own⟩]
def impl_RendezvousWeight.con : Con := ⟨impl_RendezvousWeight.ps, impl_RendezvousWeight.rs, impl_RendezvousWeight.f⟩
def impl_RendezvousWeight.cx : Cx := { cx0 with con := look [(72, impl_KeyedHash.con)], loop := look [] }
def impl_SelectServer.ps : List PK := [.val TSubscriberID true, .val (.int .i64) false]
def impl_SelectServer.rs : List RK := [⟨(.int .i64), false, .own⟩]
def impl_SelectServer.con : Con := ⟨impl_SelectServer.ps, impl_SelectServer.rs, impl_SelectServer.f⟩
def impl_SelectServer.cx : Cx := { cx0 with con := look [(40, impl_IsValidPool.con), (41, impl_IsServerUp.con), (42, impl_RendezvousWeight.con)], loop := look [(6, ⟨⟨[(1, false, [.dat (.int .i64) []]), (2, false, [.ptr 768 0]), (5, false, [.dat (.int .i64) []]), (6, false, [.dat (.int .i64) []]), (7, false, [.dat (.int .i64) []])], [(768, .box [.dat TSubscriberID []])]⟩, [(.exit 0, ⟨[(5, false, [.dat (.int .i64) []])], []⟩)]⟩)] }
def impl_ServerFor.ps : List PK := [.val TNetwork true, .val (.int .i64) false]
def impl_ServerFor.rs : List RK := [⟨(.int .i64), false, .own⟩]
def impl_ServerFor.con : Con := ⟨impl_ServerFor.ps, impl_ServerFor.rs, impl_ServerFor.f⟩
def impl_ServerFor.cx : Cx := { cx0 with con := look [(21, impl_SelectServer.con)], loop := look [] }
def laws_eqIntS.ps : List PK := [.val (.sl (.int .i64)) false, .val (.sl (.int .i64)) false]
def laws_eqIntS.rs : List RK := [⟨.bool, false, .own⟩]
def laws_eqIntS.con : Con := ⟨laws_eqIntS.ps, laws_eqIntS.rs, laws_eqIntS.f⟩
def laws_eqIntS.cx : Cx := { cx0 with con := look [], loop := look [(4, ⟨⟨[(0, false, [.dat (.sl (.int .i64)) [0]]), (1, false, [.dat (.sl (.int .i64)) [0]]), (5, false, [.dat (.int .i64) []])], []⟩, [(.exit 0, ⟨[], []⟩), (.ret, ⟨[(4, false, [.dat .bool []])], []⟩)]⟩)] }
def laws_eqCell.ps : List PK := [.val TCell true, .val TCell true]
def laws_eqCell.rs : List RK := [⟨.bool, false, .own⟩]
def laws_eqCell.con : Con := ⟨laws_eqCell.ps, laws_eqCell.rs, laws_eqCell.f⟩
def laws_eqCell.cx : Cx := { cx0 with con := look [(98, laws_eqIntS.con)], loop := look [] }
def laws_eqCellS.ps : List PK := [.val (.sl TCell) false, .val (.sl TCell) false]
def laws_eqCellS.rs : List RK := [⟨.bool, false, .own⟩]
def laws_eqCellS.con : Con := ⟨laws_eqCellS.ps, laws_eqCellS.rs, laws_eqCellS.f⟩
def laws_eqCellS.cx : Cx := { cx0 with con := look [(73, laws_eqCell.con)], loop := look [(4, ⟨⟨[(0, false, [.dat (.sl TCell) [0]]), (1, false, [.dat (.sl TCell) [0]]), (5, false, [.dat (.int .i64) []])], []⟩, [(.exit 0, ⟨[], []⟩), (.ret, ⟨[(4, false, [.dat .bool []])], []⟩)]⟩)] }
def laws_eqCellMap.ps : List PK := [.val (.sl TCell) true, .val (.sl TCell) true]
def laws_eqCellMap.rs : List RK := [⟨.bool, false, .own⟩]
def laws_eqCellMap.con : Con := ⟨laws_eqCellMap.ps, laws_eqCellMap.rs, laws_eqCellMap.f⟩
def laws_eqCellMap.cx : Cx := { cx0 with con := look [(43, laws_eqCellS.con)], loop := look [] }
def laws_eqSubscriberID.ps : List PK := [.val TSubscriberID true, .val TSubscriberID true]
def laws_eqSubscriberID.rs : List RK := [⟨.bool, false, .own⟩]
def laws_eqSubscriberID.con : Con := ⟨laws_eqSubscriberID.ps, laws_eqSubscriberID.rs, laws_eqSubscriberID.f⟩
def laws_eqSubscriberID.cx : Cx := { cx0 with con := look [], loop := look [] }
def laws_eqUSIM.ps : List PK := [.val TUSIM true, .val TUSIM true]
def laws_eqUSIM.rs : List RK := [⟨.bool, false, .own⟩]
def laws_eqUSIM.con : Con := ⟨laws_eqUSIM.ps, laws_eqUSIM.rs, laws_eqUSIM.f⟩
def laws_eqUSIM.cx : Cx := { cx0 with con := look [(99, laws_eqSubscriberID.con)], loop := look [] }
def laws_eqByteS.ps : List PK := [.val (.sl (.int .u8)) false, .val (.sl (.int .u8)) false]
def laws_eqByteS.rs : List RK := [⟨.bool, false, .own⟩]
def laws_eqByteS.con : Con := ⟨laws_eqByteS.ps, laws_eqByteS.rs, laws_eqByteS.f⟩
def laws_eqByteS.cx : Cx := { cx0 with con := look [], loop := look [(4, ⟨⟨[(0, false, [.dat (.sl (.int .u8)) [0]]), (1, false, [.dat (.sl (.int .u8)) [0]]), (5, false, [.dat (.int .i64) []])], []⟩, [(.exit 0, ⟨[], []⟩), (.ret, ⟨[(4, false, [.dat .bool []])], []⟩)]⟩)] }
def laws_eqPayload.ps : List PK := [.val (.sl (.int .u8)) true, .val (.sl (.int .u8)) true]
def laws_eqPayload.rs : List RK := [⟨.bool, false, .own⟩]
def laws_eqPayload.con : Con := ⟨laws_eqPayload.ps, laws_eqPayload.rs, laws_eqPayload.f⟩
def laws_eqPayload.cx : Cx := { cx0 with con := look [(111, laws_eqByteS.con)], loop := look [] }
def laws_eqPayloadS.ps : List PK := [.val (.sl (.sl (.int .u8))) false, .val (.sl (.sl (.int .u8))) false]
def laws_eqPayloadS.rs : List RK := [⟨.bool, false, .own⟩]
def laws_eqPayloadS.con : Con := ⟨laws_eqPayloadS.ps, laws_eqPayloadS.rs, laws_eqPayloadS.f⟩
def laws_eqPayloadS.cx : Cx := { cx0 with con := look [(101, laws_eqPayload.con)], loop := look [(4, ⟨⟨[(0, false, [.dat (.sl (.sl (.int .u8))) [0]]), (1, false, [.dat (.sl (.sl (.int .u8))) [0]]), (5, false, [.dat (.int .i64) []])], []⟩, [(.exit 0, ⟨[], []⟩), (.ret, ⟨[(4, false, [.dat .bool []])], []⟩)]⟩)] }
def laws_eqNumberedPacket.ps : List PK := [.val TNumberedPacket true, .val TNumberedPacket true]
def laws_eqNumberedPacket.rs : List RK := [⟨.bool, false, .own⟩]
def laws_eqNumberedPacket.con : Con := ⟨laws_eqNumberedPacket.ps, laws_eqNumberedPacket.rs, laws_eqNumberedPacket.f⟩
def laws_eqNumberedPacket.cx : Cx := { cx0 with con := look [(111, laws_eqByteS.con)], loop := look [] }
def laws_eqNumberedPacketS.ps : List PK := [.val (.sl TNumberedPacket) false, .val (.sl TNumberedPacket) false]
def laws_eqNumberedPacketS.rs : List RK := [⟨.bool, false, .own⟩]
def laws_eqNumberedPacketS.con : Con := ⟨laws_eqNumberedPacketS.ps, laws_eqNumberedPacketS.rs, laws_eqNumberedPacketS.f⟩
def laws_eqNumberedPacketS.cx : Cx := { cx0 with con := look [(110, laws_eqNumberedPacket.con)], loop := look [(4, ⟨⟨[(0, false, [.dat (.sl TNumberedPacket) [0]]), (1, false, [.dat (.sl TNumberedPacket) [0]]), (5, false, [.dat (.int .i64) []])], []⟩, [(.exit 0, ⟨[], []⟩), (.ret, ⟨[(4, false, [.dat .bool []])], []⟩)]⟩)] }
def laws_eqReceiveWindow.ps : List PK := [.val TReceiveWindow true, .val TReceiveWindow true]
def laws_eqReceiveWindow.rs : List RK := [⟨.bool, false, .own⟩]
def laws_eqReceiveWindow.con : Con := ⟨laws_eqReceiveWindow.ps, laws_eqReceiveWindow.rs, laws_eqReceiveWindow.f⟩
def laws_eqReceiveWindow.cx : Cx := { cx0 with con := look [(80, laws_eqPayloadS.con), (100, laws_eqNumberedPacketS.con)], loop := look [] }
def laws_eqDevice.ps : List PK := [.val TDevice true, .val TDevice true]
def laws_eqDevice.rs : List RK := [⟨.bool, false, .own⟩]
def laws_eqDevice.con : Con := ⟨laws_eqDevice.ps, laws_eqDevice.rs, laws_eqDevice.f⟩
def laws_eqDevice.cx : Cx := { cx0 with con := look [(74, laws_eqUSIM.con), (75, laws_eqReceiveWindow.con)], loop := look [] }
def laws_eqDeviceS.ps : List PK := [.val (.sl TDevice) false, .val (.sl TDevice) false]
def laws_eqDeviceS.rs : List RK := [⟨.bool, false, .own⟩]
def laws_eqDeviceS.con : Con := ⟨laws_eqDeviceS.ps, laws_eqDeviceS.rs, laws_eqDeviceS.f⟩
def laws_eqDeviceS.cx : Cx := { cx0 with con := look [(44, laws_eqDevice.con)], loop := look [(4, ⟨⟨[(0, false, [.dat (.sl TDevice) [0]]), (1, false, [.dat (.sl TDevice) [0]]), (5, false, [.dat (.int .i64) []])], []⟩, [(.exit 0, ⟨[], []⟩), (.ret, ⟨[(4, false, [.dat .bool []])], []⟩)]⟩)] }
def laws_eqSubscriberRecord.ps : List PK := [.val TUSIM true, .val TUSIM true]
def laws_eqSubscriberRecord.rs : List RK := [⟨.bool, false, .own⟩]
def laws_eqSubscriberRecord.con : Con := ⟨laws_eqSubscriberRecord.ps, laws_eqSubscriberRecord.rs, laws_eqSubscriberRecord.f⟩
def laws_eqSubscriberRecord.cx : Cx := { cx0 with con := look [(99, laws_eqSubscriberID.con)], loop := look [] }
def laws_eqSubscription.ps : List PK := [.val TSubscription true, .val TSubscription true]
def laws_eqSubscription.rs : List RK := [⟨.bool, false, .own⟩]
def laws_eqSubscription.con : Con := ⟨laws_eqSubscription.ps, laws_eqSubscription.rs, laws_eqSubscription.f⟩
def laws_eqSubscription.cx : Cx := { cx0 with con := look [(98, laws_eqIntS.con)], loop := look [] }
def laws_eqAuthVector.ps : List PK := [.val TAuthVector true, .val TAuthVector true]
def laws_eqAuthVector.rs : List RK := [⟨.bool, false, .own⟩]
def laws_eqAuthVector.con : Con := ⟨laws_eqAuthVector.ps, laws_eqAuthVector.rs, laws_eqAuthVector.f⟩
def laws_eqAuthVector.cx : Cx := { cx0 with con := look [], loop := look [] }
def laws_eqPagingState.ps : List PK := [.val TQuota true, .val TQuota true]
def laws_eqPagingState.rs : List RK := [⟨.bool, false, .own⟩]
def laws_eqPagingState.con : Con := ⟨laws_eqPagingState.ps, laws_eqPagingState.rs, laws_eqPagingState.f⟩
def laws_eqPagingState.cx : Cx := { cx0 with con := look [], loop := look [] }
def laws_eqSendWindow.ps : List PK := [.val TSendWindow true, .val TSendWindow true]
def laws_eqSendWindow.rs : List RK := [⟨.bool, false, .own⟩]
def laws_eqSendWindow.con : Con := ⟨laws_eqSendWindow.ps, laws_eqSendWindow.rs, laws_eqSendWindow.f⟩
def laws_eqSendWindow.cx : Cx := { cx0 with con := look [(100, laws_eqNumberedPacketS.con)], loop := look [] }
def laws_eqQuota.ps : List PK := [.val TQuota true, .val TQuota true]
def laws_eqQuota.rs : List RK := [⟨.bool, false, .own⟩]
def laws_eqQuota.con : Con := ⟨laws_eqQuota.ps, laws_eqQuota.rs, laws_eqQuota.f⟩
def laws_eqQuota.cx : Cx := { cx0 with con := look [], loop := look [] }
def laws_eqSession.ps : List PK := [.val TSession true, .val TSession true]
def laws_eqSession.rs : List RK := [⟨.bool, false, .own⟩]
def laws_eqSession.con : Con := ⟨laws_eqSession.ps, laws_eqSession.rs, laws_eqSession.f⟩
def laws_eqSession.cx : Cx := { cx0 with con := look [(76, laws_eqSubscriberRecord.con), (77, laws_eqSubscription.con), (78, laws_eqAuthVector.con), (79, laws_eqPagingState.con), (80, laws_eqPayloadS.con), (81, laws_eqSendWindow.con), (82, laws_eqQuota.con)], loop := look [] }
def laws_eqSessionS.ps : List PK := [.val (.sl TSession) false, .val (.sl TSession) false]
def laws_eqSessionS.rs : List RK := [⟨.bool, false, .own⟩]
def laws_eqSessionS.con : Con := ⟨laws_eqSessionS.ps, laws_eqSessionS.rs, laws_eqSessionS.f⟩
def laws_eqSessionS.cx : Cx := { cx0 with con := look [(45, laws_eqSession.con)], loop := look [(4, ⟨⟨[(0, false, [.dat (.sl TSession) [0]]), (1, false, [.dat (.sl TSession) [0]]), (5, false, [.dat (.int .i64) []])], []⟩, [(.exit 0, ⟨[], []⟩), (.ret, ⟨[(4, false, [.dat .bool []])], []⟩)]⟩)] }
def laws_eqReservation.ps : List PK := [.val TSubscriberID true, .val TSubscriberID true]
def laws_eqReservation.rs : List RK := [⟨.bool, false, .own⟩]
def laws_eqReservation.con : Con := ⟨laws_eqReservation.ps, laws_eqReservation.rs, laws_eqReservation.f⟩
def laws_eqReservation.cx : Cx := { cx0 with con := look [], loop := look [] }
def laws_eqReservationS.ps : List PK := [.val (.sl TSubscriberID) false, .val (.sl TSubscriberID) false]
def laws_eqReservationS.rs : List RK := [⟨.bool, false, .own⟩]
def laws_eqReservationS.con : Con := ⟨laws_eqReservationS.ps, laws_eqReservationS.rs, laws_eqReservationS.f⟩
def laws_eqReservationS.cx : Cx := { cx0 with con := look [(102, laws_eqReservation.con)], loop := look [(4, ⟨⟨[(0, false, [.dat (.sl TSubscriberID) [0]]), (1, false, [.dat (.sl TSubscriberID) [0]]), (5, false, [.dat (.int .i64) []])], []⟩, [(.exit 0, ⟨[], []⟩), (.ret, ⟨[(4, false, [.dat .bool []])], []⟩)]⟩)] }
def laws_eqAccount.ps : List PK := [.val TAccount true, .val TAccount true]
def laws_eqAccount.rs : List RK := [⟨.bool, false, .own⟩]
def laws_eqAccount.con : Con := ⟨laws_eqAccount.ps, laws_eqAccount.rs, laws_eqAccount.f⟩
def laws_eqAccount.cx : Cx := { cx0 with con := look [(83, laws_eqReservationS.con)], loop := look [] }
def laws_eqAccountS.ps : List PK := [.val (.sl TAccount) false, .val (.sl TAccount) false]
def laws_eqAccountS.rs : List RK := [⟨.bool, false, .own⟩]
def laws_eqAccountS.con : Con := ⟨laws_eqAccountS.ps, laws_eqAccountS.rs, laws_eqAccountS.f⟩
def laws_eqAccountS.cx : Cx := { cx0 with con := look [(46, laws_eqAccount.con)], loop := look [(4, ⟨⟨[(0, false, [.dat (.sl TAccount) [0]]), (1, false, [.dat (.sl TAccount) [0]]), (5, false, [.dat (.int .i64) []])], []⟩, [(.exit 0, ⟨[], []⟩), (.ret, ⟨[(4, false, [.dat .bool []])], []⟩)]⟩)] }
def laws_eqSignal.ps : List PK := [.val TSignal true, .val TSignal true]
def laws_eqSignal.rs : List RK := [⟨.bool, false, .own⟩]
def laws_eqSignal.con : Con := ⟨laws_eqSignal.ps, laws_eqSignal.rs, laws_eqSignal.f⟩
def laws_eqSignal.cx : Cx := { cx0 with con := look [(78, laws_eqAuthVector.con)], loop := look [] }
def laws_eqSecuredMessage.ps : List PK := [.val TSecuredMessage true, .val TSecuredMessage true]
def laws_eqSecuredMessage.rs : List RK := [⟨.bool, false, .own⟩]
def laws_eqSecuredMessage.con : Con := ⟨laws_eqSecuredMessage.ps, laws_eqSecuredMessage.rs, laws_eqSecuredMessage.f⟩
def laws_eqSecuredMessage.cx : Cx := { cx0 with con := look [(111, laws_eqByteS.con)], loop := look [] }
def laws_eqRadioPacket.ps : List PK := [.val TRadioPacket true, .val TRadioPacket true]
def laws_eqRadioPacket.rs : List RK := [⟨.bool, false, .own⟩]
def laws_eqRadioPacket.con : Con := ⟨laws_eqRadioPacket.ps, laws_eqRadioPacket.rs, laws_eqRadioPacket.f⟩
def laws_eqRadioPacket.cx : Cx := { cx0 with con := look [(103, laws_eqSecuredMessage.con)], loop := look [] }
def laws_eqFlight.ps : List PK := [.val TFlight true, .val TFlight true]
def laws_eqFlight.rs : List RK := [⟨.bool, false, .own⟩]
def laws_eqFlight.con : Con := ⟨laws_eqFlight.ps, laws_eqFlight.rs, laws_eqFlight.f⟩
def laws_eqFlight.cx : Cx := { cx0 with con := look [(84, laws_eqSignal.con), (85, laws_eqRadioPacket.con)], loop := look [] }
def laws_eqFlightS.ps : List PK := [.val (.sl TFlight) false, .val (.sl TFlight) false]
def laws_eqFlightS.rs : List RK := [⟨.bool, false, .own⟩]
def laws_eqFlightS.con : Con := ⟨laws_eqFlightS.ps, laws_eqFlightS.rs, laws_eqFlightS.f⟩
def laws_eqFlightS.cx : Cx := { cx0 with con := look [(47, laws_eqFlight.con)], loop := look [(4, ⟨⟨[(0, false, [.dat (.sl TFlight) [0]]), (1, false, [.dat (.sl TFlight) [0]]), (5, false, [.dat (.int .i64) []])], []⟩, [(.exit 0, ⟨[], []⟩), (.ret, ⟨[(4, false, [.dat .bool []])], []⟩)]⟩)] }
def laws_eqServerPool.ps : List PK := [.val TSubscriberID true, .val TSubscriberID true]
def laws_eqServerPool.rs : List RK := [⟨.bool, false, .own⟩]
def laws_eqServerPool.con : Con := ⟨laws_eqServerPool.ps, laws_eqServerPool.rs, laws_eqServerPool.f⟩
def laws_eqServerPool.cx : Cx := { cx0 with con := look [], loop := look [] }
def laws_eqNetwork.ps : List PK := [.val TNetwork true, .val TNetwork true]
def laws_eqNetwork.rs : List RK := [⟨.bool, false, .own⟩]
def laws_eqNetwork.con : Con := ⟨laws_eqNetwork.ps, laws_eqNetwork.rs, laws_eqNetwork.f⟩
def laws_eqNetwork.cx : Cx := { cx0 with con := look [(22, laws_eqCellMap.con), (23, laws_eqDeviceS.con), (24, laws_eqSessionS.con), (25, laws_eqAccountS.con), (26, laws_eqFlightS.con), (27, laws_eqServerPool.con)], loop := look [] }
def laws_FnExactServerFor.ps : List PK := [.val TNetwork true, .val (.int .i64) false]
def laws_FnExactServerFor.rs : List RK := [⟨.bool, false, .own⟩]
def laws_FnExactServerFor.con : Con := ⟨laws_FnExactServerFor.ps, laws_FnExactServerFor.rs, laws_FnExactServerFor.f⟩
def laws_FnExactServerFor.cx : Cx := { cx0 with con := look [(4, laws_szNetwork.con), (5, spec_ServerFor.con), (6, laws_toNetwork.con), (7, impl_ServerFor.con), (8, laws_eqNetwork.con)], loop := look [] }
end Go.Proofs.YtphigiidfanbbaaGreat.XS
/- Each function, evaluated, is the plain Lean one. -/
set_option linter.unusedVariables false
set_option maxRecDepth 100000
namespace Go.Proofs.YtphigiidfanbbaaGreat.XS
open Go Go.Proofs.XTv Go.Proofs.XF
theorem laws_eqSession.eq : evFun laws_eqSession.cx Tryz.f45 laws_eqSession.ps laws_eqSession.rs = laws_eqSession.f := by kernel_rfl
theorem laws_toReservationS.eq : evFun laws_toReservationS.cx Tryz.f68 laws_toReservationS.ps laws_toReservationS.rs = laws_toReservationS.f := by kernel_rfl
theorem laws_szSessionS.eq : evFun laws_szSessionS.cx Tryz.f11 laws_szSessionS.ps laws_szSessionS.rs = laws_szSessionS.f := by kernel_rfl
theorem laws_toSessionS.eq : evFun laws_toSessionS.cx Tryz.f17 laws_toSessionS.ps laws_toSessionS.rs = laws_toSessionS.f := by kernel_rfl
theorem laws_szNetwork.eq : evFun laws_szNetwork.cx Tryz.f4 laws_szNetwork.ps laws_szNetwork.rs = laws_szNetwork.f := by kernel_rfl
theorem laws_szSession.eq : evFun laws_szSession.cx Tryz.f30 laws_szSession.ps laws_szSession.rs = laws_szSession.f := by kernel_rfl
theorem laws_eqSecuredMessage.eq : evFun laws_eqSecuredMessage.cx Tryz.f103 laws_eqSecuredMessage.ps laws_eqSecuredMessage.rs = laws_eqSecuredMessage.f := by kernel_rfl
theorem laws_eqRadioPacket.eq : evFun laws_eqRadioPacket.cx Tryz.f85 laws_eqRadioPacket.ps laws_eqRadioPacket.rs = laws_eqRadioPacket.f := by kernel_rfl
theorem laws_toFlight.eq : evFun laws_toFlight.cx Tryz.f39 laws_toFlight.ps laws_toFlight.rs = laws_toFlight.f := by kernel_rfl
theorem laws_eqSendWindow.eq : evFun laws_eqSendWindow.cx Tryz.f81 laws_eqSendWindow.ps laws_eqSendWindow.rs = laws_eqSendWindow.f := by kernel_rfl
theorem laws_szReservationS.eq : evFun laws_szReservationS.cx Tryz.f53 laws_szReservationS.ps laws_szReservationS.rs = laws_szReservationS.f := by kernel_rfl
theorem laws_szSendWindow.eq : evFun laws_szSendWindow.cx Tryz.f52 laws_szSendWindow.ps laws_szSendWindow.rs = laws_szSendWindow.f := by kernel_rfl
theorem laws_toSubscription.eq : evFun laws_toSubscription.cx Tryz.f62 laws_toSubscription.ps laws_toSubscription.rs = laws_toSubscription.f := by kernel_rfl
theorem laws_toRadioPacket.eq : evFun laws_toRadioPacket.cx Tryz.f70 laws_toRadioPacket.ps laws_toRadioPacket.rs = laws_toRadioPacket.f := by kernel_rfl
theorem laws_toNumberedPacket.eq : evFun laws_toNumberedPacket.cx Tryz.f107 laws_toNumberedPacket.ps laws_toNumberedPacket.rs = laws_toNumberedPacket.f := by kernel_rfl
theorem spec_l1In.eq : evFun spec_l1In.cx Tryz.f56 spec_l1In.ps spec_l1In.rs = spec_l1In.f := by kernel_rfl
theorem laws_toAuthVector.eq : evFun laws_toAuthVector.cx Tryz.f63 laws_toAuthVector.ps laws_toAuthVector.rs = laws_toAuthVector.f := by kernel_rfl
end Go.Proofs.YtphigiidfanbbaaGreat.XS
/- Each function, evaluated, is the plain Lean one. -/
set_option linter.unusedVariables false
set_option maxRecDepth 100000
namespace Go.Proofs.YtphigiidfanbbaaGreat.XS
open Go Go.Proofs.XTv Go.Proofs.XF
theorem laws_eqNetwork.eq : evFun laws_eqNetwork.cx Tryz.f8 laws_eqNetwork.ps laws_eqNetwork.rs = laws_eqNetwork.f := by kernel_rfl
theorem laws_eqSessionS.eq : evFun laws_eqSessionS.cx Tryz.f24 laws_eqSessionS.ps laws_eqSessionS.rs = laws_eqSessionS.f := by kernel_rfl
theorem laws_szNumberedPacketS.eq : evFun laws_szNumberedPacketS.cx Tryz.f87 laws_szNumberedPacketS.ps laws_szNumberedPacketS.rs = laws_szNumberedPacketS.f := by kernel_rfl
theorem laws_eqIntS.eq : evFun laws_eqIntS.cx Tryz.f98 laws_eqIntS.ps laws_eqIntS.rs = laws_eqIntS.f := by kernel_rfl
theorem laws_szFlightS.eq : evFun laws_szFlightS.cx Tryz.f13 laws_szFlightS.ps laws_szFlightS.rs = laws_szFlightS.f := by kernel_rfl
theorem spec_Hash.eq : evFun spec_Hash.cx Tryz.f90 spec_Hash.ps spec_Hash.rs = spec_Hash.f := by kernel_rfl
theorem laws_toNetwork.eq : evFun laws_toNetwork.cx Tryz.f6 laws_toNetwork.ps laws_toNetwork.rs = laws_toNetwork.f := by kernel_rfl
theorem laws_eqAccount.eq : evFun laws_eqAccount.cx Tryz.f46 laws_eqAccount.ps laws_eqAccount.rs = laws_eqAccount.f := by kernel_rfl
theorem spec_IsValidPool.eq : evFun spec_IsValidPool.cx Tryz.f55 spec_IsValidPool.ps spec_IsValidPool.rs = spec_IsValidPool.f := by kernel_rfl
theorem impl_hashStep.eq : evFun impl_hashStep.cx Tryz.f97 impl_hashStep.ps impl_hashStep.rs = impl_hashStep.f := by kernel_rfl
theorem laws_toSignal.eq : evFun laws_toSignal.cx Tryz.f69 laws_toSignal.ps laws_toSignal.rs = laws_toSignal.f := by kernel_rfl
theorem laws_szDevice.eq : evFun laws_szDevice.cx Tryz.f29 laws_szDevice.ps laws_szDevice.rs = laws_szDevice.f := by kernel_rfl
theorem laws_toSecuredMessage.eq : evFun laws_toSecuredMessage.cx Tryz.f96 laws_toSecuredMessage.ps laws_toSecuredMessage.rs = laws_toSecuredMessage.f := by kernel_rfl
theorem laws_szIntS.eq : evFun laws_szIntS.cx Tryz.f86 laws_szIntS.ps laws_szIntS.rs = laws_szIntS.f := by kernel_rfl
theorem laws_toAccount.eq : evFun laws_toAccount.cx Tryz.f38 laws_toAccount.ps laws_toAccount.rs = laws_toAccount.f := by kernel_rfl
theorem laws_szPayload.eq : evFun laws_szPayload.cx Tryz.f88 laws_szPayload.ps laws_szPayload.rs = laws_szPayload.f := by kernel_rfl
theorem impl_InRange.eq : evFun impl_InRange.cx Tryz.f71 impl_InRange.ps impl_InRange.rs = impl_InRange.f := by kernel_rfl
theorem laws_toServerPool.eq : evFun laws_toServerPool.cx Tryz.f20 laws_toServerPool.ps laws_toServerPool.rs = laws_toServerPool.f := by kernel_rfl
end Go.Proofs.YtphigiidfanbbaaGreat.XS
/- Each function, evaluated, is the plain Lean one. -/
set_option linter.unusedVariables false
set_option maxRecDepth 100000
namespace Go.Proofs.YtphigiidfanbbaaGreat.XS
open Go Go.Proofs.XTv Go.Proofs.XF
theorem laws_eqDevice.eq : evFun laws_eqDevice.cx Tryz.f44 laws_eqDevice.ps laws_eqDevice.rs = laws_eqDevice.f := by kernel_rfl
theorem laws_eqCellS.eq : evFun laws_eqCellS.cx Tryz.f43 laws_eqCellS.ps laws_eqCellS.rs = laws_eqCellS.f := by kernel_rfl
theorem laws_toNumberedPacketS.eq : evFun laws_toNumberedPacketS.cx Tryz.f93 laws_toNumberedPacketS.ps laws_toNumberedPacketS.rs = laws_toNumberedPacketS.f := by kernel_rfl
theorem laws_szCellS.eq : evFun laws_szCellS.cx Tryz.f28 laws_szCellS.ps laws_szCellS.rs = laws_szCellS.f := by kernel_rfl
theorem laws_toCellS.eq : evFun laws_toCellS.cx Tryz.f35 laws_toCellS.ps laws_toCellS.rs = laws_toCellS.f := by kernel_rfl
theorem laws_toFlightS.eq : evFun laws_toFlightS.cx Tryz.f19 laws_toFlightS.ps laws_toFlightS.rs = laws_toFlightS.f := by kernel_rfl
theorem laws_eqFlight.eq : evFun laws_eqFlight.cx Tryz.f47 laws_eqFlight.ps laws_eqFlight.rs = laws_eqFlight.f := by kernel_rfl
theorem impl_IsServerUp.eq : evFun impl_IsServerUp.cx Tryz.f41 impl_IsServerUp.ps impl_IsServerUp.rs = impl_IsServerUp.f := by kernel_rfl
theorem impl_Mod.eq : evFun impl_Mod.cx Tryz.f109 impl_Mod.ps impl_Mod.rs = impl_Mod.f := by kernel_rfl
theorem laws_szReceiveWindow.eq : evFun laws_szReceiveWindow.cx Tryz.f49 laws_szReceiveWindow.ps laws_szReceiveWindow.rs = laws_szReceiveWindow.f := by kernel_rfl
theorem spec_KeyedHash.eq : evFun spec_KeyedHash.cx Tryz.f57 spec_KeyedHash.ps spec_KeyedHash.rs = spec_KeyedHash.f := by kernel_rfl
theorem laws_eqCell.eq : evFun laws_eqCell.cx Tryz.f73 laws_eqCell.ps laws_eqCell.rs = laws_eqCell.f := by kernel_rfl
theorem laws_szRadioPacket.eq : evFun laws_szRadioPacket.cx Tryz.f54 laws_szRadioPacket.ps laws_szRadioPacket.rs = laws_szRadioPacket.f := by kernel_rfl
theorem laws_eqCellMap.eq : evFun laws_eqCellMap.cx Tryz.f22 laws_eqCellMap.ps laws_eqCellMap.rs = laws_eqCellMap.f := by kernel_rfl
theorem laws_eqReservation.eq : evFun laws_eqReservation.cx Tryz.f102 laws_eqReservation.ps laws_eqReservation.rs = laws_eqReservation.f := by kernel_rfl
theorem laws_eqPayload.eq : evFun laws_eqPayload.cx Tryz.f101 laws_eqPayload.ps laws_eqPayload.rs = laws_eqPayload.f := by kernel_rfl
theorem laws_toCellMap.eq : evFun laws_toCellMap.cx Tryz.f15 laws_toCellMap.ps laws_toCellMap.rs = laws_toCellMap.f := by kernel_rfl
theorem laws_toPayload.eq : evFun laws_toPayload.cx Tryz.f94 laws_toPayload.ps laws_toPayload.rs = laws_toPayload.f := by kernel_rfl
end Go.Proofs.YtphigiidfanbbaaGreat.XS
/- Each function, evaluated, is the plain Lean one. -/
set_option linter.unusedVariables false
set_option maxRecDepth 100000
namespace Go.Proofs.YtphigiidfanbbaaGreat.XS
open Go Go.Proofs.XTv Go.Proofs.XF
theorem spec_SelectServer.eq : evFun spec_SelectServer.cx Tryz.f14 spec_SelectServer.ps spec_SelectServer.rs = spec_SelectServer.f := by kernel_rfl
theorem laws_eqReservationS.eq : evFun laws_eqReservationS.cx Tryz.f83 laws_eqReservationS.ps laws_eqReservationS.rs = laws_eqReservationS.f := by kernel_rfl
theorem laws_eqFlightS.eq : evFun laws_eqFlightS.cx Tryz.f26 laws_eqFlightS.ps laws_eqFlightS.rs = laws_eqFlightS.f := by kernel_rfl
theorem laws_toPayloadS.eq : evFun laws_toPayloadS.cx Tryz.f65 laws_toPayloadS.ps laws_toPayloadS.rs = laws_toPayloadS.f := by kernel_rfl
theorem laws_szDeviceS.eq : evFun laws_szDeviceS.cx Tryz.f10 laws_szDeviceS.ps laws_szDeviceS.rs = laws_szDeviceS.f := by kernel_rfl
theorem laws_toAccountS.eq : evFun laws_toAccountS.cx Tryz.f18 laws_toAccountS.ps laws_toAccountS.rs = laws_toAccountS.f := by kernel_rfl
theorem laws_FnExactServerFor.eq : evFun laws_FnExactServerFor.cx Tryz.f3 laws_FnExactServerFor.ps laws_FnExactServerFor.rs = laws_FnExactServerFor.f := by kernel_rfl
theorem laws_eqAuthVector.eq : evFun laws_eqAuthVector.cx Tryz.f78 laws_eqAuthVector.ps laws_eqAuthVector.rs = laws_eqAuthVector.f := by kernel_rfl
theorem laws_toDevice.eq : evFun laws_toDevice.cx Tryz.f36 laws_toDevice.ps laws_toDevice.rs = laws_toDevice.f := by kernel_rfl
theorem spec_Mod.eq : evFun spec_Mod.cx Tryz.f106 spec_Mod.ps spec_Mod.rs = spec_Mod.f := by kernel_rfl
theorem laws_eqPagingState.eq : evFun laws_eqPagingState.cx Tryz.f79 laws_eqPagingState.ps laws_eqPagingState.rs = laws_eqPagingState.f := by kernel_rfl
theorem spec_RendezvousWeight.eq : evFun spec_RendezvousWeight.cx Tryz.f34 spec_RendezvousWeight.ps spec_RendezvousWeight.rs = spec_RendezvousWeight.f := by kernel_rfl
theorem laws_szFlight.eq : evFun laws_szFlight.cx Tryz.f32 laws_szFlight.ps laws_szFlight.rs = laws_szFlight.f := by kernel_rfl
theorem laws_szNumberedPacket.eq : evFun laws_szNumberedPacket.cx Tryz.f104 laws_szNumberedPacket.ps laws_szNumberedPacket.rs = laws_szNumberedPacket.f := by kernel_rfl
theorem laws_szCell.eq : evFun laws_szCell.cx Tryz.f48 laws_szCell.ps laws_szCell.rs = laws_szCell.f := by kernel_rfl
theorem impl_ServerFor.eq : evFun impl_ServerFor.cx Tryz.f7 impl_ServerFor.ps impl_ServerFor.rs = impl_ServerFor.f := by kernel_rfl
theorem laws_toCell.eq : evFun laws_toCell.cx Tryz.f58 laws_toCell.ps laws_toCell.rs = laws_toCell.f := by kernel_rfl
theorem laws_toUSIM.eq : evFun laws_toUSIM.cx Tryz.f59 laws_toUSIM.ps laws_toUSIM.rs = laws_toUSIM.f := by kernel_rfl
end Go.Proofs.YtphigiidfanbbaaGreat.XS
/- Each function, evaluated, is the plain Lean one. -/
set_option linter.unusedVariables false
set_option maxRecDepth 100000
namespace Go.Proofs.YtphigiidfanbbaaGreat.XS
open Go Go.Proofs.XTv Go.Proofs.XF
theorem impl_SelectServer.eq : evFun impl_SelectServer.cx Tryz.f21 impl_SelectServer.ps impl_SelectServer.rs = impl_SelectServer.f := by kernel_rfl
theorem laws_eqPayloadS.eq : evFun laws_eqPayloadS.cx Tryz.f80 laws_eqPayloadS.ps laws_eqPayloadS.rs = laws_eqPayloadS.f := by kernel_rfl
theorem laws_eqAccountS.eq : evFun laws_eqAccountS.cx Tryz.f25 laws_eqAccountS.ps laws_eqAccountS.rs = laws_eqAccountS.f := by kernel_rfl
theorem laws_eqByteS.eq : evFun laws_eqByteS.cx Tryz.f111 laws_eqByteS.ps laws_eqByteS.rs = laws_eqByteS.f := by kernel_rfl
theorem laws_szAccountS.eq : evFun laws_szAccountS.cx Tryz.f12 laws_szAccountS.ps laws_szAccountS.rs = laws_szAccountS.f := by kernel_rfl
theorem laws_toDeviceS.eq : evFun laws_toDeviceS.cx Tryz.f16 laws_toDeviceS.ps laws_toDeviceS.rs = laws_toDeviceS.f := by kernel_rfl
theorem laws_toIntS.eq : evFun laws_toIntS.cx Tryz.f91 laws_toIntS.ps laws_toIntS.rs = laws_toIntS.f := by kernel_rfl
theorem laws_eqSubscription.eq : evFun laws_eqSubscription.cx Tryz.f77 laws_eqSubscription.ps laws_eqSubscription.rs = laws_eqSubscription.f := by kernel_rfl
theorem laws_eqReceiveWindow.eq : evFun laws_eqReceiveWindow.cx Tryz.f75 laws_eqReceiveWindow.ps laws_eqReceiveWindow.rs = laws_eqReceiveWindow.f := by kernel_rfl
theorem laws_eqUSIM.eq : evFun laws_eqUSIM.cx Tryz.f74 laws_eqUSIM.ps laws_eqUSIM.rs = laws_eqUSIM.f := by kernel_rfl
theorem laws_eqQuota.eq : evFun laws_eqQuota.cx Tryz.f82 laws_eqQuota.ps laws_eqQuota.rs = laws_eqQuota.f := by kernel_rfl
theorem impl_RendezvousWeight.eq : evFun impl_RendezvousWeight.cx Tryz.f42 impl_RendezvousWeight.ps impl_RendezvousWeight.rs = impl_RendezvousWeight.f := by kernel_rfl
theorem laws_szSubscription.eq : evFun laws_szSubscription.cx Tryz.f50 laws_szSubscription.ps laws_szSubscription.rs = laws_szSubscription.f := by kernel_rfl
theorem laws_szByteS.eq : evFun laws_szByteS.cx Tryz.f105 laws_szByteS.ps laws_szByteS.rs = laws_szByteS.f := by kernel_rfl
theorem laws_eqServerPool.eq : evFun laws_eqServerPool.cx Tryz.f27 laws_eqServerPool.ps laws_eqServerPool.rs = laws_eqServerPool.f := by kernel_rfl
theorem laws_szCellMap.eq : evFun laws_szCellMap.cx Tryz.f9 laws_szCellMap.ps laws_szCellMap.rs = laws_szCellMap.f := by kernel_rfl
theorem laws_toSubscriberRecord.eq : evFun laws_toSubscriberRecord.cx Tryz.f61 laws_toSubscriberRecord.ps laws_toSubscriberRecord.rs = laws_toSubscriberRecord.f := by kernel_rfl
theorem laws_toSubscriberID.eq : evFun laws_toSubscriberID.cx Tryz.f92 laws_toSubscriberID.ps laws_toSubscriberID.rs = laws_toSubscriberID.f := by kernel_rfl
theorem laws_toPagingState.eq : evFun laws_toPagingState.cx Tryz.f64 laws_toPagingState.ps laws_toPagingState.rs = laws_toPagingState.f := by kernel_rfl
end Go.Proofs.YtphigiidfanbbaaGreat.XS
/- Each function, evaluated, is the plain Lean one. -/
set_option linter.unusedVariables false
set_option maxRecDepth 100000
namespace Go.Proofs.YtphigiidfanbbaaGreat.XS
open Go Go.Proofs.XTv Go.Proofs.XF
theorem laws_toSession.eq : evFun laws_toSession.cx Tryz.f37 laws_toSession.ps laws_toSession.rs = laws_toSession.f := by kernel_rfl
theorem laws_eqNumberedPacketS.eq : evFun laws_eqNumberedPacketS.cx Tryz.f100 laws_eqNumberedPacketS.ps laws_eqNumberedPacketS.rs = laws_eqNumberedPacketS.f := by kernel_rfl
theorem laws_eqDeviceS.eq : evFun laws_eqDeviceS.cx Tryz.f23 laws_eqDeviceS.ps laws_eqDeviceS.rs = laws_eqDeviceS.f := by kernel_rfl
theorem laws_szPayloadS.eq : evFun laws_szPayloadS.cx Tryz.f51 laws_szPayloadS.ps laws_szPayloadS.rs = laws_szPayloadS.f := by kernel_rfl
theorem impl_KeyedHash.eq : evFun impl_KeyedHash.cx Tryz.f72 impl_KeyedHash.ps impl_KeyedHash.rs = impl_KeyedHash.f := by kernel_rfl
theorem laws_eqSignal.eq : evFun laws_eqSignal.cx Tryz.f84 laws_eqSignal.ps laws_eqSignal.rs = laws_eqSignal.f := by kernel_rfl
theorem laws_toByteS.eq : evFun laws_toByteS.cx Tryz.f108 laws_toByteS.ps laws_toByteS.rs = laws_toByteS.f := by kernel_rfl
theorem spec_IsServerUp.eq : evFun spec_IsServerUp.cx Tryz.f33 spec_IsServerUp.ps spec_IsServerUp.rs = spec_IsServerUp.f := by kernel_rfl
theorem impl_IsValidPool.eq : evFun impl_IsValidPool.cx Tryz.f40 impl_IsValidPool.ps impl_IsValidPool.rs = impl_IsValidPool.f := by kernel_rfl
theorem laws_eqSubscriberRecord.eq : evFun laws_eqSubscriberRecord.cx Tryz.f76 laws_eqSubscriberRecord.ps laws_eqSubscriberRecord.rs = laws_eqSubscriberRecord.f := by kernel_rfl
theorem laws_eqNumberedPacket.eq : evFun laws_eqNumberedPacket.cx Tryz.f110 laws_eqNumberedPacket.ps laws_eqNumberedPacket.rs = laws_eqNumberedPacket.f := by kernel_rfl
theorem laws_toReceiveWindow.eq : evFun laws_toReceiveWindow.cx Tryz.f60 laws_toReceiveWindow.ps laws_toReceiveWindow.rs = laws_toReceiveWindow.f := by kernel_rfl
theorem laws_szSecuredMessage.eq : evFun laws_szSecuredMessage.cx Tryz.f89 laws_szSecuredMessage.ps laws_szSecuredMessage.rs = laws_szSecuredMessage.f := by kernel_rfl
theorem laws_szAccount.eq : evFun laws_szAccount.cx Tryz.f31 laws_szAccount.ps laws_szAccount.rs = laws_szAccount.f := by kernel_rfl
theorem laws_eqSubscriberID.eq : evFun laws_eqSubscriberID.cx Tryz.f99 laws_eqSubscriberID.ps laws_eqSubscriberID.rs = laws_eqSubscriberID.f := by kernel_rfl
theorem spec_ServerFor.eq : evFun spec_ServerFor.cx Tryz.f5 spec_ServerFor.ps spec_ServerFor.rs = spec_ServerFor.f := by kernel_rfl
theorem laws_toSendWindow.eq : evFun laws_toSendWindow.cx Tryz.f66 laws_toSendWindow.ps laws_toSendWindow.rs = laws_toSendWindow.f := by kernel_rfl
theorem laws_toReservation.eq : evFun laws_toReservation.cx Tryz.f95 laws_toReservation.ps laws_toReservation.rs = laws_toReservation.f := by kernel_rfl
theorem laws_toQuota.eq : evFun laws_toQuota.cx Tryz.f67 laws_toQuota.ps laws_toQuota.rs = laws_toQuota.f := by kernel_rfl
end Go.Proofs.YtphigiidfanbbaaGreat.XS
/- Each function of the program does what the plain Lean one says. -/
set_option linter.unusedVariables false
set_option maxRecDepth 100000
namespace Go.Proofs.YtphigiidfanbbaaGreat.XS
open Go Go.Proofs.XTv Go.Proofs.XF
def ConsOk (P : Program) (l : List (Nat × Con)) : Prop := ∀ p ∈ l, Sound P p.1 p.2
theorem con_nil {P : Program} : ConsOk P [] := fun p hp => by cases hp
theorem con_cons {P : Program} {n : Nat} {C : Con} {l : List (Nat × Con)} (h : Sound P n C) (hl : ConsOk P l) : ConsOk P ((n, C) :: l) := fun p hp => by
  rcases List.mem_cons.1 hp with rfl | hp
  · exact h
  · exact hl p hp
theorem con_look {P : Program} {l : List (Nat × Con)} (hl : ConsOk P l) {n : Nat} {C : Con} (h : look l n = some C) : Sound P n C := hl _ (look_mem h)
theorem laws_szIntS.sound : Sound Tryz.prog 86 laws_szIntS.con := by
  have h := fun_sound (Γ := laws_szIntS.cx) (cx_ok.same rfl rfl) (fun n C h => con_look (con_nil) h) Tryz.checked.mixed Tryz.func86 (by kernel_rfl) (ps := laws_szIntS.ps) (rs := laws_szIntS.rs) (by kernel_rfl) (by kernel_rfl) (by kernel_rfl)
  rw [laws_szIntS.eq] at h
  exact h
theorem laws_szCell.sound : Sound Tryz.prog 48 laws_szCell.con := by
  have h := fun_sound (Γ := laws_szCell.cx) (cx_ok.same rfl rfl) (fun n C h => con_look (con_cons laws_szIntS.sound con_nil) h) Tryz.checked.mixed Tryz.func48 (by kernel_rfl) (ps := laws_szCell.ps) (rs := laws_szCell.rs) (by kernel_rfl) (by kernel_rfl) (by kernel_rfl)
  rw [laws_szCell.eq] at h
  exact h
theorem laws_szCellS.sound : Sound Tryz.prog 28 laws_szCellS.con := by
  have h := fun_sound (Γ := laws_szCellS.cx) (cx_ok.same rfl rfl) (fun n C h => con_look (con_cons laws_szCell.sound con_nil) h) Tryz.checked.mixed Tryz.func28 (by kernel_rfl) (ps := laws_szCellS.ps) (rs := laws_szCellS.rs) (by kernel_rfl) (by kernel_rfl) (by kernel_rfl)
  rw [laws_szCellS.eq] at h
  exact h
theorem laws_szCellMap.sound : Sound Tryz.prog 9 laws_szCellMap.con := by
  have h := fun_sound (Γ := laws_szCellMap.cx) (cx_ok.same rfl rfl) (fun n C h => con_look (con_cons laws_szCellS.sound con_nil) h) Tryz.checked.mixed Tryz.func9 (by kernel_rfl) (ps := laws_szCellMap.ps) (rs := laws_szCellMap.rs) (by kernel_rfl) (by kernel_rfl) (by kernel_rfl)
  rw [laws_szCellMap.eq] at h
  exact h
theorem laws_szByteS.sound : Sound Tryz.prog 105 laws_szByteS.con := by
  have h := fun_sound (Γ := laws_szByteS.cx) (cx_ok.same rfl rfl) (fun n C h => con_look (con_nil) h) Tryz.checked.mixed Tryz.func105 (by kernel_rfl) (ps := laws_szByteS.ps) (rs := laws_szByteS.rs) (by kernel_rfl) (by kernel_rfl) (by kernel_rfl)
  rw [laws_szByteS.eq] at h
  exact h
theorem laws_szPayload.sound : Sound Tryz.prog 88 laws_szPayload.con := by
  have h := fun_sound (Γ := laws_szPayload.cx) (cx_ok.same rfl rfl) (fun n C h => con_look (con_cons laws_szByteS.sound con_nil) h) Tryz.checked.mixed Tryz.func88 (by kernel_rfl) (ps := laws_szPayload.ps) (rs := laws_szPayload.rs) (by kernel_rfl) (by kernel_rfl) (by kernel_rfl)
  rw [laws_szPayload.eq] at h
  exact h
theorem laws_szPayloadS.sound : Sound Tryz.prog 51 laws_szPayloadS.con := by
  have h := fun_sound (Γ := laws_szPayloadS.cx) (cx_ok.same rfl rfl) (fun n C h => con_look (con_cons laws_szPayload.sound con_nil) h) Tryz.checked.mixed Tryz.func51 (by kernel_rfl) (ps := laws_szPayloadS.ps) (rs := laws_szPayloadS.rs) (by kernel_rfl) (by kernel_rfl) (by kernel_rfl)
  rw [laws_szPayloadS.eq] at h
  exact h
theorem laws_szNumberedPacket.sound : Sound Tryz.prog 104 laws_szNumberedPacket.con := by
  have h := fun_sound (Γ := laws_szNumberedPacket.cx) (cx_ok.same rfl rfl) (fun n C h => con_look (con_cons laws_szByteS.sound con_nil) h) Tryz.checked.mixed Tryz.func104 (by kernel_rfl) (ps := laws_szNumberedPacket.ps) (rs := laws_szNumberedPacket.rs) (by kernel_rfl) (by kernel_rfl) (by kernel_rfl)
  rw [laws_szNumberedPacket.eq] at h
  exact h
theorem laws_szNumberedPacketS.sound : Sound Tryz.prog 87 laws_szNumberedPacketS.con := by
  have h := fun_sound (Γ := laws_szNumberedPacketS.cx) (cx_ok.same rfl rfl) (fun n C h => con_look (con_cons laws_szNumberedPacket.sound con_nil) h) Tryz.checked.mixed Tryz.func87 (by kernel_rfl) (ps := laws_szNumberedPacketS.ps) (rs := laws_szNumberedPacketS.rs) (by kernel_rfl) (by kernel_rfl) (by kernel_rfl)
  rw [laws_szNumberedPacketS.eq] at h
  exact h
theorem laws_szReceiveWindow.sound : Sound Tryz.prog 49 laws_szReceiveWindow.con := by
  have h := fun_sound (Γ := laws_szReceiveWindow.cx) (cx_ok.same rfl rfl) (fun n C h => con_look (con_cons laws_szPayloadS.sound (con_cons laws_szNumberedPacketS.sound con_nil)) h) Tryz.checked.mixed Tryz.func49 (by kernel_rfl) (ps := laws_szReceiveWindow.ps) (rs := laws_szReceiveWindow.rs) (by kernel_rfl) (by kernel_rfl) (by kernel_rfl)
  rw [laws_szReceiveWindow.eq] at h
  exact h
theorem laws_szDevice.sound : Sound Tryz.prog 29 laws_szDevice.con := by
  have h := fun_sound (Γ := laws_szDevice.cx) (cx_ok.same rfl rfl) (fun n C h => con_look (con_cons laws_szReceiveWindow.sound con_nil) h) Tryz.checked.mixed Tryz.func29 (by kernel_rfl) (ps := laws_szDevice.ps) (rs := laws_szDevice.rs) (by kernel_rfl) (by kernel_rfl) (by kernel_rfl)
  rw [laws_szDevice.eq] at h
  exact h
theorem laws_szDeviceS.sound : Sound Tryz.prog 10 laws_szDeviceS.con := by
  have h := fun_sound (Γ := laws_szDeviceS.cx) (cx_ok.same rfl rfl) (fun n C h => con_look (con_cons laws_szDevice.sound con_nil) h) Tryz.checked.mixed Tryz.func10 (by kernel_rfl) (ps := laws_szDeviceS.ps) (rs := laws_szDeviceS.rs) (by kernel_rfl) (by kernel_rfl) (by kernel_rfl)
  rw [laws_szDeviceS.eq] at h
  exact h
theorem laws_szSubscription.sound : Sound Tryz.prog 50 laws_szSubscription.con := by
  have h := fun_sound (Γ := laws_szSubscription.cx) (cx_ok.same rfl rfl) (fun n C h => con_look (con_cons laws_szIntS.sound con_nil) h) Tryz.checked.mixed Tryz.func50 (by kernel_rfl) (ps := laws_szSubscription.ps) (rs := laws_szSubscription.rs) (by kernel_rfl) (by kernel_rfl) (by kernel_rfl)
  rw [laws_szSubscription.eq] at h
  exact h
theorem laws_szSendWindow.sound : Sound Tryz.prog 52 laws_szSendWindow.con := by
  have h := fun_sound (Γ := laws_szSendWindow.cx) (cx_ok.same rfl rfl) (fun n C h => con_look (con_cons laws_szNumberedPacketS.sound con_nil) h) Tryz.checked.mixed Tryz.func52 (by kernel_rfl) (ps := laws_szSendWindow.ps) (rs := laws_szSendWindow.rs) (by kernel_rfl) (by kernel_rfl) (by kernel_rfl)
  rw [laws_szSendWindow.eq] at h
  exact h
theorem laws_szSession.sound : Sound Tryz.prog 30 laws_szSession.con := by
  have h := fun_sound (Γ := laws_szSession.cx) (cx_ok.same rfl rfl) (fun n C h => con_look (con_cons laws_szSubscription.sound (con_cons laws_szPayloadS.sound (con_cons laws_szSendWindow.sound con_nil))) h) Tryz.checked.mixed Tryz.func30 (by kernel_rfl) (ps := laws_szSession.ps) (rs := laws_szSession.rs) (by kernel_rfl) (by kernel_rfl) (by kernel_rfl)
  rw [laws_szSession.eq] at h
  exact h
theorem laws_szSessionS.sound : Sound Tryz.prog 11 laws_szSessionS.con := by
  have h := fun_sound (Γ := laws_szSessionS.cx) (cx_ok.same rfl rfl) (fun n C h => con_look (con_cons laws_szSession.sound con_nil) h) Tryz.checked.mixed Tryz.func11 (by kernel_rfl) (ps := laws_szSessionS.ps) (rs := laws_szSessionS.rs) (by kernel_rfl) (by kernel_rfl) (by kernel_rfl)
  rw [laws_szSessionS.eq] at h
  exact h
theorem laws_szReservationS.sound : Sound Tryz.prog 53 laws_szReservationS.con := by
  have h := fun_sound (Γ := laws_szReservationS.cx) (cx_ok.same rfl rfl) (fun n C h => con_look (con_nil) h) Tryz.checked.mixed Tryz.func53 (by kernel_rfl) (ps := laws_szReservationS.ps) (rs := laws_szReservationS.rs) (by kernel_rfl) (by kernel_rfl) (by kernel_rfl)
  rw [laws_szReservationS.eq] at h
  exact h
theorem laws_szAccount.sound : Sound Tryz.prog 31 laws_szAccount.con := by
  have h := fun_sound (Γ := laws_szAccount.cx) (cx_ok.same rfl rfl) (fun n C h => con_look (con_cons laws_szReservationS.sound con_nil) h) Tryz.checked.mixed Tryz.func31 (by kernel_rfl) (ps := laws_szAccount.ps) (rs := laws_szAccount.rs) (by kernel_rfl) (by kernel_rfl) (by kernel_rfl)
  rw [laws_szAccount.eq] at h
  exact h
theorem laws_szAccountS.sound : Sound Tryz.prog 12 laws_szAccountS.con := by
  have h := fun_sound (Γ := laws_szAccountS.cx) (cx_ok.same rfl rfl) (fun n C h => con_look (con_cons laws_szAccount.sound con_nil) h) Tryz.checked.mixed Tryz.func12 (by kernel_rfl) (ps := laws_szAccountS.ps) (rs := laws_szAccountS.rs) (by kernel_rfl) (by kernel_rfl) (by kernel_rfl)
  rw [laws_szAccountS.eq] at h
  exact h
theorem laws_szSecuredMessage.sound : Sound Tryz.prog 89 laws_szSecuredMessage.con := by
  have h := fun_sound (Γ := laws_szSecuredMessage.cx) (cx_ok.same rfl rfl) (fun n C h => con_look (con_cons laws_szByteS.sound con_nil) h) Tryz.checked.mixed Tryz.func89 (by kernel_rfl) (ps := laws_szSecuredMessage.ps) (rs := laws_szSecuredMessage.rs) (by kernel_rfl) (by kernel_rfl) (by kernel_rfl)
  rw [laws_szSecuredMessage.eq] at h
  exact h
theorem laws_szRadioPacket.sound : Sound Tryz.prog 54 laws_szRadioPacket.con := by
  have h := fun_sound (Γ := laws_szRadioPacket.cx) (cx_ok.same rfl rfl) (fun n C h => con_look (con_cons laws_szSecuredMessage.sound con_nil) h) Tryz.checked.mixed Tryz.func54 (by kernel_rfl) (ps := laws_szRadioPacket.ps) (rs := laws_szRadioPacket.rs) (by kernel_rfl) (by kernel_rfl) (by kernel_rfl)
  rw [laws_szRadioPacket.eq] at h
  exact h
theorem laws_szFlight.sound : Sound Tryz.prog 32 laws_szFlight.con := by
  have h := fun_sound (Γ := laws_szFlight.cx) (cx_ok.same rfl rfl) (fun n C h => con_look (con_cons laws_szRadioPacket.sound con_nil) h) Tryz.checked.mixed Tryz.func32 (by kernel_rfl) (ps := laws_szFlight.ps) (rs := laws_szFlight.rs) (by kernel_rfl) (by kernel_rfl) (by kernel_rfl)
  rw [laws_szFlight.eq] at h
  exact h
theorem laws_szFlightS.sound : Sound Tryz.prog 13 laws_szFlightS.con := by
  have h := fun_sound (Γ := laws_szFlightS.cx) (cx_ok.same rfl rfl) (fun n C h => con_look (con_cons laws_szFlight.sound con_nil) h) Tryz.checked.mixed Tryz.func13 (by kernel_rfl) (ps := laws_szFlightS.ps) (rs := laws_szFlightS.rs) (by kernel_rfl) (by kernel_rfl) (by kernel_rfl)
  rw [laws_szFlightS.eq] at h
  exact h
theorem laws_szNetwork.sound : Sound Tryz.prog 4 laws_szNetwork.con := by
  have h := fun_sound (Γ := laws_szNetwork.cx) (cx_ok.same rfl rfl) (fun n C h => con_look (con_cons laws_szCellMap.sound (con_cons laws_szDeviceS.sound (con_cons laws_szSessionS.sound (con_cons laws_szAccountS.sound (con_cons laws_szFlightS.sound con_nil))))) h) Tryz.checked.mixed Tryz.func4 (by kernel_rfl) (ps := laws_szNetwork.ps) (rs := laws_szNetwork.rs) (by kernel_rfl) (by kernel_rfl) (by kernel_rfl)
  rw [laws_szNetwork.eq] at h
  exact h
theorem spec_l1In.sound : Sound Tryz.prog 56 spec_l1In.con := by
  have h := fun_sound (Γ := spec_l1In.cx) (cx_ok.same rfl rfl) (fun n C h => con_look (con_nil) h) Tryz.checked.mixed Tryz.func56 (by kernel_rfl) (ps := spec_l1In.ps) (rs := spec_l1In.rs) (by kernel_rfl) (by kernel_rfl) (by kernel_rfl)
  rw [spec_l1In.eq] at h
  exact h
theorem spec_IsValidPool.sound : Sound Tryz.prog 55 spec_IsValidPool.con := by
  have h := fun_sound (Γ := spec_IsValidPool.cx) (cx_ok.same rfl rfl) (fun n C h => con_look (con_cons spec_l1In.sound con_nil) h) Tryz.checked.mixed Tryz.func55 (by kernel_rfl) (ps := spec_IsValidPool.ps) (rs := spec_IsValidPool.rs) (by kernel_rfl) (by kernel_rfl) (by kernel_rfl)
  rw [spec_IsValidPool.eq] at h
  exact h
theorem spec_IsServerUp.sound : Sound Tryz.prog 33 spec_IsServerUp.con := by
  have h := fun_sound (Γ := spec_IsServerUp.cx) (cx_ok.same rfl rfl) (fun n C h => con_look (con_cons spec_IsValidPool.sound (con_cons spec_l1In.sound con_nil)) h) Tryz.checked.mixed Tryz.func33 (by kernel_rfl) (ps := spec_IsServerUp.ps) (rs := spec_IsServerUp.rs) (by kernel_rfl) (by kernel_rfl) (by kernel_rfl)
  rw [spec_IsServerUp.eq] at h
  exact h
theorem spec_Mod.sound : Sound Tryz.prog 106 spec_Mod.con := by
  have h := fun_sound (Γ := spec_Mod.cx) (cx_ok.same rfl rfl) (fun n C h => con_look (con_cons spec_l1In.sound con_nil) h) Tryz.checked.mixed Tryz.func106 (by kernel_rfl) (ps := spec_Mod.ps) (rs := spec_Mod.rs) (by kernel_rfl) (by kernel_rfl) (by kernel_rfl)
  rw [spec_Mod.eq] at h
  exact h
theorem spec_Hash.sound : Sound Tryz.prog 90 spec_Hash.con := by
  have h := fun_sound (Γ := spec_Hash.cx) (cx_ok.same rfl rfl) (fun n C h => con_look (con_cons spec_Mod.sound con_nil) h) Tryz.checked.mixed Tryz.func90 (by kernel_rfl) (ps := spec_Hash.ps) (rs := spec_Hash.rs) (by kernel_rfl) (by kernel_rfl) (by kernel_rfl)
  rw [spec_Hash.eq] at h
  exact h
theorem spec_KeyedHash.sound : Sound Tryz.prog 57 spec_KeyedHash.con := by
  have h := fun_sound (Γ := spec_KeyedHash.cx) (cx_ok.same rfl rfl) (fun n C h => con_look (con_cons spec_Hash.sound con_nil) h) Tryz.checked.mixed Tryz.func57 (by kernel_rfl) (ps := spec_KeyedHash.ps) (rs := spec_KeyedHash.rs) (by kernel_rfl) (by kernel_rfl) (by kernel_rfl)
  rw [spec_KeyedHash.eq] at h
  exact h
theorem spec_RendezvousWeight.sound : Sound Tryz.prog 34 spec_RendezvousWeight.con := by
  have h := fun_sound (Γ := spec_RendezvousWeight.cx) (cx_ok.same rfl rfl) (fun n C h => con_look (con_cons spec_KeyedHash.sound con_nil) h) Tryz.checked.mixed Tryz.func34 (by kernel_rfl) (ps := spec_RendezvousWeight.ps) (rs := spec_RendezvousWeight.rs) (by kernel_rfl) (by kernel_rfl) (by kernel_rfl)
  rw [spec_RendezvousWeight.eq] at h
  exact h
theorem spec_SelectServer.sound : Sound Tryz.prog 14 spec_SelectServer.con := by
  have h := fun_sound (Γ := spec_SelectServer.cx) (cx_ok.same rfl rfl) (fun n C h => con_look (con_cons spec_IsServerUp.sound (con_cons spec_RendezvousWeight.sound con_nil)) h) Tryz.checked.mixed Tryz.func14 (by kernel_rfl) (ps := spec_SelectServer.ps) (rs := spec_SelectServer.rs) (by kernel_rfl) (by kernel_rfl) (by kernel_rfl)
  rw [spec_SelectServer.eq] at h
  exact h
theorem spec_ServerFor.sound : Sound Tryz.prog 5 spec_ServerFor.con := by
  have h := fun_sound (Γ := spec_ServerFor.cx) (cx_ok.same rfl rfl) (fun n C h => con_look (con_cons spec_SelectServer.sound con_nil) h) Tryz.checked.mixed Tryz.func5 (by kernel_rfl) (ps := spec_ServerFor.ps) (rs := spec_ServerFor.rs) (by kernel_rfl) (by kernel_rfl) (by kernel_rfl)
  rw [spec_ServerFor.eq] at h
  exact h
theorem laws_toIntS.sound : Sound Tryz.prog 91 laws_toIntS.con := by
  have h := fun_sound (Γ := laws_toIntS.cx) (cx_ok.same rfl rfl) (fun n C h => con_look (con_nil) h) Tryz.checked.mixed Tryz.func91 (by kernel_rfl) (ps := laws_toIntS.ps) (rs := laws_toIntS.rs) (by kernel_rfl) (by kernel_rfl) (by kernel_rfl)
  rw [laws_toIntS.eq] at h
  exact h
theorem laws_toCell.sound : Sound Tryz.prog 58 laws_toCell.con := by
  have h := fun_sound (Γ := laws_toCell.cx) (cx_ok.same rfl rfl) (fun n C h => con_look (con_cons laws_toIntS.sound con_nil) h) Tryz.checked.mixed Tryz.func58 (by kernel_rfl) (ps := laws_toCell.ps) (rs := laws_toCell.rs) (by kernel_rfl) (by kernel_rfl) (by kernel_rfl)
  rw [laws_toCell.eq] at h
  exact h
theorem laws_toCellS.sound : Sound Tryz.prog 35 laws_toCellS.con := by
  have h := fun_sound (Γ := laws_toCellS.cx) (cx_ok.same rfl rfl) (fun n C h => con_look (con_cons laws_toCell.sound con_nil) h) Tryz.checked.mixed Tryz.func35 (by kernel_rfl) (ps := laws_toCellS.ps) (rs := laws_toCellS.rs) (by kernel_rfl) (by kernel_rfl) (by kernel_rfl)
  rw [laws_toCellS.eq] at h
  exact h
theorem laws_toCellMap.sound : Sound Tryz.prog 15 laws_toCellMap.con := by
  have h := fun_sound (Γ := laws_toCellMap.cx) (cx_ok.same rfl rfl) (fun n C h => con_look (con_cons laws_toCellS.sound con_nil) h) Tryz.checked.mixed Tryz.func15 (by kernel_rfl) (ps := laws_toCellMap.ps) (rs := laws_toCellMap.rs) (by kernel_rfl) (by kernel_rfl) (by kernel_rfl)
  rw [laws_toCellMap.eq] at h
  exact h
theorem laws_toSubscriberID.sound : Sound Tryz.prog 92 laws_toSubscriberID.con := by
  have h := fun_sound (Γ := laws_toSubscriberID.cx) (cx_ok.same rfl rfl) (fun n C h => con_look (con_nil) h) Tryz.checked.mixed Tryz.func92 (by kernel_rfl) (ps := laws_toSubscriberID.ps) (rs := laws_toSubscriberID.rs) (by kernel_rfl) (by kernel_rfl) (by kernel_rfl)
  rw [laws_toSubscriberID.eq] at h
  exact h
theorem laws_toUSIM.sound : Sound Tryz.prog 59 laws_toUSIM.con := by
  have h := fun_sound (Γ := laws_toUSIM.cx) (cx_ok.same rfl rfl) (fun n C h => con_look (con_cons laws_toSubscriberID.sound con_nil) h) Tryz.checked.mixed Tryz.func59 (by kernel_rfl) (ps := laws_toUSIM.ps) (rs := laws_toUSIM.rs) (by kernel_rfl) (by kernel_rfl) (by kernel_rfl)
  rw [laws_toUSIM.eq] at h
  exact h
theorem laws_toByteS.sound : Sound Tryz.prog 108 laws_toByteS.con := by
  have h := fun_sound (Γ := laws_toByteS.cx) (cx_ok.same rfl rfl) (fun n C h => con_look (con_nil) h) Tryz.checked.mixed Tryz.func108 (by kernel_rfl) (ps := laws_toByteS.ps) (rs := laws_toByteS.rs) (by kernel_rfl) (by kernel_rfl) (by kernel_rfl)
  rw [laws_toByteS.eq] at h
  exact h
theorem laws_toPayload.sound : Sound Tryz.prog 94 laws_toPayload.con := by
  have h := fun_sound (Γ := laws_toPayload.cx) (cx_ok.same rfl rfl) (fun n C h => con_look (con_cons laws_toByteS.sound con_nil) h) Tryz.checked.mixed Tryz.func94 (by kernel_rfl) (ps := laws_toPayload.ps) (rs := laws_toPayload.rs) (by kernel_rfl) (by kernel_rfl) (by kernel_rfl)
  rw [laws_toPayload.eq] at h
  exact h
theorem laws_toPayloadS.sound : Sound Tryz.prog 65 laws_toPayloadS.con := by
  have h := fun_sound (Γ := laws_toPayloadS.cx) (cx_ok.same rfl rfl) (fun n C h => con_look (con_cons laws_toPayload.sound con_nil) h) Tryz.checked.mixed Tryz.func65 (by kernel_rfl) (ps := laws_toPayloadS.ps) (rs := laws_toPayloadS.rs) (by kernel_rfl) (by kernel_rfl) (by kernel_rfl)
  rw [laws_toPayloadS.eq] at h
  exact h
theorem laws_toNumberedPacket.sound : Sound Tryz.prog 107 laws_toNumberedPacket.con := by
  have h := fun_sound (Γ := laws_toNumberedPacket.cx) (cx_ok.same rfl rfl) (fun n C h => con_look (con_cons laws_toByteS.sound con_nil) h) Tryz.checked.mixed Tryz.func107 (by kernel_rfl) (ps := laws_toNumberedPacket.ps) (rs := laws_toNumberedPacket.rs) (by kernel_rfl) (by kernel_rfl) (by kernel_rfl)
  rw [laws_toNumberedPacket.eq] at h
  exact h
theorem laws_toNumberedPacketS.sound : Sound Tryz.prog 93 laws_toNumberedPacketS.con := by
  have h := fun_sound (Γ := laws_toNumberedPacketS.cx) (cx_ok.same rfl rfl) (fun n C h => con_look (con_cons laws_toNumberedPacket.sound con_nil) h) Tryz.checked.mixed Tryz.func93 (by kernel_rfl) (ps := laws_toNumberedPacketS.ps) (rs := laws_toNumberedPacketS.rs) (by kernel_rfl) (by kernel_rfl) (by kernel_rfl)
  rw [laws_toNumberedPacketS.eq] at h
  exact h
theorem laws_toReceiveWindow.sound : Sound Tryz.prog 60 laws_toReceiveWindow.con := by
  have h := fun_sound (Γ := laws_toReceiveWindow.cx) (cx_ok.same rfl rfl) (fun n C h => con_look (con_cons laws_toPayloadS.sound (con_cons laws_toNumberedPacketS.sound con_nil)) h) Tryz.checked.mixed Tryz.func60 (by kernel_rfl) (ps := laws_toReceiveWindow.ps) (rs := laws_toReceiveWindow.rs) (by kernel_rfl) (by kernel_rfl) (by kernel_rfl)
  rw [laws_toReceiveWindow.eq] at h
  exact h
theorem laws_toDevice.sound : Sound Tryz.prog 36 laws_toDevice.con := by
  have h := fun_sound (Γ := laws_toDevice.cx) (cx_ok.same rfl rfl) (fun n C h => con_look (con_cons laws_toUSIM.sound (con_cons laws_toReceiveWindow.sound con_nil)) h) Tryz.checked.mixed Tryz.func36 (by kernel_rfl) (ps := laws_toDevice.ps) (rs := laws_toDevice.rs) (by kernel_rfl) (by kernel_rfl) (by kernel_rfl)
  rw [laws_toDevice.eq] at h
  exact h
theorem laws_toDeviceS.sound : Sound Tryz.prog 16 laws_toDeviceS.con := by
  have h := fun_sound (Γ := laws_toDeviceS.cx) (cx_ok.same rfl rfl) (fun n C h => con_look (con_cons laws_toDevice.sound con_nil) h) Tryz.checked.mixed Tryz.func16 (by kernel_rfl) (ps := laws_toDeviceS.ps) (rs := laws_toDeviceS.rs) (by kernel_rfl) (by kernel_rfl) (by kernel_rfl)
  rw [laws_toDeviceS.eq] at h
  exact h
theorem laws_toSubscriberRecord.sound : Sound Tryz.prog 61 laws_toSubscriberRecord.con := by
  have h := fun_sound (Γ := laws_toSubscriberRecord.cx) (cx_ok.same rfl rfl) (fun n C h => con_look (con_cons laws_toSubscriberID.sound con_nil) h) Tryz.checked.mixed Tryz.func61 (by kernel_rfl) (ps := laws_toSubscriberRecord.ps) (rs := laws_toSubscriberRecord.rs) (by kernel_rfl) (by kernel_rfl) (by kernel_rfl)
  rw [laws_toSubscriberRecord.eq] at h
  exact h
theorem laws_toSubscription.sound : Sound Tryz.prog 62 laws_toSubscription.con := by
  have h := fun_sound (Γ := laws_toSubscription.cx) (cx_ok.same rfl rfl) (fun n C h => con_look (con_cons laws_toIntS.sound con_nil) h) Tryz.checked.mixed Tryz.func62 (by kernel_rfl) (ps := laws_toSubscription.ps) (rs := laws_toSubscription.rs) (by kernel_rfl) (by kernel_rfl) (by kernel_rfl)
  rw [laws_toSubscription.eq] at h
  exact h
theorem laws_toAuthVector.sound : Sound Tryz.prog 63 laws_toAuthVector.con := by
  have h := fun_sound (Γ := laws_toAuthVector.cx) (cx_ok.same rfl rfl) (fun n C h => con_look (con_nil) h) Tryz.checked.mixed Tryz.func63 (by kernel_rfl) (ps := laws_toAuthVector.ps) (rs := laws_toAuthVector.rs) (by kernel_rfl) (by kernel_rfl) (by kernel_rfl)
  rw [laws_toAuthVector.eq] at h
  exact h
theorem laws_toPagingState.sound : Sound Tryz.prog 64 laws_toPagingState.con := by
  have h := fun_sound (Γ := laws_toPagingState.cx) (cx_ok.same rfl rfl) (fun n C h => con_look (con_nil) h) Tryz.checked.mixed Tryz.func64 (by kernel_rfl) (ps := laws_toPagingState.ps) (rs := laws_toPagingState.rs) (by kernel_rfl) (by kernel_rfl) (by kernel_rfl)
  rw [laws_toPagingState.eq] at h
  exact h
theorem laws_toSendWindow.sound : Sound Tryz.prog 66 laws_toSendWindow.con := by
  have h := fun_sound (Γ := laws_toSendWindow.cx) (cx_ok.same rfl rfl) (fun n C h => con_look (con_cons laws_toNumberedPacketS.sound con_nil) h) Tryz.checked.mixed Tryz.func66 (by kernel_rfl) (ps := laws_toSendWindow.ps) (rs := laws_toSendWindow.rs) (by kernel_rfl) (by kernel_rfl) (by kernel_rfl)
  rw [laws_toSendWindow.eq] at h
  exact h
theorem laws_toQuota.sound : Sound Tryz.prog 67 laws_toQuota.con := by
  have h := fun_sound (Γ := laws_toQuota.cx) (cx_ok.same rfl rfl) (fun n C h => con_look (con_nil) h) Tryz.checked.mixed Tryz.func67 (by kernel_rfl) (ps := laws_toQuota.ps) (rs := laws_toQuota.rs) (by kernel_rfl) (by kernel_rfl) (by kernel_rfl)
  rw [laws_toQuota.eq] at h
  exact h
theorem laws_toSession.sound : Sound Tryz.prog 37 laws_toSession.con := by
  have h := fun_sound (Γ := laws_toSession.cx) (cx_ok.same rfl rfl) (fun n C h => con_look (con_cons laws_toSubscriberRecord.sound (con_cons laws_toSubscription.sound (con_cons laws_toAuthVector.sound (con_cons laws_toPagingState.sound (con_cons laws_toPayloadS.sound (con_cons laws_toSendWindow.sound (con_cons laws_toQuota.sound con_nil))))))) h) Tryz.checked.mixed Tryz.func37 (by kernel_rfl) (ps := laws_toSession.ps) (rs := laws_toSession.rs) (by kernel_rfl) (by kernel_rfl) (by kernel_rfl)
  rw [laws_toSession.eq] at h
  exact h
theorem laws_toSessionS.sound : Sound Tryz.prog 17 laws_toSessionS.con := by
  have h := fun_sound (Γ := laws_toSessionS.cx) (cx_ok.same rfl rfl) (fun n C h => con_look (con_cons laws_toSession.sound con_nil) h) Tryz.checked.mixed Tryz.func17 (by kernel_rfl) (ps := laws_toSessionS.ps) (rs := laws_toSessionS.rs) (by kernel_rfl) (by kernel_rfl) (by kernel_rfl)
  rw [laws_toSessionS.eq] at h
  exact h
theorem laws_toReservation.sound : Sound Tryz.prog 95 laws_toReservation.con := by
  have h := fun_sound (Γ := laws_toReservation.cx) (cx_ok.same rfl rfl) (fun n C h => con_look (con_nil) h) Tryz.checked.mixed Tryz.func95 (by kernel_rfl) (ps := laws_toReservation.ps) (rs := laws_toReservation.rs) (by kernel_rfl) (by kernel_rfl) (by kernel_rfl)
  rw [laws_toReservation.eq] at h
  exact h
theorem laws_toReservationS.sound : Sound Tryz.prog 68 laws_toReservationS.con := by
  have h := fun_sound (Γ := laws_toReservationS.cx) (cx_ok.same rfl rfl) (fun n C h => con_look (con_cons laws_toReservation.sound con_nil) h) Tryz.checked.mixed Tryz.func68 (by kernel_rfl) (ps := laws_toReservationS.ps) (rs := laws_toReservationS.rs) (by kernel_rfl) (by kernel_rfl) (by kernel_rfl)
  rw [laws_toReservationS.eq] at h
  exact h
theorem laws_toAccount.sound : Sound Tryz.prog 38 laws_toAccount.con := by
  have h := fun_sound (Γ := laws_toAccount.cx) (cx_ok.same rfl rfl) (fun n C h => con_look (con_cons laws_toReservationS.sound con_nil) h) Tryz.checked.mixed Tryz.func38 (by kernel_rfl) (ps := laws_toAccount.ps) (rs := laws_toAccount.rs) (by kernel_rfl) (by kernel_rfl) (by kernel_rfl)
  rw [laws_toAccount.eq] at h
  exact h
theorem laws_toAccountS.sound : Sound Tryz.prog 18 laws_toAccountS.con := by
  have h := fun_sound (Γ := laws_toAccountS.cx) (cx_ok.same rfl rfl) (fun n C h => con_look (con_cons laws_toAccount.sound con_nil) h) Tryz.checked.mixed Tryz.func18 (by kernel_rfl) (ps := laws_toAccountS.ps) (rs := laws_toAccountS.rs) (by kernel_rfl) (by kernel_rfl) (by kernel_rfl)
  rw [laws_toAccountS.eq] at h
  exact h
theorem laws_toSignal.sound : Sound Tryz.prog 69 laws_toSignal.con := by
  have h := fun_sound (Γ := laws_toSignal.cx) (cx_ok.same rfl rfl) (fun n C h => con_look (con_cons laws_toAuthVector.sound con_nil) h) Tryz.checked.mixed Tryz.func69 (by kernel_rfl) (ps := laws_toSignal.ps) (rs := laws_toSignal.rs) (by kernel_rfl) (by kernel_rfl) (by kernel_rfl)
  rw [laws_toSignal.eq] at h
  exact h
theorem laws_toSecuredMessage.sound : Sound Tryz.prog 96 laws_toSecuredMessage.con := by
  have h := fun_sound (Γ := laws_toSecuredMessage.cx) (cx_ok.same rfl rfl) (fun n C h => con_look (con_cons laws_toByteS.sound con_nil) h) Tryz.checked.mixed Tryz.func96 (by kernel_rfl) (ps := laws_toSecuredMessage.ps) (rs := laws_toSecuredMessage.rs) (by kernel_rfl) (by kernel_rfl) (by kernel_rfl)
  rw [laws_toSecuredMessage.eq] at h
  exact h
theorem laws_toRadioPacket.sound : Sound Tryz.prog 70 laws_toRadioPacket.con := by
  have h := fun_sound (Γ := laws_toRadioPacket.cx) (cx_ok.same rfl rfl) (fun n C h => con_look (con_cons laws_toSecuredMessage.sound con_nil) h) Tryz.checked.mixed Tryz.func70 (by kernel_rfl) (ps := laws_toRadioPacket.ps) (rs := laws_toRadioPacket.rs) (by kernel_rfl) (by kernel_rfl) (by kernel_rfl)
  rw [laws_toRadioPacket.eq] at h
  exact h
theorem laws_toFlight.sound : Sound Tryz.prog 39 laws_toFlight.con := by
  have h := fun_sound (Γ := laws_toFlight.cx) (cx_ok.same rfl rfl) (fun n C h => con_look (con_cons laws_toSignal.sound (con_cons laws_toRadioPacket.sound con_nil)) h) Tryz.checked.mixed Tryz.func39 (by kernel_rfl) (ps := laws_toFlight.ps) (rs := laws_toFlight.rs) (by kernel_rfl) (by kernel_rfl) (by kernel_rfl)
  rw [laws_toFlight.eq] at h
  exact h
theorem laws_toFlightS.sound : Sound Tryz.prog 19 laws_toFlightS.con := by
  have h := fun_sound (Γ := laws_toFlightS.cx) (cx_ok.same rfl rfl) (fun n C h => con_look (con_cons laws_toFlight.sound con_nil) h) Tryz.checked.mixed Tryz.func19 (by kernel_rfl) (ps := laws_toFlightS.ps) (rs := laws_toFlightS.rs) (by kernel_rfl) (by kernel_rfl) (by kernel_rfl)
  rw [laws_toFlightS.eq] at h
  exact h
theorem laws_toServerPool.sound : Sound Tryz.prog 20 laws_toServerPool.con := by
  have h := fun_sound (Γ := laws_toServerPool.cx) (cx_ok.same rfl rfl) (fun n C h => con_look (con_nil) h) Tryz.checked.mixed Tryz.func20 (by kernel_rfl) (ps := laws_toServerPool.ps) (rs := laws_toServerPool.rs) (by kernel_rfl) (by kernel_rfl) (by kernel_rfl)
  rw [laws_toServerPool.eq] at h
  exact h
theorem laws_toNetwork.sound : Sound Tryz.prog 6 laws_toNetwork.con := by
  have h := fun_sound (Γ := laws_toNetwork.cx) (cx_ok.same rfl rfl) (fun n C h => con_look (con_cons laws_toCellMap.sound (con_cons laws_toDeviceS.sound (con_cons laws_toSessionS.sound (con_cons laws_toAccountS.sound (con_cons laws_toFlightS.sound (con_cons laws_toServerPool.sound con_nil)))))) h) Tryz.checked.mixed Tryz.func6 (by kernel_rfl) (ps := laws_toNetwork.ps) (rs := laws_toNetwork.rs) (by kernel_rfl) (by kernel_rfl) (by kernel_rfl)
  rw [laws_toNetwork.eq] at h
  exact h
theorem impl_InRange.sound : Sound Tryz.prog 71 impl_InRange.con := by
  have h := fun_sound (Γ := impl_InRange.cx) (cx_ok.same rfl rfl) (fun n C h => con_look (con_nil) h) Tryz.checked.mixed Tryz.func71 (by kernel_rfl) (ps := impl_InRange.ps) (rs := impl_InRange.rs) (by kernel_rfl) (by kernel_rfl) (by kernel_rfl)
  rw [impl_InRange.eq] at h
  exact h
theorem impl_IsValidPool.sound : Sound Tryz.prog 40 impl_IsValidPool.con := by
  have h := fun_sound (Γ := impl_IsValidPool.cx) (cx_ok.same rfl rfl) (fun n C h => con_look (con_cons impl_InRange.sound con_nil) h) Tryz.checked.mixed Tryz.func40 (by kernel_rfl) (ps := impl_IsValidPool.ps) (rs := impl_IsValidPool.rs) (by kernel_rfl) (by kernel_rfl) (by kernel_rfl)
  rw [impl_IsValidPool.eq] at h
  exact h
theorem impl_IsServerUp.sound : Sound Tryz.prog 41 impl_IsServerUp.con := by
  have h := fun_sound (Γ := impl_IsServerUp.cx) (cx_ok.same rfl rfl) (fun n C h => con_look (con_cons impl_IsValidPool.sound (con_cons impl_InRange.sound con_nil)) h) Tryz.checked.mixed Tryz.func41 (by kernel_rfl) (ps := impl_IsServerUp.ps) (rs := impl_IsServerUp.rs) (by kernel_rfl) (by kernel_rfl) (by kernel_rfl)
  rw [impl_IsServerUp.eq] at h
  exact h
theorem impl_Mod.sound : Sound Tryz.prog 109 impl_Mod.con := by
  have h := fun_sound (Γ := impl_Mod.cx) (cx_ok.same rfl rfl) (fun n C h => con_look (con_cons impl_InRange.sound con_nil) h) Tryz.checked.mixed Tryz.func109 (by kernel_rfl) (ps := impl_Mod.ps) (rs := impl_Mod.rs) (by kernel_rfl) (by kernel_rfl) (by kernel_rfl)
  rw [impl_Mod.eq] at h
  exact h
theorem impl_hashStep.sound : Sound Tryz.prog 97 impl_hashStep.con := by
  have h := fun_sound (Γ := impl_hashStep.cx) (cx_ok.same rfl rfl) (fun n C h => con_look (con_cons impl_Mod.sound con_nil) h) Tryz.checked.mixed Tryz.func97 (by kernel_rfl) (ps := impl_hashStep.ps) (rs := impl_hashStep.rs) (by kernel_rfl) (by kernel_rfl) (by kernel_rfl)
  rw [impl_hashStep.eq] at h
  exact h
theorem impl_KeyedHash.sound : Sound Tryz.prog 72 impl_KeyedHash.con := by
  have h := fun_sound (Γ := impl_KeyedHash.cx) (cx_ok.same rfl rfl) (fun n C h => con_look (con_cons impl_hashStep.sound con_nil) h) Tryz.checked.mixed Tryz.func72 (by kernel_rfl) (ps := impl_KeyedHash.ps) (rs := impl_KeyedHash.rs) (by kernel_rfl) (by kernel_rfl) (by kernel_rfl)
  rw [impl_KeyedHash.eq] at h
  exact h
theorem impl_RendezvousWeight.sound : Sound Tryz.prog 42 impl_RendezvousWeight.con := by
  have h := fun_sound (Γ := impl_RendezvousWeight.cx) (cx_ok.same rfl rfl) (fun n C h => con_look (con_cons impl_KeyedHash.sound con_nil) h) Tryz.checked.mixed Tryz.func42 (by kernel_rfl) (ps := impl_RendezvousWeight.ps) (rs := impl_RendezvousWeight.rs) (by kernel_rfl) (by kernel_rfl) (by kernel_rfl)
  rw [impl_RendezvousWeight.eq] at h
  exact h
theorem impl_SelectServer.sound : Sound Tryz.prog 21 impl_SelectServer.con := by
  have h := fun_sound (Γ := impl_SelectServer.cx) (cx_ok.same rfl rfl) (fun n C h => con_look (con_cons impl_IsValidPool.sound (con_cons impl_IsServerUp.sound (con_cons impl_RendezvousWeight.sound con_nil))) h) Tryz.checked.mixed Tryz.func21 (by kernel_rfl) (ps := impl_SelectServer.ps) (rs := impl_SelectServer.rs) (by kernel_rfl) (by kernel_rfl) (by kernel_rfl)
  rw [impl_SelectServer.eq] at h
  exact h
theorem impl_ServerFor.sound : Sound Tryz.prog 7 impl_ServerFor.con := by
  have h := fun_sound (Γ := impl_ServerFor.cx) (cx_ok.same rfl rfl) (fun n C h => con_look (con_cons impl_SelectServer.sound con_nil) h) Tryz.checked.mixed Tryz.func7 (by kernel_rfl) (ps := impl_ServerFor.ps) (rs := impl_ServerFor.rs) (by kernel_rfl) (by kernel_rfl) (by kernel_rfl)
  rw [impl_ServerFor.eq] at h
  exact h
theorem laws_eqIntS.sound : Sound Tryz.prog 98 laws_eqIntS.con := by
  have h := fun_sound (Γ := laws_eqIntS.cx) (cx_ok.same rfl rfl) (fun n C h => con_look (con_nil) h) Tryz.checked.mixed Tryz.func98 (by kernel_rfl) (ps := laws_eqIntS.ps) (rs := laws_eqIntS.rs) (by kernel_rfl) (by kernel_rfl) (by kernel_rfl)
  rw [laws_eqIntS.eq] at h
  exact h
theorem laws_eqCell.sound : Sound Tryz.prog 73 laws_eqCell.con := by
  have h := fun_sound (Γ := laws_eqCell.cx) (cx_ok.same rfl rfl) (fun n C h => con_look (con_cons laws_eqIntS.sound con_nil) h) Tryz.checked.mixed Tryz.func73 (by kernel_rfl) (ps := laws_eqCell.ps) (rs := laws_eqCell.rs) (by kernel_rfl) (by kernel_rfl) (by kernel_rfl)
  rw [laws_eqCell.eq] at h
  exact h
theorem laws_eqCellS.sound : Sound Tryz.prog 43 laws_eqCellS.con := by
  have h := fun_sound (Γ := laws_eqCellS.cx) (cx_ok.same rfl rfl) (fun n C h => con_look (con_cons laws_eqCell.sound con_nil) h) Tryz.checked.mixed Tryz.func43 (by kernel_rfl) (ps := laws_eqCellS.ps) (rs := laws_eqCellS.rs) (by kernel_rfl) (by kernel_rfl) (by kernel_rfl)
  rw [laws_eqCellS.eq] at h
  exact h
theorem laws_eqCellMap.sound : Sound Tryz.prog 22 laws_eqCellMap.con := by
  have h := fun_sound (Γ := laws_eqCellMap.cx) (cx_ok.same rfl rfl) (fun n C h => con_look (con_cons laws_eqCellS.sound con_nil) h) Tryz.checked.mixed Tryz.func22 (by kernel_rfl) (ps := laws_eqCellMap.ps) (rs := laws_eqCellMap.rs) (by kernel_rfl) (by kernel_rfl) (by kernel_rfl)
  rw [laws_eqCellMap.eq] at h
  exact h
theorem laws_eqSubscriberID.sound : Sound Tryz.prog 99 laws_eqSubscriberID.con := by
  have h := fun_sound (Γ := laws_eqSubscriberID.cx) (cx_ok.same rfl rfl) (fun n C h => con_look (con_nil) h) Tryz.checked.mixed Tryz.func99 (by kernel_rfl) (ps := laws_eqSubscriberID.ps) (rs := laws_eqSubscriberID.rs) (by kernel_rfl) (by kernel_rfl) (by kernel_rfl)
  rw [laws_eqSubscriberID.eq] at h
  exact h
theorem laws_eqUSIM.sound : Sound Tryz.prog 74 laws_eqUSIM.con := by
  have h := fun_sound (Γ := laws_eqUSIM.cx) (cx_ok.same rfl rfl) (fun n C h => con_look (con_cons laws_eqSubscriberID.sound con_nil) h) Tryz.checked.mixed Tryz.func74 (by kernel_rfl) (ps := laws_eqUSIM.ps) (rs := laws_eqUSIM.rs) (by kernel_rfl) (by kernel_rfl) (by kernel_rfl)
  rw [laws_eqUSIM.eq] at h
  exact h
theorem laws_eqByteS.sound : Sound Tryz.prog 111 laws_eqByteS.con := by
  have h := fun_sound (Γ := laws_eqByteS.cx) (cx_ok.same rfl rfl) (fun n C h => con_look (con_nil) h) Tryz.checked.mixed Tryz.func111 (by kernel_rfl) (ps := laws_eqByteS.ps) (rs := laws_eqByteS.rs) (by kernel_rfl) (by kernel_rfl) (by kernel_rfl)
  rw [laws_eqByteS.eq] at h
  exact h
theorem laws_eqPayload.sound : Sound Tryz.prog 101 laws_eqPayload.con := by
  have h := fun_sound (Γ := laws_eqPayload.cx) (cx_ok.same rfl rfl) (fun n C h => con_look (con_cons laws_eqByteS.sound con_nil) h) Tryz.checked.mixed Tryz.func101 (by kernel_rfl) (ps := laws_eqPayload.ps) (rs := laws_eqPayload.rs) (by kernel_rfl) (by kernel_rfl) (by kernel_rfl)
  rw [laws_eqPayload.eq] at h
  exact h
theorem laws_eqPayloadS.sound : Sound Tryz.prog 80 laws_eqPayloadS.con := by
  have h := fun_sound (Γ := laws_eqPayloadS.cx) (cx_ok.same rfl rfl) (fun n C h => con_look (con_cons laws_eqPayload.sound con_nil) h) Tryz.checked.mixed Tryz.func80 (by kernel_rfl) (ps := laws_eqPayloadS.ps) (rs := laws_eqPayloadS.rs) (by kernel_rfl) (by kernel_rfl) (by kernel_rfl)
  rw [laws_eqPayloadS.eq] at h
  exact h
theorem laws_eqNumberedPacket.sound : Sound Tryz.prog 110 laws_eqNumberedPacket.con := by
  have h := fun_sound (Γ := laws_eqNumberedPacket.cx) (cx_ok.same rfl rfl) (fun n C h => con_look (con_cons laws_eqByteS.sound con_nil) h) Tryz.checked.mixed Tryz.func110 (by kernel_rfl) (ps := laws_eqNumberedPacket.ps) (rs := laws_eqNumberedPacket.rs) (by kernel_rfl) (by kernel_rfl) (by kernel_rfl)
  rw [laws_eqNumberedPacket.eq] at h
  exact h
theorem laws_eqNumberedPacketS.sound : Sound Tryz.prog 100 laws_eqNumberedPacketS.con := by
  have h := fun_sound (Γ := laws_eqNumberedPacketS.cx) (cx_ok.same rfl rfl) (fun n C h => con_look (con_cons laws_eqNumberedPacket.sound con_nil) h) Tryz.checked.mixed Tryz.func100 (by kernel_rfl) (ps := laws_eqNumberedPacketS.ps) (rs := laws_eqNumberedPacketS.rs) (by kernel_rfl) (by kernel_rfl) (by kernel_rfl)
  rw [laws_eqNumberedPacketS.eq] at h
  exact h
theorem laws_eqReceiveWindow.sound : Sound Tryz.prog 75 laws_eqReceiveWindow.con := by
  have h := fun_sound (Γ := laws_eqReceiveWindow.cx) (cx_ok.same rfl rfl) (fun n C h => con_look (con_cons laws_eqPayloadS.sound (con_cons laws_eqNumberedPacketS.sound con_nil)) h) Tryz.checked.mixed Tryz.func75 (by kernel_rfl) (ps := laws_eqReceiveWindow.ps) (rs := laws_eqReceiveWindow.rs) (by kernel_rfl) (by kernel_rfl) (by kernel_rfl)
  rw [laws_eqReceiveWindow.eq] at h
  exact h
theorem laws_eqDevice.sound : Sound Tryz.prog 44 laws_eqDevice.con := by
  have h := fun_sound (Γ := laws_eqDevice.cx) (cx_ok.same rfl rfl) (fun n C h => con_look (con_cons laws_eqUSIM.sound (con_cons laws_eqReceiveWindow.sound con_nil)) h) Tryz.checked.mixed Tryz.func44 (by kernel_rfl) (ps := laws_eqDevice.ps) (rs := laws_eqDevice.rs) (by kernel_rfl) (by kernel_rfl) (by kernel_rfl)
  rw [laws_eqDevice.eq] at h
  exact h
theorem laws_eqDeviceS.sound : Sound Tryz.prog 23 laws_eqDeviceS.con := by
  have h := fun_sound (Γ := laws_eqDeviceS.cx) (cx_ok.same rfl rfl) (fun n C h => con_look (con_cons laws_eqDevice.sound con_nil) h) Tryz.checked.mixed Tryz.func23 (by kernel_rfl) (ps := laws_eqDeviceS.ps) (rs := laws_eqDeviceS.rs) (by kernel_rfl) (by kernel_rfl) (by kernel_rfl)
  rw [laws_eqDeviceS.eq] at h
  exact h
theorem laws_eqSubscriberRecord.sound : Sound Tryz.prog 76 laws_eqSubscriberRecord.con := by
  have h := fun_sound (Γ := laws_eqSubscriberRecord.cx) (cx_ok.same rfl rfl) (fun n C h => con_look (con_cons laws_eqSubscriberID.sound con_nil) h) Tryz.checked.mixed Tryz.func76 (by kernel_rfl) (ps := laws_eqSubscriberRecord.ps) (rs := laws_eqSubscriberRecord.rs) (by kernel_rfl) (by kernel_rfl) (by kernel_rfl)
  rw [laws_eqSubscriberRecord.eq] at h
  exact h
theorem laws_eqSubscription.sound : Sound Tryz.prog 77 laws_eqSubscription.con := by
  have h := fun_sound (Γ := laws_eqSubscription.cx) (cx_ok.same rfl rfl) (fun n C h => con_look (con_cons laws_eqIntS.sound con_nil) h) Tryz.checked.mixed Tryz.func77 (by kernel_rfl) (ps := laws_eqSubscription.ps) (rs := laws_eqSubscription.rs) (by kernel_rfl) (by kernel_rfl) (by kernel_rfl)
  rw [laws_eqSubscription.eq] at h
  exact h
theorem laws_eqAuthVector.sound : Sound Tryz.prog 78 laws_eqAuthVector.con := by
  have h := fun_sound (Γ := laws_eqAuthVector.cx) (cx_ok.same rfl rfl) (fun n C h => con_look (con_nil) h) Tryz.checked.mixed Tryz.func78 (by kernel_rfl) (ps := laws_eqAuthVector.ps) (rs := laws_eqAuthVector.rs) (by kernel_rfl) (by kernel_rfl) (by kernel_rfl)
  rw [laws_eqAuthVector.eq] at h
  exact h
theorem laws_eqPagingState.sound : Sound Tryz.prog 79 laws_eqPagingState.con := by
  have h := fun_sound (Γ := laws_eqPagingState.cx) (cx_ok.same rfl rfl) (fun n C h => con_look (con_nil) h) Tryz.checked.mixed Tryz.func79 (by kernel_rfl) (ps := laws_eqPagingState.ps) (rs := laws_eqPagingState.rs) (by kernel_rfl) (by kernel_rfl) (by kernel_rfl)
  rw [laws_eqPagingState.eq] at h
  exact h
theorem laws_eqSendWindow.sound : Sound Tryz.prog 81 laws_eqSendWindow.con := by
  have h := fun_sound (Γ := laws_eqSendWindow.cx) (cx_ok.same rfl rfl) (fun n C h => con_look (con_cons laws_eqNumberedPacketS.sound con_nil) h) Tryz.checked.mixed Tryz.func81 (by kernel_rfl) (ps := laws_eqSendWindow.ps) (rs := laws_eqSendWindow.rs) (by kernel_rfl) (by kernel_rfl) (by kernel_rfl)
  rw [laws_eqSendWindow.eq] at h
  exact h
theorem laws_eqQuota.sound : Sound Tryz.prog 82 laws_eqQuota.con := by
  have h := fun_sound (Γ := laws_eqQuota.cx) (cx_ok.same rfl rfl) (fun n C h => con_look (con_nil) h) Tryz.checked.mixed Tryz.func82 (by kernel_rfl) (ps := laws_eqQuota.ps) (rs := laws_eqQuota.rs) (by kernel_rfl) (by kernel_rfl) (by kernel_rfl)
  rw [laws_eqQuota.eq] at h
  exact h
theorem laws_eqSession.sound : Sound Tryz.prog 45 laws_eqSession.con := by
  have h := fun_sound (Γ := laws_eqSession.cx) (cx_ok.same rfl rfl) (fun n C h => con_look (con_cons laws_eqSubscriberRecord.sound (con_cons laws_eqSubscription.sound (con_cons laws_eqAuthVector.sound (con_cons laws_eqPagingState.sound (con_cons laws_eqPayloadS.sound (con_cons laws_eqSendWindow.sound (con_cons laws_eqQuota.sound con_nil))))))) h) Tryz.checked.mixed Tryz.func45 (by kernel_rfl) (ps := laws_eqSession.ps) (rs := laws_eqSession.rs) (by kernel_rfl) (by kernel_rfl) (by kernel_rfl)
  rw [laws_eqSession.eq] at h
  exact h
theorem laws_eqSessionS.sound : Sound Tryz.prog 24 laws_eqSessionS.con := by
  have h := fun_sound (Γ := laws_eqSessionS.cx) (cx_ok.same rfl rfl) (fun n C h => con_look (con_cons laws_eqSession.sound con_nil) h) Tryz.checked.mixed Tryz.func24 (by kernel_rfl) (ps := laws_eqSessionS.ps) (rs := laws_eqSessionS.rs) (by kernel_rfl) (by kernel_rfl) (by kernel_rfl)
  rw [laws_eqSessionS.eq] at h
  exact h
theorem laws_eqReservation.sound : Sound Tryz.prog 102 laws_eqReservation.con := by
  have h := fun_sound (Γ := laws_eqReservation.cx) (cx_ok.same rfl rfl) (fun n C h => con_look (con_nil) h) Tryz.checked.mixed Tryz.func102 (by kernel_rfl) (ps := laws_eqReservation.ps) (rs := laws_eqReservation.rs) (by kernel_rfl) (by kernel_rfl) (by kernel_rfl)
  rw [laws_eqReservation.eq] at h
  exact h
theorem laws_eqReservationS.sound : Sound Tryz.prog 83 laws_eqReservationS.con := by
  have h := fun_sound (Γ := laws_eqReservationS.cx) (cx_ok.same rfl rfl) (fun n C h => con_look (con_cons laws_eqReservation.sound con_nil) h) Tryz.checked.mixed Tryz.func83 (by kernel_rfl) (ps := laws_eqReservationS.ps) (rs := laws_eqReservationS.rs) (by kernel_rfl) (by kernel_rfl) (by kernel_rfl)
  rw [laws_eqReservationS.eq] at h
  exact h
theorem laws_eqAccount.sound : Sound Tryz.prog 46 laws_eqAccount.con := by
  have h := fun_sound (Γ := laws_eqAccount.cx) (cx_ok.same rfl rfl) (fun n C h => con_look (con_cons laws_eqReservationS.sound con_nil) h) Tryz.checked.mixed Tryz.func46 (by kernel_rfl) (ps := laws_eqAccount.ps) (rs := laws_eqAccount.rs) (by kernel_rfl) (by kernel_rfl) (by kernel_rfl)
  rw [laws_eqAccount.eq] at h
  exact h
theorem laws_eqAccountS.sound : Sound Tryz.prog 25 laws_eqAccountS.con := by
  have h := fun_sound (Γ := laws_eqAccountS.cx) (cx_ok.same rfl rfl) (fun n C h => con_look (con_cons laws_eqAccount.sound con_nil) h) Tryz.checked.mixed Tryz.func25 (by kernel_rfl) (ps := laws_eqAccountS.ps) (rs := laws_eqAccountS.rs) (by kernel_rfl) (by kernel_rfl) (by kernel_rfl)
  rw [laws_eqAccountS.eq] at h
  exact h
theorem laws_eqSignal.sound : Sound Tryz.prog 84 laws_eqSignal.con := by
  have h := fun_sound (Γ := laws_eqSignal.cx) (cx_ok.same rfl rfl) (fun n C h => con_look (con_cons laws_eqAuthVector.sound con_nil) h) Tryz.checked.mixed Tryz.func84 (by kernel_rfl) (ps := laws_eqSignal.ps) (rs := laws_eqSignal.rs) (by kernel_rfl) (by kernel_rfl) (by kernel_rfl)
  rw [laws_eqSignal.eq] at h
  exact h
theorem laws_eqSecuredMessage.sound : Sound Tryz.prog 103 laws_eqSecuredMessage.con := by
  have h := fun_sound (Γ := laws_eqSecuredMessage.cx) (cx_ok.same rfl rfl) (fun n C h => con_look (con_cons laws_eqByteS.sound con_nil) h) Tryz.checked.mixed Tryz.func103 (by kernel_rfl) (ps := laws_eqSecuredMessage.ps) (rs := laws_eqSecuredMessage.rs) (by kernel_rfl) (by kernel_rfl) (by kernel_rfl)
  rw [laws_eqSecuredMessage.eq] at h
  exact h
theorem laws_eqRadioPacket.sound : Sound Tryz.prog 85 laws_eqRadioPacket.con := by
  have h := fun_sound (Γ := laws_eqRadioPacket.cx) (cx_ok.same rfl rfl) (fun n C h => con_look (con_cons laws_eqSecuredMessage.sound con_nil) h) Tryz.checked.mixed Tryz.func85 (by kernel_rfl) (ps := laws_eqRadioPacket.ps) (rs := laws_eqRadioPacket.rs) (by kernel_rfl) (by kernel_rfl) (by kernel_rfl)
  rw [laws_eqRadioPacket.eq] at h
  exact h
theorem laws_eqFlight.sound : Sound Tryz.prog 47 laws_eqFlight.con := by
  have h := fun_sound (Γ := laws_eqFlight.cx) (cx_ok.same rfl rfl) (fun n C h => con_look (con_cons laws_eqSignal.sound (con_cons laws_eqRadioPacket.sound con_nil)) h) Tryz.checked.mixed Tryz.func47 (by kernel_rfl) (ps := laws_eqFlight.ps) (rs := laws_eqFlight.rs) (by kernel_rfl) (by kernel_rfl) (by kernel_rfl)
  rw [laws_eqFlight.eq] at h
  exact h
theorem laws_eqFlightS.sound : Sound Tryz.prog 26 laws_eqFlightS.con := by
  have h := fun_sound (Γ := laws_eqFlightS.cx) (cx_ok.same rfl rfl) (fun n C h => con_look (con_cons laws_eqFlight.sound con_nil) h) Tryz.checked.mixed Tryz.func26 (by kernel_rfl) (ps := laws_eqFlightS.ps) (rs := laws_eqFlightS.rs) (by kernel_rfl) (by kernel_rfl) (by kernel_rfl)
  rw [laws_eqFlightS.eq] at h
  exact h
theorem laws_eqServerPool.sound : Sound Tryz.prog 27 laws_eqServerPool.con := by
  have h := fun_sound (Γ := laws_eqServerPool.cx) (cx_ok.same rfl rfl) (fun n C h => con_look (con_nil) h) Tryz.checked.mixed Tryz.func27 (by kernel_rfl) (ps := laws_eqServerPool.ps) (rs := laws_eqServerPool.rs) (by kernel_rfl) (by kernel_rfl) (by kernel_rfl)
  rw [laws_eqServerPool.eq] at h
  exact h
theorem laws_eqNetwork.sound : Sound Tryz.prog 8 laws_eqNetwork.con := by
  have h := fun_sound (Γ := laws_eqNetwork.cx) (cx_ok.same rfl rfl) (fun n C h => con_look (con_cons laws_eqCellMap.sound (con_cons laws_eqDeviceS.sound (con_cons laws_eqSessionS.sound (con_cons laws_eqAccountS.sound (con_cons laws_eqFlightS.sound (con_cons laws_eqServerPool.sound con_nil)))))) h) Tryz.checked.mixed Tryz.func8 (by kernel_rfl) (ps := laws_eqNetwork.ps) (rs := laws_eqNetwork.rs) (by kernel_rfl) (by kernel_rfl) (by kernel_rfl)
  rw [laws_eqNetwork.eq] at h
  exact h
theorem laws_FnExactServerFor.sound : Sound Tryz.prog 3 laws_FnExactServerFor.con := by
  have h := fun_sound (Γ := laws_FnExactServerFor.cx) (cx_ok.same rfl rfl) (fun n C h => con_look (con_cons laws_szNetwork.sound (con_cons spec_ServerFor.sound (con_cons laws_toNetwork.sound (con_cons impl_ServerFor.sound (con_cons laws_eqNetwork.sound con_nil))))) h) Tryz.checked.mixed Tryz.func3 (by kernel_rfl) (ps := laws_FnExactServerFor.ps) (rs := laws_FnExactServerFor.rs) (by kernel_rfl) (by kernel_rfl) (by kernel_rfl)
  rw [laws_FnExactServerFor.eq] at h
  exact h
end Go.Proofs.YtphigiidfanbbaaGreat.XS
