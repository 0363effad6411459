/- Guides and contracts, printed by a program. -/
import Derived.Test.YtdiagiflihpidaaDoorA6
import Derived.Test.YtdiagiflihpidaaDoorProg
import Derived.KernelRfl

namespace Go.Proofs.YtdiagiflihpidaaDoor
open Go Go.EV
set_option maxRecDepth 100000

def GG : Nat → Option (List V) := fun g => if g = 0 then some [.nilf, .fn 146 [] [], .fn 147 [] [], .fn 148 [] []] else none
abbrev TT := T Tryd.prog GG
theorem mixed : Tryd.prog.follows .mixedOrders = true := by kernel_rfl

structure SAddr where
  fHost : ByteArray
  fPort : Int
structure SBinding where
  fInside : SAddr
  fPeer : SAddr
  fPort : Int
  fUntil : Int
  fOpen : (List SAddr)
structure SNat where
  fMapping : Int
  fFilter : Int
  fTimeout : Int
  fHairpin : Bool
  fHost : ByteArray
  fLow : Int
  fHigh : Int
  fNow : Int
  fTable : (List SBinding)
structure SRouter where
  fNat : SNat
structure SHost where
  fs : ByteArray
structure SBend where
  fWhat : Int
  fAt : Int
  fN : Int
  fA : SAddr
  fS : ByteArray
structure SMove where
  fWhat : Int
  fFrom : Int
  fTo : Int
  fAfter : Int
structure SDraft where
  fMapping : Int
  fFilter : Int
  fPorts : Int
  fTimeout : Int
  fHairpin : Bool
  fMoves : (List SMove)
structure S2Tannoyref13Bend where
  a0 : SBend
  a1 : SBend
structure S4ApiNat where
  a0 : SNat
  a1 : SNat
  a2 : SNat
  a3 : SNat
structure SMove1 where
  fFrom : Int
  fTo : Int
  fAfter : Int
  fNow : Int
  fRawFrom : SAddr
  fRawTo : SAddr
def tySAddr : Ty SAddr := ⟨fun x => [.str x.fHost, .int .i64 x.fPort], fun x => [.str x.fHost, .int .i64 x.fPort], fun _ => rfl, fun _ => rfl, fun _ _ => rfl, fun _ => rfl⟩
def tySBinding : Ty SBinding := ⟨fun x => [.str x.fInside.fHost, .int .i64 x.fInside.fPort, .str x.fPeer.fHost, .int .i64 x.fPeer.fPort, .int .i64 x.fPort, .int .i64 x.fUntil, .sl false 2 (List.map tySAddr.c x.fOpen)], fun x => [.str x.fInside.fHost, .int .i64 x.fInside.fPort, .str x.fPeer.fHost, .int .i64 x.fPeer.fPort, .int .i64 x.fPort, .int .i64 x.fUntil, .sl false 2 (List.map tySAddr.c x.fOpen)], fun _ => rfl, fun _ => rfl, fun _ _ => rfl, fun _ => rfl⟩
def tySBindingO6 : Ty SBinding := ⟨fun x => [.str x.fInside.fHost, .int .i64 x.fInside.fPort, .str x.fPeer.fHost, .int .i64 x.fPeer.fPort, .int .i64 x.fPort, .int .i64 x.fUntil, .sl true 2 (List.map tySAddr.c x.fOpen)], fun x => [.str x.fInside.fHost, .int .i64 x.fInside.fPort, .str x.fPeer.fHost, .int .i64 x.fPeer.fPort, .int .i64 x.fPort, .int .i64 x.fUntil, .sl false 2 (List.map tySAddr.c x.fOpen)], fun _ => rfl, fun _ => rfl, fun _ _ => rfl, fun _ => rfl⟩
def tySMove : Ty SMove := ⟨fun x => [.int .u8 x.fWhat, .int .u8 x.fFrom, .int .u8 x.fTo, .int .u16 x.fAfter], fun x => [.int .u8 x.fWhat, .int .u8 x.fFrom, .int .u8 x.fTo, .int .u16 x.fAfter], fun _ => rfl, fun _ => rfl, fun _ _ => rfl, fun _ => rfl⟩

/-- (*tannoy nat.router).ports -/
noncomputable def g116 (p0 : SRouter) (p1 : Int) : TT (Unit) :=
  .done ()
theorem k116 (p0 : SRouter) (p1 : Int) : FnB Tryd.prog GG [0, 1, 2, 3, 4] Tryd.f116 [.snap [.int .i64 p0.fNat.fMapping, .int .i64 p0.fNat.fFilter, .int .i64 p0.fNat.fTimeout, .bool p0.fNat.fHairpin, .str p0.fNat.fHost, .int .i64 p0.fNat.fLow, .int .i64 p0.fNat.fHigh, .int .i64 p0.fNat.fNow, .sl false 7 (List.map tySBinding.c p0.fNat.fTable)], .int .i64 p1] (Ext.of .normal (argTs [.snap [.int .i64 p0.fNat.fMapping, .int .i64 p0.fNat.fFilter, .int .i64 p0.fNat.fTimeout, .bool p0.fNat.fHairpin, .str p0.fNat.fHost, .int .i64 p0.fNat.fLow, .int .i64 p0.fNat.fHigh, .int .i64 p0.fNat.fNow, .sl false 7 (List.map tySBinding.c p0.fNat.fTable)], .int .i64 p1]) [] [] (by rfl)) (g116 p0 p1) (fun (r : Unit) => .fn 127 [] [.ptr 3 0 0, .ptr 2 0 0]) (fun (r : Unit) => Ext.of .normal [] [(2, ⟨1, true, [[.snap [.int .i64 p0.fNat.fMapping, .int .i64 p0.fNat.fFilter, .int .i64 p0.fNat.fTimeout, .bool p0.fNat.fHairpin, .str p0.fNat.fHost, .int .i64 p0.fNat.fLow, .int .i64 p0.fNat.fHigh, .int .i64 p0.fNat.fNow, .sl false 7 (List.map tySBinding.c p0.fNat.fTable)]]]⟩), (3, ⟨1, true, [[.int .i64 p1]]⟩)] [] (by rfl)) := by unfold FnB; kernel_rfl
noncomputable def s116 (p0 : SRouter) (p1 : Int) : EV.Spec Tryd.prog GG (Unit) := .ofFnB 116 [] mixed Tryd.func116 rfl (fun _ => rfl) (k116 p0 p1)

end Go.Proofs.YtdiagiflihpidaaDoor
