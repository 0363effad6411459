/- network.Known's calls, one by one, by the kernel. No conditions.
   network.Known's answer, from its calls, by the kernel. No conditions.
   The listed variable opened; what a call may change: nothing of what was there.
   Arguments opened: what comes in reads as typed data. Conditions: none but that it reads at all.
   tannoylaw14.NetworkKnown: the card. No conditions but the card's own. -/
import Derived.Test.YtdiagiflihpidaaDoorS10
import Derived.Test.YtdiagiflihpidaaDoorS8
import Derived.Test.YtdiagiflihpidaaDoorRows
import Derived.ChangeSame
import Derived.ChangeVars
import Derived.JoinedOf
import Derived.RowKit
import Derived.ProofKit
import Derived.LaidMore
import Derived.OpenShut
import Derived.Stop.Joined
import Derived.ChangeArms
import Derived.DataReads
import Derived.Carry
import Derived.SevenTiedAt
import Derived.Test.YtdiagiflihpidaaDoorCards
import Derived.Test.YtdiagiflihpidaaDoorTie
import Derived.KernelRfl
namespace Go.Proofs.YtdiagiflihpidaaDoor
open Go Go.EV
set_option maxRecDepth 100000
def fl (k : Int) : SFlight := SFlight.mk 10 k (-1) (-1) (SAddr.mk (bs [198, 51, 100, 1]) 1) (SAddr.mk (bs [198, 51, 100, 1]) 80) (bs [])
def v786 : Bool := true
theorem q786 : (s37).o = some v786 := by kernel_rfl
def v787 : SAddr := (SAddr.mk (bs [192, 0, 2, 9]) 5000)
theorem q787 : (s49 192 0 2 9 5000).o = some v787 := by kernel_rfl
def v788 : SAddr := (SAddr.mk (bs [198, 51, 100, 1]) 80)
theorem q788 : (s49 198 51 100 1 80).o = some v788 := by kernel_rfl
def v789 : SNetwork := (SNetwork.mk [(SHost1.mk (bs [198, 51, 100, 1]) (-1) 10 0 0), (SHost1.mk (bs [10, 0, 0, 1]) 0 20 0 0), (SHost1.mk (bs [10, 0, 0, 2]) 0 5 2 0)] [(SNat.mk 1 3 1000 true (bs [192, 0, 2, 9]) 5000 5001 0 [])] [] 0 0)
theorem q789 : (s50).o = some v789 := by kernel_rfl
def v790 : SNetwork × Int := ((SNetwork.mk [(SHost1.mk (bs [198, 51, 100, 1]) (-1) 10 0 0), (SHost1.mk (bs [10, 0, 0, 1]) 0 20 0 1), (SHost1.mk (bs [10, 0, 0, 2]) 0 5 2 0)] [(SNat.mk 1 3 1000 true (bs [192, 0, 2, 9]) 5000 5001 0 [(SBinding.mk (SAddr.mk (bs [10, 0, 0, 1]) 5000) (SAddr.mk (bs []) 0) 5000 1000 [(SAddr.mk (bs [198, 51, 100, 1]) 80)])])] [(SFlight.mk 20 0 0 (-1) (SAddr.mk (bs [192, 0, 2, 9]) 5000) (SAddr.mk (bs [198, 51, 100, 1]) 80) (bs [120]))] 0 1), 0)
theorem q790 : (s40 v789 0 1 5000 v788 (bs [120])).o = some v790 := by kernel_rfl
def v791 : SNetwork × SDelivery × Int := ((SNetwork.mk [(SHost1.mk (bs [198, 51, 100, 1]) (-1) 10 0 0), (SHost1.mk (bs [10, 0, 0, 1]) 0 20 0 1), (SHost1.mk (bs [10, 0, 0, 2]) 0 5 2 0)] [(SNat.mk 1 3 1000 true (bs [192, 0, 2, 9]) 5000 5001 0 [(SBinding.mk (SAddr.mk (bs [10, 0, 0, 1]) 5000) (SAddr.mk (bs []) 0) 5000 1000 [(SAddr.mk (bs [198, 51, 100, 1]) 80)])])] [] 20 1), ((SDelivery.mk 0 (SAddr.mk (bs [192, 0, 2, 9]) 5000) (SAddr.mk (bs [198, 51, 100, 1]) 80) (bs [120])), 0))
theorem q791 : (s48 v790.1).o = some v791 := by kernel_rfl
def v792 : SNetwork × Int := ((SNetwork.mk [(SHost1.mk (bs [198, 51, 100, 1]) (-1) 10 0 1), (SHost1.mk (bs [10, 0, 0, 1]) 0 20 0 1), (SHost1.mk (bs [10, 0, 0, 2]) 0 5 2 0)] [(SNat.mk 1 3 1000 true (bs [192, 0, 2, 9]) 5000 5001 0 [(SBinding.mk (SAddr.mk (bs [10, 0, 0, 1]) 5000) (SAddr.mk (bs []) 0) 5000 1000 [(SAddr.mk (bs [198, 51, 100, 1]) 80)])])] [(SFlight.mk 30 1 (-1) (-1) (SAddr.mk (bs [198, 51, 100, 1]) 80) (SAddr.mk (bs [192, 0, 2, 9]) 5000) (bs [121]))] 20 2), 0)
theorem q792 : (s40 v791.1 20 0 80 v787 (bs [121])).o = some v792 := by kernel_rfl
def v793 : SNetwork × SDelivery × Int := ((SNetwork.mk [(SHost1.mk (bs [198, 51, 100, 1]) (-1) 10 0 1), (SHost1.mk (bs [10, 0, 0, 1]) 0 20 0 1), (SHost1.mk (bs [10, 0, 0, 2]) 0 5 2 0)] [(SNat.mk 1 3 1000 true (bs [192, 0, 2, 9]) 5000 5001 30 [(SBinding.mk (SAddr.mk (bs [10, 0, 0, 1]) 5000) (SAddr.mk (bs []) 0) 5000 1000 [(SAddr.mk (bs [198, 51, 100, 1]) 80)])])] [] 30 2), ((SDelivery.mk 1 (SAddr.mk (bs [198, 51, 100, 1]) 80) (SAddr.mk (bs [10, 0, 0, 1]) 5000) (bs [121])), 0))
theorem q793 : (s48 v792.1).o = some v793 := by kernel_rfl
def v794 : SNetwork := (SNetwork.mk [(SHost1.mk (bs [198, 51, 100, 1]) (-1) 10 0 0), (SHost1.mk (bs [10, 0, 0, 1]) 0 20 0 0), (SHost1.mk (bs [10, 0, 0, 2]) 0 5 2 0)] [(SNat.mk 1 3 1000 true (bs [192, 0, 2, 9]) 5000 5001 0 [])] [] 0 0)
theorem q794 : (s50).o = some v794 := by kernel_rfl
def v795 : SNetwork × Int := ((SNetwork.mk [(SHost1.mk (bs [198, 51, 100, 1]) (-1) 10 0 1), (SHost1.mk (bs [10, 0, 0, 1]) 0 20 0 0), (SHost1.mk (bs [10, 0, 0, 2]) 0 5 2 0)] [(SNat.mk 1 3 1000 true (bs [192, 0, 2, 9]) 5000 5001 0 [])] [(SFlight.mk 10 0 (-1) (-1) (SAddr.mk (bs [198, 51, 100, 1]) 80) (SAddr.mk (bs [192, 0, 2, 9]) 5000) (bs [121]))] 0 1), 0)
theorem q795 : (s40 v794 0 0 80 v787 (bs [121])).o = some v795 := by kernel_rfl
def v796 : SNetwork × SDelivery × Int := ((SNetwork.mk [(SHost1.mk (bs [198, 51, 100, 1]) (-1) 10 0 1), (SHost1.mk (bs [10, 0, 0, 1]) 0 20 0 0), (SHost1.mk (bs [10, 0, 0, 2]) 0 5 2 0)] [(SNat.mk 1 3 1000 true (bs [192, 0, 2, 9]) 5000 5001 0 [])] [] 10 1), ((SDelivery.mk (-1) (SAddr.mk (bs [198, 51, 100, 1]) 80) (SAddr.mk (bs [192, 0, 2, 9]) 5000) (bs [121])), 0))
theorem q796 : (s48 v795.1).o = some v796 := by kernel_rfl
def v797 : SNetwork := (SNetwork.mk [(SHost1.mk (bs [198, 51, 100, 1]) (-1) 10 0 0), (SHost1.mk (bs [10, 0, 0, 1]) 0 20 0 0), (SHost1.mk (bs [10, 0, 0, 2]) 0 5 2 0)] [(SNat.mk 1 3 1000 true (bs [192, 0, 2, 9]) 5000 5001 0 [])] [] 0 0)
theorem q797 : (s50).o = some v797 := by kernel_rfl
def v798 : SAddr := (SAddr.mk (bs [10, 0, 0, 1]) 9)
theorem q798 : (s49 10 0 0 1 9).o = some v798 := by kernel_rfl
def v799 : SNetwork × Int := ((SNetwork.mk [(SHost1.mk (bs [198, 51, 100, 1]) (-1) 10 0 0), (SHost1.mk (bs [10, 0, 0, 1]) 0 20 0 0), (SHost1.mk (bs [10, 0, 0, 2]) 0 5 2 1)] [(SNat.mk 1 3 1000 true (bs [192, 0, 2, 9]) 5000 5001 0 [])] [(SFlight.mk 5 0 (-1) 0 (SAddr.mk (bs [10, 0, 0, 2]) 7) (SAddr.mk (bs [10, 0, 0, 1]) 9) (bs [122]))] 0 1), 0)
theorem q799 : (s40 v797 0 2 7 v798 (bs [122])).o = some v799 := by kernel_rfl
def v800 : SAddr := (SAddr.mk (bs [10, 0, 0, 1]) 9)
theorem q800 : (s49 10 0 0 1 9).o = some v800 := by kernel_rfl
def v801 : SNetwork × Int := ((SNetwork.mk [(SHost1.mk (bs [198, 51, 100, 1]) (-1) 10 0 0), (SHost1.mk (bs [10, 0, 0, 1]) 0 20 0 0), (SHost1.mk (bs [10, 0, 0, 2]) 0 5 2 2)] [(SNat.mk 1 3 1000 true (bs [192, 0, 2, 9]) 5000 5001 0 [])] [(SFlight.mk 5 0 (-1) 0 (SAddr.mk (bs [10, 0, 0, 2]) 7) (SAddr.mk (bs [10, 0, 0, 1]) 9) (bs [122]))] 0 1), 0)
theorem q801 : (s40 v799.1 0 2 7 v800 (bs [122])).o = some v801 := by kernel_rfl
def v802 : SNetwork × List SDelivery × Int := ((SNetwork.mk [(SHost1.mk (bs [198, 51, 100, 1]) (-1) 10 0 0), (SHost1.mk (bs [10, 0, 0, 1]) 0 20 0 0), (SHost1.mk (bs [10, 0, 0, 2]) 0 5 2 2)] [(SNat.mk 1 3 1000 true (bs [192, 0, 2, 9]) 5000 5001 0 [])] [] 100 1), ([(SDelivery.mk 1 (SAddr.mk (bs [10, 0, 0, 2]) 7) (SAddr.mk (bs [10, 0, 0, 1]) 9) (bs [122]))], 0))
theorem q802 : (s41 v801.1 100).o = some v802 := by kernel_rfl
def v803 : SNetwork := (SNetwork.mk [(SHost1.mk (bs [198, 51, 100, 1]) (-1) 10 0 0), (SHost1.mk (bs [10, 0, 0, 1]) 0 20 0 0), (SHost1.mk (bs [10, 0, 0, 2]) 0 5 2 0)] [(SNat.mk 1 3 1000 true (bs [192, 0, 2, 9]) 5000 5001 0 [])] [] 0 0)
theorem q803 : (s50).o = some v803 := by kernel_rfl
def v804 : Int × Int := (0, 4)
theorem q804 : (s47 v803).o = some v804 := by kernel_rfl
def v805 : SNetwork := (SNetwork.mk [(SHost1.mk (bs [198, 51, 100, 1]) (-1) 10 0 0), (SHost1.mk (bs [10, 0, 0, 1]) 0 20 0 0), (SHost1.mk (bs [10, 0, 0, 2]) 0 5 2 0)] [(SNat.mk 1 3 1000 true (bs [192, 0, 2, 9]) 5000 5001 0 [])] [] 0 0)
theorem q805 : (s50).o = some v805 := by kernel_rfl
def v806 : SNetwork × Int := ((SNetwork.mk [] [] [] 0 0), 2)
theorem q806 : (s40 v805 0 3 1 v788 ByteArray.empty).o = some v806 := by kernel_rfl
def v807 : SNetwork := (SNetwork.mk [(SHost1.mk (bs [198, 51, 100, 1]) (-1) 10 0 0), (SHost1.mk (bs [10, 0, 0, 1]) 0 20 0 0), (SHost1.mk (bs [10, 0, 0, 2]) 0 5 2 0)] [(SNat.mk 1 3 1000 true (bs [192, 0, 2, 9]) 5000 5001 0 [])] [] 0 0)
theorem q807 : (s50).o = some v807 := by kernel_rfl
def v808 : SNetwork × List SDelivery × Int := ((SNetwork.mk [] [] [] 0 0), ([], 2))
theorem q808 : (s41 v807 (-1)).o = some v808 := by kernel_rfl
def v809 : SNetwork := (SNetwork.mk [(SHost1.mk (bs [198, 51, 100, 1]) (-1) 10 0 0), (SHost1.mk (bs [10, 0, 0, 1]) 0 20 0 0), (SHost1.mk (bs [10, 0, 0, 2]) 0 5 2 0)] [(SNat.mk 1 3 1000 true (bs [192, 0, 2, 9]) 5000 5001 0 [])] [] 0 0)
theorem q809 : (s50).o = some v809 := by kernel_rfl
def v810 : SNetwork × Int := ((SNetwork.mk [] [] [] 0 0), 2)
theorem q810 : (s40 v809 0 0 0 v788 ByteArray.empty).o = some v810 := by kernel_rfl
def v811 : SNetwork := (SNetwork.mk [(SHost1.mk (bs [198, 51, 100, 1]) (-1) 10 0 0), (SHost1.mk (bs [10, 0, 0, 1]) 0 20 0 0), (SHost1.mk (bs [10, 0, 0, 2]) 0 5 2 0)] [(SNat.mk 1 3 1000 true (bs [192, 0, 2, 9]) 5000 5001 0 [])] [] 0 0)
theorem q811 : (s50).o = some v811 := by kernel_rfl
def v812 : SAddr := (SAddr.mk (bs [198, 51, 100, 1]) 0)
theorem q812 : (s49 198 51 100 1 0).o = some v812 := by kernel_rfl
def v813 : SNetwork × Int := ((SNetwork.mk [] [] [] 0 0), 2)
theorem q813 : (s40 v811 0 0 1 v812 ByteArray.empty).o = some v813 := by kernel_rfl
def v814 : SNetwork := (SNetwork.mk [(SHost1.mk (bs [198, 51, 100, 1]) (-1) 10 0 0), (SHost1.mk (bs [10, 0, 0, 1]) 0 20 0 0), (SHost1.mk (bs [10, 0, 0, 2]) 0 5 2 0)] [(SNat.mk 1 3 1000 true (bs [192, 0, 2, 9]) 5000 5001 0 [])] [] 0 0)
theorem q814 : (s50).o = some v814 := by kernel_rfl
def v815 : SNetwork × Int := ((SNetwork.mk [] [] [] 0 0), 3)
theorem q815 : (s40 v814 0 0 1 v788 (strOfNums (List.replicate 1201 (0 : Int)))).o = some v815 := by kernel_rfl
def v816 : SNetwork := (SNetwork.mk [(SHost1.mk (bs [198, 51, 100, 1]) (-1) 10 0 0), (SHost1.mk (bs [10, 0, 0, 1]) 0 20 0 0), (SHost1.mk (bs [10, 0, 0, 2]) 0 5 2 0)] [(SNat.mk 1 3 1000 true (bs [192, 0, 2, 9]) 5000 5001 0 [])] [] 0 0)
theorem q816 : (s50).o = some v816 := by kernel_rfl
def v817 : SNetwork × SDelivery × Int := ((SNetwork.mk [] [] [] 0 0), ((SDelivery.mk 0 (SAddr.mk (bs []) 0) (SAddr.mk (bs []) 0) (bs [])), 4))
theorem q817 : (s48 v816).o = some v817 := by kernel_rfl
def v818 : SNetwork := (SNetwork.mk [(SHost1.mk (bs [198, 51, 100, 1]) (-1) 10 0 0), (SHost1.mk (bs [10, 0, 0, 1]) 0 20 0 0), (SHost1.mk (bs [10, 0, 0, 2]) 0 5 2 0)] [(SNat.mk 1 3 1000 true (bs [192, 0, 2, 9]) 5000 5001 0 [])] [] 0 0)
theorem q818 : (s50).o = some v818 := by kernel_rfl
def v819 : SNetwork × Int := ((SNetwork.mk [(SHost1.mk (bs [198, 51, 100, 1]) (-1) 10 0 1), (SHost1.mk (bs [10, 0, 0, 1]) 0 20 0 0), (SHost1.mk (bs [10, 0, 0, 2]) 0 5 2 0)] [(SNat.mk 1 3 1000 true (bs [192, 0, 2, 9]) 5000 5001 0 [])] [fl 0] 0 1), 0)
theorem q819 : (s40 v818 0 0 1 v788 ByteArray.empty).o = some v819 := by kernel_rfl
def v820 : SNetwork × Int := ((SNetwork.mk [(SHost1.mk (bs [198, 51, 100, 1]) (-1) 10 0 2), (SHost1.mk (bs [10, 0, 0, 1]) 0 20 0 0), (SHost1.mk (bs [10, 0, 0, 2]) 0 5 2 0)] [(SNat.mk 1 3 1000 true (bs [192, 0, 2, 9]) 5000 5001 0 [])] [fl 0, fl 1] 0 2), 0)
theorem q820 : (s40 v819.1 0 0 1 v788 ByteArray.empty).o = some v820 := by kernel_rfl
def v821 : SNetwork × Int := ((SNetwork.mk [(SHost1.mk (bs [198, 51, 100, 1]) (-1) 10 0 3), (SHost1.mk (bs [10, 0, 0, 1]) 0 20 0 0), (SHost1.mk (bs [10, 0, 0, 2]) 0 5 2 0)] [(SNat.mk 1 3 1000 true (bs [192, 0, 2, 9]) 5000 5001 0 [])] [fl 0, fl 1, fl 2] 0 3), 0)
theorem q821 : (s40 v820.1 0 0 1 v788 ByteArray.empty).o = some v821 := by kernel_rfl
def v822 : SNetwork × Int := ((SNetwork.mk [(SHost1.mk (bs [198, 51, 100, 1]) (-1) 10 0 4), (SHost1.mk (bs [10, 0, 0, 1]) 0 20 0 0), (SHost1.mk (bs [10, 0, 0, 2]) 0 5 2 0)] [(SNat.mk 1 3 1000 true (bs [192, 0, 2, 9]) 5000 5001 0 [])] [fl 0, fl 1, fl 2, fl 3] 0 4), 0)
theorem q822 : (s40 v821.1 0 0 1 v788 ByteArray.empty).o = some v822 := by kernel_rfl
def v823 : SNetwork × Int := ((SNetwork.mk [(SHost1.mk (bs [198, 51, 100, 1]) (-1) 10 0 5), (SHost1.mk (bs [10, 0, 0, 1]) 0 20 0 0), (SHost1.mk (bs [10, 0, 0, 2]) 0 5 2 0)] [(SNat.mk 1 3 1000 true (bs [192, 0, 2, 9]) 5000 5001 0 [])] [fl 0, fl 1, fl 2, fl 3, fl 4] 0 5), 0)
theorem q823 : (s40 v822.1 0 0 1 v788 ByteArray.empty).o = some v823 := by kernel_rfl
def v824 : SNetwork × Int := ((SNetwork.mk [(SHost1.mk (bs [198, 51, 100, 1]) (-1) 10 0 6), (SHost1.mk (bs [10, 0, 0, 1]) 0 20 0 0), (SHost1.mk (bs [10, 0, 0, 2]) 0 5 2 0)] [(SNat.mk 1 3 1000 true (bs [192, 0, 2, 9]) 5000 5001 0 [])] [fl 0, fl 1, fl 2, fl 3, fl 4, fl 5] 0 6), 0)
theorem q824 : (s40 v823.1 0 0 1 v788 ByteArray.empty).o = some v824 := by kernel_rfl
def v825 : SNetwork × Int := ((SNetwork.mk [(SHost1.mk (bs [198, 51, 100, 1]) (-1) 10 0 7), (SHost1.mk (bs [10, 0, 0, 1]) 0 20 0 0), (SHost1.mk (bs [10, 0, 0, 2]) 0 5 2 0)] [(SNat.mk 1 3 1000 true (bs [192, 0, 2, 9]) 5000 5001 0 [])] [fl 0, fl 1, fl 2, fl 3, fl 4, fl 5, fl 6] 0 7), 0)
theorem q825 : (s40 v824.1 0 0 1 v788 ByteArray.empty).o = some v825 := by kernel_rfl
def v826 : SNetwork × Int := ((SNetwork.mk [(SHost1.mk (bs [198, 51, 100, 1]) (-1) 10 0 8), (SHost1.mk (bs [10, 0, 0, 1]) 0 20 0 0), (SHost1.mk (bs [10, 0, 0, 2]) 0 5 2 0)] [(SNat.mk 1 3 1000 true (bs [192, 0, 2, 9]) 5000 5001 0 [])] [fl 0, fl 1, fl 2, fl 3, fl 4, fl 5, fl 6, fl 7] 0 8), 0)
theorem q826 : (s40 v825.1 0 0 1 v788 ByteArray.empty).o = some v826 := by kernel_rfl
def v827 : SNetwork × Int := ((SNetwork.mk [(SHost1.mk (bs [198, 51, 100, 1]) (-1) 10 0 9), (SHost1.mk (bs [10, 0, 0, 1]) 0 20 0 0), (SHost1.mk (bs [10, 0, 0, 2]) 0 5 2 0)] [(SNat.mk 1 3 1000 true (bs [192, 0, 2, 9]) 5000 5001 0 [])] [fl 0, fl 1, fl 2, fl 3, fl 4, fl 5, fl 6, fl 7, fl 8] 0 9), 0)
theorem q827 : (s40 v826.1 0 0 1 v788 ByteArray.empty).o = some v827 := by kernel_rfl
def v828 : SNetwork × Int := ((SNetwork.mk [(SHost1.mk (bs [198, 51, 100, 1]) (-1) 10 0 10), (SHost1.mk (bs [10, 0, 0, 1]) 0 20 0 0), (SHost1.mk (bs [10, 0, 0, 2]) 0 5 2 0)] [(SNat.mk 1 3 1000 true (bs [192, 0, 2, 9]) 5000 5001 0 [])] [fl 0, fl 1, fl 2, fl 3, fl 4, fl 5, fl 6, fl 7, fl 8, fl 9] 0 10), 0)
theorem q828 : (s40 v827.1 0 0 1 v788 ByteArray.empty).o = some v828 := by kernel_rfl
def v829 : SNetwork × Int := ((SNetwork.mk [(SHost1.mk (bs [198, 51, 100, 1]) (-1) 10 0 11), (SHost1.mk (bs [10, 0, 0, 1]) 0 20 0 0), (SHost1.mk (bs [10, 0, 0, 2]) 0 5 2 0)] [(SNat.mk 1 3 1000 true (bs [192, 0, 2, 9]) 5000 5001 0 [])] [fl 0, fl 1, fl 2, fl 3, fl 4, fl 5, fl 6, fl 7, fl 8, fl 9, fl 10] 0 11), 0)
theorem q829 : (s40 v828.1 0 0 1 v788 ByteArray.empty).o = some v829 := by kernel_rfl
def v830 : SNetwork × Int := ((SNetwork.mk [(SHost1.mk (bs [198, 51, 100, 1]) (-1) 10 0 12), (SHost1.mk (bs [10, 0, 0, 1]) 0 20 0 0), (SHost1.mk (bs [10, 0, 0, 2]) 0 5 2 0)] [(SNat.mk 1 3 1000 true (bs [192, 0, 2, 9]) 5000 5001 0 [])] [fl 0, fl 1, fl 2, fl 3, fl 4, fl 5, fl 6, fl 7, fl 8, fl 9, fl 10, fl 11] 0 12), 0)
theorem q830 : (s40 v829.1 0 0 1 v788 ByteArray.empty).o = some v830 := by kernel_rfl
def v831 : SNetwork × Int := ((SNetwork.mk [(SHost1.mk (bs [198, 51, 100, 1]) (-1) 10 0 13), (SHost1.mk (bs [10, 0, 0, 1]) 0 20 0 0), (SHost1.mk (bs [10, 0, 0, 2]) 0 5 2 0)] [(SNat.mk 1 3 1000 true (bs [192, 0, 2, 9]) 5000 5001 0 [])] [fl 0, fl 1, fl 2, fl 3, fl 4, fl 5, fl 6, fl 7, fl 8, fl 9, fl 10, fl 11, fl 12] 0 13), 0)
theorem q831 : (s40 v830.1 0 0 1 v788 ByteArray.empty).o = some v831 := by kernel_rfl
def v832 : SNetwork × Int := ((SNetwork.mk [(SHost1.mk (bs [198, 51, 100, 1]) (-1) 10 0 14), (SHost1.mk (bs [10, 0, 0, 1]) 0 20 0 0), (SHost1.mk (bs [10, 0, 0, 2]) 0 5 2 0)] [(SNat.mk 1 3 1000 true (bs [192, 0, 2, 9]) 5000 5001 0 [])] [fl 0, fl 1, fl 2, fl 3, fl 4, fl 5, fl 6, fl 7, fl 8, fl 9, fl 10, fl 11, fl 12, fl 13] 0 14), 0)
theorem q832 : (s40 v831.1 0 0 1 v788 ByteArray.empty).o = some v832 := by kernel_rfl
def v833 : SNetwork × Int := ((SNetwork.mk [(SHost1.mk (bs [198, 51, 100, 1]) (-1) 10 0 15), (SHost1.mk (bs [10, 0, 0, 1]) 0 20 0 0), (SHost1.mk (bs [10, 0, 0, 2]) 0 5 2 0)] [(SNat.mk 1 3 1000 true (bs [192, 0, 2, 9]) 5000 5001 0 [])] [fl 0, fl 1, fl 2, fl 3, fl 4, fl 5, fl 6, fl 7, fl 8, fl 9, fl 10, fl 11, fl 12, fl 13, fl 14] 0 15), 0)
theorem q833 : (s40 v832.1 0 0 1 v788 ByteArray.empty).o = some v833 := by kernel_rfl
def v834 : SNetwork × Int := ((SNetwork.mk [(SHost1.mk (bs [198, 51, 100, 1]) (-1) 10 0 16), (SHost1.mk (bs [10, 0, 0, 1]) 0 20 0 0), (SHost1.mk (bs [10, 0, 0, 2]) 0 5 2 0)] [(SNat.mk 1 3 1000 true (bs [192, 0, 2, 9]) 5000 5001 0 [])] [fl 0, fl 1, fl 2, fl 3, fl 4, fl 5, fl 6, fl 7, fl 8, fl 9, fl 10, fl 11, fl 12, fl 13, fl 14, fl 15] 0 16), 0)
theorem q834 : (s40 v833.1 0 0 1 v788 ByteArray.empty).o = some v834 := by kernel_rfl
def v835 : SNetwork × Int := ((SNetwork.mk [(SHost1.mk (bs [198, 51, 100, 1]) (-1) 10 0 17), (SHost1.mk (bs [10, 0, 0, 1]) 0 20 0 0), (SHost1.mk (bs [10, 0, 0, 2]) 0 5 2 0)] [(SNat.mk 1 3 1000 true (bs [192, 0, 2, 9]) 5000 5001 0 [])] [fl 0, fl 1, fl 2, fl 3, fl 4, fl 5, fl 6, fl 7, fl 8, fl 9, fl 10, fl 11, fl 12, fl 13, fl 14, fl 15, fl 16] 0 17), 0)
theorem q835 : (s40 v834.1 0 0 1 v788 ByteArray.empty).o = some v835 := by kernel_rfl
def v836 : SNetwork × Int := ((SNetwork.mk [(SHost1.mk (bs [198, 51, 100, 1]) (-1) 10 0 18), (SHost1.mk (bs [10, 0, 0, 1]) 0 20 0 0), (SHost1.mk (bs [10, 0, 0, 2]) 0 5 2 0)] [(SNat.mk 1 3 1000 true (bs [192, 0, 2, 9]) 5000 5001 0 [])] [fl 0, fl 1, fl 2, fl 3, fl 4, fl 5, fl 6, fl 7, fl 8, fl 9, fl 10, fl 11, fl 12, fl 13, fl 14, fl 15, fl 16, fl 17] 0 18), 0)
theorem q836 : (s40 v835.1 0 0 1 v788 ByteArray.empty).o = some v836 := by kernel_rfl
def v837 : SNetwork × Int := ((SNetwork.mk [(SHost1.mk (bs [198, 51, 100, 1]) (-1) 10 0 19), (SHost1.mk (bs [10, 0, 0, 1]) 0 20 0 0), (SHost1.mk (bs [10, 0, 0, 2]) 0 5 2 0)] [(SNat.mk 1 3 1000 true (bs [192, 0, 2, 9]) 5000 5001 0 [])] [fl 0, fl 1, fl 2, fl 3, fl 4, fl 5, fl 6, fl 7, fl 8, fl 9, fl 10, fl 11, fl 12, fl 13, fl 14, fl 15, fl 16, fl 17, fl 18] 0 19), 0)
theorem q837 : (s40 v836.1 0 0 1 v788 ByteArray.empty).o = some v837 := by kernel_rfl
def v838 : SNetwork × Int := ((SNetwork.mk [(SHost1.mk (bs [198, 51, 100, 1]) (-1) 10 0 20), (SHost1.mk (bs [10, 0, 0, 1]) 0 20 0 0), (SHost1.mk (bs [10, 0, 0, 2]) 0 5 2 0)] [(SNat.mk 1 3 1000 true (bs [192, 0, 2, 9]) 5000 5001 0 [])] [fl 0, fl 1, fl 2, fl 3, fl 4, fl 5, fl 6, fl 7, fl 8, fl 9, fl 10, fl 11, fl 12, fl 13, fl 14, fl 15, fl 16, fl 17, fl 18, fl 19] 0 20), 0)
theorem q838 : (s40 v837.1 0 0 1 v788 ByteArray.empty).o = some v838 := by kernel_rfl
def v839 : SNetwork × Int := ((SNetwork.mk [(SHost1.mk (bs [198, 51, 100, 1]) (-1) 10 0 21), (SHost1.mk (bs [10, 0, 0, 1]) 0 20 0 0), (SHost1.mk (bs [10, 0, 0, 2]) 0 5 2 0)] [(SNat.mk 1 3 1000 true (bs [192, 0, 2, 9]) 5000 5001 0 [])] [fl 0, fl 1, fl 2, fl 3, fl 4, fl 5, fl 6, fl 7, fl 8, fl 9, fl 10, fl 11, fl 12, fl 13, fl 14, fl 15, fl 16, fl 17, fl 18, fl 19, fl 20] 0 21), 0)
theorem q839 : (s40 v838.1 0 0 1 v788 ByteArray.empty).o = some v839 := by kernel_rfl
def v840 : SNetwork × Int := ((SNetwork.mk [(SHost1.mk (bs [198, 51, 100, 1]) (-1) 10 0 22), (SHost1.mk (bs [10, 0, 0, 1]) 0 20 0 0), (SHost1.mk (bs [10, 0, 0, 2]) 0 5 2 0)] [(SNat.mk 1 3 1000 true (bs [192, 0, 2, 9]) 5000 5001 0 [])] [fl 0, fl 1, fl 2, fl 3, fl 4, fl 5, fl 6, fl 7, fl 8, fl 9, fl 10, fl 11, fl 12, fl 13, fl 14, fl 15, fl 16, fl 17, fl 18, fl 19, fl 20, fl 21] 0 22), 0)
theorem q840 : (s40 v839.1 0 0 1 v788 ByteArray.empty).o = some v840 := by kernel_rfl
def v841 : SNetwork × Int := ((SNetwork.mk [(SHost1.mk (bs [198, 51, 100, 1]) (-1) 10 0 23), (SHost1.mk (bs [10, 0, 0, 1]) 0 20 0 0), (SHost1.mk (bs [10, 0, 0, 2]) 0 5 2 0)] [(SNat.mk 1 3 1000 true (bs [192, 0, 2, 9]) 5000 5001 0 [])] [fl 0, fl 1, fl 2, fl 3, fl 4, fl 5, fl 6, fl 7, fl 8, fl 9, fl 10, fl 11, fl 12, fl 13, fl 14, fl 15, fl 16, fl 17, fl 18, fl 19, fl 20, fl 21, fl 22] 0 23), 0)
theorem q841 : (s40 v840.1 0 0 1 v788 ByteArray.empty).o = some v841 := by kernel_rfl
def v842 : SNetwork × Int := ((SNetwork.mk [(SHost1.mk (bs [198, 51, 100, 1]) (-1) 10 0 24), (SHost1.mk (bs [10, 0, 0, 1]) 0 20 0 0), (SHost1.mk (bs [10, 0, 0, 2]) 0 5 2 0)] [(SNat.mk 1 3 1000 true (bs [192, 0, 2, 9]) 5000 5001 0 [])] [fl 0, fl 1, fl 2, fl 3, fl 4, fl 5, fl 6, fl 7, fl 8, fl 9, fl 10, fl 11, fl 12, fl 13, fl 14, fl 15, fl 16, fl 17, fl 18, fl 19, fl 20, fl 21, fl 22, fl 23] 0 24), 0)
theorem q842 : (s40 v841.1 0 0 1 v788 ByteArray.empty).o = some v842 := by kernel_rfl
def v843 : SNetwork × Int := ((SNetwork.mk [(SHost1.mk (bs [198, 51, 100, 1]) (-1) 10 0 25), (SHost1.mk (bs [10, 0, 0, 1]) 0 20 0 0), (SHost1.mk (bs [10, 0, 0, 2]) 0 5 2 0)] [(SNat.mk 1 3 1000 true (bs [192, 0, 2, 9]) 5000 5001 0 [])] [fl 0, fl 1, fl 2, fl 3, fl 4, fl 5, fl 6, fl 7, fl 8, fl 9, fl 10, fl 11, fl 12, fl 13, fl 14, fl 15, fl 16, fl 17, fl 18, fl 19, fl 20, fl 21, fl 22, fl 23, fl 24] 0 25), 0)
theorem q843 : (s40 v842.1 0 0 1 v788 ByteArray.empty).o = some v843 := by kernel_rfl
def v844 : SNetwork × Int := ((SNetwork.mk [(SHost1.mk (bs [198, 51, 100, 1]) (-1) 10 0 26), (SHost1.mk (bs [10, 0, 0, 1]) 0 20 0 0), (SHost1.mk (bs [10, 0, 0, 2]) 0 5 2 0)] [(SNat.mk 1 3 1000 true (bs [192, 0, 2, 9]) 5000 5001 0 [])] [fl 0, fl 1, fl 2, fl 3, fl 4, fl 5, fl 6, fl 7, fl 8, fl 9, fl 10, fl 11, fl 12, fl 13, fl 14, fl 15, fl 16, fl 17, fl 18, fl 19, fl 20, fl 21, fl 22, fl 23, fl 24, fl 25] 0 26), 0)
theorem q844 : (s40 v843.1 0 0 1 v788 ByteArray.empty).o = some v844 := by kernel_rfl
def v845 : SNetwork × Int := ((SNetwork.mk [(SHost1.mk (bs [198, 51, 100, 1]) (-1) 10 0 27), (SHost1.mk (bs [10, 0, 0, 1]) 0 20 0 0), (SHost1.mk (bs [10, 0, 0, 2]) 0 5 2 0)] [(SNat.mk 1 3 1000 true (bs [192, 0, 2, 9]) 5000 5001 0 [])] [fl 0, fl 1, fl 2, fl 3, fl 4, fl 5, fl 6, fl 7, fl 8, fl 9, fl 10, fl 11, fl 12, fl 13, fl 14, fl 15, fl 16, fl 17, fl 18, fl 19, fl 20, fl 21, fl 22, fl 23, fl 24, fl 25, fl 26] 0 27), 0)
theorem q845 : (s40 v844.1 0 0 1 v788 ByteArray.empty).o = some v845 := by kernel_rfl
def v846 : SNetwork × Int := ((SNetwork.mk [(SHost1.mk (bs [198, 51, 100, 1]) (-1) 10 0 28), (SHost1.mk (bs [10, 0, 0, 1]) 0 20 0 0), (SHost1.mk (bs [10, 0, 0, 2]) 0 5 2 0)] [(SNat.mk 1 3 1000 true (bs [192, 0, 2, 9]) 5000 5001 0 [])] [fl 0, fl 1, fl 2, fl 3, fl 4, fl 5, fl 6, fl 7, fl 8, fl 9, fl 10, fl 11, fl 12, fl 13, fl 14, fl 15, fl 16, fl 17, fl 18, fl 19, fl 20, fl 21, fl 22, fl 23, fl 24, fl 25, fl 26, fl 27] 0 28), 0)
theorem q846 : (s40 v845.1 0 0 1 v788 ByteArray.empty).o = some v846 := by kernel_rfl
def v847 : SNetwork × Int := ((SNetwork.mk [(SHost1.mk (bs [198, 51, 100, 1]) (-1) 10 0 29), (SHost1.mk (bs [10, 0, 0, 1]) 0 20 0 0), (SHost1.mk (bs [10, 0, 0, 2]) 0 5 2 0)] [(SNat.mk 1 3 1000 true (bs [192, 0, 2, 9]) 5000 5001 0 [])] [fl 0, fl 1, fl 2, fl 3, fl 4, fl 5, fl 6, fl 7, fl 8, fl 9, fl 10, fl 11, fl 12, fl 13, fl 14, fl 15, fl 16, fl 17, fl 18, fl 19, fl 20, fl 21, fl 22, fl 23, fl 24, fl 25, fl 26, fl 27, fl 28] 0 29), 0)
theorem q847 : (s40 v846.1 0 0 1 v788 ByteArray.empty).o = some v847 := by kernel_rfl
def v848 : SNetwork × Int := ((SNetwork.mk [(SHost1.mk (bs [198, 51, 100, 1]) (-1) 10 0 30), (SHost1.mk (bs [10, 0, 0, 1]) 0 20 0 0), (SHost1.mk (bs [10, 0, 0, 2]) 0 5 2 0)] [(SNat.mk 1 3 1000 true (bs [192, 0, 2, 9]) 5000 5001 0 [])] [fl 0, fl 1, fl 2, fl 3, fl 4, fl 5, fl 6, fl 7, fl 8, fl 9, fl 10, fl 11, fl 12, fl 13, fl 14, fl 15, fl 16, fl 17, fl 18, fl 19, fl 20, fl 21, fl 22, fl 23, fl 24, fl 25, fl 26, fl 27, fl 28, fl 29] 0 30), 0)
theorem q848 : (s40 v847.1 0 0 1 v788 ByteArray.empty).o = some v848 := by kernel_rfl
def v849 : SNetwork × Int := ((SNetwork.mk [(SHost1.mk (bs [198, 51, 100, 1]) (-1) 10 0 31), (SHost1.mk (bs [10, 0, 0, 1]) 0 20 0 0), (SHost1.mk (bs [10, 0, 0, 2]) 0 5 2 0)] [(SNat.mk 1 3 1000 true (bs [192, 0, 2, 9]) 5000 5001 0 [])] [fl 0, fl 1, fl 2, fl 3, fl 4, fl 5, fl 6, fl 7, fl 8, fl 9, fl 10, fl 11, fl 12, fl 13, fl 14, fl 15, fl 16, fl 17, fl 18, fl 19, fl 20, fl 21, fl 22, fl 23, fl 24, fl 25, fl 26, fl 27, fl 28, fl 29, fl 30] 0 31), 0)
theorem q849 : (s40 v848.1 0 0 1 v788 ByteArray.empty).o = some v849 := by kernel_rfl
def v850 : SNetwork × Int := ((SNetwork.mk [(SHost1.mk (bs [198, 51, 100, 1]) (-1) 10 0 32), (SHost1.mk (bs [10, 0, 0, 1]) 0 20 0 0), (SHost1.mk (bs [10, 0, 0, 2]) 0 5 2 0)] [(SNat.mk 1 3 1000 true (bs [192, 0, 2, 9]) 5000 5001 0 [])] [fl 0, fl 1, fl 2, fl 3, fl 4, fl 5, fl 6, fl 7, fl 8, fl 9, fl 10, fl 11, fl 12, fl 13, fl 14, fl 15, fl 16, fl 17, fl 18, fl 19, fl 20, fl 21, fl 22, fl 23, fl 24, fl 25, fl 26, fl 27, fl 28, fl 29, fl 30, fl 31] 0 32), 0)
theorem q850 : (s40 v849.1 0 0 1 v788 ByteArray.empty).o = some v850 := by kernel_rfl
def v851 : SNetwork × Int := ((SNetwork.mk [(SHost1.mk (bs [198, 51, 100, 1]) (-1) 10 0 33), (SHost1.mk (bs [10, 0, 0, 1]) 0 20 0 0), (SHost1.mk (bs [10, 0, 0, 2]) 0 5 2 0)] [(SNat.mk 1 3 1000 true (bs [192, 0, 2, 9]) 5000 5001 0 [])] [fl 0, fl 1, fl 2, fl 3, fl 4, fl 5, fl 6, fl 7, fl 8, fl 9, fl 10, fl 11, fl 12, fl 13, fl 14, fl 15, fl 16, fl 17, fl 18, fl 19, fl 20, fl 21, fl 22, fl 23, fl 24, fl 25, fl 26, fl 27, fl 28, fl 29, fl 30, fl 31, fl 32] 0 33), 0)
theorem q851 : (s40 v850.1 0 0 1 v788 ByteArray.empty).o = some v851 := by kernel_rfl
def v852 : SNetwork × Int := ((SNetwork.mk [(SHost1.mk (bs [198, 51, 100, 1]) (-1) 10 0 34), (SHost1.mk (bs [10, 0, 0, 1]) 0 20 0 0), (SHost1.mk (bs [10, 0, 0, 2]) 0 5 2 0)] [(SNat.mk 1 3 1000 true (bs [192, 0, 2, 9]) 5000 5001 0 [])] [fl 0, fl 1, fl 2, fl 3, fl 4, fl 5, fl 6, fl 7, fl 8, fl 9, fl 10, fl 11, fl 12, fl 13, fl 14, fl 15, fl 16, fl 17, fl 18, fl 19, fl 20, fl 21, fl 22, fl 23, fl 24, fl 25, fl 26, fl 27, fl 28, fl 29, fl 30, fl 31, fl 32, fl 33] 0 34), 0)
theorem q852 : (s40 v851.1 0 0 1 v788 ByteArray.empty).o = some v852 := by kernel_rfl
def v853 : SNetwork × Int := ((SNetwork.mk [(SHost1.mk (bs [198, 51, 100, 1]) (-1) 10 0 35), (SHost1.mk (bs [10, 0, 0, 1]) 0 20 0 0), (SHost1.mk (bs [10, 0, 0, 2]) 0 5 2 0)] [(SNat.mk 1 3 1000 true (bs [192, 0, 2, 9]) 5000 5001 0 [])] [fl 0, fl 1, fl 2, fl 3, fl 4, fl 5, fl 6, fl 7, fl 8, fl 9, fl 10, fl 11, fl 12, fl 13, fl 14, fl 15, fl 16, fl 17, fl 18, fl 19, fl 20, fl 21, fl 22, fl 23, fl 24, fl 25, fl 26, fl 27, fl 28, fl 29, fl 30, fl 31, fl 32, fl 33, fl 34] 0 35), 0)
theorem q853 : (s40 v852.1 0 0 1 v788 ByteArray.empty).o = some v853 := by kernel_rfl
def v854 : SNetwork × Int := ((SNetwork.mk [(SHost1.mk (bs [198, 51, 100, 1]) (-1) 10 0 36), (SHost1.mk (bs [10, 0, 0, 1]) 0 20 0 0), (SHost1.mk (bs [10, 0, 0, 2]) 0 5 2 0)] [(SNat.mk 1 3 1000 true (bs [192, 0, 2, 9]) 5000 5001 0 [])] [fl 0, fl 1, fl 2, fl 3, fl 4, fl 5, fl 6, fl 7, fl 8, fl 9, fl 10, fl 11, fl 12, fl 13, fl 14, fl 15, fl 16, fl 17, fl 18, fl 19, fl 20, fl 21, fl 22, fl 23, fl 24, fl 25, fl 26, fl 27, fl 28, fl 29, fl 30, fl 31, fl 32, fl 33, fl 34, fl 35] 0 36), 0)
theorem q854 : (s40 v853.1 0 0 1 v788 ByteArray.empty).o = some v854 := by kernel_rfl
def v855 : SNetwork × Int := ((SNetwork.mk [(SHost1.mk (bs [198, 51, 100, 1]) (-1) 10 0 37), (SHost1.mk (bs [10, 0, 0, 1]) 0 20 0 0), (SHost1.mk (bs [10, 0, 0, 2]) 0 5 2 0)] [(SNat.mk 1 3 1000 true (bs [192, 0, 2, 9]) 5000 5001 0 [])] [fl 0, fl 1, fl 2, fl 3, fl 4, fl 5, fl 6, fl 7, fl 8, fl 9, fl 10, fl 11, fl 12, fl 13, fl 14, fl 15, fl 16, fl 17, fl 18, fl 19, fl 20, fl 21, fl 22, fl 23, fl 24, fl 25, fl 26, fl 27, fl 28, fl 29, fl 30, fl 31, fl 32, fl 33, fl 34, fl 35, fl 36] 0 37), 0)
theorem q855 : (s40 v854.1 0 0 1 v788 ByteArray.empty).o = some v855 := by kernel_rfl
def v856 : SNetwork × Int := ((SNetwork.mk [(SHost1.mk (bs [198, 51, 100, 1]) (-1) 10 0 38), (SHost1.mk (bs [10, 0, 0, 1]) 0 20 0 0), (SHost1.mk (bs [10, 0, 0, 2]) 0 5 2 0)] [(SNat.mk 1 3 1000 true (bs [192, 0, 2, 9]) 5000 5001 0 [])] [fl 0, fl 1, fl 2, fl 3, fl 4, fl 5, fl 6, fl 7, fl 8, fl 9, fl 10, fl 11, fl 12, fl 13, fl 14, fl 15, fl 16, fl 17, fl 18, fl 19, fl 20, fl 21, fl 22, fl 23, fl 24, fl 25, fl 26, fl 27, fl 28, fl 29, fl 30, fl 31, fl 32, fl 33, fl 34, fl 35, fl 36, fl 37] 0 38), 0)
theorem q856 : (s40 v855.1 0 0 1 v788 ByteArray.empty).o = some v856 := by kernel_rfl
def v857 : SNetwork × Int := ((SNetwork.mk [(SHost1.mk (bs [198, 51, 100, 1]) (-1) 10 0 39), (SHost1.mk (bs [10, 0, 0, 1]) 0 20 0 0), (SHost1.mk (bs [10, 0, 0, 2]) 0 5 2 0)] [(SNat.mk 1 3 1000 true (bs [192, 0, 2, 9]) 5000 5001 0 [])] [fl 0, fl 1, fl 2, fl 3, fl 4, fl 5, fl 6, fl 7, fl 8, fl 9, fl 10, fl 11, fl 12, fl 13, fl 14, fl 15, fl 16, fl 17, fl 18, fl 19, fl 20, fl 21, fl 22, fl 23, fl 24, fl 25, fl 26, fl 27, fl 28, fl 29, fl 30, fl 31, fl 32, fl 33, fl 34, fl 35, fl 36, fl 37, fl 38] 0 39), 0)
theorem q857 : (s40 v856.1 0 0 1 v788 ByteArray.empty).o = some v857 := by kernel_rfl
def v858 : SNetwork × Int := ((SNetwork.mk [(SHost1.mk (bs [198, 51, 100, 1]) (-1) 10 0 40), (SHost1.mk (bs [10, 0, 0, 1]) 0 20 0 0), (SHost1.mk (bs [10, 0, 0, 2]) 0 5 2 0)] [(SNat.mk 1 3 1000 true (bs [192, 0, 2, 9]) 5000 5001 0 [])] [fl 0, fl 1, fl 2, fl 3, fl 4, fl 5, fl 6, fl 7, fl 8, fl 9, fl 10, fl 11, fl 12, fl 13, fl 14, fl 15, fl 16, fl 17, fl 18, fl 19, fl 20, fl 21, fl 22, fl 23, fl 24, fl 25, fl 26, fl 27, fl 28, fl 29, fl 30, fl 31, fl 32, fl 33, fl 34, fl 35, fl 36, fl 37, fl 38, fl 39] 0 40), 0)
theorem q858 : (s40 v857.1 0 0 1 v788 ByteArray.empty).o = some v858 := by kernel_rfl
def v859 : SNetwork × Int := ((SNetwork.mk [(SHost1.mk (bs [198, 51, 100, 1]) (-1) 10 0 41), (SHost1.mk (bs [10, 0, 0, 1]) 0 20 0 0), (SHost1.mk (bs [10, 0, 0, 2]) 0 5 2 0)] [(SNat.mk 1 3 1000 true (bs [192, 0, 2, 9]) 5000 5001 0 [])] [fl 0, fl 1, fl 2, fl 3, fl 4, fl 5, fl 6, fl 7, fl 8, fl 9, fl 10, fl 11, fl 12, fl 13, fl 14, fl 15, fl 16, fl 17, fl 18, fl 19, fl 20, fl 21, fl 22, fl 23, fl 24, fl 25, fl 26, fl 27, fl 28, fl 29, fl 30, fl 31, fl 32, fl 33, fl 34, fl 35, fl 36, fl 37, fl 38, fl 39, fl 40] 0 41), 0)
theorem q859 : (s40 v858.1 0 0 1 v788 ByteArray.empty).o = some v859 := by kernel_rfl
def v860 : SNetwork × Int := ((SNetwork.mk [(SHost1.mk (bs [198, 51, 100, 1]) (-1) 10 0 42), (SHost1.mk (bs [10, 0, 0, 1]) 0 20 0 0), (SHost1.mk (bs [10, 0, 0, 2]) 0 5 2 0)] [(SNat.mk 1 3 1000 true (bs [192, 0, 2, 9]) 5000 5001 0 [])] [fl 0, fl 1, fl 2, fl 3, fl 4, fl 5, fl 6, fl 7, fl 8, fl 9, fl 10, fl 11, fl 12, fl 13, fl 14, fl 15, fl 16, fl 17, fl 18, fl 19, fl 20, fl 21, fl 22, fl 23, fl 24, fl 25, fl 26, fl 27, fl 28, fl 29, fl 30, fl 31, fl 32, fl 33, fl 34, fl 35, fl 36, fl 37, fl 38, fl 39, fl 40, fl 41] 0 42), 0)
theorem q860 : (s40 v859.1 0 0 1 v788 ByteArray.empty).o = some v860 := by kernel_rfl
def v861 : SNetwork × Int := ((SNetwork.mk [(SHost1.mk (bs [198, 51, 100, 1]) (-1) 10 0 43), (SHost1.mk (bs [10, 0, 0, 1]) 0 20 0 0), (SHost1.mk (bs [10, 0, 0, 2]) 0 5 2 0)] [(SNat.mk 1 3 1000 true (bs [192, 0, 2, 9]) 5000 5001 0 [])] [fl 0, fl 1, fl 2, fl 3, fl 4, fl 5, fl 6, fl 7, fl 8, fl 9, fl 10, fl 11, fl 12, fl 13, fl 14, fl 15, fl 16, fl 17, fl 18, fl 19, fl 20, fl 21, fl 22, fl 23, fl 24, fl 25, fl 26, fl 27, fl 28, fl 29, fl 30, fl 31, fl 32, fl 33, fl 34, fl 35, fl 36, fl 37, fl 38, fl 39, fl 40, fl 41, fl 42] 0 43), 0)
theorem q861 : (s40 v860.1 0 0 1 v788 ByteArray.empty).o = some v861 := by kernel_rfl
def v862 : SNetwork × Int := ((SNetwork.mk [(SHost1.mk (bs [198, 51, 100, 1]) (-1) 10 0 44), (SHost1.mk (bs [10, 0, 0, 1]) 0 20 0 0), (SHost1.mk (bs [10, 0, 0, 2]) 0 5 2 0)] [(SNat.mk 1 3 1000 true (bs [192, 0, 2, 9]) 5000 5001 0 [])] [fl 0, fl 1, fl 2, fl 3, fl 4, fl 5, fl 6, fl 7, fl 8, fl 9, fl 10, fl 11, fl 12, fl 13, fl 14, fl 15, fl 16, fl 17, fl 18, fl 19, fl 20, fl 21, fl 22, fl 23, fl 24, fl 25, fl 26, fl 27, fl 28, fl 29, fl 30, fl 31, fl 32, fl 33, fl 34, fl 35, fl 36, fl 37, fl 38, fl 39, fl 40, fl 41, fl 42, fl 43] 0 44), 0)
theorem q862 : (s40 v861.1 0 0 1 v788 ByteArray.empty).o = some v862 := by kernel_rfl
def v863 : SNetwork × Int := ((SNetwork.mk [(SHost1.mk (bs [198, 51, 100, 1]) (-1) 10 0 45), (SHost1.mk (bs [10, 0, 0, 1]) 0 20 0 0), (SHost1.mk (bs [10, 0, 0, 2]) 0 5 2 0)] [(SNat.mk 1 3 1000 true (bs [192, 0, 2, 9]) 5000 5001 0 [])] [fl 0, fl 1, fl 2, fl 3, fl 4, fl 5, fl 6, fl 7, fl 8, fl 9, fl 10, fl 11, fl 12, fl 13, fl 14, fl 15, fl 16, fl 17, fl 18, fl 19, fl 20, fl 21, fl 22, fl 23, fl 24, fl 25, fl 26, fl 27, fl 28, fl 29, fl 30, fl 31, fl 32, fl 33, fl 34, fl 35, fl 36, fl 37, fl 38, fl 39, fl 40, fl 41, fl 42, fl 43, fl 44] 0 45), 0)
theorem q863 : (s40 v862.1 0 0 1 v788 ByteArray.empty).o = some v863 := by kernel_rfl
def v864 : SNetwork × Int := ((SNetwork.mk [(SHost1.mk (bs [198, 51, 100, 1]) (-1) 10 0 46), (SHost1.mk (bs [10, 0, 0, 1]) 0 20 0 0), (SHost1.mk (bs [10, 0, 0, 2]) 0 5 2 0)] [(SNat.mk 1 3 1000 true (bs [192, 0, 2, 9]) 5000 5001 0 [])] [fl 0, fl 1, fl 2, fl 3, fl 4, fl 5, fl 6, fl 7, fl 8, fl 9, fl 10, fl 11, fl 12, fl 13, fl 14, fl 15, fl 16, fl 17, fl 18, fl 19, fl 20, fl 21, fl 22, fl 23, fl 24, fl 25, fl 26, fl 27, fl 28, fl 29, fl 30, fl 31, fl 32, fl 33, fl 34, fl 35, fl 36, fl 37, fl 38, fl 39, fl 40, fl 41, fl 42, fl 43, fl 44, fl 45] 0 46), 0)
theorem q864 : (s40 v863.1 0 0 1 v788 ByteArray.empty).o = some v864 := by kernel_rfl
def v865 : SNetwork × Int := ((SNetwork.mk [(SHost1.mk (bs [198, 51, 100, 1]) (-1) 10 0 47), (SHost1.mk (bs [10, 0, 0, 1]) 0 20 0 0), (SHost1.mk (bs [10, 0, 0, 2]) 0 5 2 0)] [(SNat.mk 1 3 1000 true (bs [192, 0, 2, 9]) 5000 5001 0 [])] [fl 0, fl 1, fl 2, fl 3, fl 4, fl 5, fl 6, fl 7, fl 8, fl 9, fl 10, fl 11, fl 12, fl 13, fl 14, fl 15, fl 16, fl 17, fl 18, fl 19, fl 20, fl 21, fl 22, fl 23, fl 24, fl 25, fl 26, fl 27, fl 28, fl 29, fl 30, fl 31, fl 32, fl 33, fl 34, fl 35, fl 36, fl 37, fl 38, fl 39, fl 40, fl 41, fl 42, fl 43, fl 44, fl 45, fl 46] 0 47), 0)
theorem q865 : (s40 v864.1 0 0 1 v788 ByteArray.empty).o = some v865 := by kernel_rfl
def v866 : SNetwork × Int := ((SNetwork.mk [(SHost1.mk (bs [198, 51, 100, 1]) (-1) 10 0 48), (SHost1.mk (bs [10, 0, 0, 1]) 0 20 0 0), (SHost1.mk (bs [10, 0, 0, 2]) 0 5 2 0)] [(SNat.mk 1 3 1000 true (bs [192, 0, 2, 9]) 5000 5001 0 [])] [fl 0, fl 1, fl 2, fl 3, fl 4, fl 5, fl 6, fl 7, fl 8, fl 9, fl 10, fl 11, fl 12, fl 13, fl 14, fl 15, fl 16, fl 17, fl 18, fl 19, fl 20, fl 21, fl 22, fl 23, fl 24, fl 25, fl 26, fl 27, fl 28, fl 29, fl 30, fl 31, fl 32, fl 33, fl 34, fl 35, fl 36, fl 37, fl 38, fl 39, fl 40, fl 41, fl 42, fl 43, fl 44, fl 45, fl 46, fl 47] 0 48), 0)
theorem q866 : (s40 v865.1 0 0 1 v788 ByteArray.empty).o = some v866 := by kernel_rfl
def v867 : SNetwork × Int := ((SNetwork.mk [(SHost1.mk (bs [198, 51, 100, 1]) (-1) 10 0 49), (SHost1.mk (bs [10, 0, 0, 1]) 0 20 0 0), (SHost1.mk (bs [10, 0, 0, 2]) 0 5 2 0)] [(SNat.mk 1 3 1000 true (bs [192, 0, 2, 9]) 5000 5001 0 [])] [fl 0, fl 1, fl 2, fl 3, fl 4, fl 5, fl 6, fl 7, fl 8, fl 9, fl 10, fl 11, fl 12, fl 13, fl 14, fl 15, fl 16, fl 17, fl 18, fl 19, fl 20, fl 21, fl 22, fl 23, fl 24, fl 25, fl 26, fl 27, fl 28, fl 29, fl 30, fl 31, fl 32, fl 33, fl 34, fl 35, fl 36, fl 37, fl 38, fl 39, fl 40, fl 41, fl 42, fl 43, fl 44, fl 45, fl 46, fl 47, fl 48] 0 49), 0)
theorem q867 : (s40 v866.1 0 0 1 v788 ByteArray.empty).o = some v867 := by kernel_rfl
def v868 : SNetwork × Int := ((SNetwork.mk [(SHost1.mk (bs [198, 51, 100, 1]) (-1) 10 0 50), (SHost1.mk (bs [10, 0, 0, 1]) 0 20 0 0), (SHost1.mk (bs [10, 0, 0, 2]) 0 5 2 0)] [(SNat.mk 1 3 1000 true (bs [192, 0, 2, 9]) 5000 5001 0 [])] [fl 0, fl 1, fl 2, fl 3, fl 4, fl 5, fl 6, fl 7, fl 8, fl 9, fl 10, fl 11, fl 12, fl 13, fl 14, fl 15, fl 16, fl 17, fl 18, fl 19, fl 20, fl 21, fl 22, fl 23, fl 24, fl 25, fl 26, fl 27, fl 28, fl 29, fl 30, fl 31, fl 32, fl 33, fl 34, fl 35, fl 36, fl 37, fl 38, fl 39, fl 40, fl 41, fl 42, fl 43, fl 44, fl 45, fl 46, fl 47, fl 48, fl 49] 0 50), 0)
theorem q868 : (s40 v867.1 0 0 1 v788 ByteArray.empty).o = some v868 := by kernel_rfl
def v869 : SNetwork × Int := ((SNetwork.mk [(SHost1.mk (bs [198, 51, 100, 1]) (-1) 10 0 51), (SHost1.mk (bs [10, 0, 0, 1]) 0 20 0 0), (SHost1.mk (bs [10, 0, 0, 2]) 0 5 2 0)] [(SNat.mk 1 3 1000 true (bs [192, 0, 2, 9]) 5000 5001 0 [])] [fl 0, fl 1, fl 2, fl 3, fl 4, fl 5, fl 6, fl 7, fl 8, fl 9, fl 10, fl 11, fl 12, fl 13, fl 14, fl 15, fl 16, fl 17, fl 18, fl 19, fl 20, fl 21, fl 22, fl 23, fl 24, fl 25, fl 26, fl 27, fl 28, fl 29, fl 30, fl 31, fl 32, fl 33, fl 34, fl 35, fl 36, fl 37, fl 38, fl 39, fl 40, fl 41, fl 42, fl 43, fl 44, fl 45, fl 46, fl 47, fl 48, fl 49, fl 50] 0 51), 0)
theorem q869 : (s40 v868.1 0 0 1 v788 ByteArray.empty).o = some v869 := by kernel_rfl
def v870 : SNetwork × Int := ((SNetwork.mk [(SHost1.mk (bs [198, 51, 100, 1]) (-1) 10 0 52), (SHost1.mk (bs [10, 0, 0, 1]) 0 20 0 0), (SHost1.mk (bs [10, 0, 0, 2]) 0 5 2 0)] [(SNat.mk 1 3 1000 true (bs [192, 0, 2, 9]) 5000 5001 0 [])] [fl 0, fl 1, fl 2, fl 3, fl 4, fl 5, fl 6, fl 7, fl 8, fl 9, fl 10, fl 11, fl 12, fl 13, fl 14, fl 15, fl 16, fl 17, fl 18, fl 19, fl 20, fl 21, fl 22, fl 23, fl 24, fl 25, fl 26, fl 27, fl 28, fl 29, fl 30, fl 31, fl 32, fl 33, fl 34, fl 35, fl 36, fl 37, fl 38, fl 39, fl 40, fl 41, fl 42, fl 43, fl 44, fl 45, fl 46, fl 47, fl 48, fl 49, fl 50, fl 51] 0 52), 0)
theorem q870 : (s40 v869.1 0 0 1 v788 ByteArray.empty).o = some v870 := by kernel_rfl
def v871 : SNetwork × Int := ((SNetwork.mk [(SHost1.mk (bs [198, 51, 100, 1]) (-1) 10 0 53), (SHost1.mk (bs [10, 0, 0, 1]) 0 20 0 0), (SHost1.mk (bs [10, 0, 0, 2]) 0 5 2 0)] [(SNat.mk 1 3 1000 true (bs [192, 0, 2, 9]) 5000 5001 0 [])] [fl 0, fl 1, fl 2, fl 3, fl 4, fl 5, fl 6, fl 7, fl 8, fl 9, fl 10, fl 11, fl 12, fl 13, fl 14, fl 15, fl 16, fl 17, fl 18, fl 19, fl 20, fl 21, fl 22, fl 23, fl 24, fl 25, fl 26, fl 27, fl 28, fl 29, fl 30, fl 31, fl 32, fl 33, fl 34, fl 35, fl 36, fl 37, fl 38, fl 39, fl 40, fl 41, fl 42, fl 43, fl 44, fl 45, fl 46, fl 47, fl 48, fl 49, fl 50, fl 51, fl 52] 0 53), 0)
theorem q871 : (s40 v870.1 0 0 1 v788 ByteArray.empty).o = some v871 := by kernel_rfl
def v872 : SNetwork × Int := ((SNetwork.mk [(SHost1.mk (bs [198, 51, 100, 1]) (-1) 10 0 54), (SHost1.mk (bs [10, 0, 0, 1]) 0 20 0 0), (SHost1.mk (bs [10, 0, 0, 2]) 0 5 2 0)] [(SNat.mk 1 3 1000 true (bs [192, 0, 2, 9]) 5000 5001 0 [])] [fl 0, fl 1, fl 2, fl 3, fl 4, fl 5, fl 6, fl 7, fl 8, fl 9, fl 10, fl 11, fl 12, fl 13, fl 14, fl 15, fl 16, fl 17, fl 18, fl 19, fl 20, fl 21, fl 22, fl 23, fl 24, fl 25, fl 26, fl 27, fl 28, fl 29, fl 30, fl 31, fl 32, fl 33, fl 34, fl 35, fl 36, fl 37, fl 38, fl 39, fl 40, fl 41, fl 42, fl 43, fl 44, fl 45, fl 46, fl 47, fl 48, fl 49, fl 50, fl 51, fl 52, fl 53] 0 54), 0)
theorem q872 : (s40 v871.1 0 0 1 v788 ByteArray.empty).o = some v872 := by kernel_rfl
def v873 : SNetwork × Int := ((SNetwork.mk [(SHost1.mk (bs [198, 51, 100, 1]) (-1) 10 0 55), (SHost1.mk (bs [10, 0, 0, 1]) 0 20 0 0), (SHost1.mk (bs [10, 0, 0, 2]) 0 5 2 0)] [(SNat.mk 1 3 1000 true (bs [192, 0, 2, 9]) 5000 5001 0 [])] [fl 0, fl 1, fl 2, fl 3, fl 4, fl 5, fl 6, fl 7, fl 8, fl 9, fl 10, fl 11, fl 12, fl 13, fl 14, fl 15, fl 16, fl 17, fl 18, fl 19, fl 20, fl 21, fl 22, fl 23, fl 24, fl 25, fl 26, fl 27, fl 28, fl 29, fl 30, fl 31, fl 32, fl 33, fl 34, fl 35, fl 36, fl 37, fl 38, fl 39, fl 40, fl 41, fl 42, fl 43, fl 44, fl 45, fl 46, fl 47, fl 48, fl 49, fl 50, fl 51, fl 52, fl 53, fl 54] 0 55), 0)
theorem q873 : (s40 v872.1 0 0 1 v788 ByteArray.empty).o = some v873 := by kernel_rfl
def v874 : SNetwork × Int := ((SNetwork.mk [(SHost1.mk (bs [198, 51, 100, 1]) (-1) 10 0 56), (SHost1.mk (bs [10, 0, 0, 1]) 0 20 0 0), (SHost1.mk (bs [10, 0, 0, 2]) 0 5 2 0)] [(SNat.mk 1 3 1000 true (bs [192, 0, 2, 9]) 5000 5001 0 [])] [fl 0, fl 1, fl 2, fl 3, fl 4, fl 5, fl 6, fl 7, fl 8, fl 9, fl 10, fl 11, fl 12, fl 13, fl 14, fl 15, fl 16, fl 17, fl 18, fl 19, fl 20, fl 21, fl 22, fl 23, fl 24, fl 25, fl 26, fl 27, fl 28, fl 29, fl 30, fl 31, fl 32, fl 33, fl 34, fl 35, fl 36, fl 37, fl 38, fl 39, fl 40, fl 41, fl 42, fl 43, fl 44, fl 45, fl 46, fl 47, fl 48, fl 49, fl 50, fl 51, fl 52, fl 53, fl 54, fl 55] 0 56), 0)
theorem q874 : (s40 v873.1 0 0 1 v788 ByteArray.empty).o = some v874 := by kernel_rfl
def v875 : SNetwork × Int := ((SNetwork.mk [(SHost1.mk (bs [198, 51, 100, 1]) (-1) 10 0 57), (SHost1.mk (bs [10, 0, 0, 1]) 0 20 0 0), (SHost1.mk (bs [10, 0, 0, 2]) 0 5 2 0)] [(SNat.mk 1 3 1000 true (bs [192, 0, 2, 9]) 5000 5001 0 [])] [fl 0, fl 1, fl 2, fl 3, fl 4, fl 5, fl 6, fl 7, fl 8, fl 9, fl 10, fl 11, fl 12, fl 13, fl 14, fl 15, fl 16, fl 17, fl 18, fl 19, fl 20, fl 21, fl 22, fl 23, fl 24, fl 25, fl 26, fl 27, fl 28, fl 29, fl 30, fl 31, fl 32, fl 33, fl 34, fl 35, fl 36, fl 37, fl 38, fl 39, fl 40, fl 41, fl 42, fl 43, fl 44, fl 45, fl 46, fl 47, fl 48, fl 49, fl 50, fl 51, fl 52, fl 53, fl 54, fl 55, fl 56] 0 57), 0)
theorem q875 : (s40 v874.1 0 0 1 v788 ByteArray.empty).o = some v875 := by kernel_rfl
def v876 : SNetwork × Int := ((SNetwork.mk [(SHost1.mk (bs [198, 51, 100, 1]) (-1) 10 0 58), (SHost1.mk (bs [10, 0, 0, 1]) 0 20 0 0), (SHost1.mk (bs [10, 0, 0, 2]) 0 5 2 0)] [(SNat.mk 1 3 1000 true (bs [192, 0, 2, 9]) 5000 5001 0 [])] [fl 0, fl 1, fl 2, fl 3, fl 4, fl 5, fl 6, fl 7, fl 8, fl 9, fl 10, fl 11, fl 12, fl 13, fl 14, fl 15, fl 16, fl 17, fl 18, fl 19, fl 20, fl 21, fl 22, fl 23, fl 24, fl 25, fl 26, fl 27, fl 28, fl 29, fl 30, fl 31, fl 32, fl 33, fl 34, fl 35, fl 36, fl 37, fl 38, fl 39, fl 40, fl 41, fl 42, fl 43, fl 44, fl 45, fl 46, fl 47, fl 48, fl 49, fl 50, fl 51, fl 52, fl 53, fl 54, fl 55, fl 56, fl 57] 0 58), 0)
theorem q876 : (s40 v875.1 0 0 1 v788 ByteArray.empty).o = some v876 := by kernel_rfl
def v877 : SNetwork × Int := ((SNetwork.mk [(SHost1.mk (bs [198, 51, 100, 1]) (-1) 10 0 59), (SHost1.mk (bs [10, 0, 0, 1]) 0 20 0 0), (SHost1.mk (bs [10, 0, 0, 2]) 0 5 2 0)] [(SNat.mk 1 3 1000 true (bs [192, 0, 2, 9]) 5000 5001 0 [])] [fl 0, fl 1, fl 2, fl 3, fl 4, fl 5, fl 6, fl 7, fl 8, fl 9, fl 10, fl 11, fl 12, fl 13, fl 14, fl 15, fl 16, fl 17, fl 18, fl 19, fl 20, fl 21, fl 22, fl 23, fl 24, fl 25, fl 26, fl 27, fl 28, fl 29, fl 30, fl 31, fl 32, fl 33, fl 34, fl 35, fl 36, fl 37, fl 38, fl 39, fl 40, fl 41, fl 42, fl 43, fl 44, fl 45, fl 46, fl 47, fl 48, fl 49, fl 50, fl 51, fl 52, fl 53, fl 54, fl 55, fl 56, fl 57, fl 58] 0 59), 0)
theorem q877 : (s40 v876.1 0 0 1 v788 ByteArray.empty).o = some v877 := by kernel_rfl
def v878 : SNetwork × Int := ((SNetwork.mk [(SHost1.mk (bs [198, 51, 100, 1]) (-1) 10 0 60), (SHost1.mk (bs [10, 0, 0, 1]) 0 20 0 0), (SHost1.mk (bs [10, 0, 0, 2]) 0 5 2 0)] [(SNat.mk 1 3 1000 true (bs [192, 0, 2, 9]) 5000 5001 0 [])] [fl 0, fl 1, fl 2, fl 3, fl 4, fl 5, fl 6, fl 7, fl 8, fl 9, fl 10, fl 11, fl 12, fl 13, fl 14, fl 15, fl 16, fl 17, fl 18, fl 19, fl 20, fl 21, fl 22, fl 23, fl 24, fl 25, fl 26, fl 27, fl 28, fl 29, fl 30, fl 31, fl 32, fl 33, fl 34, fl 35, fl 36, fl 37, fl 38, fl 39, fl 40, fl 41, fl 42, fl 43, fl 44, fl 45, fl 46, fl 47, fl 48, fl 49, fl 50, fl 51, fl 52, fl 53, fl 54, fl 55, fl 56, fl 57, fl 58, fl 59] 0 60), 0)
theorem q878 : (s40 v877.1 0 0 1 v788 ByteArray.empty).o = some v878 := by kernel_rfl
def v879 : SNetwork × Int := ((SNetwork.mk [(SHost1.mk (bs [198, 51, 100, 1]) (-1) 10 0 61), (SHost1.mk (bs [10, 0, 0, 1]) 0 20 0 0), (SHost1.mk (bs [10, 0, 0, 2]) 0 5 2 0)] [(SNat.mk 1 3 1000 true (bs [192, 0, 2, 9]) 5000 5001 0 [])] [fl 0, fl 1, fl 2, fl 3, fl 4, fl 5, fl 6, fl 7, fl 8, fl 9, fl 10, fl 11, fl 12, fl 13, fl 14, fl 15, fl 16, fl 17, fl 18, fl 19, fl 20, fl 21, fl 22, fl 23, fl 24, fl 25, fl 26, fl 27, fl 28, fl 29, fl 30, fl 31, fl 32, fl 33, fl 34, fl 35, fl 36, fl 37, fl 38, fl 39, fl 40, fl 41, fl 42, fl 43, fl 44, fl 45, fl 46, fl 47, fl 48, fl 49, fl 50, fl 51, fl 52, fl 53, fl 54, fl 55, fl 56, fl 57, fl 58, fl 59, fl 60] 0 61), 0)
theorem q879 : (s40 v878.1 0 0 1 v788 ByteArray.empty).o = some v879 := by kernel_rfl
def v880 : SNetwork × Int := ((SNetwork.mk [(SHost1.mk (bs [198, 51, 100, 1]) (-1) 10 0 62), (SHost1.mk (bs [10, 0, 0, 1]) 0 20 0 0), (SHost1.mk (bs [10, 0, 0, 2]) 0 5 2 0)] [(SNat.mk 1 3 1000 true (bs [192, 0, 2, 9]) 5000 5001 0 [])] [fl 0, fl 1, fl 2, fl 3, fl 4, fl 5, fl 6, fl 7, fl 8, fl 9, fl 10, fl 11, fl 12, fl 13, fl 14, fl 15, fl 16, fl 17, fl 18, fl 19, fl 20, fl 21, fl 22, fl 23, fl 24, fl 25, fl 26, fl 27, fl 28, fl 29, fl 30, fl 31, fl 32, fl 33, fl 34, fl 35, fl 36, fl 37, fl 38, fl 39, fl 40, fl 41, fl 42, fl 43, fl 44, fl 45, fl 46, fl 47, fl 48, fl 49, fl 50, fl 51, fl 52, fl 53, fl 54, fl 55, fl 56, fl 57, fl 58, fl 59, fl 60, fl 61] 0 62), 0)
theorem q880 : (s40 v879.1 0 0 1 v788 ByteArray.empty).o = some v880 := by kernel_rfl
def v881 : SNetwork × Int := ((SNetwork.mk [(SHost1.mk (bs [198, 51, 100, 1]) (-1) 10 0 63), (SHost1.mk (bs [10, 0, 0, 1]) 0 20 0 0), (SHost1.mk (bs [10, 0, 0, 2]) 0 5 2 0)] [(SNat.mk 1 3 1000 true (bs [192, 0, 2, 9]) 5000 5001 0 [])] [fl 0, fl 1, fl 2, fl 3, fl 4, fl 5, fl 6, fl 7, fl 8, fl 9, fl 10, fl 11, fl 12, fl 13, fl 14, fl 15, fl 16, fl 17, fl 18, fl 19, fl 20, fl 21, fl 22, fl 23, fl 24, fl 25, fl 26, fl 27, fl 28, fl 29, fl 30, fl 31, fl 32, fl 33, fl 34, fl 35, fl 36, fl 37, fl 38, fl 39, fl 40, fl 41, fl 42, fl 43, fl 44, fl 45, fl 46, fl 47, fl 48, fl 49, fl 50, fl 51, fl 52, fl 53, fl 54, fl 55, fl 56, fl 57, fl 58, fl 59, fl 60, fl 61, fl 62] 0 63), 0)
theorem q881 : (s40 v880.1 0 0 1 v788 ByteArray.empty).o = some v881 := by kernel_rfl
def v882 : SNetwork × Int := ((SNetwork.mk [(SHost1.mk (bs [198, 51, 100, 1]) (-1) 10 0 64), (SHost1.mk (bs [10, 0, 0, 1]) 0 20 0 0), (SHost1.mk (bs [10, 0, 0, 2]) 0 5 2 0)] [(SNat.mk 1 3 1000 true (bs [192, 0, 2, 9]) 5000 5001 0 [])] [fl 0, fl 1, fl 2, fl 3, fl 4, fl 5, fl 6, fl 7, fl 8, fl 9, fl 10, fl 11, fl 12, fl 13, fl 14, fl 15, fl 16, fl 17, fl 18, fl 19, fl 20, fl 21, fl 22, fl 23, fl 24, fl 25, fl 26, fl 27, fl 28, fl 29, fl 30, fl 31, fl 32, fl 33, fl 34, fl 35, fl 36, fl 37, fl 38, fl 39, fl 40, fl 41, fl 42, fl 43, fl 44, fl 45, fl 46, fl 47, fl 48, fl 49, fl 50, fl 51, fl 52, fl 53, fl 54, fl 55, fl 56, fl 57, fl 58, fl 59, fl 60, fl 61, fl 62, fl 63] 0 64), 0)
theorem q882 : (s40 v881.1 0 0 1 v788 ByteArray.empty).o = some v882 := by kernel_rfl
def v883 : SNetwork × Int := ((SNetwork.mk [(SHost1.mk (bs [198, 51, 100, 1]) (-1) 10 0 65), (SHost1.mk (bs [10, 0, 0, 1]) 0 20 0 0), (SHost1.mk (bs [10, 0, 0, 2]) 0 5 2 0)] [(SNat.mk 1 3 1000 true (bs [192, 0, 2, 9]) 5000 5001 0 [])] [fl 0, fl 1, fl 2, fl 3, fl 4, fl 5, fl 6, fl 7, fl 8, fl 9, fl 10, fl 11, fl 12, fl 13, fl 14, fl 15, fl 16, fl 17, fl 18, fl 19, fl 20, fl 21, fl 22, fl 23, fl 24, fl 25, fl 26, fl 27, fl 28, fl 29, fl 30, fl 31, fl 32, fl 33, fl 34, fl 35, fl 36, fl 37, fl 38, fl 39, fl 40, fl 41, fl 42, fl 43, fl 44, fl 45, fl 46, fl 47, fl 48, fl 49, fl 50, fl 51, fl 52, fl 53, fl 54, fl 55, fl 56, fl 57, fl 58, fl 59, fl 60, fl 61, fl 62, fl 63] 0 64), 0)
theorem q883 : (s40 v882.1 0 0 1 v788 ByteArray.empty).o = some v883 := by kernel_rfl
def v884 : SNetwork := (SNetwork.mk [(SHost1.mk (bs [198, 51, 100, 1]) (-1) 10 0 0), (SHost1.mk (bs [10, 0, 0, 1]) 0 20 0 0), (SHost1.mk (bs [10, 0, 0, 2]) 0 5 2 0)] [(SNat.mk 1 3 1000 true (bs [192, 0, 2, 9]) 5000 5001 0 [])] [] 0 0)
theorem q884 : (s50).o = some v884 := by kernel_rfl
def v885 : SNetwork × Int := ((SNetwork.mk [(SHost1.mk (bs [198, 51, 100, 1]) (-1) 10 0 1), (SHost1.mk (bs [10, 0, 0, 1]) 0 20 0 0), (SHost1.mk (bs [10, 0, 0, 2]) 0 5 2 0)] [(SNat.mk 1 3 1000 true (bs [192, 0, 2, 9]) 5000 5001 0 [])] [] 1099511627767 0), 0)
theorem q885 : (s40 v884 1099511627767 0 1 v788 ByteArray.empty).o = some v885 := by kernel_rfl
def v886 : SNetwork := (SNetwork.mk [(SHost1.mk (bs [198, 51, 100, 1]) (-1) 10 0 0), (SHost1.mk (bs [10, 0, 0, 1]) 0 20 0 0), (SHost1.mk (bs [10, 0, 0, 2]) 0 5 2 0)] [(SNat.mk 1 3 1000 true (bs [192, 0, 2, 9]) 5000 5001 0 [])] [] 0 0)
theorem q886 : (s50).o = some v886 := by kernel_rfl
def v887 : SNetwork × Int := ((SNetwork.mk [(SHost1.mk (bs [198, 51, 100, 1]) (-1) 10 0 1), (SHost1.mk (bs [10, 0, 0, 1]) 0 20 0 0), (SHost1.mk (bs [10, 0, 0, 2]) 0 5 2 0)] [(SNat.mk 1 3 1000 true (bs [192, 0, 2, 9]) 5000 5001 0 [])] [(SFlight.mk 1099511627776 0 (-1) (-1) (SAddr.mk (bs [198, 51, 100, 1]) 1) (SAddr.mk (bs [198, 51, 100, 1]) 80) (bs []))] 1099511627766 1), 0)
theorem q887 : (s40 v886 1099511627766 0 1 v788 ByteArray.empty).o = some v887 := by kernel_rfl
def v890 : SNetwork := (SNetwork.mk [(SHost1.mk (bs [97, 98, 99]) (-1) 10 0 64), (SHost1.mk (bs [10, 0, 0, 1]) 0 20 0 0), (SHost1.mk (bs [10, 0, 0, 2]) 0 5 2 0)] [(SNat.mk 1 3 1000 true (bs [192, 0, 2, 9]) 5000 5001 0 [])] [fl 0, fl 1, fl 2, fl 3, fl 4, fl 5, fl 6, fl 7, fl 8, fl 9, fl 10, fl 11, fl 12, fl 13, fl 14, fl 15, fl 16, fl 17, fl 18, fl 19, fl 20, fl 21, fl 22, fl 23, fl 24, fl 25, fl 26, fl 27, fl 28, fl 29, fl 30, fl 31, fl 32, fl 33, fl 34, fl 35, fl 36, fl 37, fl 38, fl 39, fl 40, fl 41, fl 42, fl 43, fl 44, fl 45, fl 46, fl 47, fl 48, fl 49, fl 50, fl 51, fl 52, fl 53, fl 54, fl 55, fl 56, fl 57, fl 58, fl 59, fl 60, fl 61, fl 62, fl 63] 0 64)
theorem q890 : (s51 (SBend1.mk 0 0 0 (bs [97, 98, 99]) (SAddr.mk ByteArray.empty 0) (SBend.mk 0 0 0 (SAddr.mk ByteArray.empty 0) ByteArray.empty)) v882.1).o = some v890 := by kernel_rfl
def v891 : Int := 140
theorem q891 : (s43 v890).o = some v891 := by kernel_rfl
def v892 : SNetwork := (SNetwork.mk [(SHost1.mk (bs [192, 0, 2, 9]) (-1) 10 0 64), (SHost1.mk (bs [10, 0, 0, 1]) 0 20 0 0), (SHost1.mk (bs [10, 0, 0, 2]) 0 5 2 0)] [(SNat.mk 1 3 1000 true (bs [192, 0, 2, 9]) 5000 5001 0 [])] [fl 0, fl 1, fl 2, fl 3, fl 4, fl 5, fl 6, fl 7, fl 8, fl 9, fl 10, fl 11, fl 12, fl 13, fl 14, fl 15, fl 16, fl 17, fl 18, fl 19, fl 20, fl 21, fl 22, fl 23, fl 24, fl 25, fl 26, fl 27, fl 28, fl 29, fl 30, fl 31, fl 32, fl 33, fl 34, fl 35, fl 36, fl 37, fl 38, fl 39, fl 40, fl 41, fl 42, fl 43, fl 44, fl 45, fl 46, fl 47, fl 48, fl 49, fl 50, fl 51, fl 52, fl 53, fl 54, fl 55, fl 56, fl 57, fl 58, fl 59, fl 60, fl 61, fl 62, fl 63] 0 64)
theorem q892 : (s51 (SBend1.mk 0 0 0 v787.fHost (SAddr.mk ByteArray.empty 0) (SBend.mk 0 0 0 (SAddr.mk ByteArray.empty 0) ByteArray.empty)) v882.1).o = some v892 := by kernel_rfl
def v893 : Int := 140
theorem q893 : (s43 v892).o = some v893 := by kernel_rfl
def v894 : SNetwork := (SNetwork.mk [(SHost1.mk (bs [198, 51, 100, 1]) 1 10 0 64), (SHost1.mk (bs [10, 0, 0, 1]) 0 20 0 0), (SHost1.mk (bs [10, 0, 0, 2]) 0 5 2 0)] [(SNat.mk 1 3 1000 true (bs [192, 0, 2, 9]) 5000 5001 0 [])] [fl 0, fl 1, fl 2, fl 3, fl 4, fl 5, fl 6, fl 7, fl 8, fl 9, fl 10, fl 11, fl 12, fl 13, fl 14, fl 15, fl 16, fl 17, fl 18, fl 19, fl 20, fl 21, fl 22, fl 23, fl 24, fl 25, fl 26, fl 27, fl 28, fl 29, fl 30, fl 31, fl 32, fl 33, fl 34, fl 35, fl 36, fl 37, fl 38, fl 39, fl 40, fl 41, fl 42, fl 43, fl 44, fl 45, fl 46, fl 47, fl 48, fl 49, fl 50, fl 51, fl 52, fl 53, fl 54, fl 55, fl 56, fl 57, fl 58, fl 59, fl 60, fl 61, fl 62, fl 63] 0 64)
theorem q894 : (s51 (SBend1.mk 1 0 1 ByteArray.empty (SAddr.mk ByteArray.empty 0) (SBend.mk 0 0 0 (SAddr.mk ByteArray.empty 0) ByteArray.empty)) v882.1).o = some v894 := by kernel_rfl
def v895 : Int := 140
theorem q895 : (s43 v894).o = some v895 := by kernel_rfl
def v896 : SNetwork := (SNetwork.mk [(SHost1.mk (bs [198, 51, 100, 1]) (-2) 10 0 64), (SHost1.mk (bs [10, 0, 0, 1]) 0 20 0 0), (SHost1.mk (bs [10, 0, 0, 2]) 0 5 2 0)] [(SNat.mk 1 3 1000 true (bs [192, 0, 2, 9]) 5000 5001 0 [])] [fl 0, fl 1, fl 2, fl 3, fl 4, fl 5, fl 6, fl 7, fl 8, fl 9, fl 10, fl 11, fl 12, fl 13, fl 14, fl 15, fl 16, fl 17, fl 18, fl 19, fl 20, fl 21, fl 22, fl 23, fl 24, fl 25, fl 26, fl 27, fl 28, fl 29, fl 30, fl 31, fl 32, fl 33, fl 34, fl 35, fl 36, fl 37, fl 38, fl 39, fl 40, fl 41, fl 42, fl 43, fl 44, fl 45, fl 46, fl 47, fl 48, fl 49, fl 50, fl 51, fl 52, fl 53, fl 54, fl 55, fl 56, fl 57, fl 58, fl 59, fl 60, fl 61, fl 62, fl 63] 0 64)
theorem q896 : (s51 (SBend1.mk 1 0 (-2) ByteArray.empty (SAddr.mk ByteArray.empty 0) (SBend.mk 0 0 0 (SAddr.mk ByteArray.empty 0) ByteArray.empty)) v882.1).o = some v896 := by kernel_rfl
def v897 : Int := 140
theorem q897 : (s43 v896).o = some v897 := by kernel_rfl
def v898 : SNetwork := (SNetwork.mk [(SHost1.mk (bs [198, 51, 100, 1]) (-1) 10001 0 64), (SHost1.mk (bs [10, 0, 0, 1]) 0 20 0 0), (SHost1.mk (bs [10, 0, 0, 2]) 0 5 2 0)] [(SNat.mk 1 3 1000 true (bs [192, 0, 2, 9]) 5000 5001 0 [])] [fl 0, fl 1, fl 2, fl 3, fl 4, fl 5, fl 6, fl 7, fl 8, fl 9, fl 10, fl 11, fl 12, fl 13, fl 14, fl 15, fl 16, fl 17, fl 18, fl 19, fl 20, fl 21, fl 22, fl 23, fl 24, fl 25, fl 26, fl 27, fl 28, fl 29, fl 30, fl 31, fl 32, fl 33, fl 34, fl 35, fl 36, fl 37, fl 38, fl 39, fl 40, fl 41, fl 42, fl 43, fl 44, fl 45, fl 46, fl 47, fl 48, fl 49, fl 50, fl 51, fl 52, fl 53, fl 54, fl 55, fl 56, fl 57, fl 58, fl 59, fl 60, fl 61, fl 62, fl 63] 0 64)
theorem q898 : (s51 (SBend1.mk 2 0 10001 ByteArray.empty (SAddr.mk ByteArray.empty 0) (SBend.mk 0 0 0 (SAddr.mk ByteArray.empty 0) ByteArray.empty)) v882.1).o = some v898 := by kernel_rfl
def v899 : Int := 140
theorem q899 : (s43 v898).o = some v899 := by kernel_rfl
def v900 : SNetwork := (SNetwork.mk [(SHost1.mk (bs [198, 51, 100, 1]) (-1) 10 101 64), (SHost1.mk (bs [10, 0, 0, 1]) 0 20 0 0), (SHost1.mk (bs [10, 0, 0, 2]) 0 5 2 0)] [(SNat.mk 1 3 1000 true (bs [192, 0, 2, 9]) 5000 5001 0 [])] [fl 0, fl 1, fl 2, fl 3, fl 4, fl 5, fl 6, fl 7, fl 8, fl 9, fl 10, fl 11, fl 12, fl 13, fl 14, fl 15, fl 16, fl 17, fl 18, fl 19, fl 20, fl 21, fl 22, fl 23, fl 24, fl 25, fl 26, fl 27, fl 28, fl 29, fl 30, fl 31, fl 32, fl 33, fl 34, fl 35, fl 36, fl 37, fl 38, fl 39, fl 40, fl 41, fl 42, fl 43, fl 44, fl 45, fl 46, fl 47, fl 48, fl 49, fl 50, fl 51, fl 52, fl 53, fl 54, fl 55, fl 56, fl 57, fl 58, fl 59, fl 60, fl 61, fl 62, fl 63] 0 64)
theorem q900 : (s51 (SBend1.mk 3 0 101 ByteArray.empty (SAddr.mk ByteArray.empty 0) (SBend.mk 0 0 0 (SAddr.mk ByteArray.empty 0) ByteArray.empty)) v882.1).o = some v900 := by kernel_rfl
def v901 : Int := 140
theorem q901 : (s43 v900).o = some v901 := by kernel_rfl
def v902 : SNetwork := (SNetwork.mk [(SHost1.mk (bs [198, 51, 100, 1]) (-1) 10 0 (-1)), (SHost1.mk (bs [10, 0, 0, 1]) 0 20 0 0), (SHost1.mk (bs [10, 0, 0, 2]) 0 5 2 0)] [(SNat.mk 1 3 1000 true (bs [192, 0, 2, 9]) 5000 5001 0 [])] [fl 0, fl 1, fl 2, fl 3, fl 4, fl 5, fl 6, fl 7, fl 8, fl 9, fl 10, fl 11, fl 12, fl 13, fl 14, fl 15, fl 16, fl 17, fl 18, fl 19, fl 20, fl 21, fl 22, fl 23, fl 24, fl 25, fl 26, fl 27, fl 28, fl 29, fl 30, fl 31, fl 32, fl 33, fl 34, fl 35, fl 36, fl 37, fl 38, fl 39, fl 40, fl 41, fl 42, fl 43, fl 44, fl 45, fl 46, fl 47, fl 48, fl 49, fl 50, fl 51, fl 52, fl 53, fl 54, fl 55, fl 56, fl 57, fl 58, fl 59, fl 60, fl 61, fl 62, fl 63] 0 64)
theorem q902 : (s51 (SBend1.mk 4 0 (-1) ByteArray.empty (SAddr.mk ByteArray.empty 0) (SBend.mk 0 0 0 (SAddr.mk ByteArray.empty 0) ByteArray.empty)) v882.1).o = some v902 := by kernel_rfl
def v903 : Int := 140
theorem q903 : (s43 v902).o = some v903 := by kernel_rfl
def v904 : SNetwork := (SNetwork.mk [(SHost1.mk (bs [198, 51, 100, 1]) (-1) 10 0 64), (SHost1.mk (bs [10, 0, 0, 1]) 0 20 0 0), (SHost1.mk (bs [10, 0, 0, 2]) 0 5 2 0), (SHost1.mk (bs [198, 51, 100, 1]) (-1) 10 0 64)] [(SNat.mk 1 3 1000 true (bs [192, 0, 2, 9]) 5000 5001 0 [])] [fl 0, fl 1, fl 2, fl 3, fl 4, fl 5, fl 6, fl 7, fl 8, fl 9, fl 10, fl 11, fl 12, fl 13, fl 14, fl 15, fl 16, fl 17, fl 18, fl 19, fl 20, fl 21, fl 22, fl 23, fl 24, fl 25, fl 26, fl 27, fl 28, fl 29, fl 30, fl 31, fl 32, fl 33, fl 34, fl 35, fl 36, fl 37, fl 38, fl 39, fl 40, fl 41, fl 42, fl 43, fl 44, fl 45, fl 46, fl 47, fl 48, fl 49, fl 50, fl 51, fl 52, fl 53, fl 54, fl 55, fl 56, fl 57, fl 58, fl 59, fl 60, fl 61, fl 62, fl 63] 0 64)
theorem q904 : (s51 (SBend1.mk 5 0 0 ByteArray.empty (SAddr.mk ByteArray.empty 0) (SBend.mk 0 0 0 (SAddr.mk ByteArray.empty 0) ByteArray.empty)) v882.1).o = some v904 := by kernel_rfl
def v905 : Int := 140
theorem q905 : (s43 v904).o = some v905 := by kernel_rfl
def v906 : SNetwork := (SNetwork.mk [(SHost1.mk (bs [198, 51, 100, 1]) (-1) 10 0 64), (SHost1.mk (bs [10, 0, 0, 1]) 0 20 0 0), (SHost1.mk (bs [10, 0, 0, 2]) 0 5 2 0)] [(SNat.mk 1 3 1000 true (bs [192, 0, 2, 9]) 5000 5001 0 []), (SNat.mk 1 3 1000 true (bs [192, 0, 2, 9]) 5000 5001 0 [])] [fl 0, fl 1, fl 2, fl 3, fl 4, fl 5, fl 6, fl 7, fl 8, fl 9, fl 10, fl 11, fl 12, fl 13, fl 14, fl 15, fl 16, fl 17, fl 18, fl 19, fl 20, fl 21, fl 22, fl 23, fl 24, fl 25, fl 26, fl 27, fl 28, fl 29, fl 30, fl 31, fl 32, fl 33, fl 34, fl 35, fl 36, fl 37, fl 38, fl 39, fl 40, fl 41, fl 42, fl 43, fl 44, fl 45, fl 46, fl 47, fl 48, fl 49, fl 50, fl 51, fl 52, fl 53, fl 54, fl 55, fl 56, fl 57, fl 58, fl 59, fl 60, fl 61, fl 62, fl 63] 0 64)
theorem q906 : (s51 (SBend1.mk 8 0 0 ByteArray.empty (SAddr.mk ByteArray.empty 0) (SBend.mk 0 0 0 (SAddr.mk ByteArray.empty 0) ByteArray.empty)) v882.1).o = some v906 := by kernel_rfl
def v907 : Int := 140
theorem q907 : (s43 v906).o = some v907 := by kernel_rfl
def v908 : SNetwork := (SNetwork.mk [(SHost1.mk (bs [198, 51, 100, 1]) (-1) 10 0 64), (SHost1.mk (bs [10, 0, 0, 1]) 0 20 0 0), (SHost1.mk (bs [10, 0, 0, 2]) 0 5 2 0)] [(SNat.mk 1 3 1000 true (bs [192, 0, 2, 9]) 5000 5001 0 [])] [(SFlight.mk (-1) 0 (-1) (-1) (SAddr.mk (bs [198, 51, 100, 1]) 1) (SAddr.mk (bs [198, 51, 100, 1]) 80) (bs [])), fl 1, fl 2, fl 3, fl 4, fl 5, fl 6, fl 7, fl 8, fl 9, fl 10, fl 11, fl 12, fl 13, fl 14, fl 15, fl 16, fl 17, fl 18, fl 19, fl 20, fl 21, fl 22, fl 23, fl 24, fl 25, fl 26, fl 27, fl 28, fl 29, fl 30, fl 31, fl 32, fl 33, fl 34, fl 35, fl 36, fl 37, fl 38, fl 39, fl 40, fl 41, fl 42, fl 43, fl 44, fl 45, fl 46, fl 47, fl 48, fl 49, fl 50, fl 51, fl 52, fl 53, fl 54, fl 55, fl 56, fl 57, fl 58, fl 59, fl 60, fl 61, fl 62, fl 63] 0 64)
theorem q908 : (s51 (SBend1.mk 9 0 (-1) ByteArray.empty (SAddr.mk ByteArray.empty 0) (SBend.mk 0 0 0 (SAddr.mk ByteArray.empty 0) ByteArray.empty)) v882.1).o = some v908 := by kernel_rfl
def v909 : Int := 140
theorem q909 : (s43 v908).o = some v909 := by kernel_rfl
def v910 : SNetwork := (SNetwork.mk [(SHost1.mk (bs [198, 51, 100, 1]) (-1) 10 0 64), (SHost1.mk (bs [10, 0, 0, 1]) 0 20 0 0), (SHost1.mk (bs [10, 0, 0, 2]) 0 5 2 0)] [(SNat.mk 1 3 1000 true (bs [192, 0, 2, 9]) 5000 5001 0 [])] [fl 65, fl 1, fl 2, fl 3, fl 4, fl 5, fl 6, fl 7, fl 8, fl 9, fl 10, fl 11, fl 12, fl 13, fl 14, fl 15, fl 16, fl 17, fl 18, fl 19, fl 20, fl 21, fl 22, fl 23, fl 24, fl 25, fl 26, fl 27, fl 28, fl 29, fl 30, fl 31, fl 32, fl 33, fl 34, fl 35, fl 36, fl 37, fl 38, fl 39, fl 40, fl 41, fl 42, fl 43, fl 44, fl 45, fl 46, fl 47, fl 48, fl 49, fl 50, fl 51, fl 52, fl 53, fl 54, fl 55, fl 56, fl 57, fl 58, fl 59, fl 60, fl 61, fl 62, fl 63] 0 64)
theorem q910 : (s51 (SBend1.mk 10 0 65 ByteArray.empty (SAddr.mk ByteArray.empty 0) (SBend.mk 0 0 0 (SAddr.mk ByteArray.empty 0) ByteArray.empty)) v882.1).o = some v910 := by kernel_rfl
def v911 : Int := 140
theorem q911 : (s43 v910).o = some v911 := by kernel_rfl
def v912 : SNetwork := (SNetwork.mk [(SHost1.mk (bs [198, 51, 100, 1]) (-1) 10 0 64), (SHost1.mk (bs [10, 0, 0, 1]) 0 20 0 0), (SHost1.mk (bs [10, 0, 0, 2]) 0 5 2 0)] [(SNat.mk 1 3 1000 true (bs [192, 0, 2, 9]) 5000 5001 0 [])] [(SFlight.mk 10 0 1 (-1) (SAddr.mk (bs [198, 51, 100, 1]) 1) (SAddr.mk (bs [198, 51, 100, 1]) 80) (bs [])), fl 1, fl 2, fl 3, fl 4, fl 5, fl 6, fl 7, fl 8, fl 9, fl 10, fl 11, fl 12, fl 13, fl 14, fl 15, fl 16, fl 17, fl 18, fl 19, fl 20, fl 21, fl 22, fl 23, fl 24, fl 25, fl 26, fl 27, fl 28, fl 29, fl 30, fl 31, fl 32, fl 33, fl 34, fl 35, fl 36, fl 37, fl 38, fl 39, fl 40, fl 41, fl 42, fl 43, fl 44, fl 45, fl 46, fl 47, fl 48, fl 49, fl 50, fl 51, fl 52, fl 53, fl 54, fl 55, fl 56, fl 57, fl 58, fl 59, fl 60, fl 61, fl 62, fl 63] 0 64)
theorem q912 : (s51 (SBend1.mk 11 0 1 ByteArray.empty (SAddr.mk ByteArray.empty 0) (SBend.mk 0 0 0 (SAddr.mk ByteArray.empty 0) ByteArray.empty)) v882.1).o = some v912 := by kernel_rfl
def v913 : Int := 140
theorem q913 : (s43 v912).o = some v913 := by kernel_rfl
def v914 : SNetwork := (SNetwork.mk [(SHost1.mk (bs [198, 51, 100, 1]) (-1) 10 0 64), (SHost1.mk (bs [10, 0, 0, 1]) 0 20 0 0), (SHost1.mk (bs [10, 0, 0, 2]) 0 5 2 0)] [(SNat.mk 1 3 1000 true (bs [192, 0, 2, 9]) 5000 5001 0 [])] [(SFlight.mk 10 0 (-1) (-1) (SAddr.mk (bs []) 0) (SAddr.mk (bs [198, 51, 100, 1]) 80) (bs [])), fl 1, fl 2, fl 3, fl 4, fl 5, fl 6, fl 7, fl 8, fl 9, fl 10, fl 11, fl 12, fl 13, fl 14, fl 15, fl 16, fl 17, fl 18, fl 19, fl 20, fl 21, fl 22, fl 23, fl 24, fl 25, fl 26, fl 27, fl 28, fl 29, fl 30, fl 31, fl 32, fl 33, fl 34, fl 35, fl 36, fl 37, fl 38, fl 39, fl 40, fl 41, fl 42, fl 43, fl 44, fl 45, fl 46, fl 47, fl 48, fl 49, fl 50, fl 51, fl 52, fl 53, fl 54, fl 55, fl 56, fl 57, fl 58, fl 59, fl 60, fl 61, fl 62, fl 63] 0 64)
theorem q914 : (s51 (SBend1.mk 13 0 0 ByteArray.empty (SAddr.mk ByteArray.empty 0) (SBend.mk 0 0 0 (SAddr.mk ByteArray.empty 0) ByteArray.empty)) v882.1).o = some v914 := by kernel_rfl
def v915 : Int := 140
theorem q915 : (s43 v914).o = some v915 := by kernel_rfl
def v916 : SNetwork := (SNetwork.mk [(SHost1.mk (bs [198, 51, 100, 1]) (-1) 10 0 64), (SHost1.mk (bs [10, 0, 0, 1]) 0 20 0 0), (SHost1.mk (bs [10, 0, 0, 2]) 0 5 2 0)] [(SNat.mk 1 3 1000 true (bs [192, 0, 2, 9]) 5000 5001 0 [])] [(SFlight.mk 10 0 (-1) (-1) (SAddr.mk (bs [198, 51, 100, 1]) 1) (SAddr.mk (bs [48, 49, 50, 51, 52, 53, 54, 55, 56, 57, 97, 98, 99, 100, 101, 102]) 1) (bs [])), fl 1, fl 2, fl 3, fl 4, fl 5, fl 6, fl 7, fl 8, fl 9, fl 10, fl 11, fl 12, fl 13, fl 14, fl 15, fl 16, fl 17, fl 18, fl 19, fl 20, fl 21, fl 22, fl 23, fl 24, fl 25, fl 26, fl 27, fl 28, fl 29, fl 30, fl 31, fl 32, fl 33, fl 34, fl 35, fl 36, fl 37, fl 38, fl 39, fl 40, fl 41, fl 42, fl 43, fl 44, fl 45, fl 46, fl 47, fl 48, fl 49, fl 50, fl 51, fl 52, fl 53, fl 54, fl 55, fl 56, fl 57, fl 58, fl 59, fl 60, fl 61, fl 62, fl 63] 0 64)
theorem q916 : (s51 (SBend1.mk 14 0 0 ByteArray.empty (SAddr.mk (bs [48, 49, 50, 51, 52, 53, 54, 55, 56, 57, 97, 98, 99, 100, 101, 102]) 1) (SBend.mk 0 0 0 (SAddr.mk ByteArray.empty 0) ByteArray.empty)) v882.1).o = some v916 := by kernel_rfl
def v917 : Int := 140
theorem q917 : (s43 v916).o = some v917 := by kernel_rfl
def v918 : SNetwork := (SNetwork.mk [(SHost1.mk (bs [198, 51, 100, 1]) (-1) 10 0 64), (SHost1.mk (bs [10, 0, 0, 1]) 0 20 0 0), (SHost1.mk (bs [10, 0, 0, 2]) 0 5 2 0)] [(SNat.mk 1 3 1000 true (bs [192, 0, 2, 9]) 5000 5001 0 [])] [(SFlight.mk 10 0 (-1) (-1) (SAddr.mk (bs [198, 51, 100, 1]) 1) (SAddr.mk (bs [198, 51, 100, 1]) 80) (bs [0, 0, 0, 0, 0, 0, 0, 0, 0, 0, 0, 0, 0, 0, 0, 0, 0, 0, 0, 0, 0, 0, 0, 0, 0, 0, 0, 0, 0, 0, 0, 0, 0, 0, 0, 0, 0, 0, 0, 0, 0, 0, 0, 0, 0, 0, 0, 0, 0, 0, 0, 0, 0, 0, 0, 0, 0, 0, 0, 0, 0, 0, 0, 0, 0, 0, 0, 0, 0, 0, 0, 0, 0, 0, 0, 0, 0, 0, 0, 0, 0, 0, 0, 0, 0, 0, 0, 0, 0, 0, 0, 0, 0, 0, 0, 0, 0, 0, 0, 0, 0, 0, 0, 0, 0, 0, 0, 0, 0, 0, 0, 0, 0, 0, 0, 0, 0, 0, 0, 0, 0, 0, 0, 0, 0, 0, 0, 0, 0, 0, 0, 0, 0, 0, 0, 0, 0, 0, 0, 0, 0, 0, 0, 0, 0, 0, 0, 0, 0, 0, 0, 0, 0, 0, 0, 0, 0, 0, 0, 0, 0, 0, 0, 0, 0, 0, 0, 0, 0, 0, 0, 0, 0, 0, 0, 0, 0, 0, 0, 0, 0, 0, 0, 0, 0, 0, 0, 0, 0, 0, 0, 0, 0, 0, 0, 0, 0, 0, 0, 0, 0, 0, 0, 0, 0, 0, 0, 0, 0, 0, 0, 0, 0, 0, 0, 0, 0, 0, 0, 0, 0, 0, 0, 0, 0, 0, 0, 0, 0, 0, 0, 0, 0, 0, 0, 0, 0, 0, 0, 0, 0, 0, 0, 0, 0, 0, 0, 0, 0, 0, 0, 0, 0, 0, 0, 0, 0, 0, 0, 0, 0, 0, 0, 0, 0, 0, 0, 0, 0, 0, 0, 0, 0, 0, 0, 0, 0, 0, 0, 0, 0, 0, 0, 0, 0, 0, 0, 0, 0, 0, 0, 0, 0, 0, 0, 0, 0, 0, 0, 0, 0, 0, 0, 0, 0, 0, 0, 0, 0, 0, 0, 0, 0, 0, 0, 0, 0, 0, 0, 0, 0, 0, 0, 0, 0, 0, 0, 0, 0, 0, 0, 0, 0, 0, 0, 0, 0, 0, 0, 0, 0, 0, 0, 0, 0, 0, 0, 0, 0, 0, 0, 0, 0, 0, 0, 0, 0, 0, 0, 0, 0, 0, 0, 0, 0, 0, 0, 0, 0, 0, 0, 0, 0, 0, 0, 0, 0, 0, 0, 0, 0, 0, 0, 0, 0, 0, 0, 0, 0, 0, 0, 0, 0, 0, 0, 0, 0, 0, 0, 0, 0, 0, 0, 0, 0, 0, 0, 0, 0, 0, 0, 0, 0, 0, 0, 0, 0, 0, 0, 0, 0, 0, 0, 0, 0, 0, 0, 0, 0, 0, 0, 0, 0, 0, 0, 0, 0, 0, 0, 0, 0, 0, 0, 0, 0, 0, 0, 0, 0, 0, 0, 0, 0, 0, 0, 0, 0, 0, 0, 0, 0, 0, 0, 0, 0, 0, 0, 0, 0, 0, 0, 0, 0, 0, 0, 0, 0, 0, 0, 0, 0, 0, 0, 0, 0, 0, 0, 0, 0, 0, 0, 0, 0, 0, 0, 0, 0, 0, 0, 0, 0, 0, 0, 0, 0, 0, 0, 0, 0, 0, 0, 0, 0, 0, 0, 0, 0, 0, 0, 0, 0, 0, 0, 0, 0, 0, 0, 0, 0, 0, 0, 0, 0, 0, 0, 0, 0, 0, 0, 0, 0, 0, 0, 0, 0, 0, 0, 0, 0, 0, 0, 0, 0, 0, 0, 0, 0, 0, 0, 0, 0, 0, 0, 0, 0, 0, 0, 0, 0, 0, 0, 0, 0, 0, 0, 0, 0, 0, 0, 0, 0, 0, 0, 0, 0, 0, 0, 0, 0, 0, 0, 0, 0, 0, 0, 0, 0, 0, 0, 0, 0, 0, 0, 0, 0, 0, 0, 0, 0, 0, 0, 0, 0, 0, 0, 0, 0, 0, 0, 0, 0, 0, 0, 0, 0, 0, 0, 0, 0, 0, 0, 0, 0, 0, 0, 0, 0, 0, 0, 0, 0, 0, 0, 0, 0, 0, 0, 0, 0, 0, 0, 0, 0, 0, 0, 0, 0, 0, 0, 0, 0, 0, 0, 0, 0, 0, 0, 0, 0, 0, 0, 0, 0, 0, 0, 0, 0, 0, 0, 0, 0, 0, 0, 0, 0, 0, 0, 0, 0, 0, 0, 0, 0, 0, 0, 0, 0, 0, 0, 0, 0, 0, 0, 0, 0, 0, 0, 0, 0, 0, 0, 0, 0, 0, 0, 0, 0, 0, 0, 0, 0, 0, 0, 0, 0, 0, 0, 0, 0, 0, 0, 0, 0, 0, 0, 0, 0, 0, 0, 0, 0, 0, 0, 0, 0, 0, 0, 0, 0, 0, 0, 0, 0, 0, 0, 0, 0, 0, 0, 0, 0, 0, 0, 0, 0, 0, 0, 0, 0, 0, 0, 0, 0, 0, 0, 0, 0, 0, 0, 0, 0, 0, 0, 0, 0, 0, 0, 0, 0, 0, 0, 0, 0, 0, 0, 0, 0, 0, 0, 0, 0, 0, 0, 0, 0, 0, 0, 0, 0, 0, 0, 0, 0, 0, 0, 0, 0, 0, 0, 0, 0, 0, 0, 0, 0, 0, 0, 0, 0, 0, 0, 0, 0, 0, 0, 0, 0, 0, 0, 0, 0, 0, 0, 0, 0, 0, 0, 0, 0, 0, 0, 0, 0, 0, 0, 0, 0, 0, 0, 0, 0, 0, 0, 0, 0, 0, 0, 0, 0, 0, 0, 0, 0, 0, 0, 0, 0, 0, 0, 0, 0, 0, 0, 0, 0, 0, 0, 0, 0, 0, 0, 0, 0, 0, 0, 0, 0, 0, 0, 0, 0, 0, 0, 0, 0, 0, 0, 0, 0, 0, 0, 0, 0, 0, 0, 0, 0, 0, 0, 0, 0, 0, 0, 0, 0, 0, 0, 0, 0, 0, 0, 0, 0, 0, 0, 0, 0, 0, 0, 0, 0, 0, 0, 0, 0, 0, 0, 0, 0, 0, 0, 0, 0, 0, 0, 0, 0, 0, 0, 0, 0, 0, 0, 0, 0, 0, 0, 0, 0, 0, 0, 0, 0, 0, 0, 0, 0, 0, 0, 0, 0, 0, 0, 0, 0, 0, 0, 0, 0, 0, 0, 0, 0, 0, 0, 0, 0, 0, 0, 0, 0, 0, 0, 0, 0, 0, 0, 0, 0, 0, 0, 0, 0, 0, 0, 0, 0, 0, 0, 0, 0, 0, 0, 0, 0, 0, 0, 0, 0, 0, 0, 0, 0, 0, 0, 0, 0, 0, 0, 0, 0, 0, 0, 0, 0, 0, 0, 0, 0, 0, 0, 0, 0, 0, 0, 0, 0, 0, 0, 0, 0, 0, 0, 0, 0, 0, 0, 0, 0, 0, 0, 0, 0, 0, 0, 0, 0, 0, 0, 0, 0, 0, 0, 0, 0, 0, 0, 0, 0, 0, 0, 0, 0, 0, 0, 0, 0, 0, 0, 0, 0, 0, 0, 0, 0, 0, 0, 0, 0, 0, 0, 0, 0, 0, 0, 0, 0, 0, 0, 0, 0, 0, 0, 0, 0, 0, 0, 0, 0, 0, 0, 0, 0, 0, 0, 0, 0, 0, 0, 0, 0, 0, 0, 0, 0, 0, 0, 0, 0, 0, 0, 0, 0, 0, 0, 0, 0, 0, 0, 0, 0, 0, 0, 0, 0, 0, 0, 0, 0, 0, 0, 0, 0, 0, 0, 0, 0, 0, 0, 0, 0, 0, 0, 0, 0, 0, 0, 0, 0, 0, 0, 0, 0, 0, 0, 0, 0, 0, 0, 0, 0])), fl 1, fl 2, fl 3, fl 4, fl 5, fl 6, fl 7, fl 8, fl 9, fl 10, fl 11, fl 12, fl 13, fl 14, fl 15, fl 16, fl 17, fl 18, fl 19, fl 20, fl 21, fl 22, fl 23, fl 24, fl 25, fl 26, fl 27, fl 28, fl 29, fl 30, fl 31, fl 32, fl 33, fl 34, fl 35, fl 36, fl 37, fl 38, fl 39, fl 40, fl 41, fl 42, fl 43, fl 44, fl 45, fl 46, fl 47, fl 48, fl 49, fl 50, fl 51, fl 52, fl 53, fl 54, fl 55, fl 56, fl 57, fl 58, fl 59, fl 60, fl 61, fl 62, fl 63] 0 64)
theorem q918 : (s51 (SBend1.mk 15 0 0 (strOfNums (List.replicate 1201 (0 : Int))) (SAddr.mk ByteArray.empty 0) (SBend.mk 0 0 0 (SAddr.mk ByteArray.empty 0) ByteArray.empty)) v882.1).o = some v918 := by kernel_rfl
def v919 : Int := 140
theorem q919 : (s43 v918).o = some v919 := by kernel_rfl
def v920 : SNetwork := (SNetwork.mk [(SHost1.mk (bs [198, 51, 100, 1]) (-1) 10 0 64), (SHost1.mk (bs [10, 0, 0, 1]) 0 20 0 0), (SHost1.mk (bs [10, 0, 0, 2]) 0 5 2 0)] [(SNat.mk 1 3 1000 true (bs [192, 0, 2, 9]) 5000 5001 0 [])] [fl 0, fl 1, fl 2, fl 3, fl 4, fl 5, fl 6, fl 7, fl 8, fl 9, fl 10, fl 11, fl 12, fl 13, fl 14, fl 15, fl 16, fl 17, fl 18, fl 19, fl 20, fl 21, fl 22, fl 23, fl 24, fl 25, fl 26, fl 27, fl 28, fl 29, fl 30, fl 31, fl 32, fl 33, fl 34, fl 35, fl 36, fl 37, fl 38, fl 39, fl 40, fl 41, fl 42, fl 43, fl 44, fl 45, fl 46, fl 47, fl 48, fl 49, fl 50, fl 51, fl 52, fl 53, fl 54, fl 55, fl 56, fl 57, fl 58, fl 59, fl 60, fl 61, fl 62, fl 63] (-1) 64)
theorem q920 : (s51 (SBend1.mk 16 0 (-1) ByteArray.empty (SAddr.mk ByteArray.empty 0) (SBend.mk 0 0 0 (SAddr.mk ByteArray.empty 0) ByteArray.empty)) v882.1).o = some v920 := by kernel_rfl
def v921 : Int := 140
theorem q921 : (s43 v920).o = some v921 := by kernel_rfl
def v922 : SNetwork := (SNetwork.mk [(SHost1.mk (bs [198, 51, 100, 1]) (-1) 10 0 64), (SHost1.mk (bs [10, 0, 0, 1]) 0 20 0 0), (SHost1.mk (bs [10, 0, 0, 2]) 0 5 2 0)] [(SNat.mk 1 3 1000 true (bs [192, 0, 2, 9]) 5000 5001 0 [])] [fl 0, fl 1, fl 2, fl 3, fl 4, fl 5, fl 6, fl 7, fl 8, fl 9, fl 10, fl 11, fl 12, fl 13, fl 14, fl 15, fl 16, fl 17, fl 18, fl 19, fl 20, fl 21, fl 22, fl 23, fl 24, fl 25, fl 26, fl 27, fl 28, fl 29, fl 30, fl 31, fl 32, fl 33, fl 34, fl 35, fl 36, fl 37, fl 38, fl 39, fl 40, fl 41, fl 42, fl 43, fl 44, fl 45, fl 46, fl 47, fl 48, fl 49, fl 50, fl 51, fl 52, fl 53, fl 54, fl 55, fl 56, fl 57, fl 58, fl 59, fl 60, fl 61, fl 62, fl 63] 0 63)
theorem q922 : (s51 (SBend1.mk 17 0 63 ByteArray.empty (SAddr.mk ByteArray.empty 0) (SBend.mk 0 0 0 (SAddr.mk ByteArray.empty 0) ByteArray.empty)) v882.1).o = some v922 := by kernel_rfl
def v923 : Int := 140
theorem q923 : (s43 v922).o = some v923 := by kernel_rfl
end Go.Proofs.YtdiagiflihpidaaDoor
namespace Go.Proofs.YtdiagiflihpidaaDoor
open Go Go.EV
set_option maxRecDepth 100000
theorem ok15 : Ok g15 (fun r => r = true) := by
 unfold g15
 refine Ok.call (SOk.of q786) fun r hr => ?_; subst hr
 refine Ok.brF (by kernel_rfl) ?_
 refine Ok.call (SOk.of q787) fun r hr => ?_; subst hr
 refine Ok.call (SOk.of q788) fun r hr => ?_; subst hr
 refine Ok.call (SOk.of q789) fun r hr => ?_; subst hr
 refine Ok.call (SOk.of q790) fun r hr => ?_; subst hr
 refine Ok.call (SOk.of q791) fun r hr => ?_; subst hr
 refine Ok.call (SOk.of q792) fun r hr => ?_; subst hr
 refine Ok.call (SOk.of q793) fun r hr => ?_; subst hr
 refine Ok.call (SOk.of q794) fun r hr => ?_; subst hr
 refine Ok.call (SOk.of q795) fun r hr => ?_; subst hr
 refine Ok.call (SOk.of q796) fun r hr => ?_; subst hr
 refine Ok.call (SOk.of q797) fun r hr => ?_; subst hr
 refine Ok.call (SOk.of q798) fun r hr => ?_; subst hr
 refine Ok.call (SOk.of q799) fun r hr => ?_; subst hr
 refine Ok.call (SOk.of q800) fun r hr => ?_; subst hr
 refine Ok.call (SOk.of q801) fun r hr => ?_; subst hr
 refine Ok.call (SOk.of q802) fun r hr => ?_; subst hr
 refine Ok.call (SOk.of q803) fun r hr => ?_; subst hr
 refine Ok.call (SOk.of q804) fun r hr => ?_; subst hr
 refine Ok.call (SOk.of q805) fun r hr => ?_; subst hr
 refine Ok.call (SOk.of q806) fun r hr => ?_; subst hr
 refine Ok.call (SOk.of q807) fun r hr => ?_; subst hr
 refine Ok.call (SOk.of q808) fun r hr => ?_; subst hr
 refine Ok.call (SOk.of q809) fun r hr => ?_; subst hr
 refine Ok.call (SOk.of q810) fun r hr => ?_; subst hr
 refine Ok.call (SOk.of q811) fun r hr => ?_; subst hr
 refine Ok.call (SOk.of q812) fun r hr => ?_; subst hr
 refine Ok.call (SOk.of q813) fun r hr => ?_; subst hr
 refine Ok.call (SOk.of q814) fun r hr => ?_; subst hr
 refine Ok.opr rfl ?_
 refine Ok.opr rfl ?_
 refine Ok.call (SOk.of q815) fun r hr => ?_; subst hr
 refine Ok.call (SOk.of q816) fun r hr => ?_; subst hr
 refine Ok.call (SOk.of q817) fun r hr => ?_; subst hr
 refine Ok.call (SOk.of q818) fun r hr => ?_; subst hr
 refine Ok.tt ?_
 refine Ok.call (SOk.of q819) fun r hr => ?_; subst hr
 refine Ok.brF (by kernel_rfl) ?_
 refine Ok.tt ?_
 refine Ok.call (SOk.of q820) fun r hr => ?_; subst hr
 refine Ok.brF (by kernel_rfl) ?_
 refine Ok.tt ?_
 refine Ok.call (SOk.of q821) fun r hr => ?_; subst hr
 refine Ok.brF (by kernel_rfl) ?_
 refine Ok.tt ?_
 refine Ok.call (SOk.of q822) fun r hr => ?_; subst hr
 refine Ok.brF (by kernel_rfl) ?_
 refine Ok.tt ?_
 refine Ok.call (SOk.of q823) fun r hr => ?_; subst hr
 refine Ok.brF (by kernel_rfl) ?_
 refine Ok.tt ?_
 refine Ok.call (SOk.of q824) fun r hr => ?_; subst hr
 refine Ok.brF (by kernel_rfl) ?_
 refine Ok.tt ?_
 refine Ok.call (SOk.of q825) fun r hr => ?_; subst hr
 refine Ok.brF (by kernel_rfl) ?_
 refine Ok.tt ?_
 refine Ok.call (SOk.of q826) fun r hr => ?_; subst hr
 refine Ok.brF (by kernel_rfl) ?_
 refine Ok.tt ?_
 refine Ok.call (SOk.of q827) fun r hr => ?_; subst hr
 refine Ok.brF (by kernel_rfl) ?_
 refine Ok.tt ?_
 refine Ok.call (SOk.of q828) fun r hr => ?_; subst hr
 refine Ok.brF (by kernel_rfl) ?_
 refine Ok.tt ?_
 refine Ok.call (SOk.of q829) fun r hr => ?_; subst hr
 refine Ok.brF (by kernel_rfl) ?_
 refine Ok.tt ?_
 refine Ok.call (SOk.of q830) fun r hr => ?_; subst hr
 refine Ok.brF (by kernel_rfl) ?_
 refine Ok.tt ?_
 refine Ok.call (SOk.of q831) fun r hr => ?_; subst hr
 refine Ok.brF (by kernel_rfl) ?_
 refine Ok.tt ?_
 refine Ok.call (SOk.of q832) fun r hr => ?_; subst hr
 refine Ok.brF (by kernel_rfl) ?_
 refine Ok.tt ?_
 refine Ok.call (SOk.of q833) fun r hr => ?_; subst hr
 refine Ok.brF (by kernel_rfl) ?_
 refine Ok.tt ?_
 refine Ok.call (SOk.of q834) fun r hr => ?_; subst hr
 refine Ok.brF (by kernel_rfl) ?_
 refine Ok.tt ?_
 refine Ok.call (SOk.of q835) fun r hr => ?_; subst hr
 refine Ok.brF (by kernel_rfl) ?_
 refine Ok.tt ?_
 refine Ok.call (SOk.of q836) fun r hr => ?_; subst hr
 refine Ok.brF (by kernel_rfl) ?_
 refine Ok.tt ?_
 refine Ok.call (SOk.of q837) fun r hr => ?_; subst hr
 refine Ok.brF (by kernel_rfl) ?_
 refine Ok.tt ?_
 refine Ok.call (SOk.of q838) fun r hr => ?_; subst hr
 refine Ok.brF (by kernel_rfl) ?_
 refine Ok.tt ?_
 refine Ok.call (SOk.of q839) fun r hr => ?_; subst hr
 refine Ok.brF (by kernel_rfl) ?_
 refine Ok.tt ?_
 refine Ok.call (SOk.of q840) fun r hr => ?_; subst hr
 refine Ok.brF (by kernel_rfl) ?_
 refine Ok.tt ?_
 refine Ok.call (SOk.of q841) fun r hr => ?_; subst hr
 refine Ok.brF (by kernel_rfl) ?_
 refine Ok.tt ?_
 refine Ok.call (SOk.of q842) fun r hr => ?_; subst hr
 refine Ok.brF (by kernel_rfl) ?_
 refine Ok.tt ?_
 refine Ok.call (SOk.of q843) fun r hr => ?_; subst hr
 refine Ok.brF (by kernel_rfl) ?_
 refine Ok.tt ?_
 refine Ok.call (SOk.of q844) fun r hr => ?_; subst hr
 refine Ok.brF (by kernel_rfl) ?_
 refine Ok.tt ?_
 refine Ok.call (SOk.of q845) fun r hr => ?_; subst hr
 refine Ok.brF (by kernel_rfl) ?_
 refine Ok.tt ?_
 refine Ok.call (SOk.of q846) fun r hr => ?_; subst hr
 refine Ok.brF (by kernel_rfl) ?_
 refine Ok.tt ?_
 refine Ok.call (SOk.of q847) fun r hr => ?_; subst hr
 refine Ok.brF (by kernel_rfl) ?_
 refine Ok.tt ?_
 refine Ok.call (SOk.of q848) fun r hr => ?_; subst hr
 refine Ok.brF (by kernel_rfl) ?_
 refine Ok.tt ?_
 refine Ok.call (SOk.of q849) fun r hr => ?_; subst hr
 refine Ok.brF (by kernel_rfl) ?_
 refine Ok.tt ?_
 refine Ok.call (SOk.of q850) fun r hr => ?_; subst hr
 refine Ok.brF (by kernel_rfl) ?_
 refine Ok.tt ?_
 refine Ok.call (SOk.of q851) fun r hr => ?_; subst hr
 refine Ok.brF (by kernel_rfl) ?_
 refine Ok.tt ?_
 refine Ok.call (SOk.of q852) fun r hr => ?_; subst hr
 refine Ok.brF (by kernel_rfl) ?_
 refine Ok.tt ?_
 refine Ok.call (SOk.of q853) fun r hr => ?_; subst hr
 refine Ok.brF (by kernel_rfl) ?_
 refine Ok.tt ?_
 refine Ok.call (SOk.of q854) fun r hr => ?_; subst hr
 refine Ok.brF (by kernel_rfl) ?_
 refine Ok.tt ?_
 refine Ok.call (SOk.of q855) fun r hr => ?_; subst hr
 refine Ok.brF (by kernel_rfl) ?_
 refine Ok.tt ?_
 refine Ok.call (SOk.of q856) fun r hr => ?_; subst hr
 refine Ok.brF (by kernel_rfl) ?_
 refine Ok.tt ?_
 refine Ok.call (SOk.of q857) fun r hr => ?_; subst hr
 refine Ok.brF (by kernel_rfl) ?_
 refine Ok.tt ?_
 refine Ok.call (SOk.of q858) fun r hr => ?_; subst hr
 refine Ok.brF (by kernel_rfl) ?_
 refine Ok.tt ?_
 refine Ok.call (SOk.of q859) fun r hr => ?_; subst hr
 refine Ok.brF (by kernel_rfl) ?_
 refine Ok.tt ?_
 refine Ok.call (SOk.of q860) fun r hr => ?_; subst hr
 refine Ok.brF (by kernel_rfl) ?_
 refine Ok.tt ?_
 refine Ok.call (SOk.of q861) fun r hr => ?_; subst hr
 refine Ok.brF (by kernel_rfl) ?_
 refine Ok.tt ?_
 refine Ok.call (SOk.of q862) fun r hr => ?_; subst hr
 refine Ok.brF (by kernel_rfl) ?_
 refine Ok.tt ?_
 refine Ok.call (SOk.of q863) fun r hr => ?_; subst hr
 refine Ok.brF (by kernel_rfl) ?_
 refine Ok.tt ?_
 refine Ok.call (SOk.of q864) fun r hr => ?_; subst hr
 refine Ok.brF (by kernel_rfl) ?_
 refine Ok.tt ?_
 refine Ok.call (SOk.of q865) fun r hr => ?_; subst hr
 refine Ok.brF (by kernel_rfl) ?_
 refine Ok.tt ?_
 refine Ok.call (SOk.of q866) fun r hr => ?_; subst hr
 refine Ok.brF (by kernel_rfl) ?_
 refine Ok.tt ?_
 refine Ok.call (SOk.of q867) fun r hr => ?_; subst hr
 refine Ok.brF (by kernel_rfl) ?_
 refine Ok.tt ?_
 refine Ok.call (SOk.of q868) fun r hr => ?_; subst hr
 refine Ok.brF (by kernel_rfl) ?_
 refine Ok.tt ?_
 refine Ok.call (SOk.of q869) fun r hr => ?_; subst hr
 refine Ok.brF (by kernel_rfl) ?_
 refine Ok.tt ?_
 refine Ok.call (SOk.of q870) fun r hr => ?_; subst hr
 refine Ok.brF (by kernel_rfl) ?_
 refine Ok.tt ?_
 refine Ok.call (SOk.of q871) fun r hr => ?_; subst hr
 refine Ok.brF (by kernel_rfl) ?_
 refine Ok.tt ?_
 refine Ok.call (SOk.of q872) fun r hr => ?_; subst hr
 refine Ok.brF (by kernel_rfl) ?_
 refine Ok.tt ?_
 refine Ok.call (SOk.of q873) fun r hr => ?_; subst hr
 refine Ok.brF (by kernel_rfl) ?_
 refine Ok.tt ?_
 refine Ok.call (SOk.of q874) fun r hr => ?_; subst hr
 refine Ok.brF (by kernel_rfl) ?_
 refine Ok.tt ?_
 refine Ok.call (SOk.of q875) fun r hr => ?_; subst hr
 refine Ok.brF (by kernel_rfl) ?_
 refine Ok.tt ?_
 refine Ok.call (SOk.of q876) fun r hr => ?_; subst hr
 refine Ok.brF (by kernel_rfl) ?_
 refine Ok.tt ?_
 refine Ok.call (SOk.of q877) fun r hr => ?_; subst hr
 refine Ok.brF (by kernel_rfl) ?_
 refine Ok.tt ?_
 refine Ok.call (SOk.of q878) fun r hr => ?_; subst hr
 refine Ok.brF (by kernel_rfl) ?_
 refine Ok.tt ?_
 refine Ok.call (SOk.of q879) fun r hr => ?_; subst hr
 refine Ok.brF (by kernel_rfl) ?_
 refine Ok.tt ?_
 refine Ok.call (SOk.of q880) fun r hr => ?_; subst hr
 refine Ok.brF (by kernel_rfl) ?_
 refine Ok.tt ?_
 refine Ok.call (SOk.of q881) fun r hr => ?_; subst hr
 refine Ok.brF (by kernel_rfl) ?_
 refine Ok.tt ?_
 refine Ok.call (SOk.of q882) fun r hr => ?_; subst hr
 refine Ok.brF (by kernel_rfl) ?_
 refine Ok.ff ?_
 refine Ok.call (SOk.of q883) fun r hr => ?_; subst hr
 refine Ok.call (SOk.of q884) fun r hr => ?_; subst hr
 refine Ok.call (SOk.of q885) fun r hr => ?_; subst hr
 refine Ok.call (SOk.of q886) fun r hr => ?_; subst hr
 refine Ok.call (SOk.of q887) fun r hr => ?_; subst hr
 refine Ok.cnd (R := fun c => c = false) ⟨false, by kernel_rfl, rfl⟩ fun c hc => ?_; subst hc
 refine Ok.brF (by kernel_rfl) ?_
 refine Ok.opr rfl ?_
 refine Ok.opr rfl ?_
 refine Ok.tt ?_
 refine Ok.call (SOk.of q890) fun r hr => ?_; subst hr
 refine Ok.call (SOk.of q891) fun r hr => ?_; subst hr
 refine Ok.brF (by kernel_rfl) ?_
 refine Ok.tt ?_
 refine Ok.gh ?_
 refine Ok.call (SOk.of q892) fun r hr => ?_; subst hr
 refine Ok.call (SOk.of q893) fun r hr => ?_; subst hr
 refine Ok.brF (by kernel_rfl) ?_
 refine Ok.tt ?_
 refine Ok.gh ?_
 refine Ok.call (SOk.of q894) fun r hr => ?_; subst hr
 refine Ok.call (SOk.of q895) fun r hr => ?_; subst hr
 refine Ok.brF (by kernel_rfl) ?_
 refine Ok.tt ?_
 refine Ok.gh ?_
 refine Ok.call (SOk.of q896) fun r hr => ?_; subst hr
 refine Ok.call (SOk.of q897) fun r hr => ?_; subst hr
 refine Ok.brF (by kernel_rfl) ?_
 refine Ok.tt ?_
 refine Ok.gh ?_
 refine Ok.call (SOk.of q898) fun r hr => ?_; subst hr
 refine Ok.call (SOk.of q899) fun r hr => ?_; subst hr
 refine Ok.brF (by kernel_rfl) ?_
 refine Ok.tt ?_
 refine Ok.gh ?_
 refine Ok.call (SOk.of q900) fun r hr => ?_; subst hr
 refine Ok.call (SOk.of q901) fun r hr => ?_; subst hr
 refine Ok.brF (by kernel_rfl) ?_
 refine Ok.tt ?_
 refine Ok.gh ?_
 refine Ok.call (SOk.of q902) fun r hr => ?_; subst hr
 refine Ok.call (SOk.of q903) fun r hr => ?_; subst hr
 refine Ok.brF (by kernel_rfl) ?_
 refine Ok.tt ?_
 refine Ok.gh ?_
 refine Ok.call (SOk.of q904) fun r hr => ?_; subst hr
 refine Ok.call (SOk.of q905) fun r hr => ?_; subst hr
 refine Ok.brF (by kernel_rfl) ?_
 refine Ok.tt ?_
 refine Ok.gh ?_
 refine Ok.call (SOk.of q906) fun r hr => ?_; subst hr
 refine Ok.call (SOk.of q907) fun r hr => ?_; subst hr
 refine Ok.brF (by kernel_rfl) ?_
 refine Ok.tt ?_
 refine Ok.gh ?_
 refine Ok.call (SOk.of q908) fun r hr => ?_; subst hr
 refine Ok.call (SOk.of q909) fun r hr => ?_; subst hr
 refine Ok.brF (by kernel_rfl) ?_
 refine Ok.tt ?_
 refine Ok.gh ?_
 refine Ok.call (SOk.of q910) fun r hr => ?_; subst hr
 refine Ok.call (SOk.of q911) fun r hr => ?_; subst hr
 refine Ok.brF (by kernel_rfl) ?_
 refine Ok.tt ?_
 refine Ok.gh ?_
 refine Ok.call (SOk.of q912) fun r hr => ?_; subst hr
 refine Ok.call (SOk.of q913) fun r hr => ?_; subst hr
 refine Ok.brF (by kernel_rfl) ?_
 refine Ok.tt ?_
 refine Ok.gh ?_
 refine Ok.call (SOk.of q914) fun r hr => ?_; subst hr
 refine Ok.call (SOk.of q915) fun r hr => ?_; subst hr
 refine Ok.brF (by kernel_rfl) ?_
 refine Ok.tt ?_
 refine Ok.gh ?_
 refine Ok.call (SOk.of q916) fun r hr => ?_; subst hr
 refine Ok.call (SOk.of q917) fun r hr => ?_; subst hr
 refine Ok.brF (by kernel_rfl) ?_
 refine Ok.tt ?_
 refine Ok.gh ?_
 refine Ok.call (SOk.of q918) fun r hr => ?_; subst hr
 refine Ok.call (SOk.of q919) fun r hr => ?_; subst hr
 refine Ok.brF (by kernel_rfl) ?_
 refine Ok.tt ?_
 refine Ok.gh ?_
 refine Ok.call (SOk.of q920) fun r hr => ?_; subst hr
 refine Ok.call (SOk.of q921) fun r hr => ?_; subst hr
 refine Ok.brF (by kernel_rfl) ?_
 refine Ok.tt ?_
 refine Ok.gh ?_
 refine Ok.call (SOk.of q922) fun r hr => ?_; subst hr
 refine Ok.call (SOk.of q923) fun r hr => ?_; subst hr
 refine Ok.brF (by kernel_rfl) ?_
 refine Ok.ff ?_
 refine Ok.cnd (R := fun c => c = true) ⟨true, by kernel_rfl, rfl⟩ fun c hc => ?_; subst hc
 refine Ok.cnd (R := fun c => c = true) ⟨true, by kernel_rfl, rfl⟩ fun c hc => ?_; subst hc
 exact Ok.done rfl
theorem SOk.fn {P : Program} {G : Nat → Option (List V)} {kp : List Nat} {f : FuncId} {fn : Func} {args : List V} {ρ : Type} {g : T P G ρ} {res : ρ → V} {hm : P.follows .mixedOrders = true} {hf : P.funcs[f]? = some fn} {k : FnD P G kp fn args g res} {Q : ρ → Prop} (h : Ok g Q) : SOk (.ofFn f hm hf k) Q := h
theorem o15 : SOk s15 (fun r => r = true) := by
 unfold s15
 exact SOk.fn ok15
end Go.Proofs.YtdiagiflihpidaaDoor
namespace Go.Proofs.YtdiagiflihpidaaDoor
open Go Go.EV
set_option maxRecDepth 100000
theorem own : ownKnob Tryd.prog.godebug = none := by kernel_rfl
theorem gKeys : Tryd.prog.globalNamed "tannoy/nat.keys" = some 0 := by kernel_rfl
theorem tKeys : (Tryd.prog.globals[0]?).map (·.type) = some 155 := by kernel_rfl
theorem cells154 : Tryd.prog.cellsOf 154 = 1 := by kernel_rfl
theorem cells155 : Tryd.prog.cellsOf 155 = 4 := by kernel_rfl
theorem und155 : Tryd.prog.underlying 155 = some (.array 4 154) := by kernel_rfl
theorem und154 : Tryd.prog.underlying 154 = some (.func #[27] #[27] false) := by kernel_rfl
abbrev laid1 : List (String × DataW Unit) := [("tannoy/nat.keys", Rows.laid_tannoy_nat_keys)]
theorem door_met (os : Os) (args : Array Value) : laidMetH Tryd.prog laid1 ((World.doorLaid Tryd.prog 14 os).forCall (fun _ _ => 0) ⟨#[], args, []⟩).memory :=
 laidMetH_of_parts3 (fuel := 8) (laidMet_of_run' 8 (by kernel_rfl) (by kernel_rfl)) (by kernel_rfl) (by kernel_rfl)
theorem of_laid {W : World} (h : laidMetH Tryd.prog laid1 W) : W.cell? ⟨0, 0, none⟩ = some .nilFunc ∧ W.cell? ⟨0, 1, none⟩ = some (.func (.func 146) #[] #[]) ∧
  W.cell? ⟨0, 2, none⟩ = some (.func (.func 147) #[] #[]) ∧ W.cell? ⟨0, 3, none⟩ = some (.func (.func 148) #[] #[]) := by
 obtain ⟨g, t, cs, fuel, p, hg, ht, hv, hd⟩ := h.funcs (List.mem_singleton.2 rfl)
 obtain rfl := Option.some.inj (gKeys.symm.trans hg)
 obtain rfl := Option.some.inj (tKeys.symm.trans ht)
 have hd' : DataW.trod (funcToken Tryd.prog) Tryd.prog W 0 (fun _ => true) true fuel 155 cs.toList = some (.agg [.nil, .held [116, 97, 110, 110, 111, 121, 47, 110, 97, 116, 46, 107, 101, 121, 115, 36, 49], .held [116, 97, 110, 110, 111, 121, 47, 110, 97, 116, 46, 107, 101, 121, 115, 36, 50], .held [116, 97, 110, 110, 111, 121, 47, 110, 97, 116, 46, 107, 101, 121, 115, 36, 51]], p) := hd
 obtain ⟨xs, m, rfl, hx, hl, hn, hel⟩ := DataW.trod_array und155 hd'
 rw [cells155] at hl
 obtain ⟨v0, v1, v2, v3, hcs⟩ : ∃ v0 v1 v2 v3, cs.toList = [v0, v1, v2, v3] := by
  match hc : cs.toList, hl with
  | [a, b, c, d], _ => exact ⟨a, b, c, d, rfl⟩
 obtain ⟨x0, x1, x2, x3, hxs⟩ : ∃ x0 x1 x2 x3, xs = [x0, x1, x2, x3] := by
  match xs, hn with
  | [a, b, c, d], _ => exact ⟨a, b, c, d, rfl⟩
 subst hxs
 simp only [Prod.mk.injEq, DataW.agg.injEq, List.map_cons, List.map_nil, List.cons.injEq, and_true] at hx
 obtain ⟨⟨h0, h1, h2, h3⟩, -⟩ := hx
 have e0 := hel 0 (by omega)
 have e1 := hel 1 (by omega)
 have e2 := hel 2 (by omega)
 have e3 := hel 3 (by omega)
 rw [cells154, hcs] at e0 e1 e2 e3
 simp at e0 e1 e2 e3
 have k0 : v0 = .nilFunc := by
  cases m with
  | zero => simp [DataW.trod] at e0
  | succ m =>
   cases v0 <;> simp [DataW.trod] at e0 <;> first | rfl | (subst e0; simp at h0)
 have k1 : v1 = .func (.func 146) #[] #[] := func_of_trod (f0 := 146) (q := x1.2) und154 (by kernel_rfl) (e1.trans (by rw [h1]))
 have k2 : v2 = .func (.func 147) #[] #[] := func_of_trod (f0 := 147) (q := x2.2) und154 (by kernel_rfl) (e2.trans (by rw [h2]))
 have k3 : v3 = .func (.func 148) #[] #[] := func_of_trod (f0 := 148) (q := x3.2) und154 (by kernel_rfl) (e3.trans (by rw [h3]))
 have ec : cs = #[v0, v1, v2, v3] := Array.toList_inj.1 (by rw [hcs])
 subst ec
 have c := World.var?_cell gKeys hv
 exact ⟨by rw [c 0, k0]; rfl, by rw [c 1, k1]; rfl, by rw [c 2, k2]; rfl, by rw [c 3, k3]; rfl⟩
def gh0 (w : World) : Gh := { loc := fun _ => none, own := fun _ => none, lim := fun B => match w.heap[B]? with | some (.cells cs _ _) => cs.size | _ => 0 }
theorem gh0_lim {w : World} {B o : Nat} {v : Value} (h : cellAt w B o = some v) : o < (gh0 w).lim B := by
 unfold cellAt World.cell? at h
 simp only [gh0]
 cases hb : w.heap[B]? with
 | none => simp [hb] at h
 | some x =>
  cases x with
  | cells cs t fz =>
   simp only [hb] at h
   simp only
   exact (Array.getElem?_eq_some_iff.1 (by simpa using h)).1
  | _ => simp [hb] at h
theorem globOk {w : World} (h : laidMetH Tryd.prog laid1 w) : GlobOk GG (gh0 w) w := fun g cells hg => by
 unfold GG at hg
 split at hg
 ·rename_i e
  subst e
  simp only [Option.some.injEq] at hg
  subst hg
  obtain ⟨c0, c1, c2, c3⟩ := of_laid h
  refine .snap _ 0 0 (fun i => match i with | 0 => .nilFunc | 1 => .func (.func 146) #[] #[] | 2 => .func (.func 147) #[] #[] | _ => .func (.func 148) #[] #[]) (fun i c hc => ?_) (fun i c hc => ?_)
  ·have key : ∀ (o : Nat) (v : Value), w.cell? ⟨0, o, none⟩ = some v → o < (gh0 w).lim 0 ∧ cellAt w 0 o = some v := fun o v hv => ⟨gh0_lim (v := v) hv, hv⟩
   match i, hc with
   | 0, _ => exact key _ _ c0
   | 1, _ => exact key _ _ c1
   | 2, _ => exact key _ _ c2
   | 3, _ => exact key _ _ c3
   | n + 4, hc => simp at hc
  ·match i, hc with
   | 0, hc => simp at hc; subst hc; exact .nilf
   | 1, hc => simp at hc; subst hc; exact .fn 146 [] [] [] [] rfl rfl (by simp) (by simp)
   | 2, hc => simp at hc; subst hc; exact .fn 147 [] [] [] [] rfl rfl (by simp) (by simp)
   | 3, hc => simp at hc; subst hc; exact .fn 148 [] [] [] [] rfl rfl (by simp) (by simp)
   | n + 4, hc => simp at hc
 ·simp at hg
theorem keptBut_of_grow {w w' : World} {γ' : Gh} (h : Grow (gh0 w) w γ' w') (may : MemPlace → Prop) : w.keptBut w' may := by
 refine ⟨h.os, h.output, fun i hi => ?_⟩
 have := (h.free i hi rfl).1
 rw [this]
 cases w.heap[i]? with
 | none => trivial
 | some x =>
  cases x with
  | cells c t fr => exact ⟨rfl, rfl, rfl, fun _ _ => rfl⟩
  | map es clock => exact .inr ⟨rfl, rfl⟩
  | _ => rfl
end Go.Proofs.YtdiagiflihpidaaDoor
namespace Go.Proofs.YtdiagiflihpidaaDoor
open Go Go.EV Go.ChangeShapes
set_option maxRecDepth 100000
section
variable {H : Type} {enc : TypeId × Value → H} {P : Program} {w : World} {base : Nat} {spare : Nat → Bool} {held : Bool}
end
end Go.Proofs.YtdiagiflihpidaaDoor
namespace Go.Proofs.YtdiagiflihpidaaDoor
open Go Go.EV Go.ChangeShapes Go.WideShapes Go.ChangeAt Go.RowKit
set_option maxRecDepth 100000
theorem und4 : Tryd.prog.underlying 4 = some .bool := by kernel_rfl
theorem calls15 {w : World} (h : laidMetH Tryd.prog laid1 w) : Calls Tryd.prog 15 #[] w fun e w' => e = .returned (.bool true) ∧ w.keptBut w' (fun _ => False) := by
 have c : CallC Tryd.prog GG 15 [] (ofL []) (.bool true) (ofL []) := s15.ok true (SOk.eq o15)
 refine (c (gh0 w) w #[] (globOk h) (fun B x hx => by simp [gh0] at hx) ⟨rfl, fun i c v hc => by simp at hc⟩ (fun b k hb => by simp [ofL] at hb)).mono fun e w' hq => ?_
 obtain ⟨v, γ', rfl, hg, _, hr, _⟩ := hq
 have := hr.bool_inv
 subst this
 exact ⟨rfl, keptBut_of_grow hg _⟩
theorem known_lifted (os : Os) (started : os.Started) (H : Type) (enc : TypeId × Value → H) :
  ReturnsInHanded {} Tryd.checked os 15 .any (fun w args => (Rows.networkKnownSpec.pre enc Tryd.prog Tryd.f15 [] false w args ∧ laidMetH Tryd.prog laid1 w) ∧ sizedMet enc Tryd.prog Tryd.f15 (OpenSpec.ofChange Rows.networkKnownSpec) false w args)
   (Rows.networkKnownSpec.post enc Tryd.prog Tryd.f15 false true false false) := by
 refine returnsInHanded_of_change_and (C := Tryd.checked) (X := fun w _ => laidMetH Tryd.prog laid1 w) (fun _ _ _ hh h => h.of_heap hh) own started (by kernel_rfl) Tryd.func15
  (ChangeSpec.witness_shaped (enc := enc) (C := Tryd.checked) (os := os) (X := fun w _ => laidMetH Tryd.prog laid1 w) false (World.doorLaid Tryd.prog 14 os) #[] 8 rfl (World.shaped_of_RefB (by kernel_rfl) (by kernel_rfl)) (by kernel_rfl) (by kernel_rfl) (by kernel_rfl) (door_met os _)) ?_
 intro W base args ds gs before hval hW _ _ hL _
 have hW' := hW
 obtain ⟨p, q, hA0, hV, rfl, hfz, hnd⟩ := hW
 have hA : DataW.TrodAll enc Tryd.prog W 0 (fun _ => true) true Tryd.f15.params.toList args.toList ds p := hA0
 rw [Tryd.params15] at hA
 obtain ⟨rfl, rfl⟩ := trodVars_none hV
 obtain ⟨ha, rfl, rfl⟩ : args.toList = [] ∧ ds = [] ∧ p = [] := by
  generalize args.toList = l at hA
  cases l with
  | nil => cases ds with
   | nil => exact ⟨rfl, rfl, hA⟩
   | cons d ds => exact absurd hA (by intro h; cases h)
  | cons a l => exact absurd hA (by intro h; cases h)
 obtain rfl : args = #[] := Array.toList_inj.1 (by rw [ha])
 refine (calls15 hL).mono fun e W' ⟨he, hw⟩ => ?_
 subst he
 exact ⟨_, rfl, [], [], [], [], [], [], hW', trodAll_mk1 (shut_bool und4 true), rfl, rfl, World.keptBut_mono (fun _ h => h.elim) hw, fun h => by cases h⟩
theorem known_holds : Rows.NetworkKnownSaid :=
 OpenClaim.holds_of_wide 15 Tryd.f15 rfl rfl rfl rfl rfl rfl rfl ⟨rfl, rfl, rfl, rfl, rfl⟩ rfl rfl rfl rfl rfl (by kernel_rfl) Tryd.func15 (by kernel_rfl)
  (of_decide_eq_true (by kernel_rfl)) (by unfold Func.isWrapper; first | (rw [if_pos (by decide +kernel)]; kernel_rfl) | (rw [if_neg (by decide +kernel)]; exact ⟨rfl, rfl⟩))
  (fun os started H enc _ => known_lifted os started H enc)
theorem networkKnown_card : Rows.NetworkKnownCardSaid :=
 Claim7.holds_tied_plain_at .later [] [.funcs] true (true, "d9d31fb8dbcb4dca77f16e6eba1af0d680b8feeef2c2c067e149d5f1543ab3eb") false
  known_holds (fun _ h => by cases h) (by kernel_rfl) (fun _ h => by cases h) networkKnown_row_tie rfl ⟨rfl, rfl⟩ (by kernel_rfl) rfl
  (fun f fn hf hfn => by
   obtain rfl : f = 15 := Option.some.inj ((show Tryd.prog.funcNamed "tannoy/tannoylaw14.NetworkKnown" = some 15 by kernel_rfl).symm.trans hf) |>.symm
   obtain rfl : fn = Tryd.f15 := (Option.some.inj (Tryd.func15.symm.trans hfn)).symm
   exact ⟨by kernel_rfl, fun j t ht => by
    rw [Tryd.params15] at ht
    simp at ht⟩)
  (by kernel_rfl)
end Go.Proofs.YtdiagiflihpidaaDoor
