/- The bodies of functions of this cut, gone through by Lean itself. No condition. -/
import Derived.Test.YtdfgboafnklioaaGreatT0
set_option linter.all false
set_option maxRecDepth 100000
set_option maxHeartbeats 0
namespace Go.Proofs.Tryz
open Go.cO
noncomputable section
open Int renaming ofNat_eq_natCast → n1, cast_ofNat_Int → n2
def a734:=W [] [4] func734
def a735:=W [] [] func735
def a736:=W [] [4] func736
def a737:=W [] [] func737
def a738:=W [] [] func738
def a739:=W [(2,[0,2,4,6,8,10,12,14,18,20,22,24,16,25,26,28,30,32])] [] func739
def a740:=W [] [] func740
def a741:=W [] [4] func741
def a742:=W [] [7] func742
def a743:=W [] [] func743
def a744:=W [] [7] func744
def a745:=W [] [4] func745
def a746:=W [] [7] func746
def a747:=W [] [4] func747
def a748:=W [] [] func748
def a749:=W [(15,[0,2,4,6,8,12,14,16,18,20,22,24,26,10,19,27,28,19,30])] [] func749
def a750:=W [] [] func750
def a751:=W [] [] func751
def a753:=W [] [7] func753
def a755:=W [] [] func755
def a756:=W [] [7] func756
def a757:=W [] [4,13] func757
def a758:=W [] [] func758
def a759:=W [] [7] func759
def a760:=W [] [4] func760
def a761:=W [] [] func761
def a762:=W [] [4] func762
def a763:=W [(6,[0,2,4,6,8,10,12,14,16,18,22,24,26,28,32,20,29,30,34,36,38])] [17,4] func763
def a764:=W [] [4] func764
def a765:=W [(4,[0,2,4,6,8,10,12,14,18,20,22,24,16,7,25,26,28,30,32])] [4] func765
def a766:=W [(1,[0,2,4,6,8,10,12,14,16,18,20,22,24,26,30,32,34,36,38,40,42,44,48,50,52,54,28,37,45,55,46,37,55,56,58,60])] [4] func766
def a767:=W [] [4] func767
def a768:=W [] [4] func768
def a769:=W [] [4] func769
def a770:=W [] [4] func770
def a771:=W [] [4] func771
def a772:=W [] [4] func772
def a773:=W [] [4] func773
def a774:=W [] [] func774
def a775:=W [] [3,9] func775
def a776:=W [(1,[0,2,4,6,8,12,14,16,18,10,19,20,22,24,26,28]),(2,[0,2,4,6,8,10,12,14,16,20,22,24,26,32,34,36,38,42,44,46,48,52,54,56,58,64,66,68,70,18,9,27,39,49,59,71,28,30,40,49,59,71,50,59,71,60,62,72,74])] [] func776
def a777:=W [] [2] func777
def a778:=W [] [] func778
def a779:=W [] [] func779
def a780:=W [] [2] func780
def a781:=W [] [3,9] func781
def a782:=W [] [3,9] func782
def a783:=W [] [2] func783
def a784:=W [] [7] func784
def a785:=W [] [] func785
end
end Go.Proofs.Tryz
