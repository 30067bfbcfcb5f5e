/-
  Contracts of calls of the program's functions, each one checked by the kernel's own run of the walk; no condition. Part 0.
-/
import Derived.Test.YtelpikbfbaeohacGreatEv2
import Derived.Test.YtelpikbfbaeohacGreatProg
import Derived.KernelRfl
namespace Go.Proofs.YtelpikbfbaeohacGreat
open Go.Ev
def n (k : Nat) : AV := .i .i64 (.ofNat k)
def T : AV := .b true
def F : AV := .b false
def N : AV := .snil
def y (l : List Nat) : AV := .s ⟨(l.map UInt8.ofNat).toArray⟩
def C (cs : List AV) : Blk := .cells 0 cs true
def V (v : AV) (hp : Hp) (nx : Nat) : Ex × St := (.val v, { tm := .leaf, nt := 0, df := [], hp := hp, nx := nx })
def W (v : AV) (hp : Hp) (nx : Nat) : Ex × St := (.pan v, { tm := .leaf, nt := 0, df := [], hp := hp, nx := nx })
theorem hmix : Tryz.prog.follows .mixedOrders = true := by kernel_rfl
def c9 : Ctr := ⟨126,0,[(y [97])],[],[V T [] 0]⟩
theorem k9 : CtrOK Tryz.prog c9 := ctr_ok hmix ctrs_nil (n := 100000) (by kernel_rfl)
def c16 : Ctr := ⟨126,0,[(y [98])],[],[V T [] 0]⟩
theorem k16 : CtrOK Tryz.prog c16 := ctr_ok hmix ctrs_nil (n := 100000) (by kernel_rfl)
def c24 : Ctr := ⟨126,0,[(y [110, 108])],[],[V T [] 0]⟩
theorem k24 : CtrOK Tryz.prog c24 := ctr_ok hmix ctrs_nil (n := 100000) (by kernel_rfl)
def c31 : Ctr := ⟨127,0,[(y [83])],[],[V T [] 0]⟩
theorem k31 : CtrOK Tryz.prog c31 := ctr_ok hmix ctrs_nil (n := 100000) (by kernel_rfl)
def c51 : Ctr := ⟨72,5,[(.agg [(n 2),(.srf 0 0 0 2 1),(y [110, 108]),(.srf 1 0 0 1 1),(n 16),(.srf 2 0 0 2 2)])],[(0,(C [(y [97]),(y [98])])),(1,(C [(y [83])])),(2,(C [(n 16),(.srf 3 0 0 2 1),(n 16),(.srf 4 0 0 1 1)])),(3,(C [(n 0),(n 16)])),(4,(C [(n 1)]))],[V (n 0) [(0,(C [(y [97]),(y [98])])),(1,(C [(y [83])])),(2,(C [(n 16),(.srf 3 0 0 2 1),(n 16),(.srf 4 0 0 1 1)])),(3,(C [(n 0),(n 16)])),(4,(C [(n 1)]))] 5]⟩
theorem k51 : CtrOK Tryz.prog c51 := ctr_ok hmix (ctrs_cons k9 (ctrs_cons k16 (ctrs_cons k24 (ctrs_cons k31 ctrs_nil)))) (n := 100000) (by kernel_rfl)
def c53 : Ctr := ⟨169,0,[(n 0),(n 0)],[],[V (n 0) [] 0]⟩
theorem k53 : CtrOK Tryz.prog c53 := ctr_ok hmix ctrs_nil (n := 100000) (by kernel_rfl)
def c66 : Ctr := ⟨169,0,[(n 1),(n 9223372036854775807)],[],[V (n 9223372036854775807) [] 0]⟩
theorem k66 : CtrOK Tryz.prog c66 := ctr_ok hmix ctrs_nil (n := 100000) (by kernel_rfl)
def c84 : Ctr := ⟨170,0,[(.agg [(n 0),(n 0),(n 0),(n 0),(n 0)]),(n 8)],[],[V (n 0) [] 0]⟩
theorem k84 : CtrOK Tryz.prog c84 := ctr_ok hmix ctrs_nil (n := 100000) (by kernel_rfl)
def c86 : Ctr := ⟨170,0,[(.agg [(n 1),(n 0),(n 0),(n 0),(n 0)]),(n 8)],[],[V (n 0) [] 0]⟩
theorem k86 : CtrOK Tryz.prog c86 := ctr_ok hmix ctrs_nil (n := 100000) (by kernel_rfl)
def c88 : Ctr := ⟨252,0,[(.agg [(n 0),(n 0),(n 0),(n 0),(n 0)])],[],[V (.sne true) [] 0]⟩
theorem k88 : CtrOK Tryz.prog c88 := ctr_ok hmix ctrs_nil (n := 100000) (by kernel_rfl)
def c92 : Ctr := ⟨237,0,[(n 2),(.agg [(n 0),(n 0),(n 0),(n 0),(n 0)]),(.agg [(n 1),(n 0),(n 0),(n 0),(n 0)])],[],[V (.tup [(.agg [(n 1),(n 0),(n 0),(n 0),(n 0)]),(n 0)]) [] 0]⟩
theorem k92 : CtrOK Tryz.prog c92 := ctr_ok hmix (ctrs_cons k84 (ctrs_cons k86 (ctrs_cons k88 ctrs_nil))) (n := 100000) (by kernel_rfl)
def c98 : Ctr := ⟨170,0,[(.agg [(n 1),(n 1),(n 0),(n 0),(n 0)]),(n 8)],[],[V (n 0) [] 0]⟩
theorem k98 : CtrOK Tryz.prog c98 := ctr_ok hmix ctrs_nil (n := 100000) (by kernel_rfl)
def c103 : Ctr := ⟨237,0,[(n 2),(.agg [(n 0),(n 0),(n 0),(n 0),(n 0)]),(.agg [(n 1),(n 1),(n 0),(n 0),(n 0)])],[],[V (.tup [(.agg [(n 1),(n 1),(n 0),(n 0),(n 0)]),(n 0)]) [] 0]⟩
theorem k103 : CtrOK Tryz.prog c103 := ctr_ok hmix (ctrs_cons k84 (ctrs_cons k88 (ctrs_cons k98 ctrs_nil))) (n := 100000) (by kernel_rfl)
def c112 : Ctr := ⟨237,0,[(n 2),(.agg [(n 1),(n 0),(n 0),(n 0),(n 0)]),(.agg [(n 1),(n 1),(n 0),(n 0),(n 0)])],[],[V (.tup [(.agg [(n 2),(n 0),(n 1),(n 0),(n 0)]),(n 0)]) [] 0]⟩
theorem k112 : CtrOK Tryz.prog c112 := ctr_ok hmix (ctrs_cons k86 (ctrs_cons k98 ctrs_nil)) (n := 100000) (by kernel_rfl)
def c120 : Ctr := ⟨170,0,[(.agg [(n 2),(n 0),(n 1),(n 0),(n 0)]),(n 8)],[],[V (n 0) [] 0]⟩
theorem k120 : CtrOK Tryz.prog c120 := ctr_ok hmix ctrs_nil (n := 100000) (by kernel_rfl)
def c126 : Ctr := ⟨237,0,[(n 2),(.agg [(n 1),(n 0),(n 0),(n 0),(n 0)]),(.agg [(n 2),(n 0),(n 1),(n 0),(n 0)])],[],[V (.tup [(.agg [(n 2),(n 0),(n 0),(n 0),(n 0)]),(n 0)]) [] 0]⟩
theorem k126 : CtrOK Tryz.prog c126 := ctr_ok hmix (ctrs_cons k86 (ctrs_cons k120 ctrs_nil)) (n := 100000) (by kernel_rfl)
def c132 : Ctr := ⟨199,7,[(.agg [(n 2),(.srf 0 0 0 2 1),(y [110, 108]),(.srf 1 0 0 1 1),(n 16),(.srf 2 0 0 2 2),(.sr 5 0 0 1 1)]),(.srf 4 0 0 1 1)],[(0,(C [(y [97]),(y [98])])),(1,(C [(y [83])])),(2,(C [(n 16),(.srf 3 0 0 2 1),(n 16),(.srf 4 0 0 1 1)])),(3,(C [(n 0),(n 16)])),(4,(C [(n 1)])),(5,(C [(.map 6)])),(6,(.map [((.agg [(n 1),(n 1),(n 0),(n 0),(n 0)]),T),((.agg [(n 2),(n 0),(n 0),(n 0),(n 0)]),T),((.agg [(n 2),(n 0),(n 1),(n 0),(n 0)]),T)]))],[V (.map 7) [(7,(.map [((.agg [(n 1),(n 1),(n 0),(n 0),(n 0)]),T)])),(0,(C [(y [97]),(y [98])])),(1,(C [(y [83])])),(2,(C [(n 16),(.srf 3 0 0 2 1),(n 16),(.srf 4 0 0 1 1)])),(3,(C [(n 0),(n 16)])),(4,(C [(n 1)])),(5,(C [(.map 6)])),(6,(.map [((.agg [(n 1),(n 1),(n 0),(n 0),(n 0)]),T),((.agg [(n 2),(n 0),(n 0),(n 0),(n 0)]),T),((.agg [(n 2),(n 0),(n 1),(n 0),(n 0)]),T)]))] 8]⟩
theorem k132 : CtrOK Tryz.prog c132 := ctr_ok hmix (ctrs_cons k103 ctrs_nil) (n := 100000) (by kernel_rfl)
def c135 : Ctr := ⟨170,0,[(.agg [(n 2),(n 0),(n 0),(n 0),(n 0)]),(n 8)],[],[V (n 0) [] 0]⟩
theorem k135 : CtrOK Tryz.prog c135 := ctr_ok hmix ctrs_nil (n := 100000) (by kernel_rfl)
def c141 : Ctr := ⟨237,0,[(n 2),(.agg [(n 1),(n 0),(n 0),(n 0),(n 0)]),(.agg [(n 2),(n 0),(n 0),(n 0),(n 0)])],[],[V (.tup [(.agg [(n 2),(n 0),(n 0),(n 0),(n 0)]),(n 0)]) [] 0]⟩
theorem k141 : CtrOK Tryz.prog c141 := ctr_ok hmix (ctrs_cons k86 (ctrs_cons k135 ctrs_nil)) (n := 100000) (by kernel_rfl)
def c144 : Ctr := ⟨199,7,[(.agg [(n 2),(.srf 0 0 0 2 1),(y [110, 108]),(.srf 1 0 0 1 1),(n 16),(.srf 2 0 0 2 2),(.sr 5 0 0 1 1)]),(.srf 3 0 0 2 1)],[(0,(C [(y [97]),(y [98])])),(1,(C [(y [83])])),(2,(C [(n 16),(.srf 3 0 0 2 1),(n 16),(.srf 4 0 0 1 1)])),(3,(C [(n 0),(n 16)])),(4,(C [(n 1)])),(5,(C [(.map 6)])),(6,(.map [((.agg [(n 1),(n 1),(n 0),(n 0),(n 0)]),T),((.agg [(n 2),(n 0),(n 0),(n 0),(n 0)]),T),((.agg [(n 2),(n 0),(n 1),(n 0),(n 0)]),T)]))],[V (.map 7) [(7,(.map [((.agg [(n 2),(n 0),(n 0),(n 0),(n 0)]),T),((.agg [(n 2),(n 0),(n 1),(n 0),(n 0)]),T)])),(0,(C [(y [97]),(y [98])])),(1,(C [(y [83])])),(2,(C [(n 16),(.srf 3 0 0 2 1),(n 16),(.srf 4 0 0 1 1)])),(3,(C [(n 0),(n 16)])),(4,(C [(n 1)])),(5,(C [(.map 6)])),(6,(.map [((.agg [(n 1),(n 1),(n 0),(n 0),(n 0)]),T),((.agg [(n 2),(n 0),(n 0),(n 0),(n 0)]),T),((.agg [(n 2),(n 0),(n 1),(n 0),(n 0)]),T)]))] 8]⟩
theorem k144 : CtrOK Tryz.prog c144 := ctr_ok hmix (ctrs_cons k92 (ctrs_cons k112 (ctrs_cons k126 (ctrs_cons k141 ctrs_nil)))) (n := 100000) (by kernel_rfl)
def c145 : Ctr := ⟨193,5,[(.agg [(n 2),(.srf 0 0 0 2 1),(y [110, 108]),(.srf 1 0 0 1 1),(n 16),(.srf 2 0 0 2 2)])],[(0,(C [(y [97]),(y [98])])),(1,(C [(y [83])])),(2,(C [(n 16),(.srf 3 0 0 2 1),(n 16),(.srf 4 0 0 1 1)])),(3,(C [(n 0),(n 16)])),(4,(C [(n 1)]))],[V (.agg [(n 2),(.srf 0 0 0 2 1),(y [110, 108]),(.srf 1 0 0 1 1),(n 16),(.srf 2 0 0 2 2),(.sr 5 0 0 1 1)]) [(5,(C [(.map 6)])),(6,(.map [((.agg [(n 1),(n 1),(n 0),(n 0),(n 0)]),T),((.agg [(n 2),(n 0),(n 0),(n 0),(n 0)]),T),((.agg [(n 2),(n 0),(n 1),(n 0),(n 0)]),T)])),(0,(C [(y [97]),(y [98])])),(1,(C [(y [83])])),(2,(C [(n 16),(.srf 3 0 0 2 1),(n 16),(.srf 4 0 0 1 1)])),(3,(C [(n 0),(n 16)])),(4,(C [(n 1)]))] 7]⟩
theorem k145 : CtrOK Tryz.prog c145 := ctr_ok hmix (ctrs_cons k92 (ctrs_cons k103 (ctrs_cons k112 (ctrs_cons k126 (ctrs_cons k132 (ctrs_cons k144 ctrs_nil)))))) (n := 100000) (by kernel_rfl)
def c150 : Ctr := ⟨47,0,[(.i .u64 (.ofNat 3))],[],[V (n 2) [] 0]⟩
theorem k150 : CtrOK Tryz.prog c150 := ctr_ok hmix ctrs_nil (n := 100000) (by kernel_rfl)
def c153 : Ctr := ⟨223,0,[(.agg [(n 2),(n 0),(n 1),(n 0),(n 0)]),(.agg [(n 1),(n 1),(n 0),(n 0),(n 0)])],[],[V (.i .i64 (.negSucc 0)) [] 0]⟩
theorem k153 : CtrOK Tryz.prog c153 := ctr_ok hmix (ctrs_cons k98 (ctrs_cons k120 ctrs_nil)) (n := 100000) (by kernel_rfl)
def c156 : Ctr := ⟨223,0,[(.agg [(n 2),(n 0),(n 0),(n 0),(n 0)]),(.agg [(n 1),(n 1),(n 0),(n 0),(n 0)])],[],[V (.i .i64 (.negSucc 0)) [] 0]⟩
theorem k156 : CtrOK Tryz.prog c156 := ctr_ok hmix (ctrs_cons k98 (ctrs_cons k135 ctrs_nil)) (n := 100000) (by kernel_rfl)
def c158 : Ctr := ⟨171,0,[(.agg [(n 2),(n 0),(n 0),(n 0),(n 0)]),(.agg [(n 2),(n 0),(n 1),(n 0),(n 0)])],[],[V (.tup [(.i .i64 (.negSucc 0)),(n 0)]) [] 0]⟩
theorem k158 : CtrOK Tryz.prog c158 := ctr_ok hmix (ctrs_cons k120 (ctrs_cons k135 ctrs_nil)) (n := 100000) (by kernel_rfl)
def c165 : Ctr := ⟨171,0,[(.agg [(n 2),(n 0),(n 1),(n 0),(n 0)]),(.agg [(n 2),(n 0),(n 0),(n 0),(n 0)])],[],[V (.tup [(n 1),(n 0)]) [] 0]⟩
theorem k165 : CtrOK Tryz.prog c165 := ctr_ok hmix (ctrs_cons k120 (ctrs_cons k135 ctrs_nil)) (n := 100000) (by kernel_rfl)
def c172 : Ctr := ⟨223,0,[(.agg [(n 1),(n 1),(n 0),(n 0),(n 0)]),(.agg [(n 2),(n 0),(n 1),(n 0),(n 0)])],[],[V (n 1) [] 0]⟩
theorem k172 : CtrOK Tryz.prog c172 := ctr_ok hmix (ctrs_cons k98 (ctrs_cons k120 ctrs_nil)) (n := 100000) (by kernel_rfl)
def c188 : Ctr := ⟨195,1,[(.map 0)],[(0,(.map [((.agg [(n 1),(n 1),(n 0),(n 0),(n 0)]),T),((.agg [(n 2),(n 0),(n 0),(n 0),(n 0)]),T),((.agg [(n 2),(n 0),(n 1),(n 0),(n 0)]),T)]))],[V (.fn (.func 247) [] [(.ptr 1 0 0)]) [(1,(C [(.sr 2 2 0 3 5)])),(2,(.cells 2 [(n 2),(n 0),(n 0),(n 0),(n 0),(n 2),(n 0),(n 1),(n 0),(n 0),(n 1),(n 1),(n 0),(n 0),(n 0)] true)),(0,(.map [((.agg [(n 1),(n 1),(n 0),(n 0),(n 0)]),T),((.agg [(n 2),(n 0),(n 0),(n 0),(n 0)]),T),((.agg [(n 2),(n 0),(n 1),(n 0),(n 0)]),T)]))] 3]⟩
theorem k188 : CtrOK Tryz.prog c188 := ctr_ok hmix (ctrs_cons k98 (ctrs_cons k135 (ctrs_cons k150 (ctrs_cons k153 (ctrs_cons k156 (ctrs_cons k158 (ctrs_cons k165 (ctrs_cons k172 ctrs_nil)))))))) (n := 100000) (by kernel_rfl)
def c192 : Ctr := ⟨230,0,[(n 2)],[],[V (.fn (.func 249) [] [(.ptr 0 0 0)]) [(0,(C [(n 2)]))] 1]⟩
theorem k192 : CtrOK Tryz.prog c192 := ctr_ok hmix ctrs_nil (n := 100000) (by kernel_rfl)
def c194 : Ctr := ⟨228,4,[(.map 0),(.srf 1 0 0 1 5),(.srf 2 0 0 1 5),(.fn (.func 249) [] [(.ptr 3 0 0)])],[(0,(.map [])),(1,(C [(n 0),(n 0),(n 0),(n 0),(n 0)])),(2,(C [(n 1),(n 0),(n 0),(n 0),(n 0)])),(3,(C [(n 2)]))],[V T [(0,(.map [((.agg [(n 1),(n 0),(n 0),(n 0),(n 0)]),T)])),(1,(C [(n 0),(n 0),(n 0),(n 0),(n 0)])),(2,(C [(n 1),(n 0),(n 0),(n 0),(n 0)])),(3,(C [(n 2)]))] 4]⟩
theorem k194 : CtrOK Tryz.prog c194 := ctr_ok hmix ctrs_nil (n := 100000) (by kernel_rfl)
def c196 : Ctr := ⟨47,0,[(.i .u64 (.ofNat 1))],[],[V (n 1) [] 0]⟩
theorem k196 : CtrOK Tryz.prog c196 := ctr_ok hmix ctrs_nil (n := 100000) (by kernel_rfl)
def c200 : Ctr := ⟨197,1,[(.map 0)],[(0,(.map [((.agg [(n 1),(n 0),(n 0),(n 0),(n 0)]),T)]))],[V (.sr 1 0 0 1 5) [(1,(C [(n 1),(n 0),(n 0),(n 0),(n 0)])),(0,(.map [((.agg [(n 1),(n 0),(n 0),(n 0),(n 0)]),T)]))] 2]⟩
theorem k200 : CtrOK Tryz.prog c200 := ctr_ok hmix (ctrs_cons k196 ctrs_nil) (n := 100000) (by kernel_rfl)
def c206 : Ctr := ⟨197,1,[(.map 0)],[(0,(.map []))],[V N [(0,(.map []))] 1]⟩
theorem k206 : CtrOK Tryz.prog c206 := ctr_ok hmix ctrs_nil (n := 100000) (by kernel_rfl)
def c211 : Ctr := ⟨228,4,[(.map 0),(.srf 1 0 0 1 5),(.srf 2 0 0 1 5),(.fn (.func 249) [] [(.ptr 3 0 0)])],[(0,(.map [])),(1,(C [(n 0),(n 0),(n 0),(n 0),(n 0)])),(2,(C [(n 1),(n 1),(n 0),(n 0),(n 0)])),(3,(C [(n 2)]))],[V T [(0,(.map [((.agg [(n 1),(n 1),(n 0),(n 0),(n 0)]),T)])),(1,(C [(n 0),(n 0),(n 0),(n 0),(n 0)])),(2,(C [(n 1),(n 1),(n 0),(n 0),(n 0)])),(3,(C [(n 2)]))] 4]⟩
theorem k211 : CtrOK Tryz.prog c211 := ctr_ok hmix ctrs_nil (n := 100000) (by kernel_rfl)
def c215 : Ctr := ⟨197,1,[(.map 0)],[(0,(.map [((.agg [(n 1),(n 1),(n 0),(n 0),(n 0)]),T)]))],[V (.sr 1 0 0 1 5) [(1,(C [(n 1),(n 1),(n 0),(n 0),(n 0)])),(0,(.map [((.agg [(n 1),(n 1),(n 0),(n 0),(n 0)]),T)]))] 2]⟩
theorem k215 : CtrOK Tryz.prog c215 := ctr_ok hmix (ctrs_cons k196 ctrs_nil) (n := 100000) (by kernel_rfl)
def c218 : Ctr := ⟨228,4,[(.map 0),(.sr 1 0 0 1 5),(.srf 2 0 0 1 5),(.fn (.func 249) [] [(.ptr 3 0 0)])],[(0,(.map [])),(1,(C [(n 1),(n 1),(n 0),(n 0),(n 0)])),(2,(C [(n 0),(n 0),(n 0),(n 0),(n 0)])),(3,(C [(n 2)]))],[V T [(0,(.map [((.agg [(n 1),(n 1),(n 0),(n 0),(n 0)]),T)])),(1,(C [(n 1),(n 1),(n 0),(n 0),(n 0)])),(2,(C [(n 0),(n 0),(n 0),(n 0),(n 0)])),(3,(C [(n 2)]))] 4]⟩
theorem k218 : CtrOK Tryz.prog c218 := ctr_ok hmix ctrs_nil (n := 100000) (by kernel_rfl)
def c227 : Ctr := ⟨228,4,[(.map 0),(.sr 1 0 0 1 5),(.srf 2 0 0 1 5),(.fn (.func 249) [] [(.ptr 3 0 0)])],[(0,(.map [((.agg [(n 1),(n 1),(n 0),(n 0),(n 0)]),T)])),(1,(C [(n 2),(n 0),(n 1),(n 0),(n 0)])),(2,(C [(n 0),(n 0),(n 0),(n 0),(n 0)])),(3,(C [(n 2)]))],[V T [(0,(.map [((.agg [(n 1),(n 1),(n 0),(n 0),(n 0)]),T),((.agg [(n 2),(n 0),(n 1),(n 0),(n 0)]),T)])),(1,(C [(n 2),(n 0),(n 1),(n 0),(n 0)])),(2,(C [(n 0),(n 0),(n 0),(n 0),(n 0)])),(3,(C [(n 2)]))] 4]⟩
theorem k227 : CtrOK Tryz.prog c227 := ctr_ok hmix ctrs_nil (n := 100000) (by kernel_rfl)
def c229 : Ctr := ⟨228,4,[(.map 0),(.sr 1 0 0 1 5),(.srf 2 0 0 1 5),(.fn (.func 249) [] [(.ptr 3 0 0)])],[(0,(.map [((.agg [(n 1),(n 1),(n 0),(n 0),(n 0)]),T),((.agg [(n 2),(n 0),(n 1),(n 0),(n 0)]),T)])),(1,(C [(n 1),(n 1),(n 0),(n 0),(n 0)])),(2,(C [(n 0),(n 0),(n 0),(n 0),(n 0)])),(3,(C [(n 2)]))],[V F [(0,(.map [((.agg [(n 1),(n 1),(n 0),(n 0),(n 0)]),T),((.agg [(n 2),(n 0),(n 1),(n 0),(n 0)]),T)])),(1,(C [(n 1),(n 1),(n 0),(n 0),(n 0)])),(2,(C [(n 0),(n 0),(n 0),(n 0),(n 0)])),(3,(C [(n 2)]))] 4]⟩
theorem k229 : CtrOK Tryz.prog c229 := ctr_ok hmix ctrs_nil (n := 100000) (by kernel_rfl)
def c231 : Ctr := ⟨47,0,[(.i .u64 (.ofNat 2))],[],[V (n 2) [] 0]⟩
theorem k231 : CtrOK Tryz.prog c231 := ctr_ok hmix ctrs_nil (n := 100000) (by kernel_rfl)
def c234 : Ctr := ⟨48,0,[(n 0),(n 1)],[],[V (.i .i64 (.negSucc 0)) [] 0]⟩
theorem k234 : CtrOK Tryz.prog c234 := ctr_ok hmix ctrs_nil (n := 100000) (by kernel_rfl)
def c239 : Ctr := ⟨231,0,[(.agg [(n 2),(n 0),(n 1),(n 0),(n 0)]),(.agg [(n 1),(n 1),(n 0),(n 0),(n 0)])],[],[V (.i .i64 (.negSucc 0)) [] 0]⟩
theorem k239 : CtrOK Tryz.prog c239 := ctr_ok hmix (ctrs_cons k234 ctrs_nil) (n := 100000) (by kernel_rfl)
def c243 : Ctr := ⟨48,0,[(n 1),(n 0)],[],[V (n 1) [] 0]⟩
theorem k243 : CtrOK Tryz.prog c243 := ctr_ok hmix ctrs_nil (n := 100000) (by kernel_rfl)
def c247 : Ctr := ⟨231,0,[(.agg [(n 1),(n 1),(n 0),(n 0),(n 0)]),(.agg [(n 2),(n 0),(n 1),(n 0),(n 0)])],[],[V (n 1) [] 0]⟩
theorem k247 : CtrOK Tryz.prog c247 := ctr_ok hmix (ctrs_cons k243 ctrs_nil) (n := 100000) (by kernel_rfl)
def c251 : Ctr := ⟨197,1,[(.map 0)],[(0,(.map [((.agg [(n 1),(n 1),(n 0),(n 0),(n 0)]),T),((.agg [(n 2),(n 0),(n 1),(n 0),(n 0)]),T)]))],[V (.sr 1 1 0 2 5) [(1,(.cells 1 [(n 2),(n 0),(n 1),(n 0),(n 0),(n 1),(n 1),(n 0),(n 0),(n 0)] true)),(0,(.map [((.agg [(n 1),(n 1),(n 0),(n 0),(n 0)]),T),((.agg [(n 2),(n 0),(n 1),(n 0),(n 0)]),T)]))] 2]⟩
theorem k251 : CtrOK Tryz.prog c251 := ctr_ok hmix (ctrs_cons k231 (ctrs_cons k239 (ctrs_cons k247 ctrs_nil))) (n := 100000) (by kernel_rfl)
def c258 : Ctr := ⟨231,0,[(.agg [(n 2),(n 0),(n 1),(n 0),(n 0)]),(.agg [(n 2),(n 0),(n 0),(n 0),(n 0)])],[],[V (n 1) [] 0]⟩
theorem k258 : CtrOK Tryz.prog c258 := ctr_ok hmix (ctrs_cons k243 ctrs_nil) (n := 100000) (by kernel_rfl)
def c264 : Ctr := ⟨231,0,[(.agg [(n 2),(n 0),(n 0),(n 0),(n 0)]),(.agg [(n 2),(n 0),(n 1),(n 0),(n 0)])],[],[V (.i .i64 (.negSucc 0)) [] 0]⟩
theorem k264 : CtrOK Tryz.prog c264 := ctr_ok hmix (ctrs_cons k234 ctrs_nil) (n := 100000) (by kernel_rfl)
def c268 : Ctr := ⟨197,1,[(.map 0)],[(0,(.map [((.agg [(n 2),(n 0),(n 0),(n 0),(n 0)]),T),((.agg [(n 2),(n 0),(n 1),(n 0),(n 0)]),T)]))],[V (.sr 1 1 0 2 5) [(1,(.cells 1 [(n 2),(n 0),(n 0),(n 0),(n 0),(n 2),(n 0),(n 1),(n 0),(n 0)] true)),(0,(.map [((.agg [(n 2),(n 0),(n 0),(n 0),(n 0)]),T),((.agg [(n 2),(n 0),(n 1),(n 0),(n 0)]),T)]))] 2]⟩
theorem k268 : CtrOK Tryz.prog c268 := ctr_ok hmix (ctrs_cons k231 (ctrs_cons k258 (ctrs_cons k264 ctrs_nil))) (n := 100000) (by kernel_rfl)
def c271 : Ctr := ⟨228,4,[(.map 0),(.sr 1 1 0 2 5),(.srf 2 0 0 1 5),(.fn (.func 249) [] [(.ptr 3 0 0)])],[(0,(.map [((.agg [(n 1),(n 1),(n 0),(n 0),(n 0)]),T),((.agg [(n 2),(n 0),(n 1),(n 0),(n 0)]),T)])),(1,(.cells 1 [(n 2),(n 0),(n 0),(n 0),(n 0),(n 2),(n 0),(n 1),(n 0),(n 0)] true)),(2,(C [(n 0),(n 0),(n 0),(n 0),(n 0)])),(3,(C [(n 2)]))],[V T [(0,(.map [((.agg [(n 1),(n 1),(n 0),(n 0),(n 0)]),T),((.agg [(n 2),(n 0),(n 0),(n 0),(n 0)]),T),((.agg [(n 2),(n 0),(n 1),(n 0),(n 0)]),T)])),(1,(.cells 1 [(n 2),(n 0),(n 0),(n 0),(n 0),(n 2),(n 0),(n 1),(n 0),(n 0)] true)),(2,(C [(n 0),(n 0),(n 0),(n 0),(n 0)])),(3,(C [(n 2)]))] 4]⟩
theorem k271 : CtrOK Tryz.prog c271 := ctr_ok hmix ctrs_nil (n := 100000) (by kernel_rfl)
def c273 : Ctr := ⟨228,4,[(.map 0),(.sr 1 0 0 1 5),(.srf 2 0 0 1 5),(.fn (.func 249) [] [(.ptr 3 0 0)])],[(0,(.map [((.agg [(n 1),(n 1),(n 0),(n 0),(n 0)]),T),((.agg [(n 2),(n 0),(n 0),(n 0),(n 0)]),T),((.agg [(n 2),(n 0),(n 1),(n 0),(n 0)]),T)])),(1,(C [(n 1),(n 1),(n 0),(n 0),(n 0)])),(2,(C [(n 0),(n 0),(n 0),(n 0),(n 0)])),(3,(C [(n 2)]))],[V F [(0,(.map [((.agg [(n 1),(n 1),(n 0),(n 0),(n 0)]),T),((.agg [(n 2),(n 0),(n 0),(n 0),(n 0)]),T),((.agg [(n 2),(n 0),(n 1),(n 0),(n 0)]),T)])),(1,(C [(n 1),(n 1),(n 0),(n 0),(n 0)])),(2,(C [(n 0),(n 0),(n 0),(n 0),(n 0)])),(3,(C [(n 2)]))] 4]⟩
theorem k273 : CtrOK Tryz.prog c273 := ctr_ok hmix ctrs_nil (n := 100000) (by kernel_rfl)
def c275 : Ctr := ⟨231,0,[(.agg [(n 2),(n 0),(n 0),(n 0),(n 0)]),(.agg [(n 1),(n 1),(n 0),(n 0),(n 0)])],[],[V (.i .i64 (.negSucc 0)) [] 0]⟩
theorem k275 : CtrOK Tryz.prog c275 := ctr_ok hmix (ctrs_cons k234 ctrs_nil) (n := 100000) (by kernel_rfl)
def c296 : Ctr := ⟨197,1,[(.map 0)],[(0,(.map [((.agg [(n 1),(n 1),(n 0),(n 0),(n 0)]),T),((.agg [(n 2),(n 0),(n 0),(n 0),(n 0)]),T),((.agg [(n 2),(n 0),(n 1),(n 0),(n 0)]),T)]))],[V (.sr 1 2 0 3 5) [(1,(.cells 2 [(n 2),(n 0),(n 0),(n 0),(n 0),(n 2),(n 0),(n 1),(n 0),(n 0),(n 1),(n 1),(n 0),(n 0),(n 0)] true)),(0,(.map [((.agg [(n 1),(n 1),(n 0),(n 0),(n 0)]),T),((.agg [(n 2),(n 0),(n 0),(n 0),(n 0)]),T),((.agg [(n 2),(n 0),(n 1),(n 0),(n 0)]),T)]))] 2]⟩
theorem k296 : CtrOK Tryz.prog c296 := ctr_ok hmix (ctrs_cons k150 (ctrs_cons k239 (ctrs_cons k243 (ctrs_cons k247 (ctrs_cons k258 (ctrs_cons k264 (ctrs_cons k275 ctrs_nil))))))) (n := 100000) (by kernel_rfl)
def c300 : Ctr := ⟨228,4,[(.map 0),(.sr 1 1 0 2 5),(.srf 2 0 0 1 5),(.fn (.func 249) [] [(.ptr 3 0 0)])],[(0,(.map [((.agg [(n 1),(n 1),(n 0),(n 0),(n 0)]),T),((.agg [(n 2),(n 0),(n 0),(n 0),(n 0)]),T),((.agg [(n 2),(n 0),(n 1),(n 0),(n 0)]),T)])),(1,(.cells 1 [(n 2),(n 0),(n 0),(n 0),(n 0),(n 2),(n 0),(n 1),(n 0),(n 0)] true)),(2,(C [(n 0),(n 0),(n 0),(n 0),(n 0)])),(3,(C [(n 2)]))],[V F [(0,(.map [((.agg [(n 1),(n 1),(n 0),(n 0),(n 0)]),T),((.agg [(n 2),(n 0),(n 0),(n 0),(n 0)]),T),((.agg [(n 2),(n 0),(n 1),(n 0),(n 0)]),T)])),(1,(.cells 1 [(n 2),(n 0),(n 0),(n 0),(n 0),(n 2),(n 0),(n 1),(n 0),(n 0)] true)),(2,(C [(n 0),(n 0),(n 0),(n 0),(n 0)])),(3,(C [(n 2)]))] 4]⟩
theorem k300 : CtrOK Tryz.prog c300 := ctr_ok hmix ctrs_nil (n := 100000) (by kernel_rfl)
def c301 : Ctr := ⟨225,5,[(.agg [(n 2),(.srf 0 0 0 2 1),(y [110, 108]),(.srf 1 0 0 1 1),(n 16),(.srf 2 0 0 2 2)])],[(0,(C [(y [97]),(y [98])])),(1,(C [(y [83])])),(2,(C [(n 16),(.srf 3 0 0 2 1),(n 16),(.srf 4 0 0 1 1)])),(3,(C [(n 0),(n 16)])),(4,(C [(n 1)]))],[V (.sr 5 0 0 1 1) [(5,(C [(.map 6)])),(6,(.map [((.agg [(n 1),(n 1),(n 0),(n 0),(n 0)]),T),((.agg [(n 2),(n 0),(n 0),(n 0),(n 0)]),T),((.agg [(n 2),(n 0),(n 1),(n 0),(n 0)]),T)])),(0,(C [(y [97]),(y [98])])),(1,(C [(y [83])])),(2,(C [(n 16),(.srf 3 0 0 2 1),(n 16),(.srf 4 0 0 1 1)])),(3,(C [(n 0),(n 16)])),(4,(C [(n 1)]))] 7]⟩
theorem k301 : CtrOK Tryz.prog c301 := ctr_ok hmix (ctrs_cons k192 (ctrs_cons k194 (ctrs_cons k196 (ctrs_cons k200 (ctrs_cons k206 (ctrs_cons k211 (ctrs_cons k215 (ctrs_cons k218 (ctrs_cons k227 (ctrs_cons k229 (ctrs_cons k251 (ctrs_cons k268 (ctrs_cons k271 (ctrs_cons k273 (ctrs_cons k296 (ctrs_cons k300 ctrs_nil)))))))))))))))) (n := 100000) (by kernel_rfl)
def c309 : Ctr := ⟨197,1,[(.map 0)],[(0,(.map [((.agg [(n 0),(n 0),(n 0),(n 0),(n 0)]),T)]))],[V (.sr 1 0 0 1 5) [(1,(C [(n 0),(n 0),(n 0),(n 0),(n 0)])),(0,(.map [((.agg [(n 0),(n 0),(n 0),(n 0),(n 0)]),T)]))] 2]⟩
theorem k309 : CtrOK Tryz.prog c309 := ctr_ok hmix (ctrs_cons k196 ctrs_nil) (n := 100000) (by kernel_rfl)
def c330 : Ctr := ⟨195,1,[(.map 0)],[(0,(.map [((.agg [(n 2),(n 0),(n 0),(n 0),(n 0)]),T),((.agg [(n 2),(n 0),(n 1),(n 0),(n 0)]),T)]))],[V (.fn (.func 247) [] [(.ptr 1 0 0)]) [(1,(C [(.sr 2 1 0 2 5)])),(2,(.cells 1 [(n 2),(n 0),(n 0),(n 0),(n 0),(n 2),(n 0),(n 1),(n 0),(n 0)] true)),(0,(.map [((.agg [(n 2),(n 0),(n 0),(n 0),(n 0)]),T),((.agg [(n 2),(n 0),(n 1),(n 0),(n 0)]),T)]))] 3]⟩
theorem k330 : CtrOK Tryz.prog c330 := ctr_ok hmix (ctrs_cons k158 (ctrs_cons k165 (ctrs_cons k231 ctrs_nil))) (n := 100000) (by kernel_rfl)
def c334 : Ctr := ⟨203,0,[(n 2)],[],[V (n 0) [] 0]⟩
theorem k334 : CtrOK Tryz.prog c334 := ctr_ok hmix ctrs_nil (n := 100000) (by kernel_rfl)
def c338 : Ctr := ⟨204,1,[(n 2),(.sr 0 1 0 2 5)],[(0,(.cells 1 [(n 2),(n 0),(n 0),(n 0),(n 0),(n 2),(n 0),(n 1),(n 0),(n 0)] true))],[V (n 0) [(0,(.cells 1 [(n 2),(n 0),(n 0),(n 0),(n 0),(n 2),(n 0),(n 1),(n 0),(n 0)] true))] 1]⟩
theorem k338 : CtrOK Tryz.prog c338 := ctr_ok hmix (ctrs_cons k158 (ctrs_cons k334 ctrs_nil)) (n := 100000) (by kernel_rfl)
def c340 : Ctr := ⟨204,1,[(n 2),(.sr 0 0 0 1 5)],[(0,(C [(n 0),(n 0),(n 0),(n 0),(n 0)]))],[V (n 0) [(0,(C [(n 0),(n 0),(n 0),(n 0),(n 0)]))] 1]⟩
theorem k340 : CtrOK Tryz.prog c340 := ctr_ok hmix (ctrs_cons k334 ctrs_nil) (n := 100000) (by kernel_rfl)
def c347 : Ctr := ⟨237,0,[(n 2),(.agg [(n 2),(n 0),(n 0),(n 0),(n 0)]),(.agg [(n 0),(n 0),(n 0),(n 0),(n 0)])],[],[V (.tup [(.agg [(n 2),(n 0),(n 0),(n 0),(n 0)]),(n 0)]) [] 0]⟩
theorem k347 : CtrOK Tryz.prog c347 := ctr_ok hmix (ctrs_cons k84 (ctrs_cons k88 (ctrs_cons k135 ctrs_nil))) (n := 100000) (by kernel_rfl)
def c350 : Ctr := ⟨237,0,[(n 2),(.agg [(n 2),(n 0),(n 1),(n 0),(n 0)]),(.agg [(n 0),(n 0),(n 0),(n 0),(n 0)])],[],[V (.tup [(.agg [(n 2),(n 0),(n 1),(n 0),(n 0)]),(n 0)]) [] 0]⟩
theorem k350 : CtrOK Tryz.prog c350 := ctr_ok hmix (ctrs_cons k84 (ctrs_cons k88 (ctrs_cons k120 ctrs_nil))) (n := 100000) (by kernel_rfl)
def c364 : Ctr := ⟨201,5,[(.fn (.func 236) [] [(.ptr 0 0 0),(.ptr 2 0 0),(.ptr 4 0 0)])],[(0,(C [(.sr 1 0 0 1 5)])),(1,(C [(n 0),(n 0),(n 0),(n 0),(n 0)])),(2,(C [(.srf 3 0 0 1 5)])),(3,(C [(n 0),(n 0),(n 0),(n 0),(n 0)])),(4,(C [(n 2)]))],[V (.sr 5 0 0 1 5) [(5,(C [(n 0),(n 0),(n 0),(n 0),(n 0)])),(0,(C [(.sr 1 0 0 1 5)])),(1,(C [(n 0),(n 0),(n 0),(n 0),(n 0)])),(2,(C [(.srf 3 0 0 1 5)])),(3,(C [(n 0),(n 0),(n 0),(n 0),(n 0)])),(4,(C [(n 2)]))] 6]⟩
theorem k364 : CtrOK Tryz.prog c364 := ctr_ok hmix (ctrs_cons k84 (ctrs_cons k88 (ctrs_cons k196 ctrs_nil))) (n := 100000) (by kernel_rfl)
def c367 : Ctr := ⟨159,2,[(n 2),(n 2),(.sr 0 1 0 2 5),(.sr 1 0 0 1 5)],[(0,(.cells 1 [(n 2),(n 0),(n 0),(n 0),(n 0),(n 2),(n 0),(n 1),(n 0),(n 0)] true)),(1,(C [(n 0),(n 0),(n 0),(n 0),(n 0)]))],[V (.tup [(.sr 2 1 0 2 5),(n 0)]) [(2,(.cells 1 [(n 2),(n 0),(n 0),(n 0),(n 0),(n 2),(n 0),(n 1),(n 0),(n 0)] true)),(1,(C [(n 0),(n 0),(n 0),(n 0),(n 0)])),(0,(.cells 1 [(n 2),(n 0),(n 0),(n 0),(n 0),(n 2),(n 0),(n 1),(n 0),(n 0)] true))] 3]⟩
theorem k367 : CtrOK Tryz.prog c367 := ctr_ok hmix (ctrs_cons k165 (ctrs_cons k231 (ctrs_cons k334 (ctrs_cons k338 (ctrs_cons k340 (ctrs_cons k347 (ctrs_cons k350 (ctrs_cons k364 ctrs_nil)))))))) (n := 100000) (by kernel_rfl)
def c383 : Ctr := ⟨170,0,[(.agg [(n 1),(n 1),(n 0),(n 0),(n 0)]),(n 2)],[],[V (n 0) [] 0]⟩
theorem k383 : CtrOK Tryz.prog c383 := ctr_ok hmix ctrs_nil (n := 100000) (by kernel_rfl)
def c384 : Ctr := ⟨204,1,[(n 2),(.sr 0 0 0 1 5)],[(0,(C [(n 1),(n 1),(n 0),(n 0),(n 0)]))],[V (n 0) [(0,(C [(n 1),(n 1),(n 0),(n 0),(n 0)]))] 1]⟩
theorem k384 : CtrOK Tryz.prog c384 := ctr_ok hmix (ctrs_cons k334 (ctrs_cons k383 ctrs_nil)) (n := 100000) (by kernel_rfl)
def c388 : Ctr := ⟨237,0,[(n 2),(.agg [(n 1),(n 1),(n 0),(n 0),(n 0)]),(.agg [(n 0),(n 0),(n 0),(n 0),(n 0)])],[],[V (.tup [(.agg [(n 1),(n 1),(n 0),(n 0),(n 0)]),(n 0)]) [] 0]⟩
theorem k388 : CtrOK Tryz.prog c388 := ctr_ok hmix (ctrs_cons k84 (ctrs_cons k88 (ctrs_cons k98 ctrs_nil))) (n := 100000) (by kernel_rfl)
def c391 : Ctr := ⟨222,1,[(.sr 0 0 0 1 5),(.fn (.func 164) [] [])],[(0,(C [(n 1),(n 1),(n 0),(n 0),(n 0)]))],[V (.tup []) [(0,(C [(n 1),(n 1),(n 0),(n 0),(n 0)]))] 1]⟩
theorem k391 : CtrOK Tryz.prog c391 := ctr_ok hmix (ctrs_cons k196 ctrs_nil) (n := 100000) (by kernel_rfl)
def c395 : Ctr := ⟨159,2,[(n 2),(n 2),(.sr 0 0 0 1 5),(.sr 1 0 0 1 5)],[(0,(C [(n 1),(n 1),(n 0),(n 0),(n 0)])),(1,(C [(n 0),(n 0),(n 0),(n 0),(n 0)]))],[V (.tup [(.sr 2 0 0 1 5),(n 0)]) [(2,(C [(n 1),(n 1),(n 0),(n 0),(n 0)])),(1,(C [(n 0),(n 0),(n 0),(n 0),(n 0)])),(0,(C [(n 1),(n 1),(n 0),(n 0),(n 0)]))] 3]⟩
theorem k395 : CtrOK Tryz.prog c395 := ctr_ok hmix (ctrs_cons k334 (ctrs_cons k340 (ctrs_cons k364 (ctrs_cons k384 (ctrs_cons k388 (ctrs_cons k391 ctrs_nil)))))) (n := 100000) (by kernel_rfl)
def c397 : Ctr := ⟨136,5,[(.agg [(n 2),(.srf 0 0 0 2 1),(y [110, 108]),(.srf 1 0 0 1 1),(n 16),(.srf 2 0 0 2 2)])],[(0,(C [(y [97]),(y [98])])),(1,(C [(y [83])])),(2,(C [(n 16),(.srf 3 0 0 2 1),(n 16),(.srf 4 0 0 1 1)])),(3,(C [(n 0),(n 16)])),(4,(C [(n 1)]))],[V (.tup [(.sr 5 1 0 2 1),(n 0),(n 0)]) [(5,(.cells 1 [(.sr 6 1 0 2 5),(.sr 7 0 0 1 5)] true)),(6,(.cells 1 [(n 2),(n 0),(n 0),(n 0),(n 0),(n 2),(n 0),(n 1),(n 0),(n 0)] true)),(7,(C [(n 1),(n 1),(n 0),(n 0),(n 0)])),(0,(C [(y [97]),(y [98])])),(1,(C [(y [83])])),(2,(C [(n 16),(.srf 3 0 0 2 1),(n 16),(.srf 4 0 0 1 1)])),(3,(C [(n 0),(n 16)])),(4,(C [(n 1)]))] 8]⟩
theorem k397 : CtrOK Tryz.prog c397 := ctr_ok hmix (ctrs_cons k51 (ctrs_cons k132 (ctrs_cons k144 (ctrs_cons k145 (ctrs_cons k188 (ctrs_cons k192 (ctrs_cons k196 (ctrs_cons k301 (ctrs_cons k309 (ctrs_cons k330 (ctrs_cons k367 (ctrs_cons k395 ctrs_nil)))))))))))) (n := 100000) (by kernel_rfl)
end Go.Proofs.YtelpikbfbaeohacGreat
