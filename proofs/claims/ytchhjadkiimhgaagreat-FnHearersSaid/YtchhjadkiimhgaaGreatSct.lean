/- The contracts of the functions -/
import Derived.Test.YtchhjadkiimhgaaGreatSea
import Derived.Test.YtchhjadkiimhgaaGreatSeb
import Derived.Test.YtchhjadkiimhgaaGreatSec
import Derived.Test.YtchhjadkiimhgaaGreatSed
import Derived.Test.YtchhjadkiimhgaaGreatSee
import Derived.Test.YtchhjadkiimhgaaGreatSef
import Derived.Test.YtchhjadkiimhgaaGreatHdRevW
import Derived.Test.YtchhjadkiimhgaaGreatHdSortW147
import Derived.Test.YtchhjadkiimhgaaGreatDxr
set_option linter.unusedVariables false
set_option linter.unusedSimpArgs false
set_option maxRecDepth 100000
set_option maxHeartbeats 0
namespace Go.Dx
open Go.Proofs
namespace CL

theorem b_laws_lwBig:Tryz.f9.body.isSome=true:=by kernel_rfl
theorem n_laws_lwBig:(Tryz.f9.name == "runtime.NumGoroutine")=false:=by kernel_rfl
theorem c_laws_lwBig:Contract Tryz.prog 9 K_laws_lwBig:=contract_of (C:=X_laws_lwBig) (fn:=Tryz.f9) (tysOk_at (C:=X0) rfl tysOk) (ctxOk_of (P:=Tryz.prog) trivial) follows Tryz.func9 b_laws_lwBig n_laws_lwBig (fun t ys h=>(e_laws_lwBig t).trans h)
theorem b_spec_l1In:Tryz.f118.body.isSome=true:=by kernel_rfl
theorem n_spec_l1In:(Tryz.f118.name == "runtime.NumGoroutine")=false:=by kernel_rfl
theorem c_spec_l1In:Contract Tryz.prog 118 K_spec_l1In:=contract_of (C:=X_spec_l1In) (fn:=Tryz.f118) (tysOk_at (C:=X0) rfl tysOk) (ctxOk_of (P:=Tryz.prog) trivial) follows Tryz.func118 b_spec_l1In n_spec_l1In (fun t ys h=>(e_spec_l1In t).trans h)
theorem b_spec_l1Key:Tryz.f119.body.isSome=true:=by kernel_rfl
theorem n_spec_l1Key:(Tryz.f119.name == "runtime.NumGoroutine")=false:=by kernel_rfl
theorem c_spec_l1Key:Contract Tryz.prog 119 K_spec_l1Key:=contract_of (C:=X_spec_l1Key) (fn:=Tryz.f119) (tysOk_at (C:=X0) rfl tysOk) (ctxOk_of (P:=Tryz.prog) ⟨c_spec_l1In,trivial⟩) follows Tryz.func119 b_spec_l1Key n_spec_l1Key (fun t ys h=>(e_spec_l1Key t).trans h)
theorem b_spec_l10Fault:Tryz.f112.body.isSome=true:=by kernel_rfl
theorem n_spec_l10Fault:(Tryz.f112.name == "runtime.NumGoroutine")=false:=by kernel_rfl
theorem c_spec_l10Fault:Contract Tryz.prog 112 K_spec_l10Fault:=contract_of (C:=X_spec_l10Fault) (fn:=Tryz.f112) (tysOk_at (C:=X0) rfl tysOk) (ctxOk_of (P:=Tryz.prog) ⟨c_spec_l1In,c_spec_l1Key,trivial⟩) follows Tryz.func112 b_spec_l10Fault n_spec_l10Fault (fun t ys h=>(e_spec_l10Fault t).trans h)
theorem b_spec_l12Bad:Tryz.f113.body.isSome=true:=by kernel_rfl
theorem n_spec_l12Bad:(Tryz.f113.name == "runtime.NumGoroutine")=false:=by kernel_rfl
theorem c_spec_l12Bad:Contract Tryz.prog 113 K_spec_l12Bad:=contract_of (C:=X_spec_l12Bad) (fn:=Tryz.f113) (tysOk_at (C:=X0) rfl tysOk) (ctxOk_of (P:=Tryz.prog) ⟨c_spec_l1Key,trivial⟩) follows Tryz.func113 b_spec_l12Bad n_spec_l12Bad (fun t ys h=>(e_spec_l12Bad t).trans h)
theorem b_spec_l4Among:Tryz.f55.body.isSome=true:=by kernel_rfl
theorem n_spec_l4Among:(Tryz.f55.name == "runtime.NumGoroutine")=false:=by kernel_rfl
theorem c_spec_l4Among:Contract Tryz.prog 55 K_spec_l4Among:=contract_of (C:=X_spec_l4Among) (fn:=Tryz.f55) (tysOk_at (C:=X0) rfl tysOk) (ctxOk_of (P:=Tryz.prog) trivial) follows Tryz.func55 b_spec_l4Among n_spec_l4Among (fun t ys h=>(e_spec_l4Among t).trans h)
theorem b_spec_l12Good:Tryz.f163.body.isSome=true:=by kernel_rfl
theorem n_spec_l12Good:(Tryz.f163.name == "runtime.NumGoroutine")=false:=by kernel_rfl
theorem c_spec_l12Good:Contract Tryz.prog 163 K_spec_l12Good:=contract_of (C:=X_spec_l12Good) (fn:=Tryz.f163) (tysOk_at (C:=X0) rfl tysOk) (ctxOk_of (P:=Tryz.prog) ⟨c_spec_l4Among,trivial⟩) follows Tryz.func163 b_spec_l12Good n_spec_l12Good (fun t ys h=>(e_spec_l12Good t).trans h)
theorem b_spec_l9At:Tryz.f138.body.isSome=true:=by kernel_rfl
theorem n_spec_l9At:(Tryz.f138.name == "runtime.NumGoroutine")=false:=by kernel_rfl
theorem c_spec_l9At:Contract Tryz.prog 138 K_spec_l9At:=contract_of (C:=X_spec_l9At) (fn:=Tryz.f138) (tysOk_at (C:=X0) rfl tysOk) (ctxOk_of (P:=Tryz.prog) trivial) follows Tryz.func138 b_spec_l9At n_spec_l9At (fun t ys h=>(e_spec_l9At t).trans h)
theorem b_spec_l9Node:Tryz.f162.body.isSome=true:=by kernel_rfl
theorem n_spec_l9Node:(Tryz.f162.name == "runtime.NumGoroutine")=false:=by kernel_rfl
theorem c_spec_l9Node:Contract Tryz.prog 162 K_spec_l9Node:=contract_of (C:=X_spec_l9Node) (fn:=Tryz.f162) (tysOk_at (C:=X0) rfl tysOk) (ctxOk_of (P:=Tryz.prog) ⟨c_spec_l1In,c_spec_l9At,trivial⟩) follows Tryz.func162 b_spec_l9Node n_spec_l9Node (fun t ys h=>(e_spec_l9Node t).trans h)
theorem b_spec_l9Fault:Tryz.f114.body.isSome=true:=by kernel_rfl
theorem n_spec_l9Fault:(Tryz.f114.name == "runtime.NumGoroutine")=false:=by kernel_rfl
theorem c_spec_l9Fault:Contract Tryz.prog 114 K_spec_l9Fault:=contract_of (C:=X_spec_l9Fault) (fn:=Tryz.f114) (tysOk_at (C:=X0) rfl tysOk) (ctxOk_of (P:=Tryz.prog) ⟨c_spec_l9Node,trivial⟩) follows Tryz.func114 b_spec_l9Fault n_spec_l9Fault (fun t ys h=>(e_spec_l9Fault t).trans h)
theorem b_spec_l11Tx:Tryz.f120.body.isSome=true:=by kernel_rfl
theorem n_spec_l11Tx:(Tryz.f120.name == "runtime.NumGoroutine")=false:=by kernel_rfl
theorem c_spec_l11Tx:Contract Tryz.prog 120 K_spec_l11Tx:=contract_of (C:=X_spec_l11Tx) (fn:=Tryz.f120) (tysOk_at (C:=X0) rfl tysOk) (ctxOk_of (P:=Tryz.prog) ⟨c_spec_l1In,trivial⟩) follows Tryz.func120 b_spec_l11Tx n_spec_l11Tx (fun t ys h=>(e_spec_l11Tx t).trans h)
theorem b_spec_l3Ref:Tryz.f121.body.isSome=true:=by kernel_rfl
theorem n_spec_l3Ref:(Tryz.f121.name == "runtime.NumGoroutine")=false:=by kernel_rfl
theorem c_spec_l3Ref:Contract Tryz.prog 121 K_spec_l3Ref:=contract_of (C:=X_spec_l3Ref) (fn:=Tryz.f121) (tysOk_at (C:=X0) rfl tysOk) (ctxOk_of (P:=Tryz.prog) ⟨c_spec_l1In,trivial⟩) follows Tryz.func121 b_spec_l3Ref n_spec_l3Ref (fun t ys h=>(e_spec_l3Ref t).trans h)
theorem b_spec_l11At:Tryz.f186.body.isSome=true:=by kernel_rfl
theorem n_spec_l11At:(Tryz.f186.name == "runtime.NumGoroutine")=false:=by kernel_rfl
theorem c_spec_l11At:Contract Tryz.prog 186 K_spec_l11At:=contract_of (C:=X_spec_l11At) (fn:=Tryz.f186) (tysOk_at (C:=X0) rfl tysOk) (ctxOk_of (P:=Tryz.prog) trivial) follows Tryz.func186 b_spec_l11At n_spec_l11At (fun t ys h=>(e_spec_l11At t).trans h)
theorem b_spec_l11Fault:Tryz.f164.body.isSome=true:=by kernel_rfl
theorem n_spec_l11Fault:(Tryz.f164.name == "runtime.NumGoroutine")=false:=by kernel_rfl
theorem c_spec_l11Fault:Contract Tryz.prog 164 K_spec_l11Fault:=contract_of (C:=X_spec_l11Fault) (fn:=Tryz.f164) (tysOk_at (C:=X0) rfl tysOk) (ctxOk_of (P:=Tryz.prog) ⟨c_spec_l1In,c_spec_l1Key,c_spec_l11Tx,c_spec_l3Ref,c_spec_l11At,trivial⟩) follows Tryz.func164 b_spec_l11Fault n_spec_l11Fault (fun t ys h=>(e_spec_l11Fault t).trans h)
theorem b_spec_l12Voters:Tryz.f115.body.isSome=true:=by kernel_rfl
theorem n_spec_l12Voters:(Tryz.f115.name == "runtime.NumGoroutine")=false:=by kernel_rfl
theorem c_spec_l12Voters:Contract Tryz.prog 115 K_spec_l12Voters:=contract_of (C:=X_spec_l12Voters) (fn:=Tryz.f115) (tysOk_at (C:=X0) rfl tysOk) (ctxOk_of (P:=Tryz.prog) ⟨c_spec_l12Good,c_spec_l11Fault,trivial⟩) follows Tryz.func115 b_spec_l12Voters n_spec_l12Voters (fun t ys h=>(e_spec_l12Voters t).trans h)
theorem b_spec_l11Vote:Tryz.f54.body.isSome=true:=by kernel_rfl
theorem n_spec_l11Vote:(Tryz.f54.name == "runtime.NumGoroutine")=false:=by kernel_rfl
theorem c_spec_l11Vote:Contract Tryz.prog 54 K_spec_l11Vote:=contract_of (C:=X_spec_l11Vote) (fn:=Tryz.f54) (tysOk_at (C:=X0) rfl tysOk) (ctxOk_of (P:=Tryz.prog) ⟨c_spec_l1In,c_spec_l1Key,c_spec_l11Tx,c_spec_l3Ref,trivial⟩) follows Tryz.func54 b_spec_l11Vote n_spec_l11Vote (fun t ys h=>(e_spec_l11Vote t).trans h)
theorem b_spec_l12Has:Tryz.f122.body.isSome=true:=by kernel_rfl
theorem n_spec_l12Has:(Tryz.f122.name == "runtime.NumGoroutine")=false:=by kernel_rfl
theorem c_spec_l12Has:Contract Tryz.prog 122 K_spec_l12Has:=contract_of (C:=X_spec_l12Has) (fn:=Tryz.f122) (tysOk_at (C:=X0) rfl tysOk) (ctxOk_of (P:=Tryz.prog) trivial) follows Tryz.func122 b_spec_l12Has n_spec_l12Has (fun t ys h=>(e_spec_l12Has t).trans h)
theorem b_spec_l12At:Tryz.f73.body.isSome=true:=by kernel_rfl
theorem n_spec_l12At:(Tryz.f73.name == "runtime.NumGoroutine")=false:=by kernel_rfl
theorem c_spec_l12At:Contract Tryz.prog 73 K_spec_l12At:=contract_of (C:=X_spec_l12At) (fn:=Tryz.f73) (tysOk_at (C:=X0) rfl tysOk) (ctxOk_of (P:=Tryz.prog) trivial) follows Tryz.func73 b_spec_l12At n_spec_l12At (fun t ys h=>(e_spec_l12At t).trans h)
theorem b_spec_l9Above:Tryz.f139.body.isSome=true:=by kernel_rfl
theorem n_spec_l9Above:(Tryz.f139.name == "runtime.NumGoroutine")=false:=by kernel_rfl
theorem c_spec_l9Above:Contract Tryz.prog 139 K_spec_l9Above:=contract_of (C:=X_spec_l9Above) (fn:=Tryz.f139) (tysOk_at (C:=X0) rfl tysOk) (ctxOk_of (P:=Tryz.prog) ⟨c_spec_l9At,trivial⟩) follows Tryz.func139 b_spec_l9Above n_spec_l9Above (fun t ys h=>(e_spec_l9Above t).trans h)
theorem b_spec_l12Stands:Tryz.f165.body.isSome=true:=by kernel_rfl
theorem n_spec_l12Stands:(Tryz.f165.name == "runtime.NumGoroutine")=false:=by kernel_rfl
theorem c_spec_l12Stands:Contract Tryz.prog 165 K_spec_l12Stands:=contract_of (C:=X_spec_l12Stands) (fn:=Tryz.f165) (tysOk_at (C:=X0) rfl tysOk) (ctxOk_of (P:=Tryz.prog) ⟨c_spec_l12At,c_spec_l9Above,c_spec_l11At,trivial⟩) follows Tryz.func165 b_spec_l12Stands n_spec_l12Stands (fun t ys h=>(e_spec_l12Stands t).trans h)
theorem b_spec_l12Votes:Tryz.f116.body.isSome=true:=by kernel_rfl
theorem n_spec_l12Votes:(Tryz.f116.name == "runtime.NumGoroutine")=false:=by kernel_rfl
theorem c_spec_l12Votes:Contract Tryz.prog 116 K_spec_l12Votes:=contract_of (C:=X_spec_l12Votes) (fn:=Tryz.f116) (tysOk_at (C:=X0) rfl tysOk) (ctxOk_of (P:=Tryz.prog) ⟨c_spec_l11Vote,c_spec_l4Among,c_spec_l12Has,c_spec_l12Stands,trivial⟩) follows Tryz.func116 b_spec_l12Votes n_spec_l12Votes (fun t ys h=>(e_spec_l12Votes t).trans h)
theorem b_spec_l12Heard:Tryz.f117.body.isSome=true:=by kernel_rfl
theorem n_spec_l12Heard:(Tryz.f117.name == "runtime.NumGoroutine")=false:=by kernel_rfl
theorem c_spec_l12Heard:Contract Tryz.prog 117 K_spec_l12Heard:=contract_of (C:=X_spec_l12Heard) (fn:=Tryz.f117) (tysOk_at (C:=X0) rfl tysOk) (ctxOk_of (P:=Tryz.prog) ⟨c_spec_l4Among,c_spec_l1In,trivial⟩) follows Tryz.func117 b_spec_l12Heard n_spec_l12Heard (fun t ys h=>(e_spec_l12Heard t).trans h)
theorem b_spec_l12Fault:Tryz.f52.body.isSome=true:=by kernel_rfl
theorem n_spec_l12Fault:(Tryz.f52.name == "runtime.NumGoroutine")=false:=by kernel_rfl
theorem c_spec_l12Fault:Contract Tryz.prog 52 K_spec_l12Fault:=contract_of (C:=X_spec_l12Fault) (fn:=Tryz.f52) (tysOk_at (C:=X0) rfl tysOk) (ctxOk_of (P:=Tryz.prog) ⟨c_spec_l10Fault,c_spec_l12Bad,c_spec_l9Fault,c_spec_l12Voters,c_spec_l12Votes,c_spec_l12Heard,trivial⟩) follows Tryz.func52 b_spec_l12Fault n_spec_l12Fault (fun t ys h=>(e_spec_l12Fault t).trans h)
theorem b_impl_within:Tryz.f59.body.isSome=true:=by kernel_rfl
theorem n_impl_within:(Tryz.f59.name == "runtime.NumGoroutine")=false:=by kernel_rfl
theorem c_impl_within:Contract Tryz.prog 59 K_impl_within:=contract_of (C:=X_impl_within) (fn:=Tryz.f59) (tysOk_at (C:=X0) rfl tysOk) (ctxOk_of (P:=Tryz.prog) trivial) follows Tryz.func59 b_impl_within n_impl_within (fun t ys h=>(e_impl_within t).trans h)
theorem b_slices_IndexFunc_Lint64_int64:Tryz.f142.body.isSome=true:=by kernel_rfl
theorem n_slices_IndexFunc_Lint64_int64:(Tryz.f142.name == "runtime.NumGoroutine")=false:=by kernel_rfl
theorem c_slices_IndexFunc_Lint64_int64:Contract Tryz.prog 142 K_slices_IndexFunc_Lint64_int64:=contract_of (C:=X_slices_IndexFunc_Lint64_int64) (fn:=Tryz.f142) (tysOk_at (C:=X0) rfl tysOk) (ctxOk_of (P:=Tryz.prog) trivial) follows Tryz.func142 b_slices_IndexFunc_Lint64_int64 n_slices_IndexFunc_Lint64_int64 (fun t ys h=>(e_slices_IndexFunc_Lint64_int64 t).trans h)
theorem b_slices_ContainsFunc_Lint64_int64:Tryz.f81.body.isSome=true:=by kernel_rfl
theorem n_slices_ContainsFunc_Lint64_int64:(Tryz.f81.name == "runtime.NumGoroutine")=false:=by kernel_rfl
theorem c_slices_ContainsFunc_Lint64_int64:Contract Tryz.prog 81 K_slices_ContainsFunc_Lint64_int64:=contract_of (C:=X_slices_ContainsFunc_Lint64_int64) (fn:=Tryz.f81) (tysOk_at (C:=X0) rfl tysOk) (ctxOk_of (P:=Tryz.prog) ⟨c_slices_IndexFunc_Lint64_int64,trivial⟩) follows Tryz.func81 b_slices_ContainsFunc_Lint64_int64 n_slices_ContainsFunc_Lint64_int64 (fun t ys h=>(e_slices_ContainsFunc_Lint64_int64 t).trans h)
theorem b_impl_isKey:Tryz.f105.body.isSome=true:=by kernel_rfl
theorem n_impl_isKey:(Tryz.f105.name == "runtime.NumGoroutine")=false:=by kernel_rfl
theorem c_impl_isKey:Contract Tryz.prog 105 K_impl_isKey:=contract_of (C:=X_impl_isKey) (fn:=Tryz.f105) (tysOk_at (C:=X0) rfl tysOk) (ctxOk_of (P:=Tryz.prog) ⟨c_impl_within,trivial⟩) follows Tryz.func105 b_impl_isKey n_impl_isKey (fun t ys h=>(e_impl_isKey t).trans h)
theorem b_impl_areKeys_c1:Tryz.f166.body.isSome=true:=by kernel_rfl
theorem n_impl_areKeys_c1:(Tryz.f166.name == "runtime.NumGoroutine")=false:=by kernel_rfl
theorem c_impl_areKeys_c1:Contract Tryz.prog 166 K_impl_areKeys_c1:=contract_of (C:=X_impl_areKeys_c1) (fn:=Tryz.f166) (tysOk_at (C:=X0) rfl tysOk) (ctxOk_of (P:=Tryz.prog) ⟨c_impl_isKey,trivial⟩) follows Tryz.func166 b_impl_areKeys_c1 n_impl_areKeys_c1 (fun t ys h=>(e_impl_areKeys_c1 t).trans h)
theorem b_impl_areKeys:Tryz.f124.body.isSome=true:=by kernel_rfl
theorem n_impl_areKeys:(Tryz.f124.name == "runtime.NumGoroutine")=false:=by kernel_rfl
theorem c_impl_areKeys:Contract Tryz.prog 124 K_impl_areKeys:=contract_of (C:=X_impl_areKeys) (fn:=Tryz.f124) (tysOk_at (C:=X0) rfl tysOk) (ctxOk_of (P:=Tryz.prog) ⟨c_slices_ContainsFunc_Lint64_int64,c_impl_areKeys_c1,trivial⟩) follows Tryz.func124 b_impl_areKeys n_impl_areKeys (fun t ys h=>(e_impl_areKeys t).trans h)
theorem b_impl_isRising:Tryz.f125.body.isSome=true:=by kernel_rfl
theorem n_impl_isRising:(Tryz.f125.name == "runtime.NumGoroutine")=false:=by kernel_rfl
theorem c_impl_isRising:Contract Tryz.prog 125 K_impl_isRising:=contract_of (C:=X_impl_isRising) (fn:=Tryz.f125) (tysOk_at (C:=X0) rfl tysOk) (ctxOk_of (P:=Tryz.prog) trivial) follows Tryz.func125 b_impl_isRising n_impl_isRising (fun t ys h=>(e_impl_isRising t).trans h)
theorem b_impl_QuorumFault:Tryz.f58.body.isSome=true:=by kernel_rfl
theorem n_impl_QuorumFault:(Tryz.f58.name == "runtime.NumGoroutine")=false:=by kernel_rfl
theorem c_impl_QuorumFault:Contract Tryz.prog 58 K_impl_QuorumFault:=contract_of (C:=X_impl_QuorumFault) (fn:=Tryz.f58) (tysOk_at (C:=X0) rfl tysOk) (ctxOk_of (P:=Tryz.prog) ⟨c_impl_within,c_impl_areKeys,c_impl_isRising,trivial⟩) follows Tryz.func58 b_impl_QuorumFault n_impl_QuorumFault (fun t ys h=>(e_impl_QuorumFault t).trans h)
theorem b_impl_badFault:Tryz.f60.body.isSome=true:=by kernel_rfl
theorem n_impl_badFault:(Tryz.f60.name == "runtime.NumGoroutine")=false:=by kernel_rfl
theorem c_impl_badFault:Contract Tryz.prog 60 K_impl_badFault:=contract_of (C:=X_impl_badFault) (fn:=Tryz.f60) (tysOk_at (C:=X0) rfl tysOk) (ctxOk_of (P:=Tryz.prog) ⟨c_impl_areKeys,c_impl_isRising,trivial⟩) follows Tryz.func60 b_impl_badFault n_impl_badFault (fun t ys h=>(e_impl_badFault t).trans h)
theorem b_impl_isId:Tryz.f103.body.isSome=true:=by kernel_rfl
theorem n_impl_isId:(Tryz.f103.name == "runtime.NumGoroutine")=false:=by kernel_rfl
theorem c_impl_isId:Contract Tryz.prog 103 K_impl_isId:=contract_of (C:=X_impl_isId) (fn:=Tryz.f103) (tysOk_at (C:=X0) rfl tysOk) (ctxOk_of (P:=Tryz.prog) ⟨c_impl_within,trivial⟩) follows Tryz.func103 b_impl_isId n_impl_isId (fun t ys h=>(e_impl_isId t).trans h)
theorem b_slices_IndexFunc_Limpl_Node_impl_Node:Tryz.f187.body.isSome=true:=by kernel_rfl
theorem n_slices_IndexFunc_Limpl_Node_impl_Node:(Tryz.f187.name == "runtime.NumGoroutine")=false:=by kernel_rfl
theorem c_slices_IndexFunc_Limpl_Node_impl_Node:Contract Tryz.prog 187 K_slices_IndexFunc_Limpl_Node_impl_Node:=contract_of (C:=X_slices_IndexFunc_Limpl_Node_impl_Node) (fn:=Tryz.f187) (tysOk_at (C:=X0) rfl tysOk) (ctxOk_of (P:=Tryz.prog) trivial) follows Tryz.func187 b_slices_IndexFunc_Limpl_Node_impl_Node n_slices_IndexFunc_Limpl_Node_impl_Node (fun t ys h=>(e_slices_IndexFunc_Limpl_Node_impl_Node t).trans h)
theorem b_impl_findNode_c1:Tryz.f188.body.isSome=true:=by kernel_rfl
theorem n_impl_findNode_c1:(Tryz.f188.name == "runtime.NumGoroutine")=false:=by kernel_rfl
theorem c_impl_findNode_c1:Contract Tryz.prog 188 K_impl_findNode_c1:=contract_of (C:=X_impl_findNode_c1) (fn:=Tryz.f188) (tysOk_at (C:=X0) rfl tysOk) (ctxOk_of (P:=Tryz.prog) trivial) follows Tryz.func188 b_impl_findNode_c1 n_impl_findNode_c1 (fun t ys h=>(e_impl_findNode_c1 t).trans h)
theorem b_impl_findNode:Tryz.f167.body.isSome=true:=by kernel_rfl
theorem n_impl_findNode:(Tryz.f167.name == "runtime.NumGoroutine")=false:=by kernel_rfl
theorem c_impl_findNode:Contract Tryz.prog 167 K_impl_findNode:=contract_of (C:=X_impl_findNode) (fn:=Tryz.f167) (tysOk_at (C:=X0) rfl tysOk) (ctxOk_of (P:=Tryz.prog) ⟨c_slices_IndexFunc_Limpl_Node_impl_Node,c_impl_findNode_c1,trivial⟩) follows Tryz.func167 b_impl_findNode n_impl_findNode (fun t ys h=>(e_impl_findNode t).trans h)
theorem b_impl_nodeFault:Tryz.f126.body.isSome=true:=by kernel_rfl
theorem n_impl_nodeFault:(Tryz.f126.name == "runtime.NumGoroutine")=false:=by kernel_rfl
theorem c_impl_nodeFault:Contract Tryz.prog 126 K_impl_nodeFault:=contract_of (C:=X_impl_nodeFault) (fn:=Tryz.f126) (tysOk_at (C:=X0) rfl tysOk) (ctxOk_of (P:=Tryz.prog) ⟨c_impl_within,c_impl_isId,c_impl_findNode,trivial⟩) follows Tryz.func126 b_impl_nodeFault n_impl_nodeFault (fun t ys h=>(e_impl_nodeFault t).trans h)
theorem b_impl_TreeFault:Tryz.f61.body.isSome=true:=by kernel_rfl
theorem n_impl_TreeFault:(Tryz.f61.name == "runtime.NumGoroutine")=false:=by kernel_rfl
theorem c_impl_TreeFault:Contract Tryz.prog 61 K_impl_TreeFault:=contract_of (C:=X_impl_TreeFault) (fn:=Tryz.f61) (tysOk_at (C:=X0) rfl tysOk) (ctxOk_of (P:=Tryz.prog) ⟨c_impl_nodeFault,trivial⟩) follows Tryz.func61 b_impl_TreeFault n_impl_TreeFault (fun t ys h=>(e_impl_TreeFault t).trans h)
theorem b_slices_Clone_Lint64_int64:Tryz.f107.body.isSome=true:=by kernel_rfl
theorem n_slices_Clone_Lint64_int64:(Tryz.f107.name == "runtime.NumGoroutine")=false:=by kernel_rfl
theorem c_slices_Clone_Lint64_int64:Contract Tryz.prog 107 K_slices_Clone_Lint64_int64:=contract_of (C:=X_slices_Clone_Lint64_int64) (fn:=Tryz.f107) (tysOk_at (C:=X0) rfl tysOk) (ctxOk_of (P:=Tryz.prog) trivial) follows Tryz.func107 b_slices_Clone_Lint64_int64 n_slices_Clone_Lint64_int64 (fun t ys h=>(e_slices_Clone_Lint64_int64 t).trans h)
theorem b_slices_DeleteFunc_Lint64_int64:Tryz.f168.body.isSome=true:=by kernel_rfl
theorem n_slices_DeleteFunc_Lint64_int64:(Tryz.f168.name == "runtime.NumGoroutine")=false:=by kernel_rfl
theorem c_slices_DeleteFunc_Lint64_int64:Contract Tryz.prog 168 K_slices_DeleteFunc_Lint64_int64:=contract_of (C:=X_slices_DeleteFunc_Lint64_int64) (fn:=Tryz.f168) (tysOk_at (C:=X0) rfl tysOk) (ctxOk_of (P:=Tryz.prog) ⟨c_slices_IndexFunc_Lint64_int64,trivial⟩) follows Tryz.func168 b_slices_DeleteFunc_Lint64_int64 n_slices_DeleteFunc_Lint64_int64 (fun t ys h=>(e_slices_DeleteFunc_Lint64_int64 t).trans h)
theorem b_slices_Index_Lint64_int64:Tryz.f106.body.isSome=true:=by kernel_rfl
theorem n_slices_Index_Lint64_int64:(Tryz.f106.name == "runtime.NumGoroutine")=false:=by kernel_rfl
theorem c_slices_Index_Lint64_int64:Contract Tryz.prog 106 K_slices_Index_Lint64_int64:=contract_of (C:=X_slices_Index_Lint64_int64) (fn:=Tryz.f106) (tysOk_at (C:=X0) rfl tysOk) (ctxOk_of (P:=Tryz.prog) trivial) follows Tryz.func106 b_slices_Index_Lint64_int64 n_slices_Index_Lint64_int64 (fun t ys h=>(e_slices_Index_Lint64_int64 t).trans h)
theorem b_slices_Contains_Lint64_int64:Tryz.f49.body.isSome=true:=by kernel_rfl
theorem n_slices_Contains_Lint64_int64:(Tryz.f49.name == "runtime.NumGoroutine")=false:=by kernel_rfl
theorem c_slices_Contains_Lint64_int64:Contract Tryz.prog 49 K_slices_Contains_Lint64_int64:=contract_of (C:=X_slices_Contains_Lint64_int64) (fn:=Tryz.f49) (tysOk_at (C:=X0) rfl tysOk) (ctxOk_of (P:=Tryz.prog) ⟨c_slices_Index_Lint64_int64,trivial⟩) follows Tryz.func49 b_slices_Contains_Lint64_int64 n_slices_Contains_Lint64_int64 (fun t ys h=>(e_slices_Contains_Lint64_int64 t).trans h)
theorem b_impl_goodKeys_c1:Tryz.f169.body.isSome=true:=by kernel_rfl
theorem n_impl_goodKeys_c1:(Tryz.f169.name == "runtime.NumGoroutine")=false:=by kernel_rfl
theorem c_impl_goodKeys_c1:Contract Tryz.prog 169 K_impl_goodKeys_c1:=contract_of (C:=X_impl_goodKeys_c1) (fn:=Tryz.f169) (tysOk_at (C:=X0) rfl tysOk) (ctxOk_of (P:=Tryz.prog) ⟨c_slices_Contains_Lint64_int64,trivial⟩) follows Tryz.func169 b_impl_goodKeys_c1 n_impl_goodKeys_c1 (fun t ys h=>(e_impl_goodKeys_c1 t).trans h)
theorem b_impl_goodKeys:Tryz.f127.body.isSome=true:=by kernel_rfl
theorem n_impl_goodKeys:(Tryz.f127.name == "runtime.NumGoroutine")=false:=by kernel_rfl
theorem c_impl_goodKeys:Contract Tryz.prog 127 K_impl_goodKeys:=contract_of (C:=X_impl_goodKeys) (fn:=Tryz.f127) (tysOk_at (C:=X0) rfl tysOk) (ctxOk_of (P:=Tryz.prog) ⟨c_slices_Clone_Lint64_int64,c_slices_DeleteFunc_Lint64_int64,c_impl_goodKeys_c1,trivial⟩) follows Tryz.func127 b_impl_goodKeys n_impl_goodKeys (fun t ys h=>(e_impl_goodKeys t).trans h)
theorem b_slices_EqualFunc_Limpl_Voter_Lint64_impl_Voter_int64:Tryz.f128.body.isSome=true:=by kernel_rfl
theorem n_slices_EqualFunc_Limpl_Voter_Lint64_impl_Voter_int64:(Tryz.f128.name == "runtime.NumGoroutine")=false:=by kernel_rfl
theorem c_slices_EqualFunc_Limpl_Voter_Lint64_impl_Voter_int64:Contract Tryz.prog 128 K_slices_EqualFunc_Limpl_Voter_Lint64_impl_Voter_int64:=contract_of (C:=X_slices_EqualFunc_Limpl_Voter_Lint64_impl_Voter_int64) (fn:=Tryz.f128) (tysOk_at (C:=X0) rfl tysOk) (ctxOk_of (P:=Tryz.prog) trivial) follows Tryz.func128 b_slices_EqualFunc_Limpl_Voter_Lint64_impl_Voter_int64 n_slices_EqualFunc_Limpl_Voter_Lint64_impl_Voter_int64 (fun t ys h=>(e_slices_EqualFunc_Limpl_Voter_Lint64_impl_Voter_int64 t).trans h)
theorem b_impl_Cluster_votersFault_c1:Tryz.f129.body.isSome=true:=by kernel_rfl
theorem n_impl_Cluster_votersFault_c1:(Tryz.f129.name == "runtime.NumGoroutine")=false:=by kernel_rfl
theorem c_impl_Cluster_votersFault_c1:Contract Tryz.prog 129 K_impl_Cluster_votersFault_c1:=contract_of (C:=X_impl_Cluster_votersFault_c1) (fn:=Tryz.f129) (tysOk_at (C:=X0) rfl tysOk) (ctxOk_of (P:=Tryz.prog) trivial) follows Tryz.func129 b_impl_Cluster_votersFault_c1 n_impl_Cluster_votersFault_c1 (fun t ys h=>(e_impl_Cluster_votersFault_c1 t).trans h)
theorem b_slices_IndexFunc_Limpl_Choice_impl_Choice:Tryz.f143.body.isSome=true:=by kernel_rfl
theorem n_slices_IndexFunc_Limpl_Choice_impl_Choice:(Tryz.f143.name == "runtime.NumGoroutine")=false:=by kernel_rfl
theorem c_slices_IndexFunc_Limpl_Choice_impl_Choice:Contract Tryz.prog 143 K_slices_IndexFunc_Limpl_Choice_impl_Choice:=contract_of (C:=X_slices_IndexFunc_Limpl_Choice_impl_Choice) (fn:=Tryz.f143) (tysOk_at (C:=X0) rfl tysOk) (ctxOk_of (P:=Tryz.prog) trivial) follows Tryz.func143 b_slices_IndexFunc_Limpl_Choice_impl_Choice n_slices_IndexFunc_Limpl_Choice_impl_Choice (fun t ys h=>(e_slices_IndexFunc_Limpl_Choice_impl_Choice t).trans h)
theorem b_slices_ContainsFunc_Limpl_Choice_impl_Choice:Tryz.f83.body.isSome=true:=by kernel_rfl
theorem n_slices_ContainsFunc_Limpl_Choice_impl_Choice:(Tryz.f83.name == "runtime.NumGoroutine")=false:=by kernel_rfl
theorem c_slices_ContainsFunc_Limpl_Choice_impl_Choice:Contract Tryz.prog 83 K_slices_ContainsFunc_Limpl_Choice_impl_Choice:=contract_of (C:=X_slices_ContainsFunc_Limpl_Choice_impl_Choice) (fn:=Tryz.f83) (tysOk_at (C:=X0) rfl tysOk) (ctxOk_of (P:=Tryz.prog) ⟨c_slices_IndexFunc_Limpl_Choice_impl_Choice,trivial⟩) follows Tryz.func83 b_slices_ContainsFunc_Limpl_Choice_impl_Choice n_slices_ContainsFunc_Limpl_Choice_impl_Choice (fun t ys h=>(e_slices_ContainsFunc_Limpl_Choice_impl_Choice t).trans h)
theorem b_impl_isRef:Tryz.f104.body.isSome=true:=by kernel_rfl
theorem n_impl_isRef:(Tryz.f104.name == "runtime.NumGoroutine")=false:=by kernel_rfl
theorem c_impl_isRef:Contract Tryz.prog 104 K_impl_isRef:=contract_of (C:=X_impl_isRef) (fn:=Tryz.f104) (tysOk_at (C:=X0) rfl tysOk) (ctxOk_of (P:=Tryz.prog) ⟨c_impl_within,c_impl_isId,trivial⟩) follows Tryz.func104 b_impl_isRef n_impl_isRef (fun t ys h=>(e_impl_isRef t).trans h)
theorem b_impl_VoterFault_c1:Tryz.f170.body.isSome=true:=by kernel_rfl
theorem n_impl_VoterFault_c1:(Tryz.f170.name == "runtime.NumGoroutine")=false:=by kernel_rfl
theorem c_impl_VoterFault_c1:Contract Tryz.prog 170 K_impl_VoterFault_c1:=contract_of (C:=X_impl_VoterFault_c1) (fn:=Tryz.f170) (tysOk_at (C:=X0) rfl tysOk) (ctxOk_of (P:=Tryz.prog) trivial) follows Tryz.func170 b_impl_VoterFault_c1 n_impl_VoterFault_c1 (fun t ys h=>(e_impl_VoterFault_c1 t).trans h)
theorem b_impl_VoterFault:Tryz.f130.body.isSome=true:=by kernel_rfl
theorem n_impl_VoterFault:(Tryz.f130.name == "runtime.NumGoroutine")=false:=by kernel_rfl
theorem c_impl_VoterFault:Contract Tryz.prog 130 K_impl_VoterFault:=contract_of (C:=X_impl_VoterFault) (fn:=Tryz.f130) (tysOk_at (C:=X0) rfl tysOk) (ctxOk_of (P:=Tryz.prog) ⟨c_impl_within,c_slices_ContainsFunc_Limpl_Choice_impl_Choice,c_impl_isId,c_impl_isRef,c_impl_isKey,c_impl_VoterFault_c1,trivial⟩) follows Tryz.func130 b_impl_VoterFault n_impl_VoterFault (fun t ys h=>(e_impl_VoterFault t).trans h)
theorem b_impl_Cluster_votersFault:Tryz.f62.body.isSome=true:=by kernel_rfl
theorem n_impl_Cluster_votersFault:(Tryz.f62.name == "runtime.NumGoroutine")=false:=by kernel_rfl
theorem c_impl_Cluster_votersFault:Contract Tryz.prog 62 K_impl_Cluster_votersFault:=contract_of (C:=X_impl_Cluster_votersFault) (fn:=Tryz.f62) (tysOk_at (C:=X0) rfl tysOk) (ctxOk_of (P:=Tryz.prog) ⟨c_impl_goodKeys,c_slices_EqualFunc_Limpl_Voter_Lint64_impl_Voter_int64,c_impl_Cluster_votersFault_c1,c_impl_VoterFault,trivial⟩) follows Tryz.func62 b_impl_Cluster_votersFault n_impl_Cluster_votersFault (fun t ys h=>(e_impl_Cluster_votersFault t).trans h)
theorem b_impl_VoteFault:Tryz.f48.body.isSome=true:=by kernel_rfl
theorem n_impl_VoteFault:(Tryz.f48.name == "runtime.NumGoroutine")=false:=by kernel_rfl
theorem c_impl_VoteFault:Contract Tryz.prog 48 K_impl_VoteFault:=contract_of (C:=X_impl_VoteFault) (fn:=Tryz.f48) (tysOk_at (C:=X0) rfl tysOk) (ctxOk_of (P:=Tryz.prog) ⟨c_impl_isId,c_impl_isRef,c_impl_isKey,trivial⟩) follows Tryz.func48 b_impl_VoteFault n_impl_VoteFault (fun t ys h=>(e_impl_VoteFault t).trans h)
theorem b_slices_Index_Limpl_Vote_impl_Vote:Tryz.f161.body.isSome=true:=by kernel_rfl
theorem n_slices_Index_Limpl_Vote_impl_Vote:(Tryz.f161.name == "runtime.NumGoroutine")=false:=by kernel_rfl
theorem c_slices_Index_Limpl_Vote_impl_Vote:Contract Tryz.prog 161 K_slices_Index_Limpl_Vote_impl_Vote:=contract_of (C:=X_slices_Index_Limpl_Vote_impl_Vote) (fn:=Tryz.f161) (tysOk_at (C:=X0) rfl tysOk) (ctxOk_of (P:=Tryz.prog) trivial) follows Tryz.func161 b_slices_Index_Limpl_Vote_impl_Vote n_slices_Index_Limpl_Vote_impl_Vote (fun t ys h=>(e_slices_Index_Limpl_Vote_impl_Vote t).trans h)
theorem b_slices_Contains_Limpl_Vote_impl_Vote:Tryz.f111.body.isSome=true:=by kernel_rfl
theorem n_slices_Contains_Limpl_Vote_impl_Vote:(Tryz.f111.name == "runtime.NumGoroutine")=false:=by kernel_rfl
theorem c_slices_Contains_Limpl_Vote_impl_Vote:Contract Tryz.prog 111 K_slices_Contains_Limpl_Vote_impl_Vote:=contract_of (C:=X_slices_Contains_Limpl_Vote_impl_Vote) (fn:=Tryz.f111) (tysOk_at (C:=X0) rfl tysOk) (ctxOk_of (P:=Tryz.prog) ⟨c_slices_Index_Limpl_Vote_impl_Vote,trivial⟩) follows Tryz.func111 b_slices_Contains_Limpl_Vote_impl_Vote n_slices_Contains_Limpl_Vote_impl_Vote (fun t ys h=>(e_slices_Contains_Limpl_Vote_impl_Vote t).trans h)
theorem b_slices_Reverse_Lint64_int64:Tryz.f181.body.isSome=true:=by kernel_rfl
theorem n_slices_Reverse_Lint64_int64:(Tryz.f181.name == "runtime.NumGoroutine")=false:=by kernel_rfl
theorem c_slices_Reverse_Lint64_int64:Contract Tryz.prog 181 K_slices_Reverse_Lint64_int64:=reverse_contract ⟨Tryz.f181,Tryz.func181,b_slices_Reverse_Lint64_int64,n_slices_Reverse_Lint64_int64⟩ rev_arr rev_empty
theorem b_impl_pathTo:Tryz.f155.body.isSome=true:=by kernel_rfl
theorem n_impl_pathTo:(Tryz.f155.name == "runtime.NumGoroutine")=false:=by kernel_rfl
theorem c_impl_pathTo:Contract Tryz.prog 155 K_impl_pathTo:=contract_of (C:=X_impl_pathTo) (fn:=Tryz.f155) (tysOk_at (C:=X0) rfl tysOk) (ctxOk_of (P:=Tryz.prog) ⟨c_impl_findNode,c_slices_Reverse_Lint64_int64,trivial⟩) follows Tryz.func155 b_impl_pathTo n_impl_pathTo (fun t ys h=>(e_impl_pathTo t).trans h)
theorem b_impl_isAbove:Tryz.f97.body.isSome=true:=by kernel_rfl
theorem n_impl_isAbove:(Tryz.f97.name == "runtime.NumGoroutine")=false:=by kernel_rfl
theorem c_impl_isAbove:Contract Tryz.prog 97 K_impl_isAbove:=contract_of (C:=X_impl_isAbove) (fn:=Tryz.f97) (tysOk_at (C:=X0) rfl tysOk) (ctxOk_of (P:=Tryz.prog) ⟨c_slices_Contains_Lint64_int64,c_impl_pathTo,trivial⟩) follows Tryz.func97 b_impl_isAbove n_impl_isAbove (fun t ys h=>(e_impl_isAbove t).trans h)
theorem b_slices_IndexFunc_Limpl_Voter_impl_Voter:Tryz.f172.body.isSome=true:=by kernel_rfl
theorem n_slices_IndexFunc_Limpl_Voter_impl_Voter:(Tryz.f172.name == "runtime.NumGoroutine")=false:=by kernel_rfl
theorem c_slices_IndexFunc_Limpl_Voter_impl_Voter:Contract Tryz.prog 172 K_slices_IndexFunc_Limpl_Voter_impl_Voter:=contract_of (C:=X_slices_IndexFunc_Limpl_Voter_impl_Voter) (fn:=Tryz.f172) (tysOk_at (C:=X0) rfl tysOk) (ctxOk_of (P:=Tryz.prog) trivial) follows Tryz.func172 b_slices_IndexFunc_Limpl_Voter_impl_Voter n_slices_IndexFunc_Limpl_Voter_impl_Voter (fun t ys h=>(e_slices_IndexFunc_Limpl_Voter_impl_Voter t).trans h)
theorem b_impl_Cluster_findVoter_c1:Tryz.f173.body.isSome=true:=by kernel_rfl
theorem n_impl_Cluster_findVoter_c1:(Tryz.f173.name == "runtime.NumGoroutine")=false:=by kernel_rfl
theorem c_impl_Cluster_findVoter_c1:Contract Tryz.prog 173 K_impl_Cluster_findVoter_c1:=contract_of (C:=X_impl_Cluster_findVoter_c1) (fn:=Tryz.f173) (tysOk_at (C:=X0) rfl tysOk) (ctxOk_of (P:=Tryz.prog) trivial) follows Tryz.func173 b_impl_Cluster_findVoter_c1 n_impl_Cluster_findVoter_c1 (fun t ys h=>(e_impl_Cluster_findVoter_c1 t).trans h)
theorem b_impl_Cluster_findVoter:Tryz.f136.body.isSome=true:=by kernel_rfl
theorem n_impl_Cluster_findVoter:(Tryz.f136.name == "runtime.NumGoroutine")=false:=by kernel_rfl
theorem c_impl_Cluster_findVoter:Contract Tryz.prog 136 K_impl_Cluster_findVoter:=contract_of (C:=X_impl_Cluster_findVoter) (fn:=Tryz.f136) (tysOk_at (C:=X0) rfl tysOk) (ctxOk_of (P:=Tryz.prog) ⟨c_slices_IndexFunc_Limpl_Voter_impl_Voter,c_impl_Cluster_findVoter_c1,trivial⟩) follows Tryz.func136 b_impl_Cluster_findVoter n_impl_Cluster_findVoter (fun t ys h=>(e_impl_Cluster_findVoter t).trans h)
theorem b_impl_Voter_chosen_c1:Tryz.f174.body.isSome=true:=by kernel_rfl
theorem n_impl_Voter_chosen_c1:(Tryz.f174.name == "runtime.NumGoroutine")=false:=by kernel_rfl
theorem c_impl_Voter_chosen_c1:Contract Tryz.prog 174 K_impl_Voter_chosen_c1:=contract_of (C:=X_impl_Voter_chosen_c1) (fn:=Tryz.f174) (tysOk_at (C:=X0) rfl tysOk) (ctxOk_of (P:=Tryz.prog) trivial) follows Tryz.func174 b_impl_Voter_chosen_c1 n_impl_Voter_chosen_c1 (fun t ys h=>(e_impl_Voter_chosen_c1 t).trans h)
theorem b_impl_Voter_chosen:Tryz.f140.body.isSome=true:=by kernel_rfl
theorem n_impl_Voter_chosen:(Tryz.f140.name == "runtime.NumGoroutine")=false:=by kernel_rfl
theorem c_impl_Voter_chosen:Contract Tryz.prog 140 K_impl_Voter_chosen:=contract_of (C:=X_impl_Voter_chosen) (fn:=Tryz.f140) (tysOk_at (C:=X0) rfl tysOk) (ctxOk_of (P:=Tryz.prog) ⟨c_slices_IndexFunc_Limpl_Choice_impl_Choice,c_impl_Voter_chosen_c1,trivial⟩) follows Tryz.func140 b_impl_Voter_chosen n_impl_Voter_chosen (fun t ys h=>(e_impl_Voter_chosen t).trans h)
theorem b_impl_Cluster_isVoted:Tryz.f131.body.isSome=true:=by kernel_rfl
theorem n_impl_Cluster_isVoted:(Tryz.f131.name == "runtime.NumGoroutine")=false:=by kernel_rfl
theorem c_impl_Cluster_isVoted:Contract Tryz.prog 131 K_impl_Cluster_isVoted:=contract_of (C:=X_impl_Cluster_isVoted) (fn:=Tryz.f131) (tysOk_at (C:=X0) rfl tysOk) (ctxOk_of (P:=Tryz.prog) ⟨c_impl_isAbove,c_impl_Cluster_findVoter,c_impl_Voter_chosen,trivial⟩) follows Tryz.func131 b_impl_Cluster_isVoted n_impl_Cluster_isVoted (fun t ys h=>(e_impl_Cluster_isVoted t).trans h)
theorem b_impl_Cluster_votesFault:Tryz.f63.body.isSome=true:=by kernel_rfl
theorem n_impl_Cluster_votesFault:(Tryz.f63.name == "runtime.NumGoroutine")=false:=by kernel_rfl
theorem c_impl_Cluster_votesFault:Contract Tryz.prog 63 K_impl_Cluster_votesFault:=contract_of (C:=X_impl_Cluster_votesFault) (fn:=Tryz.f63) (tysOk_at (C:=X0) rfl tysOk) (ctxOk_of (P:=Tryz.prog) ⟨c_impl_VoteFault,c_slices_Contains_Lint64_int64,c_slices_Contains_Limpl_Vote_impl_Vote,c_impl_Cluster_isVoted,trivial⟩) follows Tryz.func63 b_impl_Cluster_votesFault n_impl_Cluster_votesFault (fun t ys h=>(e_impl_Cluster_votesFault t).trans h)
theorem b_impl_Cluster_heardFault_c1:Tryz.f132.body.isSome=true:=by kernel_rfl
theorem n_impl_Cluster_heardFault_c1:(Tryz.f132.name == "runtime.NumGoroutine")=false:=by kernel_rfl
theorem c_impl_Cluster_heardFault_c1:Contract Tryz.prog 132 K_impl_Cluster_heardFault_c1:=contract_of (C:=X_impl_Cluster_heardFault_c1) (fn:=Tryz.f132) (tysOk_at (C:=X0) rfl tysOk) (ctxOk_of (P:=Tryz.prog) ⟨c_impl_within,trivial⟩) follows Tryz.func132 b_impl_Cluster_heardFault_c1 n_impl_Cluster_heardFault_c1 (fun t ys h=>(e_impl_Cluster_heardFault_c1 t).trans h)
theorem b_impl_Cluster_heardFault:Tryz.f64.body.isSome=true:=by kernel_rfl
theorem n_impl_Cluster_heardFault:(Tryz.f64.name == "runtime.NumGoroutine")=false:=by kernel_rfl
theorem c_impl_Cluster_heardFault:Contract Tryz.prog 64 K_impl_Cluster_heardFault:=contract_of (C:=X_impl_Cluster_heardFault) (fn:=Tryz.f64) (tysOk_at (C:=X0) rfl tysOk) (ctxOk_of (P:=Tryz.prog) ⟨c_slices_Contains_Lint64_int64,c_slices_ContainsFunc_Lint64_int64,c_impl_Cluster_heardFault_c1,trivial⟩) follows Tryz.func64 b_impl_Cluster_heardFault n_impl_Cluster_heardFault (fun t ys h=>(e_impl_Cluster_heardFault t).trans h)
theorem b_impl_ClusterFault:Tryz.f15.body.isSome=true:=by kernel_rfl
theorem n_impl_ClusterFault:(Tryz.f15.name == "runtime.NumGoroutine")=false:=by kernel_rfl
theorem c_impl_ClusterFault:Contract Tryz.prog 15 K_impl_ClusterFault:=contract_of (C:=X_impl_ClusterFault) (fn:=Tryz.f15) (tysOk_at (C:=X0) rfl tysOk) (ctxOk_of (P:=Tryz.prog) ⟨c_impl_QuorumFault,c_impl_within,c_impl_badFault,c_impl_TreeFault,c_impl_Cluster_votersFault,c_impl_Cluster_votesFault,c_impl_Cluster_heardFault,trivial⟩) follows Tryz.func15 b_impl_ClusterFault n_impl_ClusterFault (fun t ys h=>(e_impl_ClusterFault t).trans h)
theorem b_slices_Clone_Limpl_Node_impl_Node:Tryz.f108.body.isSome=true:=by kernel_rfl
theorem n_slices_Clone_Limpl_Node_impl_Node:(Tryz.f108.name == "runtime.NumGoroutine")=false:=by kernel_rfl
theorem c_slices_Clone_Limpl_Node_impl_Node:Contract Tryz.prog 108 K_slices_Clone_Limpl_Node_impl_Node:=contract_of (C:=X_slices_Clone_Limpl_Node_impl_Node) (fn:=Tryz.f108) (tysOk_at (C:=X0) rfl tysOk) (ctxOk_of (P:=Tryz.prog) trivial) follows Tryz.func108 b_slices_Clone_Limpl_Node_impl_Node n_slices_Clone_Limpl_Node_impl_Node (fun t ys h=>(e_slices_Clone_Limpl_Node_impl_Node t).trans h)
theorem b_slices_Clone_Limpl_Vote_impl_Vote:Tryz.f109.body.isSome=true:=by kernel_rfl
theorem n_slices_Clone_Limpl_Vote_impl_Vote:(Tryz.f109.name == "runtime.NumGoroutine")=false:=by kernel_rfl
theorem c_slices_Clone_Limpl_Vote_impl_Vote:Contract Tryz.prog 109 K_slices_Clone_Limpl_Vote_impl_Vote:=contract_of (C:=X_slices_Clone_Limpl_Vote_impl_Vote) (fn:=Tryz.f109) (tysOk_at (C:=X0) rfl tysOk) (ctxOk_of (P:=Tryz.prog) trivial) follows Tryz.func109 b_slices_Clone_Limpl_Vote_impl_Vote n_slices_Clone_Limpl_Vote_impl_Vote (fun t ys h=>(e_slices_Clone_Limpl_Vote_impl_Vote t).trans h)
theorem b_slices_Clone_Limpl_Choice_impl_Choice:Tryz.f160.body.isSome=true:=by kernel_rfl
theorem n_slices_Clone_Limpl_Choice_impl_Choice:(Tryz.f160.name == "runtime.NumGoroutine")=false:=by kernel_rfl
theorem c_slices_Clone_Limpl_Choice_impl_Choice:Contract Tryz.prog 160 K_slices_Clone_Limpl_Choice_impl_Choice:=contract_of (C:=X_slices_Clone_Limpl_Choice_impl_Choice) (fn:=Tryz.f160) (tysOk_at (C:=X0) rfl tysOk) (ctxOk_of (P:=Tryz.prog) trivial) follows Tryz.func160 b_slices_Clone_Limpl_Choice_impl_Choice n_slices_Clone_Limpl_Choice_impl_Choice (fun t ys h=>(e_slices_Clone_Limpl_Choice_impl_Choice t).trans h)
theorem b_impl_ownVoter:Tryz.f110.body.isSome=true:=by kernel_rfl
theorem n_impl_ownVoter:(Tryz.f110.name == "runtime.NumGoroutine")=false:=by kernel_rfl
theorem c_impl_ownVoter:Contract Tryz.prog 110 K_impl_ownVoter:=contract_of (C:=X_impl_ownVoter) (fn:=Tryz.f110) (tysOk_at (C:=X0) rfl tysOk) (ctxOk_of (P:=Tryz.prog) ⟨c_slices_Clone_Limpl_Choice_impl_Choice,trivial⟩) follows Tryz.func110 b_impl_ownVoter n_impl_ownVoter (fun t ys h=>(e_impl_ownVoter t).trans h)
theorem b_impl_ownCluster:Tryz.f50.body.isSome=true:=by kernel_rfl
theorem n_impl_ownCluster:(Tryz.f50.name == "runtime.NumGoroutine")=false:=by kernel_rfl
theorem c_impl_ownCluster:Contract Tryz.prog 50 K_impl_ownCluster:=contract_of (C:=X_impl_ownCluster) (fn:=Tryz.f50) (tysOk_at (C:=X0) rfl tysOk) (ctxOk_of (P:=Tryz.prog) ⟨c_slices_Clone_Lint64_int64,c_slices_Clone_Limpl_Node_impl_Node,c_slices_Clone_Limpl_Vote_impl_Vote,c_impl_ownVoter,trivial⟩) follows Tryz.func50 b_impl_ownCluster n_impl_ownCluster (fun t ys h=>(e_impl_ownCluster t).trans h)
theorem b_impl_Cluster_put:Tryz.f51.body.isSome=true:=by kernel_rfl
theorem n_impl_Cluster_put:(Tryz.f51.name == "runtime.NumGoroutine")=false:=by kernel_rfl
theorem c_impl_Cluster_put:Contract Tryz.prog 51 K_impl_Cluster_put:=contract_of (C:=X_impl_Cluster_put) (fn:=Tryz.f51) (tysOk_at (C:=X0) rfl tysOk) (ctxOk_of (P:=Tryz.prog) ⟨c_slices_Contains_Limpl_Vote_impl_Vote,trivial⟩) follows Tryz.func51 b_impl_Cluster_put n_impl_Cluster_put (fun t ys h=>(e_impl_Cluster_put t).trans h)
theorem b_impl_ForgeAt:Tryz.f11.body.isSome=true:=by kernel_rfl
theorem n_impl_ForgeAt:(Tryz.f11.name == "runtime.NumGoroutine")=false:=by kernel_rfl
theorem c_impl_ForgeAt:Contract Tryz.prog 11 K_impl_ForgeAt:=contract_of (C:=X_impl_ForgeAt) (fn:=Tryz.f11) (tysOk_at (C:=X0) rfl tysOk) (ctxOk_of (P:=Tryz.prog) ⟨c_impl_ClusterFault,c_impl_VoteFault,c_slices_Contains_Lint64_int64,c_impl_ownCluster,c_impl_Cluster_put,trivial⟩) follows Tryz.func11 b_impl_ForgeAt n_impl_ForgeAt (fun t ys h=>(e_impl_ForgeAt t).trans h)
theorem b_laws_lwHas:Tryz.f18.body.isSome=true:=by kernel_rfl
theorem n_laws_lwHas:(Tryz.f18.name == "runtime.NumGoroutine")=false:=by kernel_rfl
theorem c_laws_lwHas:Contract Tryz.prog 18 K_laws_lwHas:=contract_of (C:=X_laws_lwHas) (fn:=Tryz.f18) (tysOk_at (C:=X0) rfl tysOk) (ctxOk_of (P:=Tryz.prog) trivial) follows Tryz.func18 b_laws_lwHas n_laws_lwHas (fun t ys h=>(e_laws_lwHas t).trans h)
theorem b_impl_related:Tryz.f67.body.isSome=true:=by kernel_rfl
theorem n_impl_related:(Tryz.f67.name == "runtime.NumGoroutine")=false:=by kernel_rfl
theorem c_impl_related:Contract Tryz.prog 67 K_impl_related:=contract_of (C:=X_impl_related) (fn:=Tryz.f67) (tysOk_at (C:=X0) rfl tysOk) (ctxOk_of (P:=Tryz.prog) ⟨c_impl_isAbove,trivial⟩) follows Tryz.func67 b_impl_related n_impl_related (fun t ys h=>(e_impl_related t).trans h)
theorem b_impl_Related:Tryz.f19.body.isSome=true:=by kernel_rfl
theorem n_impl_Related:(Tryz.f19.name == "runtime.NumGoroutine")=false:=by kernel_rfl
theorem c_impl_Related:Contract Tryz.prog 19 K_impl_Related:=contract_of (C:=X_impl_Related) (fn:=Tryz.f19) (tysOk_at (C:=X0) rfl tysOk) (ctxOk_of (P:=Tryz.prog) ⟨c_impl_TreeFault,c_impl_related,trivial⟩) follows Tryz.func19 b_impl_Related n_impl_Related (fun t ys h=>(e_impl_Related t).trans h)
theorem b_impl_voted:Tryz.f70.body.isSome=true:=by kernel_rfl
theorem n_impl_voted:(Tryz.f70.name == "runtime.NumGoroutine")=false:=by kernel_rfl
theorem c_impl_voted:Contract Tryz.prog 70 K_impl_voted:=contract_of (C:=X_impl_voted) (fn:=Tryz.f70) (tysOk_at (C:=X0) rfl tysOk) (ctxOk_of (P:=Tryz.prog) ⟨c_impl_ownCluster,c_impl_Cluster_put,c_impl_Cluster_findVoter,trivial⟩) follows Tryz.func70 b_impl_voted n_impl_voted (fun t ys h=>(e_impl_voted t).trans h)
theorem b_impl_isIn:Tryz.f137.body.isSome=true:=by kernel_rfl
theorem n_impl_isIn:(Tryz.f137.name == "runtime.NumGoroutine")=false:=by kernel_rfl
theorem c_impl_isIn:Contract Tryz.prog 137 K_impl_isIn:=contract_of (C:=X_impl_isIn) (fn:=Tryz.f137) (tysOk_at (C:=X0) rfl tysOk) (ctxOk_of (P:=Tryz.prog) ⟨c_impl_findNode,trivial⟩) follows Tryz.func137 b_impl_isIn n_impl_isIn (fun t ys h=>(e_impl_isIn t).trans h)
theorem b_impl_castFor:Tryz.f72.body.isSome=true:=by kernel_rfl
theorem n_impl_castFor:(Tryz.f72.name == "runtime.NumGoroutine")=false:=by kernel_rfl
theorem c_impl_castFor:Contract Tryz.prog 72 K_impl_castFor:=contract_of (C:=X_impl_castFor) (fn:=Tryz.f72) (tysOk_at (C:=X0) rfl tysOk) (ctxOk_of (P:=Tryz.prog) ⟨c_impl_isAbove,c_impl_ownVoter,c_impl_isIn,trivial⟩) follows Tryz.func72 b_impl_castFor n_impl_castFor (fun t ys h=>(e_impl_castFor t).trans h)
theorem b_impl_CastAt_c1:Tryz.f71.body.isSome=true:=by kernel_rfl
theorem n_impl_CastAt_c1:(Tryz.f71.name == "runtime.NumGoroutine")=false:=by kernel_rfl
theorem c_impl_CastAt_c1:Contract Tryz.prog 71 K_impl_CastAt_c1:=contract_of (C:=X_impl_CastAt_c1) (fn:=Tryz.f71) (tysOk_at (C:=X0) rfl tysOk) (ctxOk_of (P:=Tryz.prog) ⟨c_impl_castFor,trivial⟩) follows Tryz.func71 b_impl_CastAt_c1 n_impl_CastAt_c1 (fun t ys h=>(e_impl_CastAt_c1 t).trans h)
theorem b_impl_CastAt:Tryz.f21.body.isSome=true:=by kernel_rfl
theorem n_impl_CastAt:(Tryz.f21.name == "runtime.NumGoroutine")=false:=by kernel_rfl
theorem c_impl_CastAt:Contract Tryz.prog 21 K_impl_CastAt:=contract_of (C:=X_impl_CastAt) (fn:=Tryz.f21) (tysOk_at (C:=X0) rfl tysOk) (ctxOk_of (P:=Tryz.prog) ⟨c_impl_ClusterFault,c_impl_voted,c_impl_CastAt_c1,trivial⟩) follows Tryz.func21 b_impl_CastAt n_impl_CastAt (fun t ys h=>(e_impl_CastAt t).trans h)
theorem b_impl_ChooseFor:Tryz.f77.body.isSome=true:=by kernel_rfl
theorem n_impl_ChooseFor:(Tryz.f77.name == "runtime.NumGoroutine")=false:=by kernel_rfl
theorem c_impl_ChooseFor:Contract Tryz.prog 77 K_impl_ChooseFor:=contract_of (C:=X_impl_ChooseFor) (fn:=Tryz.f77) (tysOk_at (C:=X0) rfl tysOk) (ctxOk_of (P:=Tryz.prog) ⟨c_impl_isId,c_impl_isRef,c_impl_ownVoter,c_impl_VoterFault,c_impl_Voter_chosen,trivial⟩) follows Tryz.func77 b_impl_ChooseFor n_impl_ChooseFor (fun t ys h=>(e_impl_ChooseFor t).trans h)
theorem b_impl_ChooseAt_c1:Tryz.f76.body.isSome=true:=by kernel_rfl
theorem n_impl_ChooseAt_c1:(Tryz.f76.name == "runtime.NumGoroutine")=false:=by kernel_rfl
theorem c_impl_ChooseAt_c1:Contract Tryz.prog 76 K_impl_ChooseAt_c1:=contract_of (C:=X_impl_ChooseAt_c1) (fn:=Tryz.f76) (tysOk_at (C:=X0) rfl tysOk) (ctxOk_of (P:=Tryz.prog) ⟨c_impl_ChooseFor,trivial⟩) follows Tryz.func76 b_impl_ChooseAt_c1 n_impl_ChooseAt_c1 (fun t ys h=>(e_impl_ChooseAt_c1 t).trans h)
theorem b_impl_ChooseAt:Tryz.f23.body.isSome=true:=by kernel_rfl
theorem n_impl_ChooseAt:(Tryz.f23.name == "runtime.NumGoroutine")=false:=by kernel_rfl
theorem c_impl_ChooseAt:Contract Tryz.prog 23 K_impl_ChooseAt:=contract_of (C:=X_impl_ChooseAt) (fn:=Tryz.f23) (tysOk_at (C:=X0) rfl tysOk) (ctxOk_of (P:=Tryz.prog) ⟨c_impl_ClusterFault,c_impl_voted,c_impl_ChooseAt_c1,trivial⟩) follows Tryz.func23 b_impl_ChooseAt n_impl_ChooseAt (fun t ys h=>(e_impl_ChooseAt t).trans h)
theorem b_laws_lwAt:Tryz.f24.body.isSome=true:=by kernel_rfl
theorem n_laws_lwAt:(Tryz.f24.name == "runtime.NumGoroutine")=false:=by kernel_rfl
theorem c_laws_lwAt:Contract Tryz.prog 24 K_laws_lwAt:=contract_of (C:=X_laws_lwAt) (fn:=Tryz.f24) (tysOk_at (C:=X0) rfl tysOk) (ctxOk_of (P:=Tryz.prog) trivial) follows Tryz.func24 b_laws_lwAt n_laws_lwAt (fun t ys h=>(e_laws_lwAt t).trans h)
theorem b_impl_Cluster_isHearer:Tryz.f78.body.isSome=true:=by kernel_rfl
theorem n_impl_Cluster_isHearer:(Tryz.f78.name == "runtime.NumGoroutine")=false:=by kernel_rfl
theorem c_impl_Cluster_isHearer:Contract Tryz.prog 78 K_impl_Cluster_isHearer:=contract_of (C:=X_impl_Cluster_isHearer) (fn:=Tryz.f78) (tysOk_at (C:=X0) rfl tysOk) (ctxOk_of (P:=Tryz.prog) ⟨c_impl_within,trivial⟩) follows Tryz.func78 b_impl_Cluster_isHearer n_impl_Cluster_isHearer (fun t ys h=>(e_impl_Cluster_isHearer t).trans h)
theorem b_impl_HearAt:Tryz.f25.body.isSome=true:=by kernel_rfl
theorem n_impl_HearAt:(Tryz.f25.name == "runtime.NumGoroutine")=false:=by kernel_rfl
theorem c_impl_HearAt:Contract Tryz.prog 25 K_impl_HearAt:=contract_of (C:=X_impl_HearAt) (fn:=Tryz.f25) (tysOk_at (C:=X0) rfl tysOk) (ctxOk_of (P:=Tryz.prog) ⟨c_impl_ClusterFault,c_slices_Contains_Lint64_int64,c_impl_ownCluster,c_impl_within,c_impl_Cluster_isHearer,trivial⟩) follows Tryz.func25 b_impl_HearAt n_impl_HearAt (fun t ys h=>(e_impl_HearAt t).trans h)
theorem b_impl_addNode:Tryz.f79.body.isSome=true:=by kernel_rfl
theorem n_impl_addNode:(Tryz.f79.name == "runtime.NumGoroutine")=false:=by kernel_rfl
theorem c_impl_addNode:Contract Tryz.prog 79 K_impl_addNode:=contract_of (C:=X_impl_addNode) (fn:=Tryz.f79) (tysOk_at (C:=X0) rfl tysOk) (ctxOk_of (P:=Tryz.prog) ⟨c_slices_Clone_Limpl_Node_impl_Node,c_impl_nodeFault,trivial⟩) follows Tryz.func79 b_impl_addNode n_impl_addNode (fun t ys h=>(e_impl_addNode t).trans h)
theorem b_impl_GrowTree:Tryz.f26.body.isSome=true:=by kernel_rfl
theorem n_impl_GrowTree:(Tryz.f26.name == "runtime.NumGoroutine")=false:=by kernel_rfl
theorem c_impl_GrowTree:Contract Tryz.prog 26 K_impl_GrowTree:=contract_of (C:=X_impl_GrowTree) (fn:=Tryz.f26) (tysOk_at (C:=X0) rfl tysOk) (ctxOk_of (P:=Tryz.prog) ⟨c_impl_ClusterFault,c_impl_ownCluster,c_impl_addNode,trivial⟩) follows Tryz.func26 b_impl_GrowTree n_impl_GrowTree (fun t ys h=>(e_impl_GrowTree t).trans h)
theorem b_impl_meetOf_c1:Tryz.f190.body.isSome=true:=by kernel_rfl
theorem n_impl_meetOf_c1:(Tryz.f190.name == "runtime.NumGoroutine")=false:=by kernel_rfl
theorem c_impl_meetOf_c1:Contract Tryz.prog 190 K_impl_meetOf_c1:=contract_of (C:=X_impl_meetOf_c1) (fn:=Tryz.f190) (tysOk_at (C:=X0) rfl tysOk) (ctxOk_of (P:=Tryz.prog) ⟨c_slices_Contains_Lint64_int64,trivial⟩) follows Tryz.func190 b_impl_meetOf_c1 n_impl_meetOf_c1 (fun t ys h=>(e_impl_meetOf_c1 t).trans h)
theorem b_impl_meetOf:Tryz.f175.body.isSome=true:=by kernel_rfl
theorem n_impl_meetOf:(Tryz.f175.name == "runtime.NumGoroutine")=false:=by kernel_rfl
theorem c_impl_meetOf:Contract Tryz.prog 175 K_impl_meetOf:=contract_of (C:=X_impl_meetOf) (fn:=Tryz.f175) (tysOk_at (C:=X0) rfl tysOk) (ctxOk_of (P:=Tryz.prog) ⟨c_slices_Clone_Lint64_int64,c_slices_DeleteFunc_Lint64_int64,c_impl_meetOf_c1,trivial⟩) follows Tryz.func175 b_impl_meetOf n_impl_meetOf (fun t ys h=>(e_impl_meetOf t).trans h)
theorem b_impl_Quorum_badIn:Tryz.f141.body.isSome=true:=by kernel_rfl
theorem n_impl_Quorum_badIn:(Tryz.f141.name == "runtime.NumGoroutine")=false:=by kernel_rfl
theorem c_impl_Quorum_badIn:Contract Tryz.prog 141 K_impl_Quorum_badIn:=contract_of (C:=X_impl_Quorum_badIn) (fn:=Tryz.f141) (tysOk_at (C:=X0) rfl tysOk) (ctxOk_of (P:=Tryz.prog) ⟨c_impl_meetOf,trivial⟩) follows Tryz.func141 b_impl_Quorum_badIn n_impl_Quorum_badIn (fun t ys h=>(e_impl_Quorum_badIn t).trans h)
theorem b_impl_IsSafe:Tryz.f80.body.isSome=true:=by kernel_rfl
theorem n_impl_IsSafe:(Tryz.f80.name == "runtime.NumGoroutine")=false:=by kernel_rfl
theorem c_impl_IsSafe:Contract Tryz.prog 80 K_impl_IsSafe:=contract_of (C:=X_impl_IsSafe) (fn:=Tryz.f80) (tysOk_at (C:=X0) rfl tysOk) (ctxOk_of (P:=Tryz.prog) ⟨c_impl_QuorumFault,c_impl_Quorum_badIn,trivial⟩) follows Tryz.func80 b_impl_IsSafe n_impl_IsSafe (fun t ys h=>(e_impl_IsSafe t).trans h)
theorem b_impl_PremiseOf:Tryz.f28.body.isSome=true:=by kernel_rfl
theorem n_impl_PremiseOf:(Tryz.f28.name == "runtime.NumGoroutine")=false:=by kernel_rfl
theorem c_impl_PremiseOf:Contract Tryz.prog 28 K_impl_PremiseOf:=contract_of (C:=X_impl_PremiseOf) (fn:=Tryz.f28) (tysOk_at (C:=X0) rfl tysOk) (ctxOk_of (P:=Tryz.prog) ⟨c_impl_ClusterFault,c_impl_IsSafe,trivial⟩) follows Tryz.func28 b_impl_PremiseOf n_impl_PremiseOf (fun t ys h=>(e_impl_PremiseOf t).trans h)
theorem b_impl_countFor:Tryz.f93.body.isSome=true:=by kernel_rfl
theorem n_impl_countFor:(Tryz.f93.name == "runtime.NumGoroutine")=false:=by kernel_rfl
theorem c_impl_countFor:Contract Tryz.prog 93 K_impl_countFor:=contract_of (C:=X_impl_countFor) (fn:=Tryz.f93) (tysOk_at (C:=X0) rfl tysOk) (ctxOk_of (P:=Tryz.prog) ⟨c_slices_Contains_Limpl_Vote_impl_Vote,trivial⟩) follows Tryz.func93 b_impl_countFor n_impl_countFor (fun t ys h=>(e_impl_countFor t).trans h)
theorem b_impl_Cluster_lockedBy:Tryz.f91.body.isSome=true:=by kernel_rfl
theorem n_impl_Cluster_lockedBy:(Tryz.f91.name == "runtime.NumGoroutine")=false:=by kernel_rfl
theorem c_impl_Cluster_lockedBy:Contract Tryz.prog 91 K_impl_Cluster_lockedBy:=contract_of (C:=X_impl_Cluster_lockedBy) (fn:=Tryz.f91) (tysOk_at (C:=X0) rfl tysOk) (ctxOk_of (P:=Tryz.prog) ⟨c_impl_countFor,trivial⟩) follows Tryz.func91 b_impl_Cluster_lockedBy n_impl_Cluster_lockedBy (fun t ys h=>(e_impl_Cluster_lockedBy t).trans h)
theorem b_impl_LockedBlocks:Tryz.f36.body.isSome=true:=by kernel_rfl
theorem n_impl_LockedBlocks:(Tryz.f36.name == "runtime.NumGoroutine")=false:=by kernel_rfl
theorem c_impl_LockedBlocks:Contract Tryz.prog 36 K_impl_LockedBlocks:=contract_of (C:=X_impl_LockedBlocks) (fn:=Tryz.f36) (tysOk_at (C:=X0) rfl tysOk) (ctxOk_of (P:=Tryz.prog) ⟨c_impl_ClusterFault,c_impl_Cluster_lockedBy,trivial⟩) follows Tryz.func36 b_impl_LockedBlocks n_impl_LockedBlocks (fun t ys h=>(e_impl_LockedBlocks t).trans h)
theorem b_spec_l11Count:Tryz.f146.body.isSome=true:=by kernel_rfl
theorem n_spec_l11Count:(Tryz.f146.name == "runtime.NumGoroutine")=false:=by kernel_rfl
theorem c_spec_l11Count:Contract Tryz.prog 146 K_spec_l11Count:=contract_of (C:=X_spec_l11Count) (fn:=Tryz.f146) (tysOk_at (C:=X0) rfl tysOk) (ctxOk_of (P:=Tryz.prog) trivial) follows Tryz.func146 b_spec_l11Count n_spec_l11Count (fun t ys h=>(e_spec_l11Count t).trans h)
theorem b_spec_l12Locks:Tryz.f145.body.isSome=true:=by kernel_rfl
theorem n_spec_l12Locks:(Tryz.f145.name == "runtime.NumGoroutine")=false:=by kernel_rfl
theorem c_spec_l12Locks:Contract Tryz.prog 145 K_spec_l12Locks:=contract_of (C:=X_spec_l12Locks) (fn:=Tryz.f145) (tysOk_at (C:=X0) rfl tysOk) (ctxOk_of (P:=Tryz.prog) ⟨c_spec_l11Count,trivial⟩) follows Tryz.func145 b_spec_l12Locks n_spec_l12Locks (fun t ys h=>(e_spec_l12Locks t).trans h)
theorem b_spec_l9Related:Tryz.f87.body.isSome=true:=by kernel_rfl
theorem n_spec_l9Related:(Tryz.f87.name == "runtime.NumGoroutine")=false:=by kernel_rfl
theorem c_spec_l9Related:Contract Tryz.prog 87 K_spec_l9Related:=contract_of (C:=X_spec_l9Related) (fn:=Tryz.f87) (tysOk_at (C:=X0) rfl tysOk) (ctxOk_of (P:=Tryz.prog) ⟨c_spec_l9Above,trivial⟩) follows Tryz.func87 b_spec_l9Related n_spec_l9Related (fun t ys h=>(e_spec_l9Related t).trans h)
theorem b_slices_SortFunc_Limpl_Voter_impl_Voter:Tryz.f147.body.isSome=true:=by kernel_rfl
theorem n_slices_SortFunc_Limpl_Voter_impl_Voter:(Tryz.f147.name == "runtime.NumGoroutine")=false:=by kernel_rfl
theorem c_slices_SortFunc_Limpl_Voter_impl_Voter:Contract Tryz.prog 147 K_slices_SortFunc_Limpl_Voter_impl_Voter:=sortok147 ⟨Tryz.f147,Tryz.func147,b_slices_SortFunc_Limpl_Voter_impl_Voter,n_slices_SortFunc_Limpl_Voter_impl_Voter⟩
theorem b_cmp_isNaN_int64:Tryz.f178.body.isSome=true:=by kernel_rfl
theorem n_cmp_isNaN_int64:(Tryz.f178.name == "runtime.NumGoroutine")=false:=by kernel_rfl
theorem c_cmp_isNaN_int64:Contract Tryz.prog 178 K_cmp_isNaN_int64:=contract_of (C:=X_cmp_isNaN_int64) (fn:=Tryz.f178) (tysOk_at (C:=X0) rfl tysOk) (ctxOk_of (P:=Tryz.prog) trivial) follows Tryz.func178 b_cmp_isNaN_int64 n_cmp_isNaN_int64 (fun t ys h=>(e_cmp_isNaN_int64 t).trans h)
theorem b_cmp_Compare_int64:Tryz.f149.body.isSome=true:=by kernel_rfl
theorem n_cmp_Compare_int64:(Tryz.f149.name == "runtime.NumGoroutine")=false:=by kernel_rfl
theorem c_cmp_Compare_int64:Contract Tryz.prog 149 K_cmp_Compare_int64:=contract_of (C:=X_cmp_Compare_int64) (fn:=Tryz.f149) (tysOk_at (C:=X0) rfl tysOk) (ctxOk_of (P:=Tryz.prog) ⟨c_cmp_isNaN_int64,trivial⟩) follows Tryz.func149 b_cmp_Compare_int64 n_cmp_Compare_int64 (fun t ys h=>(e_cmp_Compare_int64 t).trans h)
theorem b_impl_NewCluster_c1:Tryz.f148.body.isSome=true:=by kernel_rfl
theorem n_impl_NewCluster_c1:(Tryz.f148.name == "runtime.NumGoroutine")=false:=by kernel_rfl
theorem c_impl_NewCluster_c1:Contract Tryz.prog 148 K_impl_NewCluster_c1:=contract_of (C:=X_impl_NewCluster_c1) (fn:=Tryz.f148) (tysOk_at (C:=X0) rfl tysOk) (ctxOk_of (P:=Tryz.prog) ⟨c_cmp_Compare_int64,trivial⟩) follows Tryz.func148 b_impl_NewCluster_c1 n_impl_NewCluster_c1 (fun t ys h=>(e_impl_NewCluster_c1 t).trans h)
theorem b_impl_NewCluster:Tryz.f89.body.isSome=true:=by kernel_rfl
theorem n_impl_NewCluster:(Tryz.f89.name == "runtime.NumGoroutine")=false:=by kernel_rfl
theorem c_impl_NewCluster:Contract Tryz.prog 89 K_impl_NewCluster:=contract_of (C:=X_impl_NewCluster) (fn:=Tryz.f89) (tysOk_at (C:=X0) rfl tysOk) (ctxOk_of (P:=Tryz.prog) ⟨c_impl_QuorumFault,c_impl_within,c_impl_badFault,c_slices_Clone_Lint64_int64,c_impl_goodKeys,c_slices_SortFunc_Limpl_Voter_impl_Voter,c_impl_NewCluster_c1,trivial⟩) follows Tryz.func89 b_impl_NewCluster n_impl_NewCluster (fun t ys h=>(e_impl_NewCluster t).trans h)
theorem b_impl_NeedOf:Tryz.f90.body.isSome=true:=by kernel_rfl
theorem n_impl_NeedOf:(Tryz.f90.name == "runtime.NumGoroutine")=false:=by kernel_rfl
theorem c_impl_NeedOf:Contract Tryz.prog 90 K_impl_NeedOf:=contract_of (C:=X_impl_NeedOf) (fn:=Tryz.f90) (tysOk_at (C:=X0) rfl tysOk) (ctxOk_of (P:=Tryz.prog) ⟨c_impl_within,trivial⟩) follows Tryz.func90 b_impl_NeedOf n_impl_NeedOf (fun t ys h=>(e_impl_NeedOf t).trans h)
theorem b_laws_lwCluster:Tryz.f35.body.isSome=true:=by kernel_rfl
theorem n_laws_lwCluster:(Tryz.f35.name == "runtime.NumGoroutine")=false:=by kernel_rfl
theorem c_laws_lwCluster:Contract Tryz.prog 35 K_laws_lwCluster:=contract_of (C:=X_laws_lwCluster) (fn:=Tryz.f35) (tysOk_at (C:=X0) rfl tysOk) (ctxOk_of (P:=Tryz.prog) ⟨c_impl_ForgeAt,c_impl_ClusterFault,c_impl_CastAt,c_impl_ChooseAt,c_laws_lwAt,c_impl_HearAt,c_impl_GrowTree,c_impl_NewCluster,c_impl_NeedOf,trivial⟩) follows Tryz.func35 b_laws_lwCluster n_laws_lwCluster (fun t ys h=>(e_laws_lwCluster t).trans h)
theorem b_impl_LocksAt:Tryz.f40.body.isSome=true:=by kernel_rfl
theorem n_impl_LocksAt:(Tryz.f40.name == "runtime.NumGoroutine")=false:=by kernel_rfl
theorem c_impl_LocksAt:Contract Tryz.prog 40 K_impl_LocksAt:=contract_of (C:=X_impl_LocksAt) (fn:=Tryz.f40) (tysOk_at (C:=X0) rfl tysOk) (ctxOk_of (P:=Tryz.prog) ⟨c_impl_ClusterFault,c_impl_Cluster_isHearer,c_impl_Cluster_lockedBy,trivial⟩) follows Tryz.func40 b_impl_LocksAt n_impl_LocksAt (fun t ys h=>(e_impl_LocksAt t).trans h)
theorem b_impl_bestOf_c1:Tryz.f179.body.isSome=true:=by kernel_rfl
theorem n_impl_bestOf_c1:(Tryz.f179.name == "runtime.NumGoroutine")=false:=by kernel_rfl
theorem c_impl_bestOf_c1:Contract Tryz.prog 179 K_impl_bestOf_c1:=contract_of (C:=X_impl_bestOf_c1) (fn:=Tryz.f179) (tysOk_at (C:=X0) rfl tysOk) (ctxOk_of (P:=Tryz.prog) ⟨c_impl_related,c_impl_findNode,trivial⟩) follows Tryz.func179 b_impl_bestOf_c1 n_impl_bestOf_c1 (fun t ys h=>(e_impl_bestOf_c1 t).trans h)
theorem b_impl_bestOf:Tryz.f152.body.isSome=true:=by kernel_rfl
theorem n_impl_bestOf:(Tryz.f152.name == "runtime.NumGoroutine")=false:=by kernel_rfl
theorem c_impl_bestOf:Contract Tryz.prog 152 K_impl_bestOf:=contract_of (C:=X_impl_bestOf) (fn:=Tryz.f152) (tysOk_at (C:=X0) rfl tysOk) (ctxOk_of (P:=Tryz.prog) ⟨c_slices_ContainsFunc_Lint64_int64,c_impl_bestOf_c1,trivial⟩) follows Tryz.func152 b_impl_bestOf n_impl_bestOf (fun t ys h=>(e_impl_bestOf t).trans h)
theorem b_impl_BestOf_c1:Tryz.f151.body.isSome=true:=by kernel_rfl
theorem n_impl_BestOf_c1:(Tryz.f151.name == "runtime.NumGoroutine")=false:=by kernel_rfl
theorem c_impl_BestOf_c1:Contract Tryz.prog 151 K_impl_BestOf_c1:=contract_of (C:=X_impl_BestOf_c1) (fn:=Tryz.f151) (tysOk_at (C:=X0) rfl tysOk) (ctxOk_of (P:=Tryz.prog) ⟨c_impl_isIn,trivial⟩) follows Tryz.func151 b_impl_BestOf_c1 n_impl_BestOf_c1 (fun t ys h=>(e_impl_BestOf_c1 t).trans h)
theorem b_impl_BestOf:Tryz.f94.body.isSome=true:=by kernel_rfl
theorem n_impl_BestOf:(Tryz.f94.name == "runtime.NumGoroutine")=false:=by kernel_rfl
theorem c_impl_BestOf:Contract Tryz.prog 94 K_impl_BestOf:=contract_of (C:=X_impl_BestOf) (fn:=Tryz.f94) (tysOk_at (C:=X0) rfl tysOk) (ctxOk_of (P:=Tryz.prog) ⟨c_impl_TreeFault,c_slices_ContainsFunc_Lint64_int64,c_impl_BestOf_c1,c_impl_bestOf,trivial⟩) follows Tryz.func94 b_impl_BestOf n_impl_BestOf (fun t ys h=>(e_impl_BestOf t).trans h)
theorem b_impl_BestFor:Tryz.f41.body.isSome=true:=by kernel_rfl
theorem n_impl_BestFor:(Tryz.f41.name == "runtime.NumGoroutine")=false:=by kernel_rfl
theorem c_impl_BestFor:Contract Tryz.prog 41 K_impl_BestFor:=contract_of (C:=X_impl_BestFor) (fn:=Tryz.f41) (tysOk_at (C:=X0) rfl tysOk) (ctxOk_of (P:=Tryz.prog) ⟨c_impl_LocksAt,c_impl_BestOf,trivial⟩) follows Tryz.func41 b_impl_BestFor n_impl_BestFor (fun t ys h=>(e_impl_BestFor t).trans h)
theorem b_spec_l12Known:Tryz.f153.body.isSome=true:=by kernel_rfl
theorem n_spec_l12Known:(Tryz.f153.name == "runtime.NumGoroutine")=false:=by kernel_rfl
theorem c_spec_l12Known:Contract Tryz.prog 153 K_spec_l12Known:=contract_of (C:=X_spec_l12Known) (fn:=Tryz.f153) (tysOk_at (C:=X0) rfl tysOk) (ctxOk_of (P:=Tryz.prog) trivial) follows Tryz.func153 b_spec_l12Known n_spec_l12Known (fun t ys h=>(e_spec_l12Known t).trans h)
theorem b_spec_LocksAt:Tryz.f95.body.isSome=true:=by kernel_rfl
theorem n_spec_LocksAt:(Tryz.f95.name == "runtime.NumGoroutine")=false:=by kernel_rfl
theorem c_spec_LocksAt:Contract Tryz.prog 95 K_spec_LocksAt:=contract_of (C:=X_spec_LocksAt) (fn:=Tryz.f95) (tysOk_at (C:=X0) rfl tysOk) (ctxOk_of (P:=Tryz.prog) ⟨c_spec_l12Fault,c_spec_l1In,c_spec_l12Locks,c_spec_l12Known,trivial⟩) follows Tryz.func95 b_spec_LocksAt n_spec_LocksAt (fun t ys h=>(e_spec_LocksAt t).trans h)
theorem b_spec_l9Fits:Tryz.f180.body.isSome=true:=by kernel_rfl
theorem n_spec_l9Fits:(Tryz.f180.name == "runtime.NumGoroutine")=false:=by kernel_rfl
theorem c_spec_l9Fits:Contract Tryz.prog 180 K_spec_l9Fits:=contract_of (C:=X_spec_l9Fits) (fn:=Tryz.f180) (tysOk_at (C:=X0) rfl tysOk) (ctxOk_of (P:=Tryz.prog) ⟨c_spec_l9Related,c_spec_l9At,trivial⟩) follows Tryz.func180 b_spec_l9Fits n_spec_l9Fits (fun t ys h=>(e_spec_l9Fits t).trans h)
theorem b_spec_l9Best:Tryz.f154.body.isSome=true:=by kernel_rfl
theorem n_spec_l9Best:(Tryz.f154.name == "runtime.NumGoroutine")=false:=by kernel_rfl
theorem c_spec_l9Best:Contract Tryz.prog 154 K_spec_l9Best:=contract_of (C:=X_spec_l9Best) (fn:=Tryz.f154) (tysOk_at (C:=X0) rfl tysOk) (ctxOk_of (P:=Tryz.prog) ⟨c_spec_l9Fits,trivial⟩) follows Tryz.func154 b_spec_l9Best n_spec_l9Best (fun t ys h=>(e_spec_l9Best t).trans h)
theorem b_spec_BestOf:Tryz.f96.body.isSome=true:=by kernel_rfl
theorem n_spec_BestOf:(Tryz.f96.name == "runtime.NumGoroutine")=false:=by kernel_rfl
theorem c_spec_BestOf:Contract Tryz.prog 96 K_spec_BestOf:=contract_of (C:=X_spec_BestOf) (fn:=Tryz.f96) (tysOk_at (C:=X0) rfl tysOk) (ctxOk_of (P:=Tryz.prog) ⟨c_spec_l9Fault,c_spec_l9At,c_spec_l9Best,trivial⟩) follows Tryz.func96 b_spec_BestOf n_spec_BestOf (fun t ys h=>(e_spec_BestOf t).trans h)
theorem b_spec_BestFor:Tryz.f42.body.isSome=true:=by kernel_rfl
theorem n_spec_BestFor:(Tryz.f42.name == "runtime.NumGoroutine")=false:=by kernel_rfl
theorem c_spec_BestFor:Contract Tryz.prog 42 K_spec_BestFor:=contract_of (C:=X_spec_BestFor) (fn:=Tryz.f42) (tysOk_at (C:=X0) rfl tysOk) (ctxOk_of (P:=Tryz.prog) ⟨c_spec_LocksAt,c_spec_BestOf,trivial⟩) follows Tryz.func42 b_spec_BestFor n_spec_BestFor (fun t ys h=>(e_spec_BestFor t).trans h)
theorem b_impl_IsAbove:Tryz.f43.body.isSome=true:=by kernel_rfl
theorem n_impl_IsAbove:(Tryz.f43.name == "runtime.NumGoroutine")=false:=by kernel_rfl
theorem c_impl_IsAbove:Contract Tryz.prog 43 K_impl_IsAbove:=contract_of (C:=X_impl_IsAbove) (fn:=Tryz.f43) (tysOk_at (C:=X0) rfl tysOk) (ctxOk_of (P:=Tryz.prog) ⟨c_impl_TreeFault,c_impl_isAbove,trivial⟩) follows Tryz.func43 b_impl_IsAbove n_impl_IsAbove (fun t ys h=>(e_impl_IsAbove t).trans h)
theorem b_laws_FnHearers:Tryz.f8.body.isSome=true:=by kernel_rfl
theorem n_laws_FnHearers:(Tryz.f8.name == "runtime.NumGoroutine")=false:=by kernel_rfl
theorem c_laws_FnHearers:Contract Tryz.prog 8 K_laws_FnHearers:=contract_of (C:=X_laws_FnHearers) (fn:=Tryz.f8) (tysOk_at (C:=X0) rfl tysOk) (ctxOk_of (P:=Tryz.prog) ⟨c_laws_lwBig,c_laws_lwHas,c_impl_Related,c_impl_PremiseOf,c_laws_lwCluster,c_impl_LockedBlocks,c_impl_LocksAt,c_impl_BestFor,c_spec_BestFor,c_impl_IsAbove,trivial⟩) follows Tryz.func8 b_laws_FnHearers n_laws_FnHearers (fun t ys h=>(e_laws_FnHearers t).trans h)
end CL
end Go.Dx

