/- The contracts of the functions -/
import Derived.Test.YtmhbfgbadiikfaaGreatSea
import Derived.Test.YtmhbfgbadiikfaaGreatSeb
import Derived.Test.YtmhbfgbadiikfaaGreatSec
import Derived.Test.YtmhbfgbadiikfaaGreatSed
import Derived.Test.YtmhbfgbadiikfaaGreatSee
import Derived.Test.YtmhbfgbadiikfaaGreatHdRevW
set_option linter.unusedVariables false
set_option linter.unusedSimpArgs false
set_option maxRecDepth 100000
set_option maxHeartbeats 0
namespace Go.Dx
open Go.Proofs
namespace CL

theorem b_laws_szInt64S : Tryz.f60.body.isSome = true := by kernel_rfl
theorem n_laws_szInt64S : (Tryz.f60.name == "runtime.NumGoroutine") = false := by kernel_rfl
theorem c_laws_szInt64S : Contract Tryz.prog 60 K_laws_szInt64S := contract_of (C := X_laws_szInt64S) (fn := Tryz.f60) (tysOk_at (C := X0) rfl tysOk) (ctxOk_of (P := Tryz.prog) trivial) follows Tryz.func60 b_laws_szInt64S n_laws_szInt64S (fun t ys h => (e_laws_szInt64S t).trans h)
theorem b_laws_szQuorum : Tryz.f59.body.isSome = true := by kernel_rfl
theorem n_laws_szQuorum : (Tryz.f59.name == "runtime.NumGoroutine") = false := by kernel_rfl
theorem c_laws_szQuorum : Contract Tryz.prog 59 K_laws_szQuorum := contract_of (C := X_laws_szQuorum) (fn := Tryz.f59) (tysOk_at (C := X0) rfl tysOk) (ctxOk_of (P := Tryz.prog) ⟨c_laws_szInt64S, trivial⟩) follows Tryz.func59 b_laws_szQuorum n_laws_szQuorum (fun t ys h => (e_laws_szQuorum t).trans h)
theorem b_laws_szNodeS : Tryz.f61.body.isSome = true := by kernel_rfl
theorem n_laws_szNodeS : (Tryz.f61.name == "runtime.NumGoroutine") = false := by kernel_rfl
theorem c_laws_szNodeS : Contract Tryz.prog 61 K_laws_szNodeS := contract_of (C := X_laws_szNodeS) (fn := Tryz.f61) (tysOk_at (C := X0) rfl tysOk) (ctxOk_of (P := Tryz.prog) trivial) follows Tryz.func61 b_laws_szNodeS n_laws_szNodeS (fun t ys h => (e_laws_szNodeS t).trans h)
theorem b_laws_szChoiceS : Tryz.f187.body.isSome = true := by kernel_rfl
theorem n_laws_szChoiceS : (Tryz.f187.name == "runtime.NumGoroutine") = false := by kernel_rfl
theorem c_laws_szChoiceS : Contract Tryz.prog 187 K_laws_szChoiceS := contract_of (C := X_laws_szChoiceS) (fn := Tryz.f187) (tysOk_at (C := X0) rfl tysOk) (ctxOk_of (P := Tryz.prog) trivial) follows Tryz.func187 b_laws_szChoiceS n_laws_szChoiceS (fun t ys h => (e_laws_szChoiceS t).trans h)
theorem b_laws_szVoter : Tryz.f130.body.isSome = true := by kernel_rfl
theorem n_laws_szVoter : (Tryz.f130.name == "runtime.NumGoroutine") = false := by kernel_rfl
theorem c_laws_szVoter : Contract Tryz.prog 130 K_laws_szVoter := contract_of (C := X_laws_szVoter) (fn := Tryz.f130) (tysOk_at (C := X0) rfl tysOk) (ctxOk_of (P := Tryz.prog) ⟨c_laws_szChoiceS, trivial⟩) follows Tryz.func130 b_laws_szVoter n_laws_szVoter (fun t ys h => (e_laws_szVoter t).trans h)
theorem b_laws_szVoterS : Tryz.f62.body.isSome = true := by kernel_rfl
theorem n_laws_szVoterS : (Tryz.f62.name == "runtime.NumGoroutine") = false := by kernel_rfl
theorem c_laws_szVoterS : Contract Tryz.prog 62 K_laws_szVoterS := contract_of (C := X_laws_szVoterS) (fn := Tryz.f62) (tysOk_at (C := X0) rfl tysOk) (ctxOk_of (P := Tryz.prog) ⟨c_laws_szVoter, trivial⟩) follows Tryz.func62 b_laws_szVoterS n_laws_szVoterS (fun t ys h => (e_laws_szVoterS t).trans h)
theorem b_laws_szVoteS : Tryz.f63.body.isSome = true := by kernel_rfl
theorem n_laws_szVoteS : (Tryz.f63.name == "runtime.NumGoroutine") = false := by kernel_rfl
theorem c_laws_szVoteS : Contract Tryz.prog 63 K_laws_szVoteS := contract_of (C := X_laws_szVoteS) (fn := Tryz.f63) (tysOk_at (C := X0) rfl tysOk) (ctxOk_of (P := Tryz.prog) trivial) follows Tryz.func63 b_laws_szVoteS n_laws_szVoteS (fun t ys h => (e_laws_szVoteS t).trans h)
theorem b_laws_szInt64SS : Tryz.f64.body.isSome = true := by kernel_rfl
theorem n_laws_szInt64SS : (Tryz.f64.name == "runtime.NumGoroutine") = false := by kernel_rfl
theorem c_laws_szInt64SS : Contract Tryz.prog 64 K_laws_szInt64SS := contract_of (C := X_laws_szInt64SS) (fn := Tryz.f64) (tysOk_at (C := X0) rfl tysOk) (ctxOk_of (P := Tryz.prog) ⟨c_laws_szInt64S, trivial⟩) follows Tryz.func64 b_laws_szInt64SS n_laws_szInt64SS (fun t ys h => (e_laws_szInt64SS t).trans h)
theorem b_laws_szCluster : Tryz.f16.body.isSome = true := by kernel_rfl
theorem n_laws_szCluster : (Tryz.f16.name == "runtime.NumGoroutine") = false := by kernel_rfl
theorem c_laws_szCluster : Contract Tryz.prog 16 K_laws_szCluster := contract_of (C := X_laws_szCluster) (fn := Tryz.f16) (tysOk_at (C := X0) rfl tysOk) (ctxOk_of (P := Tryz.prog) ⟨c_laws_szQuorum, c_laws_szInt64S, c_laws_szNodeS, c_laws_szVoterS, c_laws_szVoteS, c_laws_szInt64SS, trivial⟩) follows Tryz.func16 b_laws_szCluster n_laws_szCluster (fun t ys h => (e_laws_szCluster t).trans h)
theorem b_spec_l1In : Tryz.f106.body.isSome = true := by kernel_rfl
theorem n_spec_l1In : (Tryz.f106.name == "runtime.NumGoroutine") = false := by kernel_rfl
theorem c_spec_l1In : Contract Tryz.prog 106 K_spec_l1In := contract_of (C := X_spec_l1In) (fn := Tryz.f106) (tysOk_at (C := X0) rfl tysOk) (ctxOk_of (P := Tryz.prog) trivial) follows Tryz.func106 b_spec_l1In n_spec_l1In (fun t ys h => (e_spec_l1In t).trans h)
theorem b_spec_l1Key : Tryz.f175.body.isSome = true := by kernel_rfl
theorem n_spec_l1Key : (Tryz.f175.name == "runtime.NumGoroutine") = false := by kernel_rfl
theorem c_spec_l1Key : Contract Tryz.prog 175 K_spec_l1Key := contract_of (C := X_spec_l1Key) (fn := Tryz.f175) (tysOk_at (C := X0) rfl tysOk) (ctxOk_of (P := Tryz.prog) ⟨c_spec_l1In, trivial⟩) follows Tryz.func175 b_spec_l1Key n_spec_l1Key (fun t ys h => (e_spec_l1Key t).trans h)
theorem b_spec_l10Fault : Tryz.f131.body.isSome = true := by kernel_rfl
theorem n_spec_l10Fault : (Tryz.f131.name == "runtime.NumGoroutine") = false := by kernel_rfl
theorem c_spec_l10Fault : Contract Tryz.prog 131 K_spec_l10Fault := contract_of (C := X_spec_l10Fault) (fn := Tryz.f131) (tysOk_at (C := X0) rfl tysOk) (ctxOk_of (P := Tryz.prog) ⟨c_spec_l1In, c_spec_l1Key, trivial⟩) follows Tryz.func131 b_spec_l10Fault n_spec_l10Fault (fun t ys h => (e_spec_l10Fault t).trans h)
theorem b_spec_l12Bad : Tryz.f132.body.isSome = true := by kernel_rfl
theorem n_spec_l12Bad : (Tryz.f132.name == "runtime.NumGoroutine") = false := by kernel_rfl
theorem c_spec_l12Bad : Contract Tryz.prog 132 K_spec_l12Bad := contract_of (C := X_spec_l12Bad) (fn := Tryz.f132) (tysOk_at (C := X0) rfl tysOk) (ctxOk_of (P := Tryz.prog) ⟨c_spec_l1Key, trivial⟩) follows Tryz.func132 b_spec_l12Bad n_spec_l12Bad (fun t ys h => (e_spec_l12Bad t).trans h)
theorem b_spec_l9At : Tryz.f155.body.isSome = true := by kernel_rfl
theorem n_spec_l9At : (Tryz.f155.name == "runtime.NumGoroutine") = false := by kernel_rfl
theorem c_spec_l9At : Contract Tryz.prog 155 K_spec_l9At := contract_of (C := X_spec_l9At) (fn := Tryz.f155) (tysOk_at (C := X0) rfl tysOk) (ctxOk_of (P := Tryz.prog) trivial) follows Tryz.func155 b_spec_l9At n_spec_l9At (fun t ys h => (e_spec_l9At t).trans h)
theorem b_spec_l9Node : Tryz.f173.body.isSome = true := by kernel_rfl
theorem n_spec_l9Node : (Tryz.f173.name == "runtime.NumGoroutine") = false := by kernel_rfl
theorem c_spec_l9Node : Contract Tryz.prog 173 K_spec_l9Node := contract_of (C := X_spec_l9Node) (fn := Tryz.f173) (tysOk_at (C := X0) rfl tysOk) (ctxOk_of (P := Tryz.prog) ⟨c_spec_l1In, c_spec_l9At, trivial⟩) follows Tryz.func173 b_spec_l9Node n_spec_l9Node (fun t ys h => (e_spec_l9Node t).trans h)
theorem b_spec_l9Fault : Tryz.f133.body.isSome = true := by kernel_rfl
theorem n_spec_l9Fault : (Tryz.f133.name == "runtime.NumGoroutine") = false := by kernel_rfl
theorem c_spec_l9Fault : Contract Tryz.prog 133 K_spec_l9Fault := contract_of (C := X_spec_l9Fault) (fn := Tryz.f133) (tysOk_at (C := X0) rfl tysOk) (ctxOk_of (P := Tryz.prog) ⟨c_spec_l9Node, trivial⟩) follows Tryz.func133 b_spec_l9Fault n_spec_l9Fault (fun t ys h => (e_spec_l9Fault t).trans h)
theorem b_spec_l11Tx : Tryz.f176.body.isSome = true := by kernel_rfl
theorem n_spec_l11Tx : (Tryz.f176.name == "runtime.NumGoroutine") = false := by kernel_rfl
theorem c_spec_l11Tx : Contract Tryz.prog 176 K_spec_l11Tx := contract_of (C := X_spec_l11Tx) (fn := Tryz.f176) (tysOk_at (C := X0) rfl tysOk) (ctxOk_of (P := Tryz.prog) ⟨c_spec_l1In, trivial⟩) follows Tryz.func176 b_spec_l11Tx n_spec_l11Tx (fun t ys h => (e_spec_l11Tx t).trans h)
theorem b_spec_l3Ref : Tryz.f177.body.isSome = true := by kernel_rfl
theorem n_spec_l3Ref : (Tryz.f177.name == "runtime.NumGoroutine") = false := by kernel_rfl
theorem c_spec_l3Ref : Contract Tryz.prog 177 K_spec_l3Ref := contract_of (C := X_spec_l3Ref) (fn := Tryz.f177) (tysOk_at (C := X0) rfl tysOk) (ctxOk_of (P := Tryz.prog) ⟨c_spec_l1In, trivial⟩) follows Tryz.func177 b_spec_l3Ref n_spec_l3Ref (fun t ys h => (e_spec_l3Ref t).trans h)
theorem b_spec_l11At : Tryz.f208.body.isSome = true := by kernel_rfl
theorem n_spec_l11At : (Tryz.f208.name == "runtime.NumGoroutine") = false := by kernel_rfl
theorem c_spec_l11At : Contract Tryz.prog 208 K_spec_l11At := contract_of (C := X_spec_l11At) (fn := Tryz.f208) (tysOk_at (C := X0) rfl tysOk) (ctxOk_of (P := Tryz.prog) trivial) follows Tryz.func208 b_spec_l11At n_spec_l11At (fun t ys h => (e_spec_l11At t).trans h)
theorem b_spec_l11Fault : Tryz.f183.body.isSome = true := by kernel_rfl
theorem n_spec_l11Fault : (Tryz.f183.name == "runtime.NumGoroutine") = false := by kernel_rfl
theorem c_spec_l11Fault : Contract Tryz.prog 183 K_spec_l11Fault := contract_of (C := X_spec_l11Fault) (fn := Tryz.f183) (tysOk_at (C := X0) rfl tysOk) (ctxOk_of (P := Tryz.prog) ⟨c_spec_l1In, c_spec_l1Key, c_spec_l11Tx, c_spec_l3Ref, c_spec_l11At, trivial⟩) follows Tryz.func183 b_spec_l11Fault n_spec_l11Fault (fun t ys h => (e_spec_l11Fault t).trans h)
theorem b_spec_l4Among : Tryz.f89.body.isSome = true := by kernel_rfl
theorem n_spec_l4Among : (Tryz.f89.name == "runtime.NumGoroutine") = false := by kernel_rfl
theorem c_spec_l4Among : Contract Tryz.prog 89 K_spec_l4Among := contract_of (C := X_spec_l4Among) (fn := Tryz.f89) (tysOk_at (C := X0) rfl tysOk) (ctxOk_of (P := Tryz.prog) trivial) follows Tryz.func89 b_spec_l4Among n_spec_l4Among (fun t ys h => (e_spec_l4Among t).trans h)
theorem b_spec_l12Good : Tryz.f188.body.isSome = true := by kernel_rfl
theorem n_spec_l12Good : (Tryz.f188.name == "runtime.NumGoroutine") = false := by kernel_rfl
theorem c_spec_l12Good : Contract Tryz.prog 188 K_spec_l12Good := contract_of (C := X_spec_l12Good) (fn := Tryz.f188) (tysOk_at (C := X0) rfl tysOk) (ctxOk_of (P := Tryz.prog) ⟨c_spec_l4Among, trivial⟩) follows Tryz.func188 b_spec_l12Good n_spec_l12Good (fun t ys h => (e_spec_l12Good t).trans h)
theorem b_spec_l12Voters : Tryz.f134.body.isSome = true := by kernel_rfl
theorem n_spec_l12Voters : (Tryz.f134.name == "runtime.NumGoroutine") = false := by kernel_rfl
theorem c_spec_l12Voters : Contract Tryz.prog 134 K_spec_l12Voters := contract_of (C := X_spec_l12Voters) (fn := Tryz.f134) (tysOk_at (C := X0) rfl tysOk) (ctxOk_of (P := Tryz.prog) ⟨c_spec_l11Fault, c_spec_l12Good, trivial⟩) follows Tryz.func134 b_spec_l12Voters n_spec_l12Voters (fun t ys h => (e_spec_l12Voters t).trans h)
theorem b_spec_l11Vote : Tryz.f117.body.isSome = true := by kernel_rfl
theorem n_spec_l11Vote : (Tryz.f117.name == "runtime.NumGoroutine") = false := by kernel_rfl
theorem c_spec_l11Vote : Contract Tryz.prog 117 K_spec_l11Vote := contract_of (C := X_spec_l11Vote) (fn := Tryz.f117) (tysOk_at (C := X0) rfl tysOk) (ctxOk_of (P := Tryz.prog) ⟨c_spec_l1In, c_spec_l1Key, c_spec_l11Tx, c_spec_l3Ref, trivial⟩) follows Tryz.func117 b_spec_l11Vote n_spec_l11Vote (fun t ys h => (e_spec_l11Vote t).trans h)
theorem b_spec_l12Has : Tryz.f178.body.isSome = true := by kernel_rfl
theorem n_spec_l12Has : (Tryz.f178.name == "runtime.NumGoroutine") = false := by kernel_rfl
theorem c_spec_l12Has : Contract Tryz.prog 178 K_spec_l12Has := contract_of (C := X_spec_l12Has) (fn := Tryz.f178) (tysOk_at (C := X0) rfl tysOk) (ctxOk_of (P := Tryz.prog) trivial) follows Tryz.func178 b_spec_l12Has n_spec_l12Has (fun t ys h => (e_spec_l12Has t).trans h)
theorem b_spec_l12At : Tryz.f121.body.isSome = true := by kernel_rfl
theorem n_spec_l12At : (Tryz.f121.name == "runtime.NumGoroutine") = false := by kernel_rfl
theorem c_spec_l12At : Contract Tryz.prog 121 K_spec_l12At := contract_of (C := X_spec_l12At) (fn := Tryz.f121) (tysOk_at (C := X0) rfl tysOk) (ctxOk_of (P := Tryz.prog) trivial) follows Tryz.func121 b_spec_l12At n_spec_l12At (fun t ys h => (e_spec_l12At t).trans h)
theorem b_spec_l9Above : Tryz.f149.body.isSome = true := by kernel_rfl
theorem n_spec_l9Above : (Tryz.f149.name == "runtime.NumGoroutine") = false := by kernel_rfl
theorem c_spec_l9Above : Contract Tryz.prog 149 K_spec_l9Above := contract_of (C := X_spec_l9Above) (fn := Tryz.f149) (tysOk_at (C := X0) rfl tysOk) (ctxOk_of (P := Tryz.prog) ⟨c_spec_l9At, trivial⟩) follows Tryz.func149 b_spec_l9Above n_spec_l9Above (fun t ys h => (e_spec_l9Above t).trans h)
theorem b_spec_l12Stands : Tryz.f189.body.isSome = true := by kernel_rfl
theorem n_spec_l12Stands : (Tryz.f189.name == "runtime.NumGoroutine") = false := by kernel_rfl
theorem c_spec_l12Stands : Contract Tryz.prog 189 K_spec_l12Stands := contract_of (C := X_spec_l12Stands) (fn := Tryz.f189) (tysOk_at (C := X0) rfl tysOk) (ctxOk_of (P := Tryz.prog) ⟨c_spec_l12At, c_spec_l9Above, c_spec_l11At, trivial⟩) follows Tryz.func189 b_spec_l12Stands n_spec_l12Stands (fun t ys h => (e_spec_l12Stands t).trans h)
theorem b_spec_l12Votes : Tryz.f135.body.isSome = true := by kernel_rfl
theorem n_spec_l12Votes : (Tryz.f135.name == "runtime.NumGoroutine") = false := by kernel_rfl
theorem c_spec_l12Votes : Contract Tryz.prog 135 K_spec_l12Votes := contract_of (C := X_spec_l12Votes) (fn := Tryz.f135) (tysOk_at (C := X0) rfl tysOk) (ctxOk_of (P := Tryz.prog) ⟨c_spec_l4Among, c_spec_l11Vote, c_spec_l12Has, c_spec_l12Stands, trivial⟩) follows Tryz.func135 b_spec_l12Votes n_spec_l12Votes (fun t ys h => (e_spec_l12Votes t).trans h)
theorem b_spec_l12Heard : Tryz.f136.body.isSome = true := by kernel_rfl
theorem n_spec_l12Heard : (Tryz.f136.name == "runtime.NumGoroutine") = false := by kernel_rfl
theorem c_spec_l12Heard : Contract Tryz.prog 136 K_spec_l12Heard := contract_of (C := X_spec_l12Heard) (fn := Tryz.f136) (tysOk_at (C := X0) rfl tysOk) (ctxOk_of (P := Tryz.prog) ⟨c_spec_l4Among, c_spec_l1In, trivial⟩) follows Tryz.func136 b_spec_l12Heard n_spec_l12Heard (fun t ys h => (e_spec_l12Heard t).trans h)
theorem b_spec_l12Fault : Tryz.f65.body.isSome = true := by kernel_rfl
theorem n_spec_l12Fault : (Tryz.f65.name == "runtime.NumGoroutine") = false := by kernel_rfl
theorem c_spec_l12Fault : Contract Tryz.prog 65 K_spec_l12Fault := contract_of (C := X_spec_l12Fault) (fn := Tryz.f65) (tysOk_at (C := X0) rfl tysOk) (ctxOk_of (P := Tryz.prog) ⟨c_spec_l10Fault, c_spec_l12Bad, c_spec_l9Fault, c_spec_l12Voters, c_spec_l12Votes, c_spec_l12Heard, trivial⟩) follows Tryz.func65 b_spec_l12Fault n_spec_l12Fault (fun t ys h => (e_spec_l12Fault t).trans h)
theorem b_laws_toInt64S : Tryz.f68.body.isSome = true := by kernel_rfl
theorem n_laws_toInt64S : (Tryz.f68.name == "runtime.NumGoroutine") = false := by kernel_rfl
theorem c_laws_toInt64S : Contract Tryz.prog 68 K_laws_toInt64S := contract_of (C := X_laws_toInt64S) (fn := Tryz.f68) (tysOk_at (C := X0) rfl tysOk) (ctxOk_of (P := Tryz.prog) trivial) follows Tryz.func68 b_laws_toInt64S n_laws_toInt64S (fun t ys h => (e_laws_toInt64S t).trans h)
theorem b_laws_toQuorum : Tryz.f67.body.isSome = true := by kernel_rfl
theorem n_laws_toQuorum : (Tryz.f67.name == "runtime.NumGoroutine") = false := by kernel_rfl
theorem c_laws_toQuorum : Contract Tryz.prog 67 K_laws_toQuorum := contract_of (C := X_laws_toQuorum) (fn := Tryz.f67) (tysOk_at (C := X0) rfl tysOk) (ctxOk_of (P := Tryz.prog) ⟨c_laws_toInt64S, trivial⟩) follows Tryz.func67 b_laws_toQuorum n_laws_toQuorum (fun t ys h => (e_laws_toQuorum t).trans h)
theorem b_laws_toNode : Tryz.f49.body.isSome = true := by kernel_rfl
theorem n_laws_toNode : (Tryz.f49.name == "runtime.NumGoroutine") = false := by kernel_rfl
theorem c_laws_toNode : Contract Tryz.prog 49 K_laws_toNode := contract_of (C := X_laws_toNode) (fn := Tryz.f49) (tysOk_at (C := X0) rfl tysOk) (ctxOk_of (P := Tryz.prog) trivial) follows Tryz.func49 b_laws_toNode n_laws_toNode (fun t ys h => (e_laws_toNode t).trans h)
theorem b_laws_toNodeS : Tryz.f69.body.isSome = true := by kernel_rfl
theorem n_laws_toNodeS : (Tryz.f69.name == "runtime.NumGoroutine") = false := by kernel_rfl
theorem c_laws_toNodeS : Contract Tryz.prog 69 K_laws_toNodeS := contract_of (C := X_laws_toNodeS) (fn := Tryz.f69) (tysOk_at (C := X0) rfl tysOk) (ctxOk_of (P := Tryz.prog) ⟨c_laws_toNode, trivial⟩) follows Tryz.func69 b_laws_toNodeS n_laws_toNodeS (fun t ys h => (e_laws_toNodeS t).trans h)
theorem b_laws_toRef : Tryz.f57.body.isSome = true := by kernel_rfl
theorem n_laws_toRef : (Tryz.f57.name == "runtime.NumGoroutine") = false := by kernel_rfl
theorem c_laws_toRef : Contract Tryz.prog 57 K_laws_toRef := contract_of (C := X_laws_toRef) (fn := Tryz.f57) (tysOk_at (C := X0) rfl tysOk) (ctxOk_of (P := Tryz.prog) trivial) follows Tryz.func57 b_laws_toRef n_laws_toRef (fun t ys h => (e_laws_toRef t).trans h)
theorem b_laws_toChoice : Tryz.f211.body.isSome = true := by kernel_rfl
theorem n_laws_toChoice : (Tryz.f211.name == "runtime.NumGoroutine") = false := by kernel_rfl
theorem c_laws_toChoice : Contract Tryz.prog 211 K_laws_toChoice := contract_of (C := X_laws_toChoice) (fn := Tryz.f211) (tysOk_at (C := X0) rfl tysOk) (ctxOk_of (P := Tryz.prog) ⟨c_laws_toRef, trivial⟩) follows Tryz.func211 b_laws_toChoice n_laws_toChoice (fun t ys h => (e_laws_toChoice t).trans h)
theorem b_laws_toChoiceS : Tryz.f190.body.isSome = true := by kernel_rfl
theorem n_laws_toChoiceS : (Tryz.f190.name == "runtime.NumGoroutine") = false := by kernel_rfl
theorem c_laws_toChoiceS : Contract Tryz.prog 190 K_laws_toChoiceS := contract_of (C := X_laws_toChoiceS) (fn := Tryz.f190) (tysOk_at (C := X0) rfl tysOk) (ctxOk_of (P := Tryz.prog) ⟨c_laws_toChoice, trivial⟩) follows Tryz.func190 b_laws_toChoiceS n_laws_toChoiceS (fun t ys h => (e_laws_toChoiceS t).trans h)
theorem b_laws_toVoter : Tryz.f138.body.isSome = true := by kernel_rfl
theorem n_laws_toVoter : (Tryz.f138.name == "runtime.NumGoroutine") = false := by kernel_rfl
theorem c_laws_toVoter : Contract Tryz.prog 138 K_laws_toVoter := contract_of (C := X_laws_toVoter) (fn := Tryz.f138) (tysOk_at (C := X0) rfl tysOk) (ctxOk_of (P := Tryz.prog) ⟨c_laws_toChoiceS, trivial⟩) follows Tryz.func138 b_laws_toVoter n_laws_toVoter (fun t ys h => (e_laws_toVoter t).trans h)
theorem b_laws_toVoterS : Tryz.f70.body.isSome = true := by kernel_rfl
theorem n_laws_toVoterS : (Tryz.f70.name == "runtime.NumGoroutine") = false := by kernel_rfl
theorem c_laws_toVoterS : Contract Tryz.prog 70 K_laws_toVoterS := contract_of (C := X_laws_toVoterS) (fn := Tryz.f70) (tysOk_at (C := X0) rfl tysOk) (ctxOk_of (P := Tryz.prog) ⟨c_laws_toVoter, trivial⟩) follows Tryz.func70 b_laws_toVoterS n_laws_toVoterS (fun t ys h => (e_laws_toVoterS t).trans h)
theorem b_laws_toVote : Tryz.f52.body.isSome = true := by kernel_rfl
theorem n_laws_toVote : (Tryz.f52.name == "runtime.NumGoroutine") = false := by kernel_rfl
theorem c_laws_toVote : Contract Tryz.prog 52 K_laws_toVote := contract_of (C := X_laws_toVote) (fn := Tryz.f52) (tysOk_at (C := X0) rfl tysOk) (ctxOk_of (P := Tryz.prog) ⟨c_laws_toRef, trivial⟩) follows Tryz.func52 b_laws_toVote n_laws_toVote (fun t ys h => (e_laws_toVote t).trans h)
theorem b_laws_toVoteS : Tryz.f71.body.isSome = true := by kernel_rfl
theorem n_laws_toVoteS : (Tryz.f71.name == "runtime.NumGoroutine") = false := by kernel_rfl
theorem c_laws_toVoteS : Contract Tryz.prog 71 K_laws_toVoteS := contract_of (C := X_laws_toVoteS) (fn := Tryz.f71) (tysOk_at (C := X0) rfl tysOk) (ctxOk_of (P := Tryz.prog) ⟨c_laws_toVote, trivial⟩) follows Tryz.func71 b_laws_toVoteS n_laws_toVoteS (fun t ys h => (e_laws_toVoteS t).trans h)
theorem b_laws_toInt64SS : Tryz.f72.body.isSome = true := by kernel_rfl
theorem n_laws_toInt64SS : (Tryz.f72.name == "runtime.NumGoroutine") = false := by kernel_rfl
theorem c_laws_toInt64SS : Contract Tryz.prog 72 K_laws_toInt64SS := contract_of (C := X_laws_toInt64SS) (fn := Tryz.f72) (tysOk_at (C := X0) rfl tysOk) (ctxOk_of (P := Tryz.prog) ⟨c_laws_toInt64S, trivial⟩) follows Tryz.func72 b_laws_toInt64SS n_laws_toInt64SS (fun t ys h => (e_laws_toInt64SS t).trans h)
theorem b_laws_toCluster : Tryz.f18.body.isSome = true := by kernel_rfl
theorem n_laws_toCluster : (Tryz.f18.name == "runtime.NumGoroutine") = false := by kernel_rfl
theorem c_laws_toCluster : Contract Tryz.prog 18 K_laws_toCluster := contract_of (C := X_laws_toCluster) (fn := Tryz.f18) (tysOk_at (C := X0) rfl tysOk) (ctxOk_of (P := Tryz.prog) ⟨c_laws_toQuorum, c_laws_toInt64S, c_laws_toNodeS, c_laws_toVoterS, c_laws_toVoteS, c_laws_toInt64SS, trivial⟩) follows Tryz.func18 b_laws_toCluster n_laws_toCluster (fun t ys h => (e_laws_toCluster t).trans h)
theorem b_impl_within : Tryz.f112.body.isSome = true := by kernel_rfl
theorem n_impl_within : (Tryz.f112.name == "runtime.NumGoroutine") = false := by kernel_rfl
theorem c_impl_within : Contract Tryz.prog 112 K_impl_within := contract_of (C := X_impl_within) (fn := Tryz.f112) (tysOk_at (C := X0) rfl tysOk) (ctxOk_of (P := Tryz.prog) trivial) follows Tryz.func112 b_impl_within n_impl_within (fun t ys h => (e_impl_within t).trans h)
theorem b_slices_IndexFunc_Lint64_int64 : Tryz.f150.body.isSome = true := by kernel_rfl
theorem n_slices_IndexFunc_Lint64_int64 : (Tryz.f150.name == "runtime.NumGoroutine") = false := by kernel_rfl
theorem c_slices_IndexFunc_Lint64_int64 : Contract Tryz.prog 150 K_slices_IndexFunc_Lint64_int64 := contract_of (C := X_slices_IndexFunc_Lint64_int64) (fn := Tryz.f150) (tysOk_at (C := X0) rfl tysOk) (ctxOk_of (P := Tryz.prog) trivial) follows Tryz.func150 b_slices_IndexFunc_Lint64_int64 n_slices_IndexFunc_Lint64_int64 (fun t ys h => (e_slices_IndexFunc_Lint64_int64 t).trans h)
theorem b_slices_ContainsFunc_Lint64_int64 : Tryz.f83.body.isSome = true := by kernel_rfl
theorem n_slices_ContainsFunc_Lint64_int64 : (Tryz.f83.name == "runtime.NumGoroutine") = false := by kernel_rfl
theorem c_slices_ContainsFunc_Lint64_int64 : Contract Tryz.prog 83 K_slices_ContainsFunc_Lint64_int64 := contract_of (C := X_slices_ContainsFunc_Lint64_int64) (fn := Tryz.f83) (tysOk_at (C := X0) rfl tysOk) (ctxOk_of (P := Tryz.prog) ⟨c_slices_IndexFunc_Lint64_int64, trivial⟩) follows Tryz.func83 b_slices_ContainsFunc_Lint64_int64 n_slices_ContainsFunc_Lint64_int64 (fun t ys h => (e_slices_ContainsFunc_Lint64_int64 t).trans h)
theorem b_impl_isKey : Tryz.f181.body.isSome = true := by kernel_rfl
theorem n_impl_isKey : (Tryz.f181.name == "runtime.NumGoroutine") = false := by kernel_rfl
theorem c_impl_isKey : Contract Tryz.prog 181 K_impl_isKey := contract_of (C := X_impl_isKey) (fn := Tryz.f181) (tysOk_at (C := X0) rfl tysOk) (ctxOk_of (P := Tryz.prog) ⟨c_impl_within, trivial⟩) follows Tryz.func181 b_impl_isKey n_impl_isKey (fun t ys h => (e_impl_isKey t).trans h)
theorem b_impl_areKeys_c1 : Tryz.f212.body.isSome = true := by kernel_rfl
theorem n_impl_areKeys_c1 : (Tryz.f212.name == "runtime.NumGoroutine") = false := by kernel_rfl
theorem c_impl_areKeys_c1 : Contract Tryz.prog 212 K_impl_areKeys_c1 := contract_of (C := X_impl_areKeys_c1) (fn := Tryz.f212) (tysOk_at (C := X0) rfl tysOk) (ctxOk_of (P := Tryz.prog) ⟨c_impl_isKey, trivial⟩) follows Tryz.func212 b_impl_areKeys_c1 n_impl_areKeys_c1 (fun t ys h => (e_impl_areKeys_c1 t).trans h)
theorem b_impl_areKeys : Tryz.f191.body.isSome = true := by kernel_rfl
theorem n_impl_areKeys : (Tryz.f191.name == "runtime.NumGoroutine") = false := by kernel_rfl
theorem c_impl_areKeys : Contract Tryz.prog 191 K_impl_areKeys := contract_of (C := X_impl_areKeys) (fn := Tryz.f191) (tysOk_at (C := X0) rfl tysOk) (ctxOk_of (P := Tryz.prog) ⟨c_slices_ContainsFunc_Lint64_int64, c_impl_areKeys_c1, trivial⟩) follows Tryz.func191 b_impl_areKeys n_impl_areKeys (fun t ys h => (e_impl_areKeys t).trans h)
theorem b_impl_isRising : Tryz.f192.body.isSome = true := by kernel_rfl
theorem n_impl_isRising : (Tryz.f192.name == "runtime.NumGoroutine") = false := by kernel_rfl
theorem c_impl_isRising : Contract Tryz.prog 192 K_impl_isRising := contract_of (C := X_impl_isRising) (fn := Tryz.f192) (tysOk_at (C := X0) rfl tysOk) (ctxOk_of (P := Tryz.prog) trivial) follows Tryz.func192 b_impl_isRising n_impl_isRising (fun t ys h => (e_impl_isRising t).trans h)
theorem b_impl_QuorumFault : Tryz.f139.body.isSome = true := by kernel_rfl
theorem n_impl_QuorumFault : (Tryz.f139.name == "runtime.NumGoroutine") = false := by kernel_rfl
theorem c_impl_QuorumFault : Contract Tryz.prog 139 K_impl_QuorumFault := contract_of (C := X_impl_QuorumFault) (fn := Tryz.f139) (tysOk_at (C := X0) rfl tysOk) (ctxOk_of (P := Tryz.prog) ⟨c_impl_within, c_impl_areKeys, c_impl_isRising, trivial⟩) follows Tryz.func139 b_impl_QuorumFault n_impl_QuorumFault (fun t ys h => (e_impl_QuorumFault t).trans h)
theorem b_impl_badFault : Tryz.f140.body.isSome = true := by kernel_rfl
theorem n_impl_badFault : (Tryz.f140.name == "runtime.NumGoroutine") = false := by kernel_rfl
theorem c_impl_badFault : Contract Tryz.prog 140 K_impl_badFault := contract_of (C := X_impl_badFault) (fn := Tryz.f140) (tysOk_at (C := X0) rfl tysOk) (ctxOk_of (P := Tryz.prog) ⟨c_impl_areKeys, c_impl_isRising, trivial⟩) follows Tryz.func140 b_impl_badFault n_impl_badFault (fun t ys h => (e_impl_badFault t).trans h)
theorem b_impl_isId : Tryz.f179.body.isSome = true := by kernel_rfl
theorem n_impl_isId : (Tryz.f179.name == "runtime.NumGoroutine") = false := by kernel_rfl
theorem c_impl_isId : Contract Tryz.prog 179 K_impl_isId := contract_of (C := X_impl_isId) (fn := Tryz.f179) (tysOk_at (C := X0) rfl tysOk) (ctxOk_of (P := Tryz.prog) ⟨c_impl_within, trivial⟩) follows Tryz.func179 b_impl_isId n_impl_isId (fun t ys h => (e_impl_isId t).trans h)
theorem b_slices_IndexFunc_Limpl_Node_impl_Node : Tryz.f217.body.isSome = true := by kernel_rfl
theorem n_slices_IndexFunc_Limpl_Node_impl_Node : (Tryz.f217.name == "runtime.NumGoroutine") = false := by kernel_rfl
theorem c_slices_IndexFunc_Limpl_Node_impl_Node : Contract Tryz.prog 217 K_slices_IndexFunc_Limpl_Node_impl_Node := contract_of (C := X_slices_IndexFunc_Limpl_Node_impl_Node) (fn := Tryz.f217) (tysOk_at (C := X0) rfl tysOk) (ctxOk_of (P := Tryz.prog) trivial) follows Tryz.func217 b_slices_IndexFunc_Limpl_Node_impl_Node n_slices_IndexFunc_Limpl_Node_impl_Node (fun t ys h => (e_slices_IndexFunc_Limpl_Node_impl_Node t).trans h)
theorem b_impl_findNode_c1 : Tryz.f218.body.isSome = true := by kernel_rfl
theorem n_impl_findNode_c1 : (Tryz.f218.name == "runtime.NumGoroutine") = false := by kernel_rfl
theorem c_impl_findNode_c1 : Contract Tryz.prog 218 K_impl_findNode_c1 := contract_of (C := X_impl_findNode_c1) (fn := Tryz.f218) (tysOk_at (C := X0) rfl tysOk) (ctxOk_of (P := Tryz.prog) trivial) follows Tryz.func218 b_impl_findNode_c1 n_impl_findNode_c1 (fun t ys h => (e_impl_findNode_c1 t).trans h)
theorem b_impl_findNode : Tryz.f202.body.isSome = true := by kernel_rfl
theorem n_impl_findNode : (Tryz.f202.name == "runtime.NumGoroutine") = false := by kernel_rfl
theorem c_impl_findNode : Contract Tryz.prog 202 K_impl_findNode := contract_of (C := X_impl_findNode) (fn := Tryz.f202) (tysOk_at (C := X0) rfl tysOk) (ctxOk_of (P := Tryz.prog) ⟨c_slices_IndexFunc_Limpl_Node_impl_Node, c_impl_findNode_c1, trivial⟩) follows Tryz.func202 b_impl_findNode n_impl_findNode (fun t ys h => (e_impl_findNode t).trans h)
theorem b_impl_nodeFault : Tryz.f174.body.isSome = true := by kernel_rfl
theorem n_impl_nodeFault : (Tryz.f174.name == "runtime.NumGoroutine") = false := by kernel_rfl
theorem c_impl_nodeFault : Contract Tryz.prog 174 K_impl_nodeFault := contract_of (C := X_impl_nodeFault) (fn := Tryz.f174) (tysOk_at (C := X0) rfl tysOk) (ctxOk_of (P := Tryz.prog) ⟨c_impl_within, c_impl_isId, c_impl_findNode, trivial⟩) follows Tryz.func174 b_impl_nodeFault n_impl_nodeFault (fun t ys h => (e_impl_nodeFault t).trans h)
theorem b_impl_TreeFault : Tryz.f141.body.isSome = true := by kernel_rfl
theorem n_impl_TreeFault : (Tryz.f141.name == "runtime.NumGoroutine") = false := by kernel_rfl
theorem c_impl_TreeFault : Contract Tryz.prog 141 K_impl_TreeFault := contract_of (C := X_impl_TreeFault) (fn := Tryz.f141) (tysOk_at (C := X0) rfl tysOk) (ctxOk_of (P := Tryz.prog) ⟨c_impl_nodeFault, trivial⟩) follows Tryz.func141 b_impl_TreeFault n_impl_TreeFault (fun t ys h => (e_impl_TreeFault t).trans h)
theorem b_slices_IndexFunc_Limpl_Choice_impl_Choice : Tryz.f153.body.isSome = true := by kernel_rfl
theorem n_slices_IndexFunc_Limpl_Choice_impl_Choice : (Tryz.f153.name == "runtime.NumGoroutine") = false := by kernel_rfl
theorem c_slices_IndexFunc_Limpl_Choice_impl_Choice : Contract Tryz.prog 153 K_slices_IndexFunc_Limpl_Choice_impl_Choice := contract_of (C := X_slices_IndexFunc_Limpl_Choice_impl_Choice) (fn := Tryz.f153) (tysOk_at (C := X0) rfl tysOk) (ctxOk_of (P := Tryz.prog) trivial) follows Tryz.func153 b_slices_IndexFunc_Limpl_Choice_impl_Choice n_slices_IndexFunc_Limpl_Choice_impl_Choice (fun t ys h => (e_slices_IndexFunc_Limpl_Choice_impl_Choice t).trans h)
theorem b_slices_ContainsFunc_Limpl_Choice_impl_Choice : Tryz.f87.body.isSome = true := by kernel_rfl
theorem n_slices_ContainsFunc_Limpl_Choice_impl_Choice : (Tryz.f87.name == "runtime.NumGoroutine") = false := by kernel_rfl
theorem c_slices_ContainsFunc_Limpl_Choice_impl_Choice : Contract Tryz.prog 87 K_slices_ContainsFunc_Limpl_Choice_impl_Choice := contract_of (C := X_slices_ContainsFunc_Limpl_Choice_impl_Choice) (fn := Tryz.f87) (tysOk_at (C := X0) rfl tysOk) (ctxOk_of (P := Tryz.prog) ⟨c_slices_IndexFunc_Limpl_Choice_impl_Choice, trivial⟩) follows Tryz.func87 b_slices_ContainsFunc_Limpl_Choice_impl_Choice n_slices_ContainsFunc_Limpl_Choice_impl_Choice (fun t ys h => (e_slices_ContainsFunc_Limpl_Choice_impl_Choice t).trans h)
theorem b_impl_isRef : Tryz.f180.body.isSome = true := by kernel_rfl
theorem n_impl_isRef : (Tryz.f180.name == "runtime.NumGoroutine") = false := by kernel_rfl
theorem c_impl_isRef : Contract Tryz.prog 180 K_impl_isRef := contract_of (C := X_impl_isRef) (fn := Tryz.f180) (tysOk_at (C := X0) rfl tysOk) (ctxOk_of (P := Tryz.prog) ⟨c_impl_within, c_impl_isId, trivial⟩) follows Tryz.func180 b_impl_isRef n_impl_isRef (fun t ys h => (e_impl_isRef t).trans h)
theorem b_impl_VoterFault_c1 : Tryz.f209.body.isSome = true := by kernel_rfl
theorem n_impl_VoterFault_c1 : (Tryz.f209.name == "runtime.NumGoroutine") = false := by kernel_rfl
theorem c_impl_VoterFault_c1 : Contract Tryz.prog 209 K_impl_VoterFault_c1 := contract_of (C := X_impl_VoterFault_c1) (fn := Tryz.f209) (tysOk_at (C := X0) rfl tysOk) (ctxOk_of (P := Tryz.prog) trivial) follows Tryz.func209 b_impl_VoterFault_c1 n_impl_VoterFault_c1 (fun t ys h => (e_impl_VoterFault_c1 t).trans h)
theorem b_impl_VoterFault : Tryz.f185.body.isSome = true := by kernel_rfl
theorem n_impl_VoterFault : (Tryz.f185.name == "runtime.NumGoroutine") = false := by kernel_rfl
theorem c_impl_VoterFault : Contract Tryz.prog 185 K_impl_VoterFault := contract_of (C := X_impl_VoterFault) (fn := Tryz.f185) (tysOk_at (C := X0) rfl tysOk) (ctxOk_of (P := Tryz.prog) ⟨c_slices_ContainsFunc_Limpl_Choice_impl_Choice, c_impl_within, c_impl_isId, c_impl_isRef, c_impl_isKey, c_impl_VoterFault_c1, trivial⟩) follows Tryz.func185 b_impl_VoterFault n_impl_VoterFault (fun t ys h => (e_impl_VoterFault t).trans h)
theorem b_slices_Clone_Lint64_int64 : Tryz.f164.body.isSome = true := by kernel_rfl
theorem n_slices_Clone_Lint64_int64 : (Tryz.f164.name == "runtime.NumGoroutine") = false := by kernel_rfl
theorem c_slices_Clone_Lint64_int64 : Contract Tryz.prog 164 K_slices_Clone_Lint64_int64 := contract_of (C := X_slices_Clone_Lint64_int64) (fn := Tryz.f164) (tysOk_at (C := X0) rfl tysOk) (ctxOk_of (P := Tryz.prog) trivial) follows Tryz.func164 b_slices_Clone_Lint64_int64 n_slices_Clone_Lint64_int64 (fun t ys h => (e_slices_Clone_Lint64_int64 t).trans h)
theorem b_slices_DeleteFunc_Lint64_int64 : Tryz.f213.body.isSome = true := by kernel_rfl
theorem n_slices_DeleteFunc_Lint64_int64 : (Tryz.f213.name == "runtime.NumGoroutine") = false := by kernel_rfl
theorem c_slices_DeleteFunc_Lint64_int64 : Contract Tryz.prog 213 K_slices_DeleteFunc_Lint64_int64 := contract_of (C := X_slices_DeleteFunc_Lint64_int64) (fn := Tryz.f213) (tysOk_at (C := X0) rfl tysOk) (ctxOk_of (P := Tryz.prog) ⟨c_slices_IndexFunc_Lint64_int64, trivial⟩) follows Tryz.func213 b_slices_DeleteFunc_Lint64_int64 n_slices_DeleteFunc_Lint64_int64 (fun t ys h => (e_slices_DeleteFunc_Lint64_int64 t).trans h)
theorem b_slices_Index_Lint64_int64 : Tryz.f154.body.isSome = true := by kernel_rfl
theorem n_slices_Index_Lint64_int64 : (Tryz.f154.name == "runtime.NumGoroutine") = false := by kernel_rfl
theorem c_slices_Index_Lint64_int64 : Contract Tryz.prog 154 K_slices_Index_Lint64_int64 := contract_of (C := X_slices_Index_Lint64_int64) (fn := Tryz.f154) (tysOk_at (C := X0) rfl tysOk) (ctxOk_of (P := Tryz.prog) trivial) follows Tryz.func154 b_slices_Index_Lint64_int64 n_slices_Index_Lint64_int64 (fun t ys h => (e_slices_Index_Lint64_int64 t).trans h)
theorem b_slices_Contains_Lint64_int64 : Tryz.f90.body.isSome = true := by kernel_rfl
theorem n_slices_Contains_Lint64_int64 : (Tryz.f90.name == "runtime.NumGoroutine") = false := by kernel_rfl
theorem c_slices_Contains_Lint64_int64 : Contract Tryz.prog 90 K_slices_Contains_Lint64_int64 := contract_of (C := X_slices_Contains_Lint64_int64) (fn := Tryz.f90) (tysOk_at (C := X0) rfl tysOk) (ctxOk_of (P := Tryz.prog) ⟨c_slices_Index_Lint64_int64, trivial⟩) follows Tryz.func90 b_slices_Contains_Lint64_int64 n_slices_Contains_Lint64_int64 (fun t ys h => (e_slices_Contains_Lint64_int64 t).trans h)
theorem b_impl_goodKeys_c1 : Tryz.f214.body.isSome = true := by kernel_rfl
theorem n_impl_goodKeys_c1 : (Tryz.f214.name == "runtime.NumGoroutine") = false := by kernel_rfl
theorem c_impl_goodKeys_c1 : Contract Tryz.prog 214 K_impl_goodKeys_c1 := contract_of (C := X_impl_goodKeys_c1) (fn := Tryz.f214) (tysOk_at (C := X0) rfl tysOk) (ctxOk_of (P := Tryz.prog) ⟨c_slices_Contains_Lint64_int64, trivial⟩) follows Tryz.func214 b_impl_goodKeys_c1 n_impl_goodKeys_c1 (fun t ys h => (e_impl_goodKeys_c1 t).trans h)
theorem b_impl_goodKeys : Tryz.f193.body.isSome = true := by kernel_rfl
theorem n_impl_goodKeys : (Tryz.f193.name == "runtime.NumGoroutine") = false := by kernel_rfl
theorem c_impl_goodKeys : Contract Tryz.prog 193 K_impl_goodKeys := contract_of (C := X_impl_goodKeys) (fn := Tryz.f193) (tysOk_at (C := X0) rfl tysOk) (ctxOk_of (P := Tryz.prog) ⟨c_slices_Clone_Lint64_int64, c_slices_DeleteFunc_Lint64_int64, c_impl_goodKeys_c1, trivial⟩) follows Tryz.func193 b_impl_goodKeys n_impl_goodKeys (fun t ys h => (e_impl_goodKeys t).trans h)
theorem b_slices_EqualFunc_Limpl_Voter_Lint64_impl_Voter_int64 : Tryz.f194.body.isSome = true := by kernel_rfl
theorem n_slices_EqualFunc_Limpl_Voter_Lint64_impl_Voter_int64 : (Tryz.f194.name == "runtime.NumGoroutine") = false := by kernel_rfl
theorem c_slices_EqualFunc_Limpl_Voter_Lint64_impl_Voter_int64 : Contract Tryz.prog 194 K_slices_EqualFunc_Limpl_Voter_Lint64_impl_Voter_int64 := contract_of (C := X_slices_EqualFunc_Limpl_Voter_Lint64_impl_Voter_int64) (fn := Tryz.f194) (tysOk_at (C := X0) rfl tysOk) (ctxOk_of (P := Tryz.prog) trivial) follows Tryz.func194 b_slices_EqualFunc_Limpl_Voter_Lint64_impl_Voter_int64 n_slices_EqualFunc_Limpl_Voter_Lint64_impl_Voter_int64 (fun t ys h => (e_slices_EqualFunc_Limpl_Voter_Lint64_impl_Voter_int64 t).trans h)
theorem b_impl_Cluster_votersFault_c1 : Tryz.f195.body.isSome = true := by kernel_rfl
theorem n_impl_Cluster_votersFault_c1 : (Tryz.f195.name == "runtime.NumGoroutine") = false := by kernel_rfl
theorem c_impl_Cluster_votersFault_c1 : Contract Tryz.prog 195 K_impl_Cluster_votersFault_c1 := contract_of (C := X_impl_Cluster_votersFault_c1) (fn := Tryz.f195) (tysOk_at (C := X0) rfl tysOk) (ctxOk_of (P := Tryz.prog) trivial) follows Tryz.func195 b_impl_Cluster_votersFault_c1 n_impl_Cluster_votersFault_c1 (fun t ys h => (e_impl_Cluster_votersFault_c1 t).trans h)
theorem b_impl_Cluster_votersFault : Tryz.f142.body.isSome = true := by kernel_rfl
theorem n_impl_Cluster_votersFault : (Tryz.f142.name == "runtime.NumGoroutine") = false := by kernel_rfl
theorem c_impl_Cluster_votersFault : Contract Tryz.prog 142 K_impl_Cluster_votersFault := contract_of (C := X_impl_Cluster_votersFault) (fn := Tryz.f142) (tysOk_at (C := X0) rfl tysOk) (ctxOk_of (P := Tryz.prog) ⟨c_impl_VoterFault, c_impl_goodKeys, c_slices_EqualFunc_Limpl_Voter_Lint64_impl_Voter_int64, c_impl_Cluster_votersFault_c1, trivial⟩) follows Tryz.func142 b_impl_Cluster_votersFault n_impl_Cluster_votersFault (fun t ys h => (e_impl_Cluster_votersFault t).trans h)
theorem b_impl_VoteFault : Tryz.f119.body.isSome = true := by kernel_rfl
theorem n_impl_VoteFault : (Tryz.f119.name == "runtime.NumGoroutine") = false := by kernel_rfl
theorem c_impl_VoteFault : Contract Tryz.prog 119 K_impl_VoteFault := contract_of (C := X_impl_VoteFault) (fn := Tryz.f119) (tysOk_at (C := X0) rfl tysOk) (ctxOk_of (P := Tryz.prog) ⟨c_impl_isId, c_impl_isRef, c_impl_isKey, trivial⟩) follows Tryz.func119 b_impl_VoteFault n_impl_VoteFault (fun t ys h => (e_impl_VoteFault t).trans h)
theorem b_slices_Index_Limpl_Vote_impl_Vote : Tryz.f204.body.isSome = true := by kernel_rfl
theorem n_slices_Index_Limpl_Vote_impl_Vote : (Tryz.f204.name == "runtime.NumGoroutine") = false := by kernel_rfl
theorem c_slices_Index_Limpl_Vote_impl_Vote : Contract Tryz.prog 204 K_slices_Index_Limpl_Vote_impl_Vote := contract_of (C := X_slices_Index_Limpl_Vote_impl_Vote) (fn := Tryz.f204) (tysOk_at (C := X0) rfl tysOk) (ctxOk_of (P := Tryz.prog) trivial) follows Tryz.func204 b_slices_Index_Limpl_Vote_impl_Vote n_slices_Index_Limpl_Vote_impl_Vote (fun t ys h => (e_slices_Index_Limpl_Vote_impl_Vote t).trans h)
theorem b_slices_Contains_Limpl_Vote_impl_Vote : Tryz.f161.body.isSome = true := by kernel_rfl
theorem n_slices_Contains_Limpl_Vote_impl_Vote : (Tryz.f161.name == "runtime.NumGoroutine") = false := by kernel_rfl
theorem c_slices_Contains_Limpl_Vote_impl_Vote : Contract Tryz.prog 161 K_slices_Contains_Limpl_Vote_impl_Vote := contract_of (C := X_slices_Contains_Limpl_Vote_impl_Vote) (fn := Tryz.f161) (tysOk_at (C := X0) rfl tysOk) (ctxOk_of (P := Tryz.prog) ⟨c_slices_Index_Limpl_Vote_impl_Vote, trivial⟩) follows Tryz.func161 b_slices_Contains_Limpl_Vote_impl_Vote n_slices_Contains_Limpl_Vote_impl_Vote (fun t ys h => (e_slices_Contains_Limpl_Vote_impl_Vote t).trans h)
theorem b_slices_Reverse_Lint64_int64 : Tryz.f216.body.isSome = true := by kernel_rfl
theorem n_slices_Reverse_Lint64_int64 : (Tryz.f216.name == "runtime.NumGoroutine") = false := by kernel_rfl
theorem c_slices_Reverse_Lint64_int64 : Contract Tryz.prog 216 K_slices_Reverse_Lint64_int64 := reverse_contract ⟨Tryz.f216, Tryz.func216, b_slices_Reverse_Lint64_int64, n_slices_Reverse_Lint64_int64⟩ rev_arr rev_empty
theorem b_impl_pathTo : Tryz.f200.body.isSome = true := by kernel_rfl
theorem n_impl_pathTo : (Tryz.f200.name == "runtime.NumGoroutine") = false := by kernel_rfl
theorem c_impl_pathTo : Contract Tryz.prog 200 K_impl_pathTo := contract_of (C := X_impl_pathTo) (fn := Tryz.f200) (tysOk_at (C := X0) rfl tysOk) (ctxOk_of (P := Tryz.prog) ⟨c_impl_findNode, c_slices_Reverse_Lint64_int64, trivial⟩) follows Tryz.func200 b_impl_pathTo n_impl_pathTo (fun t ys h => (e_impl_pathTo t).trans h)
theorem b_impl_isAbove : Tryz.f151.body.isSome = true := by kernel_rfl
theorem n_impl_isAbove : (Tryz.f151.name == "runtime.NumGoroutine") = false := by kernel_rfl
theorem c_impl_isAbove : Contract Tryz.prog 151 K_impl_isAbove := contract_of (C := X_impl_isAbove) (fn := Tryz.f151) (tysOk_at (C := X0) rfl tysOk) (ctxOk_of (P := Tryz.prog) ⟨c_slices_Contains_Lint64_int64, c_impl_pathTo, trivial⟩) follows Tryz.func151 b_impl_isAbove n_impl_isAbove (fun t ys h => (e_impl_isAbove t).trans h)
theorem b_slices_IndexFunc_Limpl_Voter_impl_Voter : Tryz.f206.body.isSome = true := by kernel_rfl
theorem n_slices_IndexFunc_Limpl_Voter_impl_Voter : (Tryz.f206.name == "runtime.NumGoroutine") = false := by kernel_rfl
theorem c_slices_IndexFunc_Limpl_Voter_impl_Voter : Contract Tryz.prog 206 K_slices_IndexFunc_Limpl_Voter_impl_Voter := contract_of (C := X_slices_IndexFunc_Limpl_Voter_impl_Voter) (fn := Tryz.f206) (tysOk_at (C := X0) rfl tysOk) (ctxOk_of (P := Tryz.prog) trivial) follows Tryz.func206 b_slices_IndexFunc_Limpl_Voter_impl_Voter n_slices_IndexFunc_Limpl_Voter_impl_Voter (fun t ys h => (e_slices_IndexFunc_Limpl_Voter_impl_Voter t).trans h)
theorem b_impl_Cluster_findVoter_c1 : Tryz.f207.body.isSome = true := by kernel_rfl
theorem n_impl_Cluster_findVoter_c1 : (Tryz.f207.name == "runtime.NumGoroutine") = false := by kernel_rfl
theorem c_impl_Cluster_findVoter_c1 : Contract Tryz.prog 207 K_impl_Cluster_findVoter_c1 := contract_of (C := X_impl_Cluster_findVoter_c1) (fn := Tryz.f207) (tysOk_at (C := X0) rfl tysOk) (ctxOk_of (P := Tryz.prog) trivial) follows Tryz.func207 b_impl_Cluster_findVoter_c1 n_impl_Cluster_findVoter_c1 (fun t ys h => (e_impl_Cluster_findVoter_c1 t).trans h)
theorem b_impl_Cluster_findVoter : Tryz.f182.body.isSome = true := by kernel_rfl
theorem n_impl_Cluster_findVoter : (Tryz.f182.name == "runtime.NumGoroutine") = false := by kernel_rfl
theorem c_impl_Cluster_findVoter : Contract Tryz.prog 182 K_impl_Cluster_findVoter := contract_of (C := X_impl_Cluster_findVoter) (fn := Tryz.f182) (tysOk_at (C := X0) rfl tysOk) (ctxOk_of (P := Tryz.prog) ⟨c_slices_IndexFunc_Limpl_Voter_impl_Voter, c_impl_Cluster_findVoter_c1, trivial⟩) follows Tryz.func182 b_impl_Cluster_findVoter n_impl_Cluster_findVoter (fun t ys h => (e_impl_Cluster_findVoter t).trans h)
theorem b_impl_Voter_chosen_c1 : Tryz.f210.body.isSome = true := by kernel_rfl
theorem n_impl_Voter_chosen_c1 : (Tryz.f210.name == "runtime.NumGoroutine") = false := by kernel_rfl
theorem c_impl_Voter_chosen_c1 : Contract Tryz.prog 210 K_impl_Voter_chosen_c1 := contract_of (C := X_impl_Voter_chosen_c1) (fn := Tryz.f210) (tysOk_at (C := X0) rfl tysOk) (ctxOk_of (P := Tryz.prog) trivial) follows Tryz.func210 b_impl_Voter_chosen_c1 n_impl_Voter_chosen_c1 (fun t ys h => (e_impl_Voter_chosen_c1 t).trans h)
theorem b_impl_Voter_chosen : Tryz.f186.body.isSome = true := by kernel_rfl
theorem n_impl_Voter_chosen : (Tryz.f186.name == "runtime.NumGoroutine") = false := by kernel_rfl
theorem c_impl_Voter_chosen : Contract Tryz.prog 186 K_impl_Voter_chosen := contract_of (C := X_impl_Voter_chosen) (fn := Tryz.f186) (tysOk_at (C := X0) rfl tysOk) (ctxOk_of (P := Tryz.prog) ⟨c_slices_IndexFunc_Limpl_Choice_impl_Choice, c_impl_Voter_chosen_c1, trivial⟩) follows Tryz.func186 b_impl_Voter_chosen n_impl_Voter_chosen (fun t ys h => (e_impl_Voter_chosen t).trans h)
theorem b_impl_Cluster_isVoted : Tryz.f196.body.isSome = true := by kernel_rfl
theorem n_impl_Cluster_isVoted : (Tryz.f196.name == "runtime.NumGoroutine") = false := by kernel_rfl
theorem c_impl_Cluster_isVoted : Contract Tryz.prog 196 K_impl_Cluster_isVoted := contract_of (C := X_impl_Cluster_isVoted) (fn := Tryz.f196) (tysOk_at (C := X0) rfl tysOk) (ctxOk_of (P := Tryz.prog) ⟨c_impl_isAbove, c_impl_Cluster_findVoter, c_impl_Voter_chosen, trivial⟩) follows Tryz.func196 b_impl_Cluster_isVoted n_impl_Cluster_isVoted (fun t ys h => (e_impl_Cluster_isVoted t).trans h)
theorem b_impl_Cluster_votesFault : Tryz.f143.body.isSome = true := by kernel_rfl
theorem n_impl_Cluster_votesFault : (Tryz.f143.name == "runtime.NumGoroutine") = false := by kernel_rfl
theorem c_impl_Cluster_votesFault : Contract Tryz.prog 143 K_impl_Cluster_votesFault := contract_of (C := X_impl_Cluster_votesFault) (fn := Tryz.f143) (tysOk_at (C := X0) rfl tysOk) (ctxOk_of (P := Tryz.prog) ⟨c_slices_Contains_Lint64_int64, c_impl_VoteFault, c_slices_Contains_Limpl_Vote_impl_Vote, c_impl_Cluster_isVoted, trivial⟩) follows Tryz.func143 b_impl_Cluster_votesFault n_impl_Cluster_votesFault (fun t ys h => (e_impl_Cluster_votesFault t).trans h)
theorem b_impl_Cluster_heardFault_c1 : Tryz.f197.body.isSome = true := by kernel_rfl
theorem n_impl_Cluster_heardFault_c1 : (Tryz.f197.name == "runtime.NumGoroutine") = false := by kernel_rfl
theorem c_impl_Cluster_heardFault_c1 : Contract Tryz.prog 197 K_impl_Cluster_heardFault_c1 := contract_of (C := X_impl_Cluster_heardFault_c1) (fn := Tryz.f197) (tysOk_at (C := X0) rfl tysOk) (ctxOk_of (P := Tryz.prog) ⟨c_impl_within, trivial⟩) follows Tryz.func197 b_impl_Cluster_heardFault_c1 n_impl_Cluster_heardFault_c1 (fun t ys h => (e_impl_Cluster_heardFault_c1 t).trans h)
theorem b_impl_Cluster_heardFault : Tryz.f144.body.isSome = true := by kernel_rfl
theorem n_impl_Cluster_heardFault : (Tryz.f144.name == "runtime.NumGoroutine") = false := by kernel_rfl
theorem c_impl_Cluster_heardFault : Contract Tryz.prog 144 K_impl_Cluster_heardFault := contract_of (C := X_impl_Cluster_heardFault) (fn := Tryz.f144) (tysOk_at (C := X0) rfl tysOk) (ctxOk_of (P := Tryz.prog) ⟨c_slices_ContainsFunc_Lint64_int64, c_slices_Contains_Lint64_int64, c_impl_Cluster_heardFault_c1, trivial⟩) follows Tryz.func144 b_impl_Cluster_heardFault n_impl_Cluster_heardFault (fun t ys h => (e_impl_Cluster_heardFault t).trans h)
theorem b_impl_ClusterFault : Tryz.f73.body.isSome = true := by kernel_rfl
theorem n_impl_ClusterFault : (Tryz.f73.name == "runtime.NumGoroutine") = false := by kernel_rfl
theorem c_impl_ClusterFault : Contract Tryz.prog 73 K_impl_ClusterFault := contract_of (C := X_impl_ClusterFault) (fn := Tryz.f73) (tysOk_at (C := X0) rfl tysOk) (ctxOk_of (P := Tryz.prog) ⟨c_impl_within, c_impl_QuorumFault, c_impl_badFault, c_impl_TreeFault, c_impl_Cluster_votersFault, c_impl_Cluster_votesFault, c_impl_Cluster_heardFault, trivial⟩) follows Tryz.func73 b_impl_ClusterFault n_impl_ClusterFault (fun t ys h => (e_impl_ClusterFault t).trans h)
theorem b_laws_eqInt64S : Tryz.f76.body.isSome = true := by kernel_rfl
theorem n_laws_eqInt64S : (Tryz.f76.name == "runtime.NumGoroutine") = false := by kernel_rfl
theorem c_laws_eqInt64S : Contract Tryz.prog 76 K_laws_eqInt64S := contract_of (C := X_laws_eqInt64S) (fn := Tryz.f76) (tysOk_at (C := X0) rfl tysOk) (ctxOk_of (P := Tryz.prog) trivial) follows Tryz.func76 b_laws_eqInt64S n_laws_eqInt64S (fun t ys h => (e_laws_eqInt64S t).trans h)
theorem b_laws_eqQuorum : Tryz.f75.body.isSome = true := by kernel_rfl
theorem n_laws_eqQuorum : (Tryz.f75.name == "runtime.NumGoroutine") = false := by kernel_rfl
theorem c_laws_eqQuorum : Contract Tryz.prog 75 K_laws_eqQuorum := contract_of (C := X_laws_eqQuorum) (fn := Tryz.f75) (tysOk_at (C := X0) rfl tysOk) (ctxOk_of (P := Tryz.prog) ⟨c_laws_eqInt64S, trivial⟩) follows Tryz.func75 b_laws_eqQuorum n_laws_eqQuorum (fun t ys h => (e_laws_eqQuorum t).trans h)
theorem b_laws_eqNode : Tryz.f146.body.isSome = true := by kernel_rfl
theorem n_laws_eqNode : (Tryz.f146.name == "runtime.NumGoroutine") = false := by kernel_rfl
theorem c_laws_eqNode : Contract Tryz.prog 146 K_laws_eqNode := contract_of (C := X_laws_eqNode) (fn := Tryz.f146) (tysOk_at (C := X0) rfl tysOk) (ctxOk_of (P := Tryz.prog) trivial) follows Tryz.func146 b_laws_eqNode n_laws_eqNode (fun t ys h => (e_laws_eqNode t).trans h)
theorem b_laws_eqNodeS : Tryz.f77.body.isSome = true := by kernel_rfl
theorem n_laws_eqNodeS : (Tryz.f77.name == "runtime.NumGoroutine") = false := by kernel_rfl
theorem c_laws_eqNodeS : Contract Tryz.prog 77 K_laws_eqNodeS := contract_of (C := X_laws_eqNodeS) (fn := Tryz.f77) (tysOk_at (C := X0) rfl tysOk) (ctxOk_of (P := Tryz.prog) ⟨c_laws_eqNode, trivial⟩) follows Tryz.func77 b_laws_eqNodeS n_laws_eqNodeS (fun t ys h => (e_laws_eqNodeS t).trans h)
theorem b_laws_eqRef : Tryz.f199.body.isSome = true := by kernel_rfl
theorem n_laws_eqRef : (Tryz.f199.name == "runtime.NumGoroutine") = false := by kernel_rfl
theorem c_laws_eqRef : Contract Tryz.prog 199 K_laws_eqRef := contract_of (C := X_laws_eqRef) (fn := Tryz.f199) (tysOk_at (C := X0) rfl tysOk) (ctxOk_of (P := Tryz.prog) trivial) follows Tryz.func199 b_laws_eqRef n_laws_eqRef (fun t ys h => (e_laws_eqRef t).trans h)
theorem b_laws_eqChoice : Tryz.f162.body.isSome = true := by kernel_rfl
theorem n_laws_eqChoice : (Tryz.f162.name == "runtime.NumGoroutine") = false := by kernel_rfl
theorem c_laws_eqChoice : Contract Tryz.prog 162 K_laws_eqChoice := contract_of (C := X_laws_eqChoice) (fn := Tryz.f162) (tysOk_at (C := X0) rfl tysOk) (ctxOk_of (P := Tryz.prog) ⟨c_laws_eqRef, trivial⟩) follows Tryz.func162 b_laws_eqChoice n_laws_eqChoice (fun t ys h => (e_laws_eqChoice t).trans h)
theorem b_laws_eqChoiceS : Tryz.f103.body.isSome = true := by kernel_rfl
theorem n_laws_eqChoiceS : (Tryz.f103.name == "runtime.NumGoroutine") = false := by kernel_rfl
theorem c_laws_eqChoiceS : Contract Tryz.prog 103 K_laws_eqChoiceS := contract_of (C := X_laws_eqChoiceS) (fn := Tryz.f103) (tysOk_at (C := X0) rfl tysOk) (ctxOk_of (P := Tryz.prog) ⟨c_laws_eqChoice, trivial⟩) follows Tryz.func103 b_laws_eqChoiceS n_laws_eqChoiceS (fun t ys h => (e_laws_eqChoiceS t).trans h)
theorem b_laws_eqVoter : Tryz.f147.body.isSome = true := by kernel_rfl
theorem n_laws_eqVoter : (Tryz.f147.name == "runtime.NumGoroutine") = false := by kernel_rfl
theorem c_laws_eqVoter : Contract Tryz.prog 147 K_laws_eqVoter := contract_of (C := X_laws_eqVoter) (fn := Tryz.f147) (tysOk_at (C := X0) rfl tysOk) (ctxOk_of (P := Tryz.prog) ⟨c_laws_eqChoiceS, trivial⟩) follows Tryz.func147 b_laws_eqVoter n_laws_eqVoter (fun t ys h => (e_laws_eqVoter t).trans h)
theorem b_laws_eqVoterS : Tryz.f78.body.isSome = true := by kernel_rfl
theorem n_laws_eqVoterS : (Tryz.f78.name == "runtime.NumGoroutine") = false := by kernel_rfl
theorem c_laws_eqVoterS : Contract Tryz.prog 78 K_laws_eqVoterS := contract_of (C := X_laws_eqVoterS) (fn := Tryz.f78) (tysOk_at (C := X0) rfl tysOk) (ctxOk_of (P := Tryz.prog) ⟨c_laws_eqVoter, trivial⟩) follows Tryz.func78 b_laws_eqVoterS n_laws_eqVoterS (fun t ys h => (e_laws_eqVoterS t).trans h)
theorem b_laws_eqVote : Tryz.f148.body.isSome = true := by kernel_rfl
theorem n_laws_eqVote : (Tryz.f148.name == "runtime.NumGoroutine") = false := by kernel_rfl
theorem c_laws_eqVote : Contract Tryz.prog 148 K_laws_eqVote := contract_of (C := X_laws_eqVote) (fn := Tryz.f148) (tysOk_at (C := X0) rfl tysOk) (ctxOk_of (P := Tryz.prog) ⟨c_laws_eqRef, trivial⟩) follows Tryz.func148 b_laws_eqVote n_laws_eqVote (fun t ys h => (e_laws_eqVote t).trans h)
theorem b_laws_eqVoteS : Tryz.f79.body.isSome = true := by kernel_rfl
theorem n_laws_eqVoteS : (Tryz.f79.name == "runtime.NumGoroutine") = false := by kernel_rfl
theorem c_laws_eqVoteS : Contract Tryz.prog 79 K_laws_eqVoteS := contract_of (C := X_laws_eqVoteS) (fn := Tryz.f79) (tysOk_at (C := X0) rfl tysOk) (ctxOk_of (P := Tryz.prog) ⟨c_laws_eqVote, trivial⟩) follows Tryz.func79 b_laws_eqVoteS n_laws_eqVoteS (fun t ys h => (e_laws_eqVoteS t).trans h)
theorem b_laws_eqInt64SS : Tryz.f80.body.isSome = true := by kernel_rfl
theorem n_laws_eqInt64SS : (Tryz.f80.name == "runtime.NumGoroutine") = false := by kernel_rfl
theorem c_laws_eqInt64SS : Contract Tryz.prog 80 K_laws_eqInt64SS := contract_of (C := X_laws_eqInt64SS) (fn := Tryz.f80) (tysOk_at (C := X0) rfl tysOk) (ctxOk_of (P := Tryz.prog) ⟨c_laws_eqInt64S, trivial⟩) follows Tryz.func80 b_laws_eqInt64SS n_laws_eqInt64SS (fun t ys h => (e_laws_eqInt64SS t).trans h)
theorem b_laws_eqCluster : Tryz.f20.body.isSome = true := by kernel_rfl
theorem n_laws_eqCluster : (Tryz.f20.name == "runtime.NumGoroutine") = false := by kernel_rfl
theorem c_laws_eqCluster : Contract Tryz.prog 20 K_laws_eqCluster := contract_of (C := X_laws_eqCluster) (fn := Tryz.f20) (tysOk_at (C := X0) rfl tysOk) (ctxOk_of (P := Tryz.prog) ⟨c_laws_eqQuorum, c_laws_eqInt64S, c_laws_eqNodeS, c_laws_eqVoterS, c_laws_eqVoteS, c_laws_eqInt64SS, trivial⟩) follows Tryz.func20 b_laws_eqCluster n_laws_eqCluster (fun t ys h => (e_laws_eqCluster t).trans h)
theorem b_laws_markInt64S : Tryz.f92.body.isSome = true := by kernel_rfl
theorem n_laws_markInt64S : (Tryz.f92.name == "runtime.NumGoroutine") = false := by kernel_rfl
theorem c_laws_markInt64S : Contract Tryz.prog 92 K_laws_markInt64S := contract_of (C := X_laws_markInt64S) (fn := Tryz.f92) (tysOk_at (C := X0) rfl tysOk) (ctxOk_of (P := Tryz.prog) trivial) follows Tryz.func92 b_laws_markInt64S n_laws_markInt64S (fun t ys h => (e_laws_markInt64S t).trans h)
theorem b_laws_markQuorum : Tryz.f91.body.isSome = true := by kernel_rfl
theorem n_laws_markQuorum : (Tryz.f91.name == "runtime.NumGoroutine") = false := by kernel_rfl
theorem c_laws_markQuorum : Contract Tryz.prog 91 K_laws_markQuorum := contract_of (C := X_laws_markQuorum) (fn := Tryz.f91) (tysOk_at (C := X0) rfl tysOk) (ctxOk_of (P := Tryz.prog) ⟨c_laws_markInt64S, trivial⟩) follows Tryz.func91 b_laws_markQuorum n_laws_markQuorum (fun t ys h => (e_laws_markQuorum t).trans h)
theorem b_laws_markNodeS : Tryz.f93.body.isSome = true := by kernel_rfl
theorem n_laws_markNodeS : (Tryz.f93.name == "runtime.NumGoroutine") = false := by kernel_rfl
theorem c_laws_markNodeS : Contract Tryz.prog 93 K_laws_markNodeS := contract_of (C := X_laws_markNodeS) (fn := Tryz.f93) (tysOk_at (C := X0) rfl tysOk) (ctxOk_of (P := Tryz.prog) trivial) follows Tryz.func93 b_laws_markNodeS n_laws_markNodeS (fun t ys h => (e_laws_markNodeS t).trans h)
theorem b_laws_markChoiceS : Tryz.f104.body.isSome = true := by kernel_rfl
theorem n_laws_markChoiceS : (Tryz.f104.name == "runtime.NumGoroutine") = false := by kernel_rfl
theorem c_laws_markChoiceS : Contract Tryz.prog 104 K_laws_markChoiceS := contract_of (C := X_laws_markChoiceS) (fn := Tryz.f104) (tysOk_at (C := X0) rfl tysOk) (ctxOk_of (P := Tryz.prog) trivial) follows Tryz.func104 b_laws_markChoiceS n_laws_markChoiceS (fun t ys h => (e_laws_markChoiceS t).trans h)
theorem b_laws_markVoterS : Tryz.f94.body.isSome = true := by kernel_rfl
theorem n_laws_markVoterS : (Tryz.f94.name == "runtime.NumGoroutine") = false := by kernel_rfl
theorem c_laws_markVoterS : Contract Tryz.prog 94 K_laws_markVoterS := contract_of (C := X_laws_markVoterS) (fn := Tryz.f94) (tysOk_at (C := X0) rfl tysOk) (ctxOk_of (P := Tryz.prog) ⟨c_laws_markChoiceS, trivial⟩) follows Tryz.func94 b_laws_markVoterS n_laws_markVoterS (fun t ys h => (e_laws_markVoterS t).trans h)
theorem b_laws_markVoteS : Tryz.f95.body.isSome = true := by kernel_rfl
theorem n_laws_markVoteS : (Tryz.f95.name == "runtime.NumGoroutine") = false := by kernel_rfl
theorem c_laws_markVoteS : Contract Tryz.prog 95 K_laws_markVoteS := contract_of (C := X_laws_markVoteS) (fn := Tryz.f95) (tysOk_at (C := X0) rfl tysOk) (ctxOk_of (P := Tryz.prog) trivial) follows Tryz.func95 b_laws_markVoteS n_laws_markVoteS (fun t ys h => (e_laws_markVoteS t).trans h)
theorem b_laws_markInt64SS : Tryz.f96.body.isSome = true := by kernel_rfl
theorem n_laws_markInt64SS : (Tryz.f96.name == "runtime.NumGoroutine") = false := by kernel_rfl
theorem c_laws_markInt64SS : Contract Tryz.prog 96 K_laws_markInt64SS := contract_of (C := X_laws_markInt64SS) (fn := Tryz.f96) (tysOk_at (C := X0) rfl tysOk) (ctxOk_of (P := Tryz.prog) ⟨c_laws_markInt64S, trivial⟩) follows Tryz.func96 b_laws_markInt64SS n_laws_markInt64SS (fun t ys h => (e_laws_markInt64SS t).trans h)
theorem b_laws_markCluster : Tryz.f28.body.isSome = true := by kernel_rfl
theorem n_laws_markCluster : (Tryz.f28.name == "runtime.NumGoroutine") = false := by kernel_rfl
theorem c_laws_markCluster : Contract Tryz.prog 28 K_laws_markCluster := contract_of (C := X_laws_markCluster) (fn := Tryz.f28) (tysOk_at (C := X0) rfl tysOk) (ctxOk_of (P := Tryz.prog) ⟨c_laws_markQuorum, c_laws_markInt64S, c_laws_markNodeS, c_laws_markVoterS, c_laws_markVoteS, c_laws_markInt64SS, trivial⟩) follows Tryz.func28 b_laws_markCluster n_laws_markCluster (fun t ys h => (e_laws_markCluster t).trans h)
theorem b_laws_heldInt64S : Tryz.f97.body.isSome = true := by kernel_rfl
theorem n_laws_heldInt64S : (Tryz.f97.name == "runtime.NumGoroutine") = false := by kernel_rfl
theorem c_laws_heldInt64S : Contract Tryz.prog 97 K_laws_heldInt64S := contract_of (C := X_laws_heldInt64S) (fn := Tryz.f97) (tysOk_at (C := X0) rfl tysOk) (ctxOk_of (P := Tryz.prog) trivial) follows Tryz.func97 b_laws_heldInt64S n_laws_heldInt64S (fun t ys h => (e_laws_heldInt64S t).trans h)
theorem b_impl_Cluster_isHearer : Tryz.f109.body.isSome = true := by kernel_rfl
theorem n_impl_Cluster_isHearer : (Tryz.f109.name == "runtime.NumGoroutine") = false := by kernel_rfl
theorem c_impl_Cluster_isHearer : Contract Tryz.prog 109 K_impl_Cluster_isHearer := contract_of (C := X_impl_Cluster_isHearer) (fn := Tryz.f109) (tysOk_at (C := X0) rfl tysOk) (ctxOk_of (P := Tryz.prog) ⟨c_impl_within, trivial⟩) follows Tryz.func109 b_impl_Cluster_isHearer n_impl_Cluster_isHearer (fun t ys h => (e_impl_Cluster_isHearer t).trans h)
theorem b_laws_heldChoiceS : Tryz.f105.body.isSome = true := by kernel_rfl
theorem n_laws_heldChoiceS : (Tryz.f105.name == "runtime.NumGoroutine") = false := by kernel_rfl
theorem c_laws_heldChoiceS : Contract Tryz.prog 105 K_laws_heldChoiceS := contract_of (C := X_laws_heldChoiceS) (fn := Tryz.f105) (tysOk_at (C := X0) rfl tysOk) (ctxOk_of (P := Tryz.prog) trivial) follows Tryz.func105 b_laws_heldChoiceS n_laws_heldChoiceS (fun t ys h => (e_laws_heldChoiceS t).trans h)
theorem b_spec_l12Err : Tryz.f110.body.isSome = true := by kernel_rfl
theorem n_spec_l12Err : (Tryz.f110.name == "runtime.NumGoroutine") = false := by kernel_rfl
theorem c_spec_l12Err : Contract Tryz.prog 110 K_spec_l12Err := contract_of (C := X_spec_l12Err) (fn := Tryz.f110) (tysOk_at (C := X0) rfl tysOk) (ctxOk_of (P := Tryz.prog) trivial) follows Tryz.func110 b_spec_l12Err n_spec_l12Err (fun t ys h => (e_spec_l12Err t).trans h)
theorem b_spec_l11Copy : Tryz.f163.body.isSome = true := by kernel_rfl
theorem n_spec_l11Copy : (Tryz.f163.name == "runtime.NumGoroutine") = false := by kernel_rfl
theorem c_spec_l11Copy : Contract Tryz.prog 163 K_spec_l11Copy := contract_of (C := X_spec_l11Copy) (fn := Tryz.f163) (tysOk_at (C := X0) rfl tysOk) (ctxOk_of (P := Tryz.prog) trivial) follows Tryz.func163 b_spec_l11Copy n_spec_l11Copy (fun t ys h => (e_spec_l11Copy t).trans h)
theorem b_spec_l12Copy : Tryz.f111.body.isSome = true := by kernel_rfl
theorem n_spec_l12Copy : (Tryz.f111.name == "runtime.NumGoroutine") = false := by kernel_rfl
theorem c_spec_l12Copy : Contract Tryz.prog 111 K_spec_l12Copy := contract_of (C := X_spec_l12Copy) (fn := Tryz.f111) (tysOk_at (C := X0) rfl tysOk) (ctxOk_of (P := Tryz.prog) ⟨c_spec_l11Copy, trivial⟩) follows Tryz.func111 b_spec_l12Copy n_spec_l12Copy (fun t ys h => (e_spec_l12Copy t).trans h)
theorem b_spec_HearAt : Tryz.f43.body.isSome = true := by kernel_rfl
theorem n_spec_HearAt : (Tryz.f43.name == "runtime.NumGoroutine") = false := by kernel_rfl
theorem c_spec_HearAt : Contract Tryz.prog 43 K_spec_HearAt := contract_of (C := X_spec_HearAt) (fn := Tryz.f43) (tysOk_at (C := X0) rfl tysOk) (ctxOk_of (P := Tryz.prog) ⟨c_spec_l12Fault, c_spec_l4Among, c_spec_l1In, c_spec_l12Err, c_spec_l12Copy, trivial⟩) follows Tryz.func43 b_spec_HearAt n_spec_HearAt (fun t ys h => (e_spec_HearAt t).trans h)
theorem b_slices_Clone_Limpl_Node_impl_Node : Tryz.f165.body.isSome = true := by kernel_rfl
theorem n_slices_Clone_Limpl_Node_impl_Node : (Tryz.f165.name == "runtime.NumGoroutine") = false := by kernel_rfl
theorem c_slices_Clone_Limpl_Node_impl_Node : Contract Tryz.prog 165 K_slices_Clone_Limpl_Node_impl_Node := contract_of (C := X_slices_Clone_Limpl_Node_impl_Node) (fn := Tryz.f165) (tysOk_at (C := X0) rfl tysOk) (ctxOk_of (P := Tryz.prog) trivial) follows Tryz.func165 b_slices_Clone_Limpl_Node_impl_Node n_slices_Clone_Limpl_Node_impl_Node (fun t ys h => (e_slices_Clone_Limpl_Node_impl_Node t).trans h)
theorem b_slices_Clone_Limpl_Vote_impl_Vote : Tryz.f166.body.isSome = true := by kernel_rfl
theorem n_slices_Clone_Limpl_Vote_impl_Vote : (Tryz.f166.name == "runtime.NumGoroutine") = false := by kernel_rfl
theorem c_slices_Clone_Limpl_Vote_impl_Vote : Contract Tryz.prog 166 K_slices_Clone_Limpl_Vote_impl_Vote := contract_of (C := X_slices_Clone_Limpl_Vote_impl_Vote) (fn := Tryz.f166) (tysOk_at (C := X0) rfl tysOk) (ctxOk_of (P := Tryz.prog) trivial) follows Tryz.func166 b_slices_Clone_Limpl_Vote_impl_Vote n_slices_Clone_Limpl_Vote_impl_Vote (fun t ys h => (e_slices_Clone_Limpl_Vote_impl_Vote t).trans h)
theorem b_slices_Clone_Limpl_Choice_impl_Choice : Tryz.f205.body.isSome = true := by kernel_rfl
theorem n_slices_Clone_Limpl_Choice_impl_Choice : (Tryz.f205.name == "runtime.NumGoroutine") = false := by kernel_rfl
theorem c_slices_Clone_Limpl_Choice_impl_Choice : Contract Tryz.prog 205 K_slices_Clone_Limpl_Choice_impl_Choice := contract_of (C := X_slices_Clone_Limpl_Choice_impl_Choice) (fn := Tryz.f205) (tysOk_at (C := X0) rfl tysOk) (ctxOk_of (P := Tryz.prog) trivial) follows Tryz.func205 b_slices_Clone_Limpl_Choice_impl_Choice n_slices_Clone_Limpl_Choice_impl_Choice (fun t ys h => (e_slices_Clone_Limpl_Choice_impl_Choice t).trans h)
theorem b_impl_ownVoter : Tryz.f167.body.isSome = true := by kernel_rfl
theorem n_impl_ownVoter : (Tryz.f167.name == "runtime.NumGoroutine") = false := by kernel_rfl
theorem c_impl_ownVoter : Contract Tryz.prog 167 K_impl_ownVoter := contract_of (C := X_impl_ownVoter) (fn := Tryz.f167) (tysOk_at (C := X0) rfl tysOk) (ctxOk_of (P := Tryz.prog) ⟨c_slices_Clone_Limpl_Choice_impl_Choice, trivial⟩) follows Tryz.func167 b_impl_ownVoter n_impl_ownVoter (fun t ys h => (e_impl_ownVoter t).trans h)
theorem b_impl_ownCluster : Tryz.f113.body.isSome = true := by kernel_rfl
theorem n_impl_ownCluster : (Tryz.f113.name == "runtime.NumGoroutine") = false := by kernel_rfl
theorem c_impl_ownCluster : Contract Tryz.prog 113 K_impl_ownCluster := contract_of (C := X_impl_ownCluster) (fn := Tryz.f113) (tysOk_at (C := X0) rfl tysOk) (ctxOk_of (P := Tryz.prog) ⟨c_slices_Clone_Lint64_int64, c_slices_Clone_Limpl_Node_impl_Node, c_slices_Clone_Limpl_Vote_impl_Vote, c_impl_ownVoter, trivial⟩) follows Tryz.func113 b_impl_ownCluster n_impl_ownCluster (fun t ys h => (e_impl_ownCluster t).trans h)
theorem b_impl_HearAt : Tryz.f44.body.isSome = true := by kernel_rfl
theorem n_impl_HearAt : (Tryz.f44.name == "runtime.NumGoroutine") = false := by kernel_rfl
theorem c_impl_HearAt : Contract Tryz.prog 44 K_impl_HearAt := contract_of (C := X_impl_HearAt) (fn := Tryz.f44) (tysOk_at (C := X0) rfl tysOk) (ctxOk_of (P := Tryz.prog) ⟨c_impl_ClusterFault, c_slices_Contains_Lint64_int64, c_impl_Cluster_isHearer, c_impl_within, c_impl_ownCluster, trivial⟩) follows Tryz.func44 b_impl_HearAt n_impl_HearAt (fun t ys h => (e_impl_HearAt t).trans h)
theorem b_laws_eqClusterResult : Tryz.f45.body.isSome = true := by kernel_rfl
theorem n_laws_eqClusterResult : (Tryz.f45.name == "runtime.NumGoroutine") = false := by kernel_rfl
theorem c_laws_eqClusterResult : Contract Tryz.prog 45 K_laws_eqClusterResult := contract_of (C := X_laws_eqClusterResult) (fn := Tryz.f45) (tysOk_at (C := X0) rfl tysOk) (ctxOk_of (P := Tryz.prog) ⟨c_laws_eqCluster, trivial⟩) follows Tryz.func45 b_laws_eqClusterResult n_laws_eqClusterResult (fun t ys h => (e_laws_eqClusterResult t).trans h)
theorem b_laws_markClusterResult : Tryz.f46.body.isSome = true := by kernel_rfl
theorem n_laws_markClusterResult : (Tryz.f46.name == "runtime.NumGoroutine") = false := by kernel_rfl
theorem c_laws_markClusterResult : Contract Tryz.prog 46 K_laws_markClusterResult := contract_of (C := X_laws_markClusterResult) (fn := Tryz.f46) (tysOk_at (C := X0) rfl tysOk) (ctxOk_of (P := Tryz.prog) ⟨c_laws_markCluster, trivial⟩) follows Tryz.func46 b_laws_markClusterResult n_laws_markClusterResult (fun t ys h => (e_laws_markClusterResult t).trans h)
theorem b_laws_heldQuorum : Tryz.f168.body.isSome = true := by kernel_rfl
theorem n_laws_heldQuorum : (Tryz.f168.name == "runtime.NumGoroutine") = false := by kernel_rfl
theorem c_laws_heldQuorum : Contract Tryz.prog 168 K_laws_heldQuorum := contract_of (C := X_laws_heldQuorum) (fn := Tryz.f168) (tysOk_at (C := X0) rfl tysOk) (ctxOk_of (P := Tryz.prog) ⟨c_laws_heldInt64S, trivial⟩) follows Tryz.func168 b_laws_heldQuorum n_laws_heldQuorum (fun t ys h => (e_laws_heldQuorum t).trans h)
theorem b_laws_heldNodeS : Tryz.f169.body.isSome = true := by kernel_rfl
theorem n_laws_heldNodeS : (Tryz.f169.name == "runtime.NumGoroutine") = false := by kernel_rfl
theorem c_laws_heldNodeS : Contract Tryz.prog 169 K_laws_heldNodeS := contract_of (C := X_laws_heldNodeS) (fn := Tryz.f169) (tysOk_at (C := X0) rfl tysOk) (ctxOk_of (P := Tryz.prog) trivial) follows Tryz.func169 b_laws_heldNodeS n_laws_heldNodeS (fun t ys h => (e_laws_heldNodeS t).trans h)
theorem b_laws_heldVoterS : Tryz.f170.body.isSome = true := by kernel_rfl
theorem n_laws_heldVoterS : (Tryz.f170.name == "runtime.NumGoroutine") = false := by kernel_rfl
theorem c_laws_heldVoterS : Contract Tryz.prog 170 K_laws_heldVoterS := contract_of (C := X_laws_heldVoterS) (fn := Tryz.f170) (tysOk_at (C := X0) rfl tysOk) (ctxOk_of (P := Tryz.prog) ⟨c_laws_heldChoiceS, trivial⟩) follows Tryz.func170 b_laws_heldVoterS n_laws_heldVoterS (fun t ys h => (e_laws_heldVoterS t).trans h)
theorem b_laws_heldVoteS : Tryz.f171.body.isSome = true := by kernel_rfl
theorem n_laws_heldVoteS : (Tryz.f171.name == "runtime.NumGoroutine") = false := by kernel_rfl
theorem c_laws_heldVoteS : Contract Tryz.prog 171 K_laws_heldVoteS := contract_of (C := X_laws_heldVoteS) (fn := Tryz.f171) (tysOk_at (C := X0) rfl tysOk) (ctxOk_of (P := Tryz.prog) trivial) follows Tryz.func171 b_laws_heldVoteS n_laws_heldVoteS (fun t ys h => (e_laws_heldVoteS t).trans h)
theorem b_laws_heldInt64SS : Tryz.f172.body.isSome = true := by kernel_rfl
theorem n_laws_heldInt64SS : (Tryz.f172.name == "runtime.NumGoroutine") = false := by kernel_rfl
theorem c_laws_heldInt64SS : Contract Tryz.prog 172 K_laws_heldInt64SS := contract_of (C := X_laws_heldInt64SS) (fn := Tryz.f172) (tysOk_at (C := X0) rfl tysOk) (ctxOk_of (P := Tryz.prog) ⟨c_laws_heldInt64S, trivial⟩) follows Tryz.func172 b_laws_heldInt64SS n_laws_heldInt64SS (fun t ys h => (e_laws_heldInt64SS t).trans h)
theorem b_laws_heldCluster : Tryz.f114.body.isSome = true := by kernel_rfl
theorem n_laws_heldCluster : (Tryz.f114.name == "runtime.NumGoroutine") = false := by kernel_rfl
theorem c_laws_heldCluster : Contract Tryz.prog 114 K_laws_heldCluster := contract_of (C := X_laws_heldCluster) (fn := Tryz.f114) (tysOk_at (C := X0) rfl tysOk) (ctxOk_of (P := Tryz.prog) ⟨c_laws_heldInt64S, c_laws_heldQuorum, c_laws_heldNodeS, c_laws_heldVoterS, c_laws_heldVoteS, c_laws_heldInt64SS, trivial⟩) follows Tryz.func114 b_laws_heldCluster n_laws_heldCluster (fun t ys h => (e_laws_heldCluster t).trans h)
theorem b_laws_heldClusterResult : Tryz.f47.body.isSome = true := by kernel_rfl
theorem n_laws_heldClusterResult : (Tryz.f47.name == "runtime.NumGoroutine") = false := by kernel_rfl
theorem c_laws_heldClusterResult : Contract Tryz.prog 47 K_laws_heldClusterResult := contract_of (C := X_laws_heldClusterResult) (fn := Tryz.f47) (tysOk_at (C := X0) rfl tysOk) (ctxOk_of (P := Tryz.prog) ⟨c_laws_heldCluster, trivial⟩) follows Tryz.func47 b_laws_heldClusterResult n_laws_heldClusterResult (fun t ys h => (e_laws_heldClusterResult t).trans h)
theorem b_laws_FnExactHearAt : Tryz.f11.body.isSome = true := by kernel_rfl
theorem n_laws_FnExactHearAt : (Tryz.f11.name == "runtime.NumGoroutine") = false := by kernel_rfl
theorem c_laws_FnExactHearAt : Contract Tryz.prog 11 K_laws_FnExactHearAt := contract_of (C := X_laws_FnExactHearAt) (fn := Tryz.f11) (tysOk_at (C := X0) rfl tysOk) (ctxOk_of (P := Tryz.prog) ⟨c_laws_szCluster, c_laws_toCluster, c_laws_eqCluster, c_laws_markCluster, c_spec_HearAt, c_impl_HearAt, c_laws_eqClusterResult, c_laws_markClusterResult, c_laws_heldClusterResult, trivial⟩) follows Tryz.func11 b_laws_FnExactHearAt n_laws_FnExactHearAt (fun t ys h => (e_laws_FnExactHearAt t).trans h)
end CL
end Go.Dx
