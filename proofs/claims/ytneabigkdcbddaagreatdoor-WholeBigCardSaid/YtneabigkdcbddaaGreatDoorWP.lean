/- The closed runs of WholeBig: its prefix, its remainders, the rest for each remainder. -/
import Derived.Test.YtneabigkdcbddaaGreatDoorWL10
import Derived.KernelRfl
set_option maxRecDepth 100000
set_option linter.unusedVariables false
namespace Ax
namespace Wn
noncomputable def b : IC := bodyC i5
noncomputable def st : St := ⟨putG gL .nil, 13, []⟩
noncomputable def f0 (w : AV) : Tr AV := Tr.set w .nil p0
noncomputable def f1 (w : AV) : Tr AV := Tr.set (.bool false) (f0 w) p2
noncomputable def f2 (w : AV) : Tr AV := Tr.set (.bool true) (Tr.set (.bool true) (f1 w) p13) p3
noncomputable def f3 (w : AV) : Tr AV := Tr.set (.bool false) (Tr.set (.bool true) (f2 w) p14) p15
noncomputable def f4 (w x y z : AV) (r : Nat) : Tr AV := Tr.set (.int .i64 (.ofNat (55 + r))) (Tr.set (.int .i64 (.ofNat (55 + r))) (Tr.set (.int .i64 (.ofNat r)) (Tr.set z (Tr.set y (Tr.set x (f3 w) p16) p17) p18) p19) p20) p0
noncomputable def f5 (w x y z : AV) (r : Nat) : Tr AV := Tr.set .any (Tr.set .any (Tr.set .any (f4 w x y z r) p16) p17) p18
noncomputable def opsOf : IC → List IOp | .rg l => l | _ => []
noncomputable def a4 : IC := hdC (tlC (tlC (tlC b)))
noncomputable def rest : IC := tlC (tlC (tlC (tlC b)))
theorem e1 (w : AV) : exec (hdC b) call10 (f0 w) st = .ok .normal (f1 w) st := by kernel_rfl
theorem e2 (w : AV) : exec (hdC (tlC b)) call10 (f1 w) st = .ok .normal (f2 w) st := by kernel_rfl
theorem e3 (w : AV) : exec (hdC (tlC (tlC b))) call10 (f2 w) st = .ok .normal (f3 w) st := by kernel_rfl
theorem e4 (n : Int) : exec a4 call10 (f3 (.int .i64 n)) st = ofOps (bindV (ret st (binop .rem (.int .i64 n) (.int .i64 (.ofNat 9)))) (fun v s => stepOps (List.drop 2 (opsOf a4)) call10 (Tr.set v (Tr.set (.int .i64 n) (f3 (.int .i64 n)) p16) p17) s)) := by kernel_rfl
theorem gm8 (n : Int) : ofOps (bindV (ret st (some (.int .i64 (.negSucc 7)))) (fun v s => stepOps (List.drop 2 (opsOf a4)) call10 (Tr.set v (Tr.set (.int .i64 n) (f3 (.int .i64 n)) p16) p17) s)) = .ok .normal (f4 (.int .i64 n) (.int .i64 n) (.int .i64 (.negSucc 7)) (.int .i64 (.ofNat 1)) 1) st := by kernel_rfl
theorem gm7 (n : Int) : ofOps (bindV (ret st (some (.int .i64 (.negSucc 6)))) (fun v s => stepOps (List.drop 2 (opsOf a4)) call10 (Tr.set v (Tr.set (.int .i64 n) (f3 (.int .i64 n)) p16) p17) s)) = .ok .normal (f4 (.int .i64 n) (.int .i64 n) (.int .i64 (.negSucc 6)) (.int .i64 (.ofNat 2)) 2) st := by kernel_rfl
theorem gm6 (n : Int) : ofOps (bindV (ret st (some (.int .i64 (.negSucc 5)))) (fun v s => stepOps (List.drop 2 (opsOf a4)) call10 (Tr.set v (Tr.set (.int .i64 n) (f3 (.int .i64 n)) p16) p17) s)) = .ok .normal (f4 (.int .i64 n) (.int .i64 n) (.int .i64 (.negSucc 5)) (.int .i64 (.ofNat 3)) 3) st := by kernel_rfl
theorem gm5 (n : Int) : ofOps (bindV (ret st (some (.int .i64 (.negSucc 4)))) (fun v s => stepOps (List.drop 2 (opsOf a4)) call10 (Tr.set v (Tr.set (.int .i64 n) (f3 (.int .i64 n)) p16) p17) s)) = .ok .normal (f4 (.int .i64 n) (.int .i64 n) (.int .i64 (.negSucc 4)) (.int .i64 (.ofNat 4)) 4) st := by kernel_rfl
theorem gm4 (n : Int) : ofOps (bindV (ret st (some (.int .i64 (.negSucc 3)))) (fun v s => stepOps (List.drop 2 (opsOf a4)) call10 (Tr.set v (Tr.set (.int .i64 n) (f3 (.int .i64 n)) p16) p17) s)) = .ok .normal (f4 (.int .i64 n) (.int .i64 n) (.int .i64 (.negSucc 3)) (.int .i64 (.ofNat 5)) 5) st := by kernel_rfl
theorem gm3 (n : Int) : ofOps (bindV (ret st (some (.int .i64 (.negSucc 2)))) (fun v s => stepOps (List.drop 2 (opsOf a4)) call10 (Tr.set v (Tr.set (.int .i64 n) (f3 (.int .i64 n)) p16) p17) s)) = .ok .normal (f4 (.int .i64 n) (.int .i64 n) (.int .i64 (.negSucc 2)) (.int .i64 (.ofNat 6)) 6) st := by kernel_rfl
theorem gm2 (n : Int) : ofOps (bindV (ret st (some (.int .i64 (.negSucc 1)))) (fun v s => stepOps (List.drop 2 (opsOf a4)) call10 (Tr.set v (Tr.set (.int .i64 n) (f3 (.int .i64 n)) p16) p17) s)) = .ok .normal (f4 (.int .i64 n) (.int .i64 n) (.int .i64 (.negSucc 1)) (.int .i64 (.ofNat 7)) 7) st := by kernel_rfl
theorem gm1 (n : Int) : ofOps (bindV (ret st (some (.int .i64 (.negSucc 0)))) (fun v s => stepOps (List.drop 2 (opsOf a4)) call10 (Tr.set v (Tr.set (.int .i64 n) (f3 (.int .i64 n)) p16) p17) s)) = .ok .normal (f4 (.int .i64 n) (.int .i64 n) (.int .i64 (.negSucc 0)) (.int .i64 (.ofNat 8)) 8) st := by kernel_rfl
theorem g0 (n : Int) : ofOps (bindV (ret st (some (.int .i64 (.ofNat 0)))) (fun v s => stepOps (List.drop 2 (opsOf a4)) call10 (Tr.set v (Tr.set (.int .i64 n) (f3 (.int .i64 n)) p16) p17) s)) = .ok .normal (f4 (.int .i64 n) (.int .i64 n) (.int .i64 (.ofNat 0)) (.int .i64 (.ofNat 9)) 0) st := by kernel_rfl
theorem g1 (n : Int) : ofOps (bindV (ret st (some (.int .i64 (.ofNat 1)))) (fun v s => stepOps (List.drop 2 (opsOf a4)) call10 (Tr.set v (Tr.set (.int .i64 n) (f3 (.int .i64 n)) p16) p17) s)) = .ok .normal (f4 (.int .i64 n) (.int .i64 n) (.int .i64 (.ofNat 1)) (.int .i64 (.ofNat 10)) 1) st := by kernel_rfl
theorem g2 (n : Int) : ofOps (bindV (ret st (some (.int .i64 (.ofNat 2)))) (fun v s => stepOps (List.drop 2 (opsOf a4)) call10 (Tr.set v (Tr.set (.int .i64 n) (f3 (.int .i64 n)) p16) p17) s)) = .ok .normal (f4 (.int .i64 n) (.int .i64 n) (.int .i64 (.ofNat 2)) (.int .i64 (.ofNat 11)) 2) st := by kernel_rfl
theorem g3 (n : Int) : ofOps (bindV (ret st (some (.int .i64 (.ofNat 3)))) (fun v s => stepOps (List.drop 2 (opsOf a4)) call10 (Tr.set v (Tr.set (.int .i64 n) (f3 (.int .i64 n)) p16) p17) s)) = .ok .normal (f4 (.int .i64 n) (.int .i64 n) (.int .i64 (.ofNat 3)) (.int .i64 (.ofNat 12)) 3) st := by kernel_rfl
theorem g4 (n : Int) : ofOps (bindV (ret st (some (.int .i64 (.ofNat 4)))) (fun v s => stepOps (List.drop 2 (opsOf a4)) call10 (Tr.set v (Tr.set (.int .i64 n) (f3 (.int .i64 n)) p16) p17) s)) = .ok .normal (f4 (.int .i64 n) (.int .i64 n) (.int .i64 (.ofNat 4)) (.int .i64 (.ofNat 13)) 4) st := by kernel_rfl
theorem g5 (n : Int) : ofOps (bindV (ret st (some (.int .i64 (.ofNat 5)))) (fun v s => stepOps (List.drop 2 (opsOf a4)) call10 (Tr.set v (Tr.set (.int .i64 n) (f3 (.int .i64 n)) p16) p17) s)) = .ok .normal (f4 (.int .i64 n) (.int .i64 n) (.int .i64 (.ofNat 5)) (.int .i64 (.ofNat 14)) 5) st := by kernel_rfl
theorem g6 (n : Int) : ofOps (bindV (ret st (some (.int .i64 (.ofNat 6)))) (fun v s => stepOps (List.drop 2 (opsOf a4)) call10 (Tr.set v (Tr.set (.int .i64 n) (f3 (.int .i64 n)) p16) p17) s)) = .ok .normal (f4 (.int .i64 n) (.int .i64 n) (.int .i64 (.ofNat 6)) (.int .i64 (.ofNat 15)) 6) st := by kernel_rfl
theorem g7 (n : Int) : ofOps (bindV (ret st (some (.int .i64 (.ofNat 7)))) (fun v s => stepOps (List.drop 2 (opsOf a4)) call10 (Tr.set v (Tr.set (.int .i64 n) (f3 (.int .i64 n)) p16) p17) s)) = .ok .normal (f4 (.int .i64 n) (.int .i64 n) (.int .i64 (.ofNat 7)) (.int .i64 (.ofNat 16)) 7) st := by kernel_rfl
theorem g8 (n : Int) : ofOps (bindV (ret st (some (.int .i64 (.ofNat 8)))) (fun v s => stepOps (List.drop 2 (opsOf a4)) call10 (Tr.set v (Tr.set (.int .i64 n) (f3 (.int .i64 n)) p16) p17) s)) = .ok .normal (f4 (.int .i64 n) (.int .i64 n) (.int .i64 (.ofNat 8)) (.int .i64 (.ofNat 17)) 8) st := by kernel_rfl
end Wn
end Ax
