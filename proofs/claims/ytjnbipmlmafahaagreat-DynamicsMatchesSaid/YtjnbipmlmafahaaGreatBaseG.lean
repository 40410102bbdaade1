import Derived.Test.YtjnbipmlmafahaaGreatBaseA
import Derived.Test.YtjnbipmlmafahaaGreatBaseB
import Derived.Test.YtjnbipmlmafahaaGreatBaseC
import Derived.Test.YtjnbipmlmafahaaGreatBaseD
import Derived.Test.YtjnbipmlmafahaaGreatBaseE
import Derived.Test.YtjnbipmlmafahaaGreatBaseF
set_option linter.unusedVariables false
set_option linter.unusedSimpArgs false
set_option linter.unnecessarySimpa false
namespace Go.Proofs.YtjnbipmlmafahaaGreat
open Go Go.Gv Go.RowKit IntKind
set_option maxRecDepth 100000
set_option maxHeartbeats 1000000
noncomputable def qE (p0 : zO) (p1 : Int) (p2 : Int) (p3 : Int) (p4 : Int) (p5 : Int) (y12 : zO) (y18 : Int × Int) (y21 : Int × Int) (y24 : Int × Int × Int) (y27 : Int × Int) (y30 : Raw × Int) (y36 : (List Out) × Int) (J39 : Option (Bool)) : Nat → Option (Bool)
 | 0 => J39
 | r44 + 1 => (xY y12).bind fun y47 => (wH y12 (p1) (p2)).bind fun y50 => (vX y12 (p1)).bind fun y53 => (xF y12 (p4) (p2)).bind fun y56 => (yE y12 (p1) (p2)).bind fun y59 => (qZ y12 (p3) (p4) (p5) (p2)).bind fun y65 => (qF y12).bind fun y68 => (jQ p0).bind fun y71 => if ((y68) != y71) = true then (some false) else (if ((y47.1) != y18.1) = true then (some false) else (if ((y47.2) != y18.2) = true then (some false) else (if ((y50.1) != y21.1) = true then (some false) else (if ((y50.2) != y21.2) = true then (some false) else (if ((y53.1) != y24.1) = true then (some false) else (if ((y53.2.1) != y24.2.1) = true then (some false) else (if ((y53.2.2) != y24.2.2) = true then (some false) else (if ((y56.1) != y27.1) = true then (some false) else (if ((y56.2) != y27.2) = true then (some false) else (if ((y59.2) != y30.2) = true then (some false) else (if ((y65.2) != y36.2) = true then (some false) else ((zY y59.1 y30.1).bind fun y109 => if (!y109) = true then (some false) else ((jW y65.1 y36.1).bind fun y113 => if (!y113) = true then (some false) else ((xW y12 p0).bind fun y117 => if (!y117) = true then (some false) else (qE p0 p1 p2 p3 p4 p5 y12 y18 y21 y24 y27 y30 y36 J39 r44 )))))))))))))))
theorem nH (w : World) (X : Hid) (y : Bool) (K43 : Act → World → Prop) (K44 : Act → World → Prop) (MQ : List (Nat × Obj)) (Y62 : Hid) (Y72 : Hid) (b15 : Nat) (b3 : Nat) (b33 : Nat) (b62 : Nat) (k44 : Nat) (p1 : Int) (p2 : Int) (p3 : Int) (p4 : Int) (p5 : Int) (u37_0_1 : Option Addr) (u37_0_2 : Nat) (u66_0_1 : Option Addr) (u66_0_2 : Nat) (w66 : World) (w72 : World) (y18 : Int × Int) (y21 : Int × Int) (y24 : Int × Int × Int) (y27 : Int × Int) (y30 : Raw × Int) (y36 : (List Out) × Int) (y47 : Int × Int) (y50 : Int × Int) (y53 : Int × Int × Int) (y56 : Int × Int) (y59 : Raw × Int) (y65 : (List Out) × Int)  (hp : (some false) = some y) : Gt (mkG Tryz.prog (bodyPost Tryz.prog Tryz.f3 (Ret E0 w fun w' v => v = .bool y)) Tryz.f3.ntmps w66 ⟨.code (at1 [K43,K44] Tryz.f3 [1,1,1,1,1,1,1,1,1,9,1,0,0,1,0,0,1,1,1,1,1,1,0,0]),at2 [K43,K44] Tryz.f3 [1,1,1,1,1,1,1,1,1,9,1,0,0,1,0,0,1,1,1,1,1,1,0,0],[]⟩ w X Y62 (MQ)) [] (#[true,true,true,true,true,true,false,false,false,false,false,false,false,false,false,false,false,false,false,false,false,false,false,false,false,false,false,false,false,false,false,false,false,false,false,false,false,false,false,false,false,false,false,false,false,false,false,false,false,false,false,false,false,false,false,false,false,false,false,false],[(1,.int .i64 p1),(2,.int .i64 p2),(3,.int .i64 p3),(4,.int .i64 p4),(5,.int .i64 p5),(6,.pointer (some ⟨b3,0,none⟩)),(13,.pointer (some ⟨b15,0,none⟩)),(14,.int .i64 y18.1),(15,.int .i64 y18.2),(16,.int .i64 y21.1),(17,.int .i64 y21.2),(18,.int .i64 y24.1),(19,.int .i64 y24.2.1),(20,.int .i64 y24.2.2),(21,.int .i64 y27.1),(22,.int .i64 y27.2),(23,.pointer (some ⟨b33,0,none⟩)),(24,.int .i64 y30.2),(25,.slice u37_0_1 y36.1.length u37_0_2),(26,.int .i64 y36.2),(27,.int .i64 (k44 : Int)),(28,.int .i64 y47.1),(29,.int .i64 y47.2),(30,.int .i64 y50.1),(31,.int .i64 y50.2),(32,.int .i64 y53.1),(33,.int .i64 y53.2.1),(34,.int .i64 y53.2.2),(35,.int .i64 y56.1),(36,.int .i64 y56.2),(37,.pointer (some ⟨b62,0,none⟩)),(38,.int .i64 y59.2),(39,.slice u66_0_1 y65.1.length u66_0_2),(40,.int .i64 y65.2),(139,.bool true)]) MQ (rd w72 Y72) := by
 refine gz [6,7,8,9,10,11,12,13,14,15,16,17,18,19,20,21,22,23,24,25,26,27,28,29,30,31,32,33,34,35,36,37,38,39,40,41,42,43,44,45,46,47,48,49,50,51,52,53,54,55,56,57,58,59] ?_
 refine yO (fun w75 Y75 C75 B75 => ?_)
 refine zz 14 <| zr' (v := .bool false) ?_
 cases hp
 exact ⟨C75.upd,_,rfl,rfl⟩
theorem nJ (w : World) (X : Hid) (y : Bool) (K43 : Act → World → Prop) (K44 : Act → World → Prop) (MQ : List (Nat × Obj)) (Y62 : Hid) (Y72 : Hid) (b15 : Nat) (b3 : Nat) (b33 : Nat) (b62 : Nat) (k44 : Nat) (p1 : Int) (p2 : Int) (p3 : Int) (p4 : Int) (p5 : Int) (u37_0_1 : Option Addr) (u37_0_2 : Nat) (u66_0_1 : Option Addr) (u66_0_2 : Nat) (w66 : World) (w72 : World) (y18 : Int × Int) (y21 : Int × Int) (y24 : Int × Int × Int) (y27 : Int × Int) (y30 : Raw × Int) (y36 : (List Out) × Int) (y47 : Int × Int) (y50 : Int × Int) (y53 : Int × Int × Int) (y56 : Int × Int) (y59 : Raw × Int) (y65 : (List Out) × Int)  (hp : (some false) = some y) : Gt (mkG Tryz.prog (bodyPost Tryz.prog Tryz.f3 (Ret E0 w fun w' v => v = .bool y)) Tryz.f3.ntmps w66 ⟨.code (at1 [K43,K44] Tryz.f3 [1,1,1,1,1,1,1,1,1,9,1,0,0,1,0,0,1,1,1,1,1,1,0,0]),at2 [K43,K44] Tryz.f3 [1,1,1,1,1,1,1,1,1,9,1,0,0,1,0,0,1,1,1,1,1,1,0,0],[]⟩ w X Y62 (MQ)) [] (#[true,true,true,true,true,true,true,true,true,true,true,false,false,false,false,false,false,false,false,false,false,false,false,false,false,false,false,false,false,false,false,false,false,false,false,false,false,false,false,false,false,false,false,false,false,false,false,false,false,false,false,false,false,false,false,false,false,false,false,false],[(1,.int .i64 p1),(2,.int .i64 p2),(3,.int .i64 p3),(4,.int .i64 p4),(5,.int .i64 p5),(6,.pointer (some ⟨b3,0,none⟩)),(13,.pointer (some ⟨b15,0,none⟩)),(14,.int .i64 y18.1),(15,.int .i64 y18.2),(16,.int .i64 y21.1),(17,.int .i64 y21.2),(18,.int .i64 y24.1),(19,.int .i64 y24.2.1),(20,.int .i64 y24.2.2),(21,.int .i64 y27.1),(22,.int .i64 y27.2),(23,.pointer (some ⟨b33,0,none⟩)),(24,.int .i64 y30.2),(25,.slice u37_0_1 y36.1.length u37_0_2),(26,.int .i64 y36.2),(27,.int .i64 (k44 : Int)),(29,.int .i64 y47.2),(30,.int .i64 y50.1),(31,.int .i64 y50.2),(32,.int .i64 y53.1),(33,.int .i64 y53.2.1),(34,.int .i64 y53.2.2),(35,.int .i64 y56.1),(36,.int .i64 y56.2),(37,.pointer (some ⟨b62,0,none⟩)),(38,.int .i64 y59.2),(39,.slice u66_0_1 y65.1.length u66_0_2),(40,.int .i64 y65.2),(144,.bool true)]) MQ (rd w72 Y72) := by
 refine gz [11,12,13,14,15,16,17,18,19,20,21,22,23,24,25,26,27,28,29,30,31,32,33,34,35,36,37,38,39,40,41,42,43,44,45,46,47,48,49,50,51,52,53,54,55,56,57,58,59] ?_
 refine yO (fun w78 Y78 C78 B78 => ?_)
 refine zz 14 <| zr' (v := .bool false) ?_
 cases hp
 exact ⟨C78.upd,_,rfl,rfl⟩
theorem nG (w : World) (X : Hid) (y : Bool) (K43 : Act → World → Prop) (K44 : Act → World → Prop) (MQ : List (Nat × Obj)) (Y62 : Hid) (Y72 : Hid) (b15 : Nat) (b3 : Nat) (b33 : Nat) (b62 : Nat) (k44 : Nat) (p1 : Int) (p2 : Int) (p3 : Int) (p4 : Int) (p5 : Int) (u37_0_1 : Option Addr) (u37_0_2 : Nat) (u66_0_1 : Option Addr) (u66_0_2 : Nat) (w66 : World) (w72 : World) (y18 : Int × Int) (y21 : Int × Int) (y24 : Int × Int × Int) (y27 : Int × Int) (y30 : Raw × Int) (y36 : (List Out) × Int) (y50 : Int × Int) (y53 : Int × Int × Int) (y56 : Int × Int) (y59 : Raw × Int) (y65 : (List Out) × Int)  (hp : (some false) = some y) : Gt (mkG Tryz.prog (bodyPost Tryz.prog Tryz.f3 (Ret E0 w fun w' v => v = .bool y)) Tryz.f3.ntmps w66 ⟨.code (at1 [K43,K44] Tryz.f3 [1,1,1,1,1,1,1,1,1,9,1,0,0,1,0,0,1,1,1,1,1,1,0,0]),at2 [K43,K44] Tryz.f3 [1,1,1,1,1,1,1,1,1,9,1,0,0,1,0,0,1,1,1,1,1,1,0,0],[]⟩ w X Y62 (MQ)) [] (#[true,true,true,true,true,true,true,true,true,true,true,true,true,true,true,true,false,false,false,false,false,false,false,false,false,false,false,false,false,false,false,false,false,false,false,false,false,false,false,false,false,false,false,false,false,false,false,false,false,false,false,false,false,false,false,false,false,false,false,false],[(1,.int .i64 p1),(2,.int .i64 p2),(3,.int .i64 p3),(4,.int .i64 p4),(5,.int .i64 p5),(6,.pointer (some ⟨b3,0,none⟩)),(13,.pointer (some ⟨b15,0,none⟩)),(14,.int .i64 y18.1),(15,.int .i64 y18.2),(16,.int .i64 y21.1),(17,.int .i64 y21.2),(18,.int .i64 y24.1),(19,.int .i64 y24.2.1),(20,.int .i64 y24.2.2),(21,.int .i64 y27.1),(22,.int .i64 y27.2),(23,.pointer (some ⟨b33,0,none⟩)),(24,.int .i64 y30.2),(25,.slice u37_0_1 y36.1.length u37_0_2),(26,.int .i64 y36.2),(27,.int .i64 (k44 : Int)),(30,.int .i64 y50.1),(31,.int .i64 y50.2),(32,.int .i64 y53.1),(33,.int .i64 y53.2.1),(34,.int .i64 y53.2.2),(35,.int .i64 y56.1),(36,.int .i64 y56.2),(37,.pointer (some ⟨b62,0,none⟩)),(38,.int .i64 y59.2),(39,.slice u66_0_1 y65.1.length u66_0_2),(40,.int .i64 y65.2),(149,.bool true)]) MQ (rd w72 Y72) := by
 refine gz [16,17,18,19,20,21,22,23,24,25,26,27,28,29,30,31,32,33,34,35,36,37,38,39,40,41,42,43,44,45,46,47,48,49,50,51,52,53,54,55,56,57,58,59] ?_
 refine yO (fun w81 Y81 C81 B81 => ?_)
 refine zz 14 <| zr' (v := .bool false) ?_
 cases hp
 exact ⟨C81.upd,_,rfl,rfl⟩
theorem nD (w : World) (X : Hid) (y : Bool) (K43 : Act → World → Prop) (K44 : Act → World → Prop) (MQ : List (Nat × Obj)) (Y62 : Hid) (Y72 : Hid) (b15 : Nat) (b3 : Nat) (b33 : Nat) (b62 : Nat) (k44 : Nat) (p1 : Int) (p2 : Int) (p3 : Int) (p4 : Int) (p5 : Int) (u37_0_1 : Option Addr) (u37_0_2 : Nat) (u66_0_1 : Option Addr) (u66_0_2 : Nat) (w66 : World) (w72 : World) (y18 : Int × Int) (y21 : Int × Int) (y24 : Int × Int × Int) (y27 : Int × Int) (y30 : Raw × Int) (y36 : (List Out) × Int) (y50 : Int × Int) (y53 : Int × Int × Int) (y56 : Int × Int) (y59 : Raw × Int) (y65 : (List Out) × Int)  (hp : (some false) = some y) : Gt (mkG Tryz.prog (bodyPost Tryz.prog Tryz.f3 (Ret E0 w fun w' v => v = .bool y)) Tryz.f3.ntmps w66 ⟨.code (at1 [K43,K44] Tryz.f3 [1,1,1,1,1,1,1,1,1,9,1,0,0,1,0,0,1,1,1,1,1,1,0,0]),at2 [K43,K44] Tryz.f3 [1,1,1,1,1,1,1,1,1,9,1,0,0,1,0,0,1,1,1,1,1,1,0,0],[]⟩ w X Y62 (MQ)) [] (#[true,true,true,true,true,true,true,true,true,true,true,true,true,true,true,true,true,true,true,true,true,false,false,false,false,false,false,false,false,false,false,false,false,false,false,false,false,false,false,false,false,false,false,false,false,false,false,false,false,false,false,false,false,false,false,false,false,false,false,false],[(1,.int .i64 p1),(2,.int .i64 p2),(3,.int .i64 p3),(4,.int .i64 p4),(5,.int .i64 p5),(6,.pointer (some ⟨b3,0,none⟩)),(13,.pointer (some ⟨b15,0,none⟩)),(14,.int .i64 y18.1),(15,.int .i64 y18.2),(16,.int .i64 y21.1),(17,.int .i64 y21.2),(18,.int .i64 y24.1),(19,.int .i64 y24.2.1),(20,.int .i64 y24.2.2),(21,.int .i64 y27.1),(22,.int .i64 y27.2),(23,.pointer (some ⟨b33,0,none⟩)),(24,.int .i64 y30.2),(25,.slice u37_0_1 y36.1.length u37_0_2),(26,.int .i64 y36.2),(27,.int .i64 (k44 : Int)),(31,.int .i64 y50.2),(32,.int .i64 y53.1),(33,.int .i64 y53.2.1),(34,.int .i64 y53.2.2),(35,.int .i64 y56.1),(36,.int .i64 y56.2),(37,.pointer (some ⟨b62,0,none⟩)),(38,.int .i64 y59.2),(39,.slice u66_0_1 y65.1.length u66_0_2),(40,.int .i64 y65.2),(154,.bool true)]) MQ (rd w72 Y72) := by
 refine gz [21,22,23,24,25,26,27,28,29,30,31,32,33,34,35,36,37,38,39,40,41,42,43,44,45,46,47,48,49,50,51,52,53,54,55,56,57,58,59] ?_
 refine yO (fun w84 Y84 C84 B84 => ?_)
 refine zz 14 <| zr' (v := .bool false) ?_
 cases hp
 exact ⟨C84.upd,_,rfl,rfl⟩
theorem pR (w : World) (X : Hid) (y : Bool) (K43 : Act → World → Prop) (K44 : Act → World → Prop) (MQ : List (Nat × Obj)) (Y62 : Hid) (Y72 : Hid) (b15 : Nat) (b3 : Nat) (b33 : Nat) (b62 : Nat) (k44 : Nat) (p1 : Int) (p2 : Int) (p3 : Int) (p4 : Int) (p5 : Int) (u37_0_1 : Option Addr) (u37_0_2 : Nat) (u66_0_1 : Option Addr) (u66_0_2 : Nat) (w66 : World) (w72 : World) (y18 : Int × Int) (y21 : Int × Int) (y24 : Int × Int × Int) (y27 : Int × Int) (y30 : Raw × Int) (y36 : (List Out) × Int) (y53 : Int × Int × Int) (y56 : Int × Int) (y59 : Raw × Int) (y65 : (List Out) × Int)  (hp : (some false) = some y) : Gt (mkG Tryz.prog (bodyPost Tryz.prog Tryz.f3 (Ret E0 w fun w' v => v = .bool y)) Tryz.f3.ntmps w66 ⟨.code (at1 [K43,K44] Tryz.f3 [1,1,1,1,1,1,1,1,1,9,1,0,0,1,0,0,1,1,1,1,1,1,0,0]),at2 [K43,K44] Tryz.f3 [1,1,1,1,1,1,1,1,1,9,1,0,0,1,0,0,1,1,1,1,1,1,0,0],[]⟩ w X Y62 (MQ)) [] (#[true,true,true,true,true,true,true,true,true,true,true,true,true,true,true,true,true,true,true,true,true,true,true,true,true,true,false,false,false,false,false,false,false,false,false,false,false,false,false,false,false,false,false,false,false,false,false,false,false,false,false,false,false,false,false,false,false,false,false,false],[(1,.int .i64 p1),(2,.int .i64 p2),(3,.int .i64 p3),(4,.int .i64 p4),(5,.int .i64 p5),(6,.pointer (some ⟨b3,0,none⟩)),(13,.pointer (some ⟨b15,0,none⟩)),(14,.int .i64 y18.1),(15,.int .i64 y18.2),(16,.int .i64 y21.1),(17,.int .i64 y21.2),(18,.int .i64 y24.1),(19,.int .i64 y24.2.1),(20,.int .i64 y24.2.2),(21,.int .i64 y27.1),(22,.int .i64 y27.2),(23,.pointer (some ⟨b33,0,none⟩)),(24,.int .i64 y30.2),(25,.slice u37_0_1 y36.1.length u37_0_2),(26,.int .i64 y36.2),(27,.int .i64 (k44 : Int)),(32,.int .i64 y53.1),(33,.int .i64 y53.2.1),(34,.int .i64 y53.2.2),(35,.int .i64 y56.1),(36,.int .i64 y56.2),(37,.pointer (some ⟨b62,0,none⟩)),(38,.int .i64 y59.2),(39,.slice u66_0_1 y65.1.length u66_0_2),(40,.int .i64 y65.2),(159,.bool true)]) MQ (rd w72 Y72) := by
 refine gz [26,27,28,29,30,31,32,33,34,35,36,37,38,39,40,41,42,43,44,45,46,47,48,49,50,51,52,53,54,55,56,57,58,59] ?_
 refine yO (fun w87 Y87 C87 B87 => ?_)
 refine zz 14 <| zr' (v := .bool false) ?_
 cases hp
 exact ⟨C87.upd,_,rfl,rfl⟩
theorem pV (w : World) (X : Hid) (y : Bool) (K43 : Act → World → Prop) (K44 : Act → World → Prop) (MQ : List (Nat × Obj)) (Y62 : Hid) (Y72 : Hid) (b15 : Nat) (b3 : Nat) (b33 : Nat) (b62 : Nat) (k44 : Nat) (p1 : Int) (p2 : Int) (p3 : Int) (p4 : Int) (p5 : Int) (u37_0_1 : Option Addr) (u37_0_2 : Nat) (u66_0_1 : Option Addr) (u66_0_2 : Nat) (w66 : World) (w72 : World) (y18 : Int × Int) (y21 : Int × Int) (y24 : Int × Int × Int) (y27 : Int × Int) (y30 : Raw × Int) (y36 : (List Out) × Int) (y53 : Int × Int × Int) (y56 : Int × Int) (y59 : Raw × Int) (y65 : (List Out) × Int)  (hp : (some false) = some y) : Gt (mkG Tryz.prog (bodyPost Tryz.prog Tryz.f3 (Ret E0 w fun w' v => v = .bool y)) Tryz.f3.ntmps w66 ⟨.code (at1 [K43,K44] Tryz.f3 [1,1,1,1,1,1,1,1,1,9,1,0,0,1,0,0,1,1,1,1,1,1,0,0]),at2 [K43,K44] Tryz.f3 [1,1,1,1,1,1,1,1,1,9,1,0,0,1,0,0,1,1,1,1,1,1,0,0],[]⟩ w X Y62 (MQ)) [] (#[true,true,true,true,true,true,true,true,true,true,true,true,true,true,true,true,true,true,true,true,true,true,true,true,true,true,true,true,true,true,true,false,false,false,false,false,false,false,false,false,false,false,false,false,false,false,false,false,false,false,false,false,false,false,false,false,false,false,false,false],[(1,.int .i64 p1),(2,.int .i64 p2),(3,.int .i64 p3),(4,.int .i64 p4),(5,.int .i64 p5),(6,.pointer (some ⟨b3,0,none⟩)),(13,.pointer (some ⟨b15,0,none⟩)),(14,.int .i64 y18.1),(15,.int .i64 y18.2),(16,.int .i64 y21.1),(17,.int .i64 y21.2),(18,.int .i64 y24.1),(19,.int .i64 y24.2.1),(20,.int .i64 y24.2.2),(21,.int .i64 y27.1),(22,.int .i64 y27.2),(23,.pointer (some ⟨b33,0,none⟩)),(24,.int .i64 y30.2),(25,.slice u37_0_1 y36.1.length u37_0_2),(26,.int .i64 y36.2),(27,.int .i64 (k44 : Int)),(33,.int .i64 y53.2.1),(34,.int .i64 y53.2.2),(35,.int .i64 y56.1),(36,.int .i64 y56.2),(37,.pointer (some ⟨b62,0,none⟩)),(38,.int .i64 y59.2),(39,.slice u66_0_1 y65.1.length u66_0_2),(40,.int .i64 y65.2),(164,.bool true)]) MQ (rd w72 Y72) := by
 refine gz [31,32,33,34,35,36,37,38,39,40,41,42,43,44,45,46,47,48,49,50,51,52,53,54,55,56,57,58,59] ?_
 refine yO (fun w90 Y90 C90 B90 => ?_)
 refine zz 14 <| zr' (v := .bool false) ?_
 cases hp
 exact ⟨C90.upd,_,rfl,rfl⟩
theorem pU (w : World) (X : Hid) (y : Bool) (K43 : Act → World → Prop) (K44 : Act → World → Prop) (MQ : List (Nat × Obj)) (Y62 : Hid) (Y72 : Hid) (b15 : Nat) (b3 : Nat) (b33 : Nat) (b62 : Nat) (k44 : Nat) (p1 : Int) (p2 : Int) (p3 : Int) (p4 : Int) (p5 : Int) (u37_0_1 : Option Addr) (u37_0_2 : Nat) (u66_0_1 : Option Addr) (u66_0_2 : Nat) (w66 : World) (w72 : World) (y18 : Int × Int) (y21 : Int × Int) (y24 : Int × Int × Int) (y27 : Int × Int) (y30 : Raw × Int) (y36 : (List Out) × Int) (y53 : Int × Int × Int) (y56 : Int × Int) (y59 : Raw × Int) (y65 : (List Out) × Int)  (hp : (some false) = some y) : Gt (mkG Tryz.prog (bodyPost Tryz.prog Tryz.f3 (Ret E0 w fun w' v => v = .bool y)) Tryz.f3.ntmps w66 ⟨.code (at1 [K43,K44] Tryz.f3 [1,1,1,1,1,1,1,1,1,9,1,0,0,1,0,0,1,1,1,1,1,1,0,0]),at2 [K43,K44] Tryz.f3 [1,1,1,1,1,1,1,1,1,9,1,0,0,1,0,0,1,1,1,1,1,1,0,0],[]⟩ w X Y62 (MQ)) [] (#[true,true,true,true,true,true,true,true,true,true,true,true,true,true,true,true,true,true,true,true,true,true,true,true,true,true,true,true,true,true,true,true,true,true,true,true,false,false,false,false,false,false,false,false,false,false,false,false,false,false,false,false,false,false,false,false,false,false,false,false],[(1,.int .i64 p1),(2,.int .i64 p2),(3,.int .i64 p3),(4,.int .i64 p4),(5,.int .i64 p5),(6,.pointer (some ⟨b3,0,none⟩)),(13,.pointer (some ⟨b15,0,none⟩)),(14,.int .i64 y18.1),(15,.int .i64 y18.2),(16,.int .i64 y21.1),(17,.int .i64 y21.2),(18,.int .i64 y24.1),(19,.int .i64 y24.2.1),(20,.int .i64 y24.2.2),(21,.int .i64 y27.1),(22,.int .i64 y27.2),(23,.pointer (some ⟨b33,0,none⟩)),(24,.int .i64 y30.2),(25,.slice u37_0_1 y36.1.length u37_0_2),(26,.int .i64 y36.2),(27,.int .i64 (k44 : Int)),(34,.int .i64 y53.2.2),(35,.int .i64 y56.1),(36,.int .i64 y56.2),(37,.pointer (some ⟨b62,0,none⟩)),(38,.int .i64 y59.2),(39,.slice u66_0_1 y65.1.length u66_0_2),(40,.int .i64 y65.2),(169,.bool true)]) MQ (rd w72 Y72) := by
 refine gz [36,37,38,39,40,41,42,43,44,45,46,47,48,49,50,51,52,53,54,55,56,57,58,59] ?_
 refine yO (fun w93 Y93 C93 B93 => ?_)
 refine zz 14 <| zr' (v := .bool false) ?_
 cases hp
 exact ⟨C93.upd,_,rfl,rfl⟩
theorem nA (w : World) (X : Hid) (y : Bool) (K43 : Act → World → Prop) (K44 : Act → World → Prop) (MQ : List (Nat × Obj)) (Y62 : Hid) (Y72 : Hid) (b15 : Nat) (b3 : Nat) (b33 : Nat) (b62 : Nat) (k44 : Nat) (p1 : Int) (p2 : Int) (p3 : Int) (p4 : Int) (p5 : Int) (u37_0_1 : Option Addr) (u37_0_2 : Nat) (u66_0_1 : Option Addr) (u66_0_2 : Nat) (w66 : World) (w72 : World) (y18 : Int × Int) (y21 : Int × Int) (y24 : Int × Int × Int) (y27 : Int × Int) (y30 : Raw × Int) (y36 : (List Out) × Int) (y56 : Int × Int) (y59 : Raw × Int) (y65 : (List Out) × Int)  (hp : (some false) = some y) : Gt (mkG Tryz.prog (bodyPost Tryz.prog Tryz.f3 (Ret E0 w fun w' v => v = .bool y)) Tryz.f3.ntmps w66 ⟨.code (at1 [K43,K44] Tryz.f3 [1,1,1,1,1,1,1,1,1,9,1,0,0,1,0,0,1,1,1,1,1,1,0,0]),at2 [K43,K44] Tryz.f3 [1,1,1,1,1,1,1,1,1,9,1,0,0,1,0,0,1,1,1,1,1,1,0,0],[]⟩ w X Y62 (MQ)) [] (#[true,true,true,true,true,true,true,true,true,true,true,true,true,true,true,true,true,true,true,true,true,true,true,true,true,true,true,true,true,true,true,true,true,true,true,true,true,true,true,true,true,false,false,false,false,false,false,false,false,false,false,false,false,false,false,false,false,false,false,false],[(1,.int .i64 p1),(2,.int .i64 p2),(3,.int .i64 p3),(4,.int .i64 p4),(5,.int .i64 p5),(6,.pointer (some ⟨b3,0,none⟩)),(13,.pointer (some ⟨b15,0,none⟩)),(14,.int .i64 y18.1),(15,.int .i64 y18.2),(16,.int .i64 y21.1),(17,.int .i64 y21.2),(18,.int .i64 y24.1),(19,.int .i64 y24.2.1),(20,.int .i64 y24.2.2),(21,.int .i64 y27.1),(22,.int .i64 y27.2),(23,.pointer (some ⟨b33,0,none⟩)),(24,.int .i64 y30.2),(25,.slice u37_0_1 y36.1.length u37_0_2),(26,.int .i64 y36.2),(27,.int .i64 (k44 : Int)),(35,.int .i64 y56.1),(36,.int .i64 y56.2),(37,.pointer (some ⟨b62,0,none⟩)),(38,.int .i64 y59.2),(39,.slice u66_0_1 y65.1.length u66_0_2),(40,.int .i64 y65.2),(174,.bool true)]) MQ (rd w72 Y72) := by
 refine gz [41,42,43,44,45,46,47,48,49,50,51,52,53,54,55,56,57,58,59] ?_
 refine yO (fun w96 Y96 C96 B96 => ?_)
 refine zz 14 <| zr' (v := .bool false) ?_
 cases hp
 exact ⟨C96.upd,_,rfl,rfl⟩
theorem pY (w : World) (X : Hid) (y : Bool) (K43 : Act → World → Prop) (K44 : Act → World → Prop) (MQ : List (Nat × Obj)) (Y62 : Hid) (Y72 : Hid) (b15 : Nat) (b3 : Nat) (b33 : Nat) (b62 : Nat) (k44 : Nat) (p1 : Int) (p2 : Int) (p3 : Int) (p4 : Int) (p5 : Int) (u37_0_1 : Option Addr) (u37_0_2 : Nat) (u66_0_1 : Option Addr) (u66_0_2 : Nat) (w66 : World) (w72 : World) (y18 : Int × Int) (y21 : Int × Int) (y24 : Int × Int × Int) (y27 : Int × Int) (y30 : Raw × Int) (y36 : (List Out) × Int) (y56 : Int × Int) (y59 : Raw × Int) (y65 : (List Out) × Int)  (hp : (some false) = some y) : Gt (mkG Tryz.prog (bodyPost Tryz.prog Tryz.f3 (Ret E0 w fun w' v => v = .bool y)) Tryz.f3.ntmps w66 ⟨.code (at1 [K43,K44] Tryz.f3 [1,1,1,1,1,1,1,1,1,9,1,0,0,1,0,0,1,1,1,1,1,1,0,0]),at2 [K43,K44] Tryz.f3 [1,1,1,1,1,1,1,1,1,9,1,0,0,1,0,0,1,1,1,1,1,1,0,0],[]⟩ w X Y62 (MQ)) [] (#[true,true,true,true,true,true,true,true,true,true,true,true,true,true,true,true,true,true,true,true,true,true,true,true,true,true,true,true,true,true,true,true,true,true,true,true,true,true,true,true,true,true,true,true,true,true,false,false,false,false,false,false,false,false,false,false,false,false,false,false],[(1,.int .i64 p1),(2,.int .i64 p2),(3,.int .i64 p3),(4,.int .i64 p4),(5,.int .i64 p5),(6,.pointer (some ⟨b3,0,none⟩)),(13,.pointer (some ⟨b15,0,none⟩)),(14,.int .i64 y18.1),(15,.int .i64 y18.2),(16,.int .i64 y21.1),(17,.int .i64 y21.2),(18,.int .i64 y24.1),(19,.int .i64 y24.2.1),(20,.int .i64 y24.2.2),(21,.int .i64 y27.1),(22,.int .i64 y27.2),(23,.pointer (some ⟨b33,0,none⟩)),(24,.int .i64 y30.2),(25,.slice u37_0_1 y36.1.length u37_0_2),(26,.int .i64 y36.2),(27,.int .i64 (k44 : Int)),(36,.int .i64 y56.2),(37,.pointer (some ⟨b62,0,none⟩)),(38,.int .i64 y59.2),(39,.slice u66_0_1 y65.1.length u66_0_2),(40,.int .i64 y65.2),(179,.bool true)]) MQ (rd w72 Y72) := by
 refine gz [46,47,48,49,50,51,52,53,54,55,56,57,58,59] ?_
 refine yO (fun w99 Y99 C99 B99 => ?_)
 refine zz 14 <| zr' (v := .bool false) ?_
 cases hp
 exact ⟨C99.upd,_,rfl,rfl⟩
theorem pI (w : World) (X : Hid) (y : Bool) (K43 : Act → World → Prop) (K44 : Act → World → Prop) (MQ : List (Nat × Obj)) (Y62 : Hid) (Y72 : Hid) (b15 : Nat) (b3 : Nat) (b33 : Nat) (b62 : Nat) (k44 : Nat) (p1 : Int) (p2 : Int) (p3 : Int) (p4 : Int) (p5 : Int) (u37_0_1 : Option Addr) (u37_0_2 : Nat) (u66_0_1 : Option Addr) (u66_0_2 : Nat) (w66 : World) (w72 : World) (y18 : Int × Int) (y21 : Int × Int) (y24 : Int × Int × Int) (y27 : Int × Int) (y30 : Raw × Int) (y36 : (List Out) × Int) (y59 : Raw × Int) (y65 : (List Out) × Int)  (hp : (some false) = some y) : Gt (mkG Tryz.prog (bodyPost Tryz.prog Tryz.f3 (Ret E0 w fun w' v => v = .bool y)) Tryz.f3.ntmps w66 ⟨.code (at1 [K43,K44] Tryz.f3 [1,1,1,1,1,1,1,1,1,9,1,0,0,1,0,0,1,1,1,1,1,1,0,0]),at2 [K43,K44] Tryz.f3 [1,1,1,1,1,1,1,1,1,9,1,0,0,1,0,0,1,1,1,1,1,1,0,0],[]⟩ w X Y62 (MQ)) [] (#[true,true,true,true,true,true,true,true,true,true,true,true,true,true,true,true,true,true,true,true,true,true,true,true,true,true,true,true,true,true,true,true,true,true,true,true,true,true,true,true,true,true,true,true,true,true,true,true,true,true,true,false,false,false,false,false,false,false,false,false],[(1,.int .i64 p1),(2,.int .i64 p2),(3,.int .i64 p3),(4,.int .i64 p4),(5,.int .i64 p5),(6,.pointer (some ⟨b3,0,none⟩)),(13,.pointer (some ⟨b15,0,none⟩)),(14,.int .i64 y18.1),(15,.int .i64 y18.2),(16,.int .i64 y21.1),(17,.int .i64 y21.2),(18,.int .i64 y24.1),(19,.int .i64 y24.2.1),(20,.int .i64 y24.2.2),(21,.int .i64 y27.1),(22,.int .i64 y27.2),(23,.pointer (some ⟨b33,0,none⟩)),(24,.int .i64 y30.2),(25,.slice u37_0_1 y36.1.length u37_0_2),(26,.int .i64 y36.2),(27,.int .i64 (k44 : Int)),(37,.pointer (some ⟨b62,0,none⟩)),(38,.int .i64 y59.2),(39,.slice u66_0_1 y65.1.length u66_0_2),(40,.int .i64 y65.2),(184,.bool true)]) MQ (rd w72 Y72) := by
 refine gz [51,52,53,54,55,56,57,58,59] ?_
 refine yO (fun w102 Y102 C102 B102 => ?_)
 refine zz 14 <| zr' (v := .bool false) ?_
 cases hp
 exact ⟨C102.upd,_,rfl,rfl⟩
theorem pK (w : World) (X : Hid) (y : Bool) (K43 : Act → World → Prop) (K44 : Act → World → Prop) (MQ : List (Nat × Obj)) (Y62 : Hid) (Y72 : Hid) (b15 : Nat) (b3 : Nat) (b33 : Nat) (b62 : Nat) (k44 : Nat) (p1 : Int) (p2 : Int) (p3 : Int) (p4 : Int) (p5 : Int) (u37_0_1 : Option Addr) (u37_0_2 : Nat) (u66_0_1 : Option Addr) (u66_0_2 : Nat) (w66 : World) (w72 : World) (y18 : Int × Int) (y21 : Int × Int) (y24 : Int × Int × Int) (y27 : Int × Int) (y30 : Raw × Int) (y36 : (List Out) × Int) (y65 : (List Out) × Int)  (hp : (some false) = some y) : Gt (mkG Tryz.prog (bodyPost Tryz.prog Tryz.f3 (Ret E0 w fun w' v => v = .bool y)) Tryz.f3.ntmps w66 ⟨.code (at1 [K43,K44] Tryz.f3 [1,1,1,1,1,1,1,1,1,9,1,0,0,1,0,0,1,1,1,1,1,1,0,0]),at2 [K43,K44] Tryz.f3 [1,1,1,1,1,1,1,1,1,9,1,0,0,1,0,0,1,1,1,1,1,1,0,0],[]⟩ w X Y62 (MQ)) [] (#[true,true,true,true,true,true,true,true,true,true,true,true,true,true,true,true,true,true,true,true,true,true,true,true,true,true,true,true,true,true,true,true,true,true,true,true,true,true,true,true,true,true,true,true,true,true,true,true,true,true,true,true,true,true,true,true,false,false,false,false],[(1,.int .i64 p1),(2,.int .i64 p2),(3,.int .i64 p3),(4,.int .i64 p4),(5,.int .i64 p5),(6,.pointer (some ⟨b3,0,none⟩)),(13,.pointer (some ⟨b15,0,none⟩)),(14,.int .i64 y18.1),(15,.int .i64 y18.2),(16,.int .i64 y21.1),(17,.int .i64 y21.2),(18,.int .i64 y24.1),(19,.int .i64 y24.2.1),(20,.int .i64 y24.2.2),(21,.int .i64 y27.1),(22,.int .i64 y27.2),(23,.pointer (some ⟨b33,0,none⟩)),(24,.int .i64 y30.2),(25,.slice u37_0_1 y36.1.length u37_0_2),(26,.int .i64 y36.2),(27,.int .i64 (k44 : Int)),(37,.pointer (some ⟨b62,0,none⟩)),(39,.slice u66_0_1 y65.1.length u66_0_2),(40,.int .i64 y65.2),(189,.bool true)]) MQ (rd w72 Y72) := by
 refine gz [56,57,58,59] ?_
 refine yO (fun w105 Y105 C105 B105 => ?_)
 refine zz 14 <| zr' (v := .bool false) ?_
 cases hp
 exact ⟨C105.upd,_,rfl,rfl⟩
theorem nE (w : World) (X : Hid) (y : Bool) (Y33 : Hid) (b15 : Nat) (b3 : Nat) (b33 : Nat) (p0 : zO) (D1 : Option Addr) (D10 : Nat) (D11 : Option Addr) (D12 : Nat) (D13 : Option Addr) (D14 : Nat) (D15 : Option Addr) (D16 : Nat) (D17 : Option Addr) (D18 : Nat) (D19 : Option Addr) (D2 : Nat) (D20 : Nat) (D21 : Option Addr) (D22 : Nat) (D23 : Option Addr) (D24 : Nat) (D3 : Option Addr) (D4 : Nat) (D5 : Option Addr) (D6 : Nat) (D7 : Option Addr) (D8 : Nat) (D9 : Option Addr) (p1 : Int) (p2 : Int) (p3 : Int) (p4 : Int) (p5 : Int) (u13_0_1 : Option Addr) (u13_0_10 : Nat) (u13_0_11 : Option Addr) (u13_0_12 : Nat) (u13_0_13 : Option Addr) (u13_0_14 : Nat) (u13_0_15 : Option Addr) (u13_0_16 : Nat) (u13_0_17 : Option Addr) (u13_0_18 : Nat) (u13_0_19 : Option Addr) (u13_0_2 : Nat) (u13_0_20 : Nat) (u13_0_21 : Option Addr) (u13_0_22 : Nat) (u13_0_23 : Option Addr) (u13_0_24 : Nat) (u13_0_3 : Option Addr) (u13_0_4 : Nat) (u13_0_5 : Option Addr) (u13_0_6 : Nat) (u13_0_7 : Option Addr) (u13_0_8 : Nat) (u13_0_9 : Option Addr) (u31_0_1 : Option Addr) (u31_0_3 : Nat) (u31_0_4 : Option Addr) (u31_0_6 : Nat) (u37_0_1 : Option Addr) (u37_0_2 : Nat) (w37 : World) (y12 : zO) (y18 : Int × Int) (y21 : Int × Int) (y24 : Int × Int × Int) (y27 : Int × Int) (y30 : Raw × Int) (y36 : (List Out) × Int) (C37 : St E0 w X w37 Y33 [(b33,.cells #[.bool y30.1.neg,.slice u31_0_1 y30.1.ln.length u31_0_3,.slice u31_0_4 y30.1.ld.length u31_0_6] 28 (0,0)),(b15,.cells (qDr y12 u13_0_1 u13_0_2 u13_0_3 u13_0_4 u13_0_5 u13_0_6 u13_0_7 u13_0_8 u13_0_9 u13_0_10 u13_0_11 u13_0_12 u13_0_13 u13_0_14 u13_0_15 u13_0_16 u13_0_17 u13_0_18 u13_0_19 u13_0_20 u13_0_21 u13_0_22 u13_0_23 u13_0_24) 30 (0,0)),(b3,.cells (qDr p0 D1 D2 D3 D4 D5 D6 D7 D8 D9 D10 D11 D12 D13 D14 D15 D16 D17 D18 D19 D20 D21 D22 D23 D24) 30 (0,0))]) (hk38_1 : vN (rd w37 Y33) u37_0_1 y36.1.length u37_0_2 y36.1) (hk38_2 : zL (rd w37 Y33) u31_0_4 y30.1.ld.length u31_0_6 y30.1.ld) (hk38_3 : zL (rd w37 Y33) u31_0_1 y30.1.ln.length u31_0_3 y30.1.ln) (hk38_4 : zL (rd w37 Y33) u13_0_23 y12.reversal.ld.length u13_0_24 y12.reversal.ld) (hk38_5 : zL (rd w37 Y33) u13_0_21 y12.reversal.ln.length u13_0_22 y12.reversal.ln) (hk38_6 : zL (rd w37 Y33) u13_0_19 y12.strengthen.ld.length u13_0_20 y12.strengthen.ld) (hk38_7 : zL (rd w37 Y33) u13_0_17 y12.strengthen.ln.length u13_0_18 y12.strengthen.ln) (hk38_8 : zL (rd w37 Y33) u13_0_15 y12.alert.ld.length u13_0_16 y12.alert.ld) (hk38_9 : zL (rd w37 Y33) u13_0_13 y12.alert.ln.length u13_0_14 y12.alert.ln) (hk38_10 : kQ (rd w37 Y33) u13_0_11 y12.otherNoise.length u13_0_12 y12.otherNoise) (hk38_11 : kQ (rd w37 Y33) u13_0_9 y12.ownNoise.length u13_0_10 y12.ownNoise) (hk38_12 : wC (rd w37 Y33) u13_0_7 y12.advisories.length u13_0_8 y12.advisories) (hk38_13 : wK (rd w37 Y33) u13_0_5 y12.other.length u13_0_6 y12.other) (hk38_14 : wK (rd w37 Y33) u13_0_3 y12.own.length u13_0_4 y12.own) (hk38_15 : wK (rd w37 Y33) u13_0_1 y12.height.length u13_0_2 y12.height) (hk38_16 : zW (rd w37 Y33) (.agg (qDr p0 D1 D2 D3 D4 D5 D6 D7 D8 D9 D10 D11 D12 D13 D14 D15 D16 D17 D18 D19 D20 D21 D22 D23 D24)) p0) (hp : (lt ((xU).bind fun y41 => some y41) fun J39 => qE p0 p1 p2 p3 p4 p5 y12 y18 y21 y24 y27 y30 y36 J39 ((2 : Int).toNat - 0) ) = some y) : Go none 0 Tryz.prog (bodyPost Tryz.prog Tryz.f3 (Ret E0 w fun w' v => v = .bool y)) Tryz.f3.ntmps [] w37 ⟨.code (at1 [] Tryz.f3 [1,1,1,1,1,1,1,1,1]),at2 [] Tryz.f3 [1,1,1,1,1,1,1,1,1],[(1,.int .i64 p1),(2,.int .i64 p2),(3,.int .i64 p3),(4,.int .i64 p4),(5,.int .i64 p5),(6,.pointer (some ⟨b3,0,none⟩)),(13,.pointer (some ⟨b15,0,none⟩)),(14,.int .i64 y18.1),(15,.int .i64 y18.2),(16,.int .i64 y21.1),(17,.int .i64 y21.2),(18,.int .i64 y24.1),(19,.int .i64 y24.2.1),(20,.int .i64 y24.2.2),(21,.int .i64 y27.1),(22,.int .i64 y27.2),(23,.pointer (some ⟨b33,0,none⟩)),(24,.int .i64 y30.2),(25,.slice u37_0_1 y36.1.length u37_0_2),(26,.int .i64 y36.2)]⟩ := by
 have C := fG hp
 obtain ⟨J39,hJ39,hp⟩ := C
 refine yT (fun (_ : Unit) => []) (fun _ w1 => ∃ Y1 : Hid,St E0 w X w1 Y1 [(b33,.cells #[.bool y30.1.neg,.slice u31_0_1 y30.1.ln.length u31_0_3,.slice u31_0_4 y30.1.ld.length u31_0_6] 28 (0,0)),(b15,.cells (qDr y12 u13_0_1 u13_0_2 u13_0_3 u13_0_4 u13_0_5 u13_0_6 u13_0_7 u13_0_8 u13_0_9 u13_0_10 u13_0_11 u13_0_12 u13_0_13 u13_0_14 u13_0_15 u13_0_16 u13_0_17 u13_0_18 u13_0_19 u13_0_20 u13_0_21 u13_0_22 u13_0_23 u13_0_24) 30 (0,0)),(b3,.cells (qDr p0 D1 D2 D3 D4 D5 D6 D7 D8 D9 D10 D11 D12 D13 D14 D15 D16 D17 D18 D19 D20 D21 D22 D23 D24) 30 (0,0))] ∧ Le (rd w37 Y33) (rd w1 Y1) ∧ J39 = some y) ?_ ?_
 rintro _ w39 ⟨Y39,C39,B39,hp⟩
 have hp := hJ39.symm.trans hp
 refine zz 2 <| zQ hp fun y41 hy41 hp => zc C39 (mP _ X0 (zM _)  y41 hy41) ?_
 rintro v42 w42 C42 B42 V42 rfl
 refine zz 4 <| zr' (v := .bool y41) ?_
 cases hp
 exact ⟨C42.upd,_,rfl,rfl⟩
 intro K43 H43
 refine zz 6 <| zlp Tryz.f3 [K43] [1,1,1,1,1,1,1,1,1,9,1,0] (fun (k44 : Nat) => [(1,.int .i64 p1),(2,.int .i64 p2),(3,.int .i64 p3),(4,.int .i64 p4),(5,.int .i64 p5),(6,.pointer (some ⟨b3,0,none⟩)),(13,.pointer (some ⟨b15,0,none⟩)),(14,.int .i64 y18.1),(15,.int .i64 y18.2),(16,.int .i64 y21.1),(17,.int .i64 y21.2),(18,.int .i64 y24.1),(19,.int .i64 y24.2.1),(20,.int .i64 y24.2.2),(21,.int .i64 y27.1),(22,.int .i64 y27.2),(23,.pointer (some ⟨b33,0,none⟩)),(24,.int .i64 y30.2),(25,.slice u37_0_1 y36.1.length u37_0_2),(26,.int .i64 y36.2),(27,.int .i64 (k44 : Int))]) (fun (k44 : Nat) w1 => ∃ Y1 : Hid,St E0 w X w1 Y1 [(b33,.cells #[.bool y30.1.neg,.slice u31_0_1 y30.1.ln.length u31_0_3,.slice u31_0_4 y30.1.ld.length u31_0_6] 28 (0,0)),(b15,.cells (qDr y12 u13_0_1 u13_0_2 u13_0_3 u13_0_4 u13_0_5 u13_0_6 u13_0_7 u13_0_8 u13_0_9 u13_0_10 u13_0_11 u13_0_12 u13_0_13 u13_0_14 u13_0_15 u13_0_16 u13_0_17 u13_0_18 u13_0_19 u13_0_20 u13_0_21 u13_0_22 u13_0_23 u13_0_24) 30 (0,0)),(b3,.cells (qDr p0 D1 D2 D3 D4 D5 D6 D7 D8 D9 D10 D11 D12 D13 D14 D15 D16 D17 D18 D19 D20 D21 D22 D23 D24) 30 (0,0))] ∧ Le (rd w37 Y33) (rd w1 Y1) ∧ qE p0 p1 p2 p3 p4 p5 y12 y18 y21 y24 y27 y30 y36 J39 ((2 : Int).toNat - k44)  = some y) (fun (k44 : Nat) => (2 : Int).toNat - k44) 0 ?_ ?_
 exact ⟨_,C37,Le.refl _,hp⟩
 rintro k44 w44 K44 H44 ⟨Y44,C44,B44,hp⟩
 refine zz 7 <| zt 89 (p := (k44 : Int) < 2) (fun Q45 => ?_) (fun Q45 => ?_)
 have C := dG (N := (2 : Int)) (k := k44) Q45
 obtain ⟨r44,hm44,hn44⟩ := C
 rw [hm44,qE] at hp
 refine zz 7 <| zo 1 C44 <| zQ hp fun y47 hy47 hp => zc C44 (aM _ X0 (zM _) y12 _ ⟨_,_,_,_,_,_,_,_,_,_,_,_,_,_,_,_,_,_,_,_,_,_,_,_,rfl,((hk38_15.mono B44).mono Le.x0),((hk38_14.mono B44).mono Le.x0),((hk38_13.mono B44).mono Le.x0),((hk38_12.mono B44).mono Le.x0),((hk38_11.mono B44).mono Le.x0),((hk38_10.mono B44).mono Le.x0),((hk38_9.mono B44).mono Le.x0),((hk38_8.mono B44).mono Le.x0),((hk38_7.mono B44).mono Le.x0),((hk38_6.mono B44).mono Le.x0),((hk38_5.mono B44).mono Le.x0),((hk38_4.mono B44).mono Le.x0)⟩ y47 hy47) ?_
 rintro v48 w48 C48 B48 V48 rfl
 refine zz 9 <| zo 1 C48 <| zz 2 <| zQ hp fun y50 hy50 hp => zc C48 (zDo _ X0 (zM _) y12 _ ⟨_,_,_,_,_,_,_,_,_,_,_,_,_,_,_,_,_,_,_,_,_,_,_,_,rfl,((hk38_15.mono (Le2 B44 B48)).mono Le.x0),((hk38_14.mono (Le2 B44 B48)).mono Le.x0),((hk38_13.mono (Le2 B44 B48)).mono Le.x0),((hk38_12.mono (Le2 B44 B48)).mono Le.x0),((hk38_11.mono (Le2 B44 B48)).mono Le.x0),((hk38_10.mono (Le2 B44 B48)).mono Le.x0),((hk38_9.mono (Le2 B44 B48)).mono Le.x0),((hk38_8.mono (Le2 B44 B48)).mono Le.x0),((hk38_7.mono (Le2 B44 B48)).mono Le.x0),((hk38_6.mono (Le2 B44 B48)).mono Le.x0),((hk38_5.mono (Le2 B44 B48)).mono Le.x0),((hk38_4.mono (Le2 B44 B48)).mono Le.x0)⟩ (p1) (p2) y50 hy50) ?_
 rintro v51 w51 C51 B51 V51 rfl
 refine zz 9 <| zo 1 C51 <| zz 1 <| zQ hp fun y53 hy53 hp => zc C51 (zEh _ X0 (zM _) y12 _ ⟨_,_,_,_,_,_,_,_,_,_,_,_,_,_,_,_,_,_,_,_,_,_,_,_,rfl,((hk38_15.mono (Le3 B44 B48 B51)).mono Le.x0),((hk38_14.mono (Le3 B44 B48 B51)).mono Le.x0),((hk38_13.mono (Le3 B44 B48 B51)).mono Le.x0),((hk38_12.mono (Le3 B44 B48 B51)).mono Le.x0),((hk38_11.mono (Le3 B44 B48 B51)).mono Le.x0),((hk38_10.mono (Le3 B44 B48 B51)).mono Le.x0),((hk38_9.mono (Le3 B44 B48 B51)).mono Le.x0),((hk38_8.mono (Le3 B44 B48 B51)).mono Le.x0),((hk38_7.mono (Le3 B44 B48 B51)).mono Le.x0),((hk38_6.mono (Le3 B44 B48 B51)).mono Le.x0),((hk38_5.mono (Le3 B44 B48 B51)).mono Le.x0),((hk38_4.mono (Le3 B44 B48 B51)).mono Le.x0)⟩ (p1) y53 hy53) ?_
 rintro v54 w54 C54 B54 V54 rfl
 refine zz 11 <| zo 1 C54 <| zz 2 ?_
 have T32_ := (Le3 B44 B48 B51).trans B54
 refine zQ hp fun y56 hy56 hp => zc C54 (fF _ X0 (zM _) y12 _ ⟨_,_,_,_,_,_,_,_,_,_,_,_,_,_,_,_,_,_,_,_,_,_,_,_,rfl,((hk38_15.mono T32_).mono Le.x0),((hk38_14.mono T32_).mono Le.x0),((hk38_13.mono T32_).mono Le.x0),((hk38_12.mono T32_).mono Le.x0),((hk38_11.mono T32_).mono Le.x0),((hk38_10.mono T32_).mono Le.x0),((hk38_9.mono T32_).mono Le.x0),((hk38_8.mono T32_).mono Le.x0),((hk38_7.mono T32_).mono Le.x0),((hk38_6.mono T32_).mono Le.x0),((hk38_5.mono T32_).mono Le.x0),((hk38_4.mono T32_).mono Le.x0)⟩ (p4) (p2) y56 hy56) ?_
 rintro v57 w57 C57 B57 V57 rfl
 refine zz 9 <| zo 1 C57 <| zz 2 ?_
 have T33_ := T32_.trans B57
 refine zQ hp fun y59 hy59 hp => zc C57 (gB _ X0 (zM _) y12 _ ⟨_,_,_,_,_,_,_,_,_,_,_,_,_,_,_,_,_,_,_,_,_,_,_,_,rfl,((hk38_15.mono T33_).mono Le.x0),((hk38_14.mono T33_).mono Le.x0),((hk38_13.mono T33_).mono Le.x0),((hk38_12.mono T33_).mono Le.x0),((hk38_11.mono T33_).mono Le.x0),((hk38_10.mono T33_).mono Le.x0),((hk38_9.mono T33_).mono Le.x0),((hk38_8.mono T33_).mono Le.x0),((hk38_7.mono T33_).mono Le.x0),((hk38_6.mono T33_).mono Le.x0),((hk38_5.mono T33_).mono Le.x0),((hk38_4.mono T33_).mono Le.x0)⟩ (p1) (p2) y59 hy59) ?_
 rintro v60 w60 C60 B60 V60 ⟨uu60_0,rfl,⟨u60_0_1,u60_0_2,u60_0_3,u60_0_4,u60_0_5,u60_0_6,rfl,u60_0__h0,u60_0__h1⟩⟩
 have C := u60_0__h0.hlen
 subst C
 have C := u60_0__h1.hlen
 subst C
 refine zz 3 <| znS pn (.cells #[.bool false,.slice none 0 0,.slice none 0 0] 28 (0,0)) C60 fun b62 w62 Y62 C62 B62 V62 hb62 => zx 0 #[.bool y59.1.neg,.slice u60_0_1 y59.1.ln.length u60_0_3,.slice u60_0_4 y59.1.ld.length u60_0_6] C62 fun w63 C63 B63 => zz 5 <| zo 2 C63 <| zz 4 ?_
 have T34_ := ((T33_.trans B60).trans B62).trans B63
 refine zQ hp fun y65 hy65 hp => zc C63 (mI _ X0 (zM _) y12 _ ⟨_,_,_,_,_,_,_,_,_,_,_,_,_,_,_,_,_,_,_,_,_,_,_,_,rfl,((hk38_15.mono T34_).mono Le.x0),((hk38_14.mono T34_).mono Le.x0),((hk38_13.mono T34_).mono Le.x0),((hk38_12.mono T34_).mono Le.x0),((hk38_11.mono T34_).mono Le.x0),((hk38_10.mono T34_).mono Le.x0),((hk38_9.mono T34_).mono Le.x0),((hk38_8.mono T34_).mono Le.x0),((hk38_7.mono T34_).mono Le.x0),((hk38_6.mono T34_).mono Le.x0),((hk38_5.mono T34_).mono Le.x0),((hk38_4.mono T34_).mono Le.x0)⟩ (p3) (p4) (p5) (p2) y65 hy65) ?_
 rintro v66 w66 C66 B66 V66 ⟨uu66_0,rfl,⟨u66_0_1,u66_0_2,rfl,u66_0__h0⟩⟩
 refine zz 9 <| zN ⟨.code (at1 [K43,K44] Tryz.f3 [1,1,1,1,1,1,1,1,1,9,1,0,0,1,0,0,1,1,1,1,1,1,0,0]),at2 [K43,K44] Tryz.f3 [1,1,1,1,1,1,1,1,1,9,1,0,0,1,0,0,1,1,1,1,1,1,0,0],[(1,.int .i64 p1),(2,.int .i64 p2),(3,.int .i64 p3),(4,.int .i64 p4),(5,.int .i64 p5),(6,.pointer (some ⟨b3,0,none⟩)),(13,.pointer (some ⟨b15,0,none⟩)),(14,.int .i64 y18.1),(15,.int .i64 y18.2),(16,.int .i64 y21.1),(17,.int .i64 y21.2),(18,.int .i64 y24.1),(19,.int .i64 y24.2.1),(20,.int .i64 y24.2.2),(21,.int .i64 y27.1),(22,.int .i64 y27.2),(23,.pointer (some ⟨b33,0,none⟩)),(24,.int .i64 y30.2),(25,.slice u37_0_1 y36.1.length u37_0_2),(26,.int .i64 y36.2),(27,.int .i64 (k44 : Int)),(28,.int .i64 y47.1),(29,.int .i64 y47.2),(30,.int .i64 y50.1),(31,.int .i64 y50.2),(32,.int .i64 y53.1),(33,.int .i64 y53.2.1),(34,.int .i64 y53.2.2),(35,.int .i64 y56.1),(36,.int .i64 y56.2),(37,.pointer (some ⟨b62,0,none⟩)),(38,.int .i64 y59.2),(39,.slice u66_0_1 y65.1.length u66_0_2),(40,.int .i64 y65.2)]⟩ <| zdr C66 <| gw 0 2 <| gw 2 3 ?_
 have T35_ := T34_.trans B66
 refine zQ hp fun y68 hy68 hp => gC 1 (fun w67 Y67 _ C67 B67 => (vW _ X0 (zM _) y12 _ ⟨_,_,_,_,_,_,_,_,_,_,_,_,_,_,_,_,_,_,_,_,_,_,_,_,rfl,((hk38_15.mono (T35_.trans B67)).mono Le.x0),((hk38_14.mono (T35_.trans B67)).mono Le.x0),((hk38_13.mono (T35_.trans B67)).mono Le.x0),((hk38_12.mono (T35_.trans B67)).mono Le.x0),((hk38_11.mono (T35_.trans B67)).mono Le.x0),((hk38_10.mono (T35_.trans B67)).mono Le.x0),((hk38_9.mono (T35_.trans B67)).mono Le.x0),((hk38_8.mono (T35_.trans B67)).mono Le.x0),((hk38_7.mono (T35_.trans B67)).mono Le.x0),((hk38_6.mono (T35_.trans B67)).mono Le.x0),((hk38_5.mono (T35_.trans B67)).mono Le.x0),((hk38_4.mono (T35_.trans B67)).mono Le.x0)⟩ y68 hy68)) ?_
 rintro v69 w67 Y69 w69 C67 B69 rfl
 have T36_ := T35_.trans B69
 refine zQ hp fun y71 hy71 hp => gC 3 (fun w70 Y70 _ C70 B70 => (xR _ X0 (zM _) p0 _ ((hk38_16.mono (T36_.trans B70)).mono Le.x0) y71 hy71)) ?_
 rintro v72 w70 Y72 w72 C70 B72 rfl
 refine gz [4,5] <| gb 139 (b := ((y68) != y71)) (fun T73 => ?_) (fun T73 => ?_)
 have hp := ipb T73 hp
 exact gN (nH w X y K43 K44 _ Y62 Y72 b15 b3 b33 b62 k44 p1 p2 p3 p4 p5 u37_0_1 u37_0_2 u66_0_1 u66_0_2 w66 w72 y18 y21 y24 y27 y30 y36 y47 y50 y53 y56 y59 y65  hp)
 have hp := iqb T73 hp
 refine gz [6,7,8,9,10] <| gb 144 (b := ((y47.1) != y18.1)) (fun T76 => ?_) (fun T76 => ?_)
 have hp := ipb T76 hp
 exact gN (nJ w X y K43 K44 _ Y62 Y72 b15 b3 b33 b62 k44 p1 p2 p3 p4 p5 u37_0_1 u37_0_2 u66_0_1 u66_0_2 w66 w72 y18 y21 y24 y27 y30 y36 y47 y50 y53 y56 y59 y65  hp)
 have hp := iqb T76 hp
 refine gz [11,12,13,14,15] <| gb 149 (b := ((y47.2) != y18.2)) (fun T79 => ?_) (fun T79 => ?_)
 have hp := ipb T79 hp
 exact gN (nG w X y K43 K44 _ Y62 Y72 b15 b3 b33 b62 k44 p1 p2 p3 p4 p5 u37_0_1 u37_0_2 u66_0_1 u66_0_2 w66 w72 y18 y21 y24 y27 y30 y36 y50 y53 y56 y59 y65  hp)
 have hp := iqb T79 hp
 refine gz [16,17,18,19,20] <| gb 154 (b := ((y50.1) != y21.1)) (fun T82 => ?_) (fun T82 => ?_)
 have hp := ipb T82 hp
 exact gN (nD w X y K43 K44 _ Y62 Y72 b15 b3 b33 b62 k44 p1 p2 p3 p4 p5 u37_0_1 u37_0_2 u66_0_1 u66_0_2 w66 w72 y18 y21 y24 y27 y30 y36 y50 y53 y56 y59 y65  hp)
 have hp := iqb T82 hp
 refine gz [21,22,23,24,25] <| gb 159 (b := ((y50.2) != y21.2)) (fun T85 => ?_) (fun T85 => ?_)
 have hp := ipb T85 hp
 exact gN (pR w X y K43 K44 _ Y62 Y72 b15 b3 b33 b62 k44 p1 p2 p3 p4 p5 u37_0_1 u37_0_2 u66_0_1 u66_0_2 w66 w72 y18 y21 y24 y27 y30 y36 y53 y56 y59 y65  hp)
 have hp := iqb T85 hp
 refine gz [26,27,28,29,30] <| gb 164 (b := ((y53.1) != y24.1)) (fun T88 => ?_) (fun T88 => ?_)
 have hp := ipb T88 hp
 exact gN (pV w X y K43 K44 _ Y62 Y72 b15 b3 b33 b62 k44 p1 p2 p3 p4 p5 u37_0_1 u37_0_2 u66_0_1 u66_0_2 w66 w72 y18 y21 y24 y27 y30 y36 y53 y56 y59 y65  hp)
 have hp := iqb T88 hp
 refine gz [31,32,33,34,35] <| gb 169 (b := ((y53.2.1) != y24.2.1)) (fun T91 => ?_) (fun T91 => ?_)
 have hp := ipb T91 hp
 exact gN (pU w X y K43 K44 _ Y62 Y72 b15 b3 b33 b62 k44 p1 p2 p3 p4 p5 u37_0_1 u37_0_2 u66_0_1 u66_0_2 w66 w72 y18 y21 y24 y27 y30 y36 y53 y56 y59 y65  hp)
 have hp := iqb T91 hp
 refine gz [36,37,38,39,40] <| gb 174 (b := ((y53.2.2) != y24.2.2)) (fun T94 => ?_) (fun T94 => ?_)
 have hp := ipb T94 hp
 exact gN (nA w X y K43 K44 _ Y62 Y72 b15 b3 b33 b62 k44 p1 p2 p3 p4 p5 u37_0_1 u37_0_2 u66_0_1 u66_0_2 w66 w72 y18 y21 y24 y27 y30 y36 y56 y59 y65  hp)
 have hp := iqb T94 hp
 refine gz [41,42,43,44,45] <| gb 179 (b := ((y56.1) != y27.1)) (fun T97 => ?_) (fun T97 => ?_)
 have hp := ipb T97 hp
 exact gN (pY w X y K43 K44 _ Y62 Y72 b15 b3 b33 b62 k44 p1 p2 p3 p4 p5 u37_0_1 u37_0_2 u66_0_1 u66_0_2 w66 w72 y18 y21 y24 y27 y30 y36 y56 y59 y65  hp)
 have hp := iqb T97 hp
 refine gz [46,47,48,49,50] <| gb 184 (b := ((y56.2) != y27.2)) (fun T100 => ?_) (fun T100 => ?_)
 have hp := ipb T100 hp
 exact gN (pI w X y K43 K44 _ Y62 Y72 b15 b3 b33 b62 k44 p1 p2 p3 p4 p5 u37_0_1 u37_0_2 u66_0_1 u66_0_2 w66 w72 y18 y21 y24 y27 y30 y36 y59 y65  hp)
 have hp := iqb T100 hp
 refine gz [51,52,53,54,55] <| gb 189 (b := ((y59.2) != y30.2)) (fun T103 => ?_) (fun T103 => ?_)
 have hp := ipb T103 hp
 exact gN (pK w X y K43 K44 _ Y62 Y72 b15 b3 b33 b62 k44 p1 p2 p3 p4 p5 u37_0_1 u37_0_2 u66_0_1 u66_0_2 w66 w72 y18 y21 y24 y27 y30 y36 y65  hp)
 have hp := iqb T103 hp
 refine gz [56,57,58,59] ?_
 refine yO (fun w106 Y106 C106 B106 => ?_)
 refine zz 1 <| zb 193 (b := ((y65.2) != y36.2)) (fun T107 => ?_) (fun T107 => ?_)
 have hp := ipb T107 hp
 refine zz 13 <| zr' (v := .bool false) ?_
 cases hp
 exact ⟨C106.upd,_,rfl,rfl⟩
 have hp := iqb T107 hp
 refine zz 6 <| zo 0 C106 <| zo 1 C106 ?_
 have T37_ := (Le5 B62 B63 B66 B69 B72).trans B106
 have T38_ := (T36_.trans B72).trans B106
 refine zQ hp fun y109 hy109 hp => zc C106 (qB _ X0 (zM _) y59.1 _ ⟨_,_,_,_,_,_,rfl,(((u60_0__h0.mono (Le.new C57.lt)).mono T37_).mono Le.x0),(((u60_0__h1.mono (Le.new C57.lt)).mono T37_).mono Le.x0)⟩ y30.1 _ ⟨_,_,_,_,_,_,rfl,((hk38_3.mono T38_).mono Le.x0),((hk38_2.mono T38_).mono Le.x0)⟩ y109 hy109) ?_
 rintro v110 w110 C110 B110 V110 rfl
 refine zz 2 <| zb 198 (b := !y109) (fun T111 => ?_) (fun T111 => ?_)
 have hp := ipb T111 hp
 refine zz 26 <| zr' (v := .bool false) ?_
 cases hp
 exact ⟨C110.upd,_,rfl,rfl⟩
 have hp := iqb T111 hp
 refine zz 2 ?_
 have T39_ := (Le3 B69 B72 B106).trans B110
 have T40_ := T38_.trans B110
 refine zQ hp fun y113 hy113 hp => zc C110 (wN _ X0 (zM _) y65.1 _ ⟨_,_,rfl,(((u66_0__h0.mono (Le.new C63.lt)).mono T39_).mono Le.x0)⟩ y36.1 _ ⟨_,_,rfl,((hk38_1.mono T40_).mono Le.x0)⟩ y113 hy113) ?_
 rintro v114 w114 C114 B114 V114 rfl
 refine zz 3 <| zb 204 (b := !y113) (fun T115 => ?_) (fun T115 => ?_)
 have hp := ipb T115 hp
 refine zz 20 <| zr' (v := .bool false) ?_
 cases hp
 exact ⟨C114.upd,_,rfl,rfl⟩
 have hp := iqb T115 hp
 refine zo 2 C114 <| zo 3 C114 ?_
 have T41_ := T40_.trans B114
 refine zQ hp fun y117 hy117 hp => zc C114 (dH _ X0 (zM _) y12 _ ⟨_,_,_,_,_,_,_,_,_,_,_,_,_,_,_,_,_,_,_,_,_,_,_,_,rfl,((hk38_15.mono T41_).mono Le.x0),((hk38_14.mono T41_).mono Le.x0),((hk38_13.mono T41_).mono Le.x0),((hk38_12.mono T41_).mono Le.x0),((hk38_11.mono T41_).mono Le.x0),((hk38_10.mono T41_).mono Le.x0),((hk38_9.mono T41_).mono Le.x0),((hk38_8.mono T41_).mono Le.x0),((hk38_7.mono T41_).mono Le.x0),((hk38_6.mono T41_).mono Le.x0),((hk38_5.mono T41_).mono Le.x0),((hk38_4.mono T41_).mono Le.x0)⟩ p0 _ ((hk38_16.mono T41_).mono Le.x0) y117 hy117) ?_
 rintro v118 w118 C118 B118 V118 rfl
 refine zz 4 <| zb 209 (b := !y117) (fun T119 => ?_) (fun T119 => ?_)
 have hp := ipb T119 hp
 refine zz 13 <| zr' (v := .bool false) ?_
 cases hp
 exact ⟨C118.upd,_,rfl,rfl⟩
 have hp := iqb T119 hp
 refine zz 5 <| zo 0 C118 ?_
 have hNc : w44.heap.size ≤ w118.heap.size := Nat.le_trans (Nat.le_trans (Nat.le_trans (Nat.le_trans (Nat.le_trans (Nat.le_trans V48.size V51.size) V54.size) V57.size) V60.size) hb62) (Nat.le_of_lt (C118.own_lt 0 rfl))
 have hOc := Ov.refl (w44.heap.size) w118
 have T42_ := ((T37_.trans B110).trans B114).trans B118
 have hU121_1 := (u60_0__h0.mono (Le.own C57.lt (Nat.le_trans (Nat.le_trans (Nat.le_trans V48.size V51.size) V54.size) V57.size) T42_)).mono Le.orr
 have hU121_2 := (u60_0__h1.mono (Le.own C57.lt (Nat.le_trans (Nat.le_trans (Nat.le_trans V48.size V51.size) V54.size) V57.size) T42_)).mono Le.orr
 refine zcF (zJx _ (w44.heap.size) (Nat.le_trans hNc hOc.size) y59.1.neg u60_0_1 y59.1.ln.length u60_0_3 u60_0_4 y59.1.ld.length u60_0_6 (UC.up (zL.uc hU121_1) hOc) (UC.up (zL.uc hU121_2) hOc) (Nat.le_trans hU121_1.hcap hU121_1.hbig) (Nat.le_trans hU121_2.hcap hU121_2.hbig)) ?_
 rintro v122 w122 ⟨rfl,hO122⟩
 have hOt122 := hOc.trans hO122
 have T43_ := (zSm B48 B51 B54 B57 B60 B62 B63 B66 B69 B72 B106 B110 B114).trans B118
 have C := St.over C44 (C118.tail) T43_ hNc hOt122
 obtain ⟨C122,B122⟩ := C
 refine zz 4 ?_
 have T44_ := (T39_.trans B114).trans B118
 have hU124_1 := (u66_0__h0.mono (Le.own C63.lt (Nat.le_trans (Nat.le_trans (Nat.le_trans (Nat.le_trans (Nat.le_trans (Nat.le_trans V48.size V51.size) V54.size) V57.size) V60.size) hb62) (Nat.le_of_lt (C63.own_lt 0 rfl))) T44_)).mono Le.orr
 refine zcF (zGy _ (w44.heap.size) (Nat.le_trans hNc hOt122.size) u66_0_1 y65.1.length u66_0_2 (OC.up (vN.oc hU124_1) hOt122) (Nat.le_trans (SlR.hcap hU124_1) (SlR.hbig hU124_1))) ?_
 rintro v125 w125 ⟨rfl,hO125⟩
 have hOt125 := hOt122.trans hO125
 have C := St.over C44 (C118.tail) T43_ hNc hOt125
 obtain ⟨C125,B125⟩ := C
 refine zz 6 <| zs 91 (v := .int .i64 (i64.wrap ((k44 : Int) + 1))) (v' := .int .i64 ((k44 : Int) + 1)) (zR (jE (wk0 k44) (wk1 Q45 (by decide)))) <| zz 2 <| zP (fun a h => H44 (k44 + 1) _ a h ⟨_,C125,(Le2 B44 B125),(by rw [hn44]; exact hp)⟩ ?_)
 exact lD Q45
 rw [fV (N := (2 : Int)) Q45,qE] at hp
 refine zz 5 ?_
 exact zP (fun a h => H43 () _ a h ⟨_,C44,B44,hp⟩)
noncomputable def xA (p0 : zO) (p1 : Int) (p2 : Int) (p3 : Int) (p4 : Int) (p5 : Int) : Option (Bool) :=
 (xG p0).bind fun y5 => if y5 = true then ((xU).bind fun y9 => some y9) else ((vE p0).bind fun y12 => (vD p0).bind fun y18 => (xH p0 (p1) (p2)).bind fun y21 => (vQ p0 (p1)).bind fun y24 => (vC p0 (p4) (p2)).bind fun y27 => (wE p0 (p1) (p2)).bind fun y30 => (vM p0 (p3) (p4) (p5) (p2)).bind fun y36 => lt ((xU).bind fun y41 => some y41) fun J39 => qE p0 p1 p2 p3 p4 p5 y12 y18 y21 y24 y27 y30 y36 J39 ((2 : Int).toNat - 0) )
theorem mM (w : World) (X : Hid) (hX : ∀ k o,X k o → k < w.heap.size) (p0 : zO) (vp0 : Value) (hp0 : zW (rd w X) vp0 p0) (p1 : Int) (p2 : Int) (p3 : Int) (p4 : Int) (p5 : Int) (y : Bool) (hp : xA p0 p1 p2 p3 p4 p5 = some y) : Calls Tryz.prog 3 #[vp0,.int .i64 p1,.int .i64 p2,.int .i64 p3,.int .i64 p4,.int .i64 p5] w (Ret E0 w fun _ v => v = .bool y) := by
 have hVp0 := hp0
 refine zW.op hp0 fun D1 D2 D3 D4 D5 D6 D7 D8 D9 D10 D11 D12 D13 D14 D15 D16 D17 D18 D19 D20 D21 D22 D23 D24 hv9 p0a_h0 p0a_h1 p0a_h2 p0a_h3 p0a_h4 p0a_h5 p0a_h6 p0a_h7 p0a_h8 p0a_h9 p0a_h10 p0a_h11 => ?_
 subst hv9
 unfold xA at hp
 refine zen Tryz.func3 ?_
 have C0 : St E0 w X w X [] := St.start hX
 refine zz 2 <| zn pn (.cells (qDr p0 D1 D2 D3 D4 D5 D6 D7 D8 D9 D10 D11 D12 D13 D14 D15 D16 D17 D18 D19 D20 D21 D22 D23 D24) 30 (0,0)) C0 fun b3 w3 Y3 C3 B3 V3 => zz 6 <| zo 0 C3 <| zQ hp fun y5 hy5 hp => zc C3 (zAz _ X0 (zM _) p0 _ ((hVp0.mono B3).mono Le.x0) y5 hy5) ?_
 rintro v6 w6 C6 B6 V6 rfl
 refine zz 2 <| zb 42 (b := y5) (fun T7 => ?_) (fun T7 => ?_)
 have hp := ipb T7 hp
 refine zz 3 <| zQ hp fun y9 hy9 hp => zc C6 (mP _ X0 (zM _)  y9 hy9) ?_
 rintro v10 w10 C10 B10 V10 rfl
 refine zz 5 <| zr' (v := .bool y9) ?_
 cases hp
 exact ⟨C10.upd,_,rfl,rfl⟩
 have hp := iqb T7 hp
 refine zz 5 <| zo 0 C6 <| zQ hp fun y12 hy12 hp => zc C6 (dP _ _ C6.lt p0 _ (hVp0.mono (Le2 B3 B6)) y12 hy12) ?_
 rintro v13 w13 C13 B13 V13 u13_0_o
 refine zW.op u13_0_o fun u13_0_1 u13_0_2 u13_0_3 u13_0_4 u13_0_5 u13_0_6 u13_0_7 u13_0_8 u13_0_9 u13_0_10 u13_0_11 u13_0_12 u13_0_13 u13_0_14 u13_0_15 u13_0_16 u13_0_17 u13_0_18 u13_0_19 u13_0_20 u13_0_21 u13_0_22 u13_0_23 u13_0_24 hv9 u13_0__h0 u13_0__h1 u13_0__h2 u13_0__h3 u13_0__h4 u13_0__h5 u13_0__h6 u13_0__h7 u13_0__h8 u13_0__h9 u13_0__h10 u13_0__h11 => ?_
 subst hv9
 refine zn pn (.cells #[.slice none 0 0,.slice none 0 0,.slice none 0 0,.slice none 0 0,.int .i64 0,.int .i64 0,.int .i64 0,.slice none 0 0,.slice none 0 0,.bool false,.slice none 0 0,.slice none 0 0,.bool false,.slice none 0 0,.slice none 0 0,.bool false,.slice none 0 0,.slice none 0 0] 30 (0,0)) C13 fun b15 w15 Y15 C15 B15 V15 => zx 0 (qDr y12 u13_0_1 u13_0_2 u13_0_3 u13_0_4 u13_0_5 u13_0_6 u13_0_7 u13_0_8 u13_0_9 u13_0_10 u13_0_11 u13_0_12 u13_0_13 u13_0_14 u13_0_15 u13_0_16 u13_0_17 u13_0_18 u13_0_19 u13_0_20 u13_0_21 u13_0_22 u13_0_23 u13_0_24) C15 fun w16 C16 B16 => zz 4 <| zo 1 C16 ?_
 have T1_ := (Le4 B3 B6 B13 B15).trans B16
 refine zQ hp fun y18 hy18 hp => zc C16 (lV _ X0 (zM _) p0 _ ((hVp0.mono T1_).mono Le.x0) y18 hy18) ?_
 rintro v19 w19 C19 B19 V19 rfl
 refine zz 9 <| zo 1 C19 <| zz 2 ?_
 have T2_ := T1_.trans B19
 refine zQ hp fun y21 hy21 hp => zc C19 (aG _ X0 (zM _) p0 _ ((hVp0.mono T2_).mono Le.x0) (p1) (p2) y21 hy21) ?_
 rintro v22 w22 C22 B22 V22 rfl
 refine zz 9 <| zo 1 C22 <| zz 1 ?_
 have T3_ := T2_.trans B22
 refine zQ hp fun y24 hy24 hp => zc C22 (aQ _ X0 (zM _) p0 _ ((hVp0.mono T3_).mono Le.x0) (p1) y24 hy24) ?_
 rintro v25 w25 C25 B25 V25 rfl
 refine zz 11 <| zo 1 C25 <| zz 2 ?_
 have T4_ := T3_.trans B25
 refine zQ hp fun y27 hy27 hp => zc C25 (dS _ X0 (zM _) p0 _ ((hVp0.mono T4_).mono Le.x0) (p4) (p2) y27 hy27) ?_
 rintro v28 w28 C28 B28 V28 rfl
 refine zz 9 <| zo 1 C28 <| zz 2 ?_
 have T5_ := T4_.trans B28
 refine zQ hp fun y30 hy30 hp => zc C28 (zAi _ _ C28.lt p0 _ (hVp0.mono T5_) (p1) (p2) y30 hy30) ?_
 rintro v31 w31 C31 B31 V31 ⟨uu31_0,rfl,⟨u31_0_1,u31_0_2,u31_0_3,u31_0_4,u31_0_5,u31_0_6,rfl,u31_0__h0,u31_0__h1⟩⟩
 have C := u31_0__h0.hlen
 subst C
 have C := u31_0__h1.hlen
 subst C
 refine zz 3 <| zn pn (.cells #[.bool false,.slice none 0 0,.slice none 0 0] 28 (0,0)) C31 fun b33 w33 Y33 C33 B33 V33 => zx 0 #[.bool y30.1.neg,.slice u31_0_1 y30.1.ln.length u31_0_3,.slice u31_0_4 y30.1.ld.length u31_0_6] C33 fun w34 C34 B34 => zz 5 <| zo 2 C34 <| zz 4 ?_
 have T6_ := ((T5_.trans B31).trans B33).trans B34
 refine zQ hp fun y36 hy36 hp => zc C34 (bQ _ _ C34.lt p0 _ (hVp0.mono T6_) (p3) (p4) (p5) (p2) y36 hy36) ?_
 rintro v37 w37 C37 B37 V37 ⟨uu37_0,rfl,⟨u37_0_1,u37_0_2,rfl,u37_0__h0⟩⟩
 refine zz 7 ?_
 have T7_ := (Le9 B15 B16 B19 B22 B25 B28 B31 B33 B34).trans B37
 have T8_ := (Le9 B15 B16 B19 B22 B25 B28 B31 B33 B34).trans B37
 have T9_ := (Le9 B15 B16 B19 B22 B25 B28 B31 B33 B34).trans B37
 have T10_ := (Le9 B15 B16 B19 B22 B25 B28 B31 B33 B34).trans B37
 have T11_ := (Le9 B15 B16 B19 B22 B25 B28 B31 B33 B34).trans B37
 have T12_ := (Le9 B15 B16 B19 B22 B25 B28 B31 B33 B34).trans B37
 have T13_ := (Le9 B15 B16 B19 B22 B25 B28 B31 B33 B34).trans B37
 have T14_ := (Le9 B15 B16 B19 B22 B25 B28 B31 B33 B34).trans B37
 have T15_ := (Le9 B15 B16 B19 B22 B25 B28 B31 B33 B34).trans B37
 have T16_ := (Le9 B15 B16 B19 B22 B25 B28 B31 B33 B34).trans B37
 have T17_ := (Le9 B15 B16 B19 B22 B25 B28 B31 B33 B34).trans B37
 have T18_ := (Le9 B15 B16 B19 B22 B25 B28 B31 B33 B34).trans B37
 have T19_ := T6_.trans B37
 have T20_ := T6_.trans B37
 have T21_ := T6_.trans B37
 have T22_ := T6_.trans B37
 have T23_ := T6_.trans B37
 have T24_ := T6_.trans B37
 have T25_ := T6_.trans B37
 have T26_ := T6_.trans B37
 have T27_ := T6_.trans B37
 have T28_ := T6_.trans B37
 have T29_ := T6_.trans B37
 have T30_ := T6_.trans B37
 have T31_ := T6_.trans B37
 refine zN ⟨.code (at1 [] Tryz.f3 [1,1,1,1,1,1,1,1,1]),at2 [] Tryz.f3 [1,1,1,1,1,1,1,1,1],[(1,.int .i64 p1),(2,.int .i64 p2),(3,.int .i64 p3),(4,.int .i64 p4),(5,.int .i64 p5),(6,.pointer (some ⟨b3,0,none⟩)),(13,.pointer (some ⟨b15,0,none⟩)),(14,.int .i64 y18.1),(15,.int .i64 y18.2),(16,.int .i64 y21.1),(17,.int .i64 y21.2),(18,.int .i64 y24.1),(19,.int .i64 y24.2.1),(20,.int .i64 y24.2.2),(21,.int .i64 y27.1),(22,.int .i64 y27.2),(23,.pointer (some ⟨b33,0,none⟩)),(24,.int .i64 y30.2),(25,.slice u37_0_1 y36.1.length u37_0_2),(26,.int .i64 y36.2)]⟩ ?_
 exact nE w X y Y33 b15 b3 b33 p0 D1 D10 D11 D12 D13 D14 D15 D16 D17 D18 D19 D2 D20 D21 D22 D23 D24 D3 D4 D5 D6 D7 D8 D9 p1 p2 p3 p4 p5 u13_0_1 u13_0_10 u13_0_11 u13_0_12 u13_0_13 u13_0_14 u13_0_15 u13_0_16 u13_0_17 u13_0_18 u13_0_19 u13_0_2 u13_0_20 u13_0_21 u13_0_22 u13_0_23 u13_0_24 u13_0_3 u13_0_4 u13_0_5 u13_0_6 u13_0_7 u13_0_8 u13_0_9 u31_0_1 u31_0_3 u31_0_4 u31_0_6 u37_0_1 u37_0_2 w37 y12 y18 y21 y24 y27 y30 y36 C37 u37_0__h0 (u31_0__h1.mono (Le3 B33 B34 B37)) (u31_0__h0.mono (Le3 B33 B34 B37)) (u13_0__h11.mono T7_) (u13_0__h10.mono T8_) (u13_0__h9.mono T9_) (u13_0__h8.mono T10_) (u13_0__h7.mono T11_) (u13_0__h6.mono T12_) (u13_0__h5.mono T13_) (u13_0__h4.mono T14_) (u13_0__h3.mono T15_) (u13_0__h2.mono T16_) (u13_0__h1.mono T17_) (u13_0__h0.mono T18_) (hVp0.mono T19_) hp
set_option maxHeartbeats 1000000
theorem zXj (x : zO) (hl : bT x) (hq : zUt x) (a b : Int) : wE x a b = yE x a b := by
 obtain ⟨e,hc,g⟩ := nM x
 unfold wE
 rw [fP x hl,jB hc]
 by_cases h : e = 0
 ·subst h
  have f := (zBh x hl).1 hc
  have g := g rfl
  rw [if_neg z0]
  by_cases ha : 0 ≤ a ∧ a < (x.advisories.length : Int)
  ·rw [if_neg (by omega),if_neg (by omega)]
   by_cases hb : 0 ≤ b ∧ b < (x.advisories.length : Int)
   ·rw [if_neg (by omega),if_neg (by omega),zZi hl hq f ha hb]
   ·have hk : ¬ inS 0 ((x.advisories.length : Int) - 1) [a,b] = true := fun hi => by
     have := rO.1 hi b (by simp)
     omega
    unfold yE
    rw [zCn hc g,Option.bind_some,if_neg hk,if_pos z8]
    by_cases h1 : b < 0
    ·rw [if_pos h1]
    ·rw [if_neg h1,if_pos (by omega)]
  ·have hk : ¬ inS 0 ((x.advisories.length : Int) - 1) [a,b] = true := fun hi => by
    have := rO.1 hi a (by simp)
    omega
   unfold yE
   rw [zCn hc g,Option.bind_some,if_neg hk,if_pos z8]
   by_cases h1 : a < 0
   ·rw [if_pos h1]
   ·rw [if_neg h1,if_pos (by omega)]
 ·have h1 : (e != 0) = true := by simpa using h
  unfold yE
  rw [if_pos h1,zKv hc h,Option.bind_some,if_pos h1]
theorem zYk {α : Type} {l r : List α} {k : Nat} {o : α} (h : o :: r = l.drop k) : l[k]? = some o := by
 have := congrArg List.head? h
 rw [List.head?_drop] at this
 exact this.symm
theorem zVb (l : List Int) : kD l l = some true := by
 have go : ∀ (r : List Int) (k : Nat),r = l.drop k → yA l (some true) r k = some true := by
  intro r
  induction r with
  | nil => intro k _; rw [yA]
  | cons o r ih =>
   intro k hk
   rw [yA,jB (ixT rfl (zYk hk)),if_neg (by simp)]
   exact ih (k + 1) (nR hk).2
 unfold kD
 rw [if_neg (by simp),lt,List.drop_zero]
 exact go l 0 List.drop_zero.symm
theorem zVm (l : List qJ) : kF l l = some true := by
 have go : ∀ (r : List qJ) (k : Nat),r = l.drop k → qQ l (some true) r k = some true := by
  intro r
  induction r with
  | nil => intro k _; rw [qQ]
  | cons o r ih =>
   intro k hk
   rw [qQ,jB (ixT rfl (zYk hk)),if_neg (by simp)]
   exact ih (k + 1) (nR hk).2
 unfold kF
 rw [if_neg (by simp),lt,List.drop_zero]
 exact go l 0 List.drop_zero.symm
theorem zCt (r : Raw) : zY r r = some true := by
 unfold zY
 simp
theorem zWd (l : List zV) : kI l l = some true := by
 have go : ∀ (r : List zV) (k : Nat),r = l.drop k → jN l (some true) r k = some true := by
  intro r
  induction r with
  | nil => intro k _; rw [jN]
  | cons o r ih =>
   intro k hk
   rw [jN,jB (ixT rfl (zYk hk))]
   unfold vY
   rw [if_pos (by simp),zCt,Option.bind_some,Option.bind_some,if_neg (by simp)]
   exact ih (k + 1) (nR hk).2
 unfold kI
 rw [if_neg (by simp),lt,List.drop_zero]
 exact go l 0 List.drop_zero.symm
theorem zUd (x : zO) : xW x x = some true := by
 unfold xW
 simp [zVb,zVm,zWd,zCt]
theorem zSf (l : List Out) : jW l l = some true := by
 have go : ∀ (r : List Out) (k : Nat),r = l.drop k → jD l (some true) r k = some true := by
  intro r
  induction r with
  | nil => intro k _; rw [jD]
  | cons o r ih =>
   intro k hk
   rw [jD,jB (ixT rfl (zYk hk))]
   unfold vG
   rw [if_pos (by simp),zCt,Option.bind_some,Option.bind_some,if_neg (by simp)]
   exact ih (k + 1) (nR hk).2
 unfold jW
 rw [if_neg (by simp),lt,List.drop_zero]
 exact go l 0 List.drop_zero.symm
set_option maxHeartbeats 1000000
theorem qAf : ∀ l : List Raw,qH (some false) l = some false → ∀ r ∈ l,r.ln.length ≤ 200 ∧ r.ld.length ≤ 200
 | [],_,r,hr => nomatch hr
 | q :: l,h,r,hr => by
  rw [qH] at h
  have key : q.ln.length ≤ 200 ∧ q.ld.length ≤ 200 ∧ qH (some false) l = some false := by
   repeat' split at h
   all_goals first | exact absurd h (by decide) | exact ⟨by omega,by omega,h⟩
  rcases List.mem_cons.1 hr with rfl | hr
  ·exact ⟨key.1,key.2.1⟩
  ·exact qAf l key.2.2 r hr
theorem zHc {l : List Raw} (h : yP l = some false) : ∀ r ∈ l,r.ln.length ≤ 200 ∧ r.ld.length ≤ 200 := by
 unfold yP at h
 rw [lt,List.drop_zero] at h
 exact qAf l h
theorem zVv {J : Option Bool} : ∀ l : List zV,qX J l = some false → (∀ n ∈ l,n.p.ln.length ≤ 200 ∧ n.p.ld.length ≤ 200) ∧ J = some false
 | [],h => by rw [qX] at h; exact ⟨fun _ h => (nomatch h),h⟩
 | n :: l,h => by
  rw [qX] at h
  obtain ⟨b,hb⟩ := zKn [n.p]
  rw [jB hb] at h
  cases b with
  | true => rw [if_pos rfl] at h; exact absurd h (by decide)
  | false =>
   rw [if_neg (by decide)] at h
   obtain ⟨h1,h2⟩ := zVv l h
   refine ⟨fun m hm => ?_,h2⟩
   rcases List.mem_cons.1 hm with rfl | hm
   ·exact zHc hb _ (by simp)
   ·exact h1 m hm
theorem zVd {J : Option Bool} : ∀ l : List zV,qW J l = some false → (∀ n ∈ l,n.p.ln.length ≤ 200 ∧ n.p.ld.length ≤ 200) ∧ J = some false
 | [],h => by rw [qW] at h; exact ⟨fun _ h => (nomatch h),h⟩
 | n :: l,h => by
  rw [qW] at h
  obtain ⟨b,hb⟩ := zKn [n.p]
  rw [jB hb] at h
  cases b with
  | true => rw [if_pos rfl] at h; exact absurd h (by decide)
  | false =>
   rw [if_neg (by decide)] at h
   obtain ⟨h1,h2⟩ := zVd l h
   refine ⟨fun m hm => ?_,h2⟩
   rcases List.mem_cons.1 hm with rfl | hm
   ·exact zHc hb _ (by simp)
   ·exact h1 m hm
theorem zUx (l : List Int) (h : l.length ≤ 200) : kJ l = some l := by
 have go : ∀ (J : List Int → Option (List Int)) (r acc : List Int),acc.length + r.length ≤ 1000 → yK J r acc = J (acc ++ r) := by
  intro J r
  induction r with
  | nil => intro acc _; rw [yK,List.append_nil]
  | cons z r ih => intro acc ha; rw [yK,rZ (by simp at ha; omega),ih _ (by simp at ha ⊢; omega)]; simp
 unfold kJ
 rw [lt,List.drop_zero,go _ _ _ (by simp; omega),List.nil_append]
theorem qCl (l : List qJ) (h : l.length ≤ 200) : kP l = some l := by
 have go : ∀ (J : List qJ → Option (List qJ)) (r acc : List qJ),acc.length + r.length ≤ 1000 → qU J r acc = J (acc ++ r) := by
  intro J r
  induction r with
  | nil => intro acc _; rw [qU,List.append_nil]
  | cons z r ih => intro acc ha; rw [qU,rZ (by simp at ha; omega),ih _ (by simp at ha ⊢; omega)]; simp
 unfold kP
 rw [lt,List.drop_zero,go _ _ _ (by simp; omega),List.nil_append]
theorem zPw {r : Raw} (h : r.ln.length ≤ 200 ∧ r.ld.length ≤ 200) : kV r = some r := by
 unfold kV
 rw [rZ (by omega)]
theorem zZs (l : List zV) (h : l.length ≤ 200) (hr : ∀ n ∈ l,n.p.ln.length ≤ 200 ∧ n.p.ld.length ≤ 200) : kS l = some l := by
 have go : ∀ (J : List zV → Option (List zV)) (r acc : List zV),(∀ n ∈ r,n.p.ln.length ≤ 200 ∧ n.p.ld.length ≤ 200) → acc.length + r.length ≤ 1000 → jR J r acc = J (acc ++ r) := by
  intro J r
  induction r with
  | nil => intro acc _ _; rw [jR,List.append_nil]
  | cons z r ih =>
   intro acc hz ha
   rw [jR]
   unfold wJ
   rw [jB (zPw (hz z (by simp))),Option.bind_some,rZ (by simp at ha; omega),ih _ (fun n hn => hz n (by simp [hn])) (by simp at ha ⊢; omega)]
   simp
 unfold kS
 rw [lt,List.drop_zero,go _ _ _ hr (by simp; omega),List.nil_append]
theorem qCx {x : zO} (h : xG x = some false) : vE x = some x := by
 unfold xG at h
 have tn : ∀ {p : Prop} [Decidable p] {A : Option Bool},(if p then some true else A) = some false → ¬ p ∧ A = some false := fun {p} _ {A} h => by
  by_cases hp : p
  ·rw [if_pos hp] at h; exact absurd h (by decide)
  ·rw [if_neg hp] at h; exact ⟨hp,h⟩
 obtain ⟨h1,h⟩ := tn h
 obtain ⟨h2,h⟩ := tn h
 obtain ⟨h3,h⟩ := tn h
 obtain ⟨h4,h⟩ := tn h
 obtain ⟨h5,h⟩ := tn h
 obtain ⟨h6,h⟩ := tn h
 simp only [lt,List.drop_zero] at h
 obtain ⟨o,h⟩ := zVd _ h
 obtain ⟨t,h⟩ := zVv _ h
 obtain ⟨b,hb⟩ := zKn [x.alert,x.strengthen,x.reversal]
 rw [hb,Option.bind_some] at h
 rw [Option.some.inj h] at hb
 have q := zHc hb
 unfold vE
 rw [jB (zUx _ (by omega)),jB (zUx _ (by omega)),jB (zUx _ (by omega)),jB (qCl _ (by omega)),jB (zZs _ (by omega) o),jB (zZs _ (by omega) t),jB (zPw (q _ (by simp))),jB (zPw (q _ (by simp))),jB (zPw (q _ (by simp)))]
set_option maxHeartbeats 1000000
theorem zCh (p0 : List (List Int)) (J : List Int → Option (List Int)) (n i : Nat) {x : List Int} (hx : p0[i]? = some x) (h1 : 1 ≤ x.length) {L : List Int} (hL : i < L.length) (v : Nat) (hv : v ≤ 1000000) (hi : i ≤ 100) :
  jA p0 J (n + 1) (v : Int) (i : Int) L = jA p0 J n ((v / x.length : Nat) : Int) ((i : Int) - 1) (L.set i ((v % x.length : Nat) : Int)) := by
 have hg : L[i]? = some L[i] := List.getElem?_eq_getElem hL
 have hd : v / x.length ≤ v := Nat.div_le_self _ _
 rw [jA,if_pos (by omega),jB (ixT rfl hx),rZ (by omega),jB (ixT rfl hg),rZ (by omega)]
 show jA p0 J n (i64.wrap (((v / x.length : Nat)) : Int)) (i64.wrap ((i : Int) - 1)) (L.set (i : Int).toNat (((v % x.length : Nat)) : Int)) = _
 generalize v / x.length = q at hd ⊢
 rw [jE (by omega) (by omega),jE (by omega) (by omega),Int.toNat_natCast]
theorem qBn {a b c : List Int} (ha : 1 ≤ a.length) (hb : 1 ≤ b.length) (hc : 1 ≤ c.length) (k : Nat) (hk : k ≤ 1000000) : vR [a,b,c] (k : Int) = some [((k / c.length / b.length % a.length : Nat) : Int),((k / c.length % b.length : Nat) : Int),((k % c.length : Nat) : Int)] := by
 have d1 : k / c.length ≤ k := Nat.div_le_self _ _
 have d2 : k / c.length / b.length ≤ k / c.length := Nat.div_le_self _ _
 unfold vR
 rw [rZ (by simp)]
 show jA [a,b,c] (fun v => some v) 4 (k : Int) ((2 : Nat) : Int) [0,0,0] = _
 rw [zCh _ _ _ 2 rfl hc (by decide) k hk (by decide),show (((2 : Nat) : Int) - 1) = ((1 : Nat) : Int) from rfl,zCh _ _ _ 1 rfl hb (by simp) _ (by omega) (by decide),show (((1 : Nat) : Int) - 1) = ((0 : Nat) : Int) from rfl,zCh _ _ _ 0 rfl ha (by simp) _ (by omega) (by decide),jA,if_neg (by decide)]
 rfl
def xN (i : Nat) : List (Nat × Rat) → Rat
 | [] => 0
 | s :: S => (if s.1 = i then s.2 else 0) + xN i S
theorem ofr {n d : Int} (h1 : -9223372036854775808 ≤ n ∧ n ≤ 9223372036854775807) (h2 : 0 < d ∧ d ≤ 9223372036854775807) : wS n d = some (Raw.of (mkRat n d.toNat),0) := zXg h1 h2
theorem zXe {l : List Int} (h : wF l) {i : Nat} {c : Int} (bc : -50000 ≤ c ∧ c ≤ 50000) {x : Int} (hx : l[i]? = some x) :
  xJ l (i : Int) c = some (if c = x then Raw.of 1 else match l[i + 1]? with
   | some z => if x < c ∧ c < z then Raw.of (mkRat (z - c) (z - x).toNat) else if 0 < i ∧ c < x ∧ l.getD (i - 1) 0 < c then Raw.of (mkRat (c - l.getD (i - 1) 0) (x - l.getD (i - 1) 0).toNat) else Raw.zero
   | none => if 0 < i ∧ c < x ∧ l.getD (i - 1) 0 < c then Raw.of (mkRat (c - l.getD (i - 1) 0) (x - l.getD (i - 1) 0).toNat) else Raw.zero) := by
 have h32 := h.le
 have hil : i < l.length := (List.getElem?_eq_some_iff.1 hx).1
 have bx := h.bdi hx
 have low : ∀ v : Raw,(¬ (x < c)) ∨ True → (if (i : Int) > 0 then (if c < x then ((ix l (i64.wrap ((i : Int) - 1))).bind fun x29 => if decide (c > x29) = true then ((ix l (i64.wrap ((i : Int) - 1))).bind fun x17 => (wS (i64.wrap (c - x17)) (i64.wrap (x - x17))).bind fun y20 => some y20.1) else some v) else some v) else some v) = some (if 0 < i ∧ c < x ∧ l.getD (i - 1) 0 < c then Raw.of (mkRat (c - l.getD (i - 1) 0) (x - l.getD (i - 1) 0).toNat) else v) := fun v _ => by
  by_cases h0 : 0 < i
  ·rw [if_pos (by omega)]
   by_cases h1 : c < x
   ·rw [if_pos h1]
    have hq : l[i - 1]? = some l[i - 1] := List.getElem?_eq_getElem (by omega)
    have bq := h.bdi hq
    have e : l.getD (i - 1) 0 = l[i - 1] := by rw [List.getD_eq_getElem?_getD,hq]; rfl
    have w1 : i64.wrap ((i : Int) - 1) = ((i - 1 : Nat) : Int) := by rw [jE (by omega) (by omega)]; omega
    rw [e,w1,jB (ixT rfl hq)]
    by_cases h2 : l[i - 1] < c
    ·rw [if_pos (by simpa using h2),jB (ixT rfl hq),jE (by omega) (by omega),jE (by omega) (by omega),ofr (by omega) (by omega),Option.bind_some,if_pos ⟨h0,h1,h2⟩]
    ·rw [if_neg (by simpa using h2),if_neg fun h => h2 h.2.2]
   ·rw [if_neg h1,if_neg fun h => h1 h.2.1]
  ·rw [if_neg (by omega),if_neg fun h => h0 h.1]
 unfold xJ
 rw [jB (ixT rfl hx)]
 by_cases e : c = x
 ·rw [if_pos (by simpa using e),if_pos e,show xD (1 : Int) = some (Raw.of ((1 : Int) : Rat)) from rZ (by decide)]
  rfl
 rw [if_neg (by simpa using e),if_neg e]
 simp only [lt]
 rw [jE (x := (i : Int) + 1) (by omega) (by omega)]
 by_cases hz : i + 1 < l.length
 ·have hq : l[i + 1]? = some l[i + 1] := List.getElem?_eq_getElem hz
  have bq := h.bdi hq
  rw [hq,if_pos (by omega)]
  by_cases h1 : x < c
  ·rw [if_pos h1,jB (ixT (k := i + 1) (by omega) hq)]
   by_cases h2 : c < l[i + 1]
   ·rw [if_pos (by simpa using h2),jB (ixT (k := i + 1) (by omega) hq),jE (by omega) (by omega),jE (by omega) (by omega),ofr (by omega) (by omega),Option.bind_some]
    refine (low _ (.inr trivial)).trans ?_
    rw [if_neg (by omega)]
    show _ = some (if x < c ∧ c < l[i + 1] then _ else _)
    rw [if_pos ⟨h1,h2⟩]
   ·rw [if_neg (by simpa using h2)]
    refine (low _ (.inr trivial)).trans ?_
    show _ = some (if x < c ∧ c < l[i + 1] then _ else _)
    rw [if_neg (show ¬ (x < c ∧ c < l[i + 1]) from fun h => h2 h.2)]
  ·rw [if_neg h1,if_neg (by decide)]
   refine (low _ (.inr trivial)).trans ?_
   show _ = some (if x < c ∧ c < l[i + 1] then _ else _)
   rw [if_neg (show ¬ (x < c ∧ c < l[i + 1]) from fun h => h1 h.1)]
 ·rw [List.getElem?_eq_none (by omega),if_neg (by omega),if_neg (by decide)]
  exact low _ (.inr trivial)
theorem wF.mid3 {l : List Int} (h : wF l) {k j : Nat} {a b a' b' c : Int} (h1 : l[k]? = some a) (h2 : l[k + 1]? = some b) (h3 : a < c) (h4 : c < b) (k1 : l[j]? = some a') (k2 : l[j + 1]? = some b') (k3 : a' < c) (k4 : c < b') : k = j := by
 have p := h.mid2 h1 h2 h3 h4 k1 k2 k3 k4
 have q := h.mid2 k1 k2 k3 k4 h1 h2 h3 h4
 omega
theorem zAo {l : List Int} (h : wF l) {i : Nat} (hi : i < l.length) {c : Int} (bc : -50000 ≤ c ∧ c ≤ 50000) {S : List (Nat × Rat)} (hs : wD l c S) : xJ l (i : Int) c = some (Raw.of (xN i S)) := by
 obtain ⟨x,hx⟩ : ∃ x,l[i]? = some x := ⟨l[i],List.getElem?_eq_getElem hi⟩
 have lowg : 0 < i → l[i - 1]? = some (l.getD (i - 1) 0) ∧ l[i - 1 + 1]? = some x := fun h0 => by
  refine ⟨?_,by rw [Nat.sub_add_cancel h0]; exact hx⟩
  rw [List.getD_eq_getElem?_getD,List.getElem?_eq_getElem (by omega)]
  rfl
 rw [zXe h bc hx]
 congr 1
 rcases hs with ⟨k,hk,rfl⟩ | ⟨k,a,b,ha,hb,h3,h4,rfl⟩
 ·by_cases e : c = x
  ·subst e
   obtain rfl := h.inj hk hx
   rw [if_pos rfl]
   simp [xN,Rat.add_zero]
  ·have hne : ¬ k = i := fun e2 => by subst e2; rw [hk] at hx; exact e (Option.some.inj hx)
   have nl : ¬ (0 < i ∧ c < x ∧ l.getD (i - 1) 0 < c) := fun hh => h.mid (lowg hh.1).1 (lowg hh.1).2 hh.2.2 hh.2.1 hk
   rw [if_neg e,if_neg nl,show xN i [(k,(1 : Rat))] = 0 by simp [xN,hne,Rat.add_zero],of0]
   cases hz : l[i + 1]? with
   | none => rfl
   | some z =>
    show (if x < c ∧ c < z then _ else Raw.zero) = Raw.zero
    rw [if_neg fun hh => h.mid hx hz hh.1 hh.2 hk]
 ·have e : ¬ c = x := fun e => by subst e; exact h.mid ha hb h3 h4 hx
  rw [if_neg e]
  by_cases e1 : k = i
  ·subst e1
   rw [ha] at hx
   cases hx
   rw [hb]
   show (if x < c ∧ c < b then _ else _) = _
   rw [if_pos ⟨h3,h4⟩]
   simp [xN,Rat.add_zero]
  ·by_cases e2 : k + 1 = i
   ·subst e2
    rw [hb] at hx
    cases hx
    have hg : l.getD (k + 1 - 1) 0 = a := by rw [Nat.add_sub_cancel,List.getD_eq_getElem?_getD,ha]; rfl
    rw [hg,if_pos (show 0 < k + 1 ∧ c < x ∧ a < c from ⟨by omega,h4,h3⟩),show xN (k + 1) [(k,mkRat (x - c) (x - a).toNat),(k + 1,mkRat (c - a) (x - a).toNat)] = mkRat (c - a) (x - a).toNat by simp [xN,Rat.add_zero,Rat.zero_add]]
    cases hz : l[k + 1 + 1]? with
    | none => rfl
    | some z =>
     show (if x < c ∧ c < z then _ else _) = _
     rw [if_neg (show ¬ (x < c ∧ c < z) by omega)]
   ·have nl : ¬ (0 < i ∧ c < x ∧ l.getD (i - 1) 0 < c) := fun hh => by
     have := h.mid3 ha hb h3 h4 (lowg hh.1).1 (lowg hh.1).2 hh.2.2 hh.2.1
     omega
    rw [if_neg nl,show xN i [(k,mkRat (b - c) (b - a).toNat),(k + 1,mkRat (c - a) (b - a).toNat)] = 0 by simp [xN,e1,e2,Rat.add_zero],of0]
    cases hz : l[i + 1]? with
    | none => rfl
    | some z =>
     show (if x < c ∧ c < z then _ else Raw.zero) = Raw.zero
     rw [if_neg fun hh => e1 (h.mid3 ha hb h3 h4 hx hz hh.1 hh.2)]
theorem zFn (i : Nat) : ∀ S T : List (Nat × Rat),xN i (S ++ T) = xN i S + xN i T
 | [],T => by simp [xN,Rat.zero_add]
 | s :: S,T => by rw [List.cons_append,xN,xN,zFn i S T,Rat.add_assoc]
theorem zMf {len : Nat} (i j : Nat) (hj : j < len) (p : Nat × Rat) : ∀ S : List (Nat × Rat),(∀ s ∈ S,s.1 < len) → xN (i * len + j) (S.map fun s => (p.1 * len + s.1,p.2 * s.2)) = (if p.1 = i then p.2 else 0) * xN j S
 | [],_ => by simp [xN,Rat.mul_zero]
 | s :: S,hs => by
  have h1 := hs s (by simp)
  rw [List.map_cons,xN,xN,zMf i j hj p S fun t ht => hs t (by simp [ht]),Rat.mul_add]
  congr 1
  by_cases e : p.1 = i
  ·rw [if_pos e]
   subst e
   by_cases e2 : s.1 = j
   ·rw [if_pos e2,if_pos (by rw [e2])]
   ·rw [if_neg e2,if_neg (by omega),Rat.mul_zero]
  ·rw [if_neg e,Rat.zero_mul,if_neg]
   intro e2
   have a1 : (p.1 * len + s.1) / len = p.1 := by rw [Nat.mul_comm,Nat.mul_add_div (by omega),Nat.div_eq_of_lt h1,Nat.add_zero]
   have a2 : (i * len + j) / len = i := by rw [Nat.mul_comm,Nat.mul_add_div (by omega),Nat.div_eq_of_lt hj,Nat.add_zero]
   exact e (a1.symm.trans ((congrArg (· / len) e2).trans a2))
theorem bM {len : Nat} (i j : Nat) (hj : j < len) {S : List (Nat × Rat)} (hs : ∀ s ∈ S,s.1 < len) : ∀ W : List (Nat × Rat),xN (i * len + j) (sS len W S) = xN i W * xN j S
 | [] => by simp [sS,xN,Rat.zero_mul]
 | p :: W => by
  have ih := bM i j hj hs W
  unfold sS at ih ⊢
  rw [List.flatMap_cons,zFn,ih,zMf i j hj p S hs,xN,Rat.add_mul]
set_option maxHeartbeats 1000000
theorem zPg {l : List Int} (h : wF l) (x : Int) : vU l x = some (sO l x) := by
 have hn := h.ne
 have hn2 := h.le
 obtain ⟨a,ha⟩ : ∃ a,l[0]? = some a := ⟨l[0]'(by omega),by simp⟩
 obtain ⟨z,hz⟩ : ∃ z,l[l.length - 1]? = some z := ⟨l[l.length - 1]'(by omega),by simp⟩
 have haz : a ≤ z := by
  rcases Nat.eq_zero_or_pos (l.length - 1) with e | e
  ·rw [e,ha] at hz; cases hz; omega
  ·exact Int.le_of_lt (h.lt e ha hz)
 unfold vU
 rw [jB (ixT (i := (0 : Int)) (k := 0) rfl ha),jB (ixT (k := l.length - 1) (by rw [jE (by omega) (by omega)]; omega) hz)]
 unfold sO rH
 rw [zTb ha,zVq hz]
 congr 1
 repeat' split
 all_goals omega
theorem zCz (i : Nat) {d B : Nat} (hd : d ≠ 0) : ∀ S : List (Nat × Rat),(∀ s ∈ S,DB d B s.2) → DB d (S.length * B) (xN i S)
 | [],_ => by rw [List.length_nil,Nat.zero_mul]; exact DB.zero
 | s :: S,h => by
  have ih := zCz i hd S fun t ht => h t (by simp [ht])
  rw [xN,List.length_cons,Nat.succ_mul,Nat.add_comm]
  refine DB.add hd ?_ ih
  split
  ·exact h s (by simp)
  ·exact DB.zero.mono (Nat.zero_le _)
theorem len0 (q : Rat) : ((Raw.of q).ln.length : Int) > 0 ↔ q ≠ 0 := by
 have e : (Raw.of q).ln = rF q.num.natAbs := rfl
 constructor
 ·intro h e2
  subst e2
  rw [of0] at h
  exact absurd h (by decide)
 ·intro h
  have : (Raw.of q).ln ≠ [] := fun e2 => by
   have e3 := congrArg val e2
   rw [e,nN,show val [] = 0 from rfl] at e3
   exact h (Rat.num_eq_zero.1 (Int.natAbs_eq_zero.1 e3))
  have := List.length_pos_iff.2 this
  omega
theorem zDk {p q : Rat} (hp : xM p = 0) (hq : xM q = 0) : yL (Raw.of p) (Raw.of q) = some (Raw.of (p * q)) := by
 unfold yL
 rw [rZ ⟨zJi (sQ hp).1,zJi (sQ hq).1⟩,Raw.of_rat,Raw.of_rat]
theorem zWi {a b c : List Int} (ha : a.length ≤ 32) (hb : b.length ≤ 32) (hc : c.length ≤ 32) : xS [a,b,c] = some ((a.length * b.length * c.length : Nat) : Int) := by
 have e1 : a.length * b.length ≤ 32 * 32 := Nat.mul_le_mul ha hb
 have e2 : a.length * b.length * c.length ≤ 32 * 32 * 32 := Nat.mul_le_mul e1 hc
 have w1 : ∀ a b : Nat,a * b ≤ 196608 → i64.wrap ((a : Int) * (b : Int)) = ((a * b : Nat) : Int) := fun a b h => by
  rw [← Int.natCast_mul]
  exact jE (by omega) (by omega)
 unfold xS
 rw [lt,List.drop_zero,qN,show i64.wrap (1 * (a.length : Int)) = (a.length : Int) by rw [Int.one_mul]; exact jE (by omega) (by omega),qN,w1 _ _ (by omega),qN,w1 _ _ (by omega),qN]
def lw (W : List (Nat × Rat)) (k m : Nat) : List zU := ((List.range' k m).filter fun k => decide (xN k W ≠ 0)).map fun k => dX (k,xN k W)
section
variable {a b c : List Int} {x y z : Int} {Sa Sb Sc : List (Nat × Rat)}
theorem axes (ha : wF a) (hb : wF b) (hc : wF c) (h1 : wD a (sO a x) Sa) (h2 : wD b (sO b y) Sb) (h3 : wD c (sO c z) Sc) (J : Raw → Option (List zU × Int)) {i j m : Nat} (hi : i < a.length) (hj : j < b.length) (hm : m < c.length) :
  qP [x,y,z] [(i : Int),(j : Int),(m : Int)] J [a,b,c] 0 (Raw.of 1) = J (Raw.of (xN i Sa * xN j Sb * xN m Sc)) := by
 have bd : ∀ {l : List Int} (x : Int),wF l → -50000 ≤ sO l x ∧ sO l x ≤ 50000 := fun {l} x h => by
  have hn := h.ne
  obtain ⟨a,ha⟩ : ∃ a,l[0]? = some a := ⟨l[0]'(by omega),by simp⟩
  obtain ⟨z,hz⟩ : ∃ z,l[l.length - 1]? = some z := ⟨l[l.length - 1]'(by omega),by simp⟩
  have haz : a ≤ z := by
   rcases Nat.eq_zero_or_pos (l.length - 1) with e | e
   ·rw [e,ha] at hz; cases hz; omega
   ·exact Int.le_of_lt (h.lt e ha hz)
  have b1 := h.bdi ha
  have b2 := h.bdi hz
  have := zMl (x := x) haz
  unfold sO
  rw [zTb ha,zVq hz]
  omega
 obtain ⟨n1,_,d1,e1,f1,g1⟩ := h1.db ha
 obtain ⟨n2,_,d2,e2,f2,g2⟩ := h2.db hb
 obtain ⟨n3,_,d3,e3,f3,g3⟩ := h3.db hc
 have q1 := (zCz i e1 Sa g1).mono (Nat.mul_le_mul n1 f1)
 have q2 := (zCz j e2 Sb g2).mono (Nat.mul_le_mul n2 f2)
 have q3 := (zCz m e3 Sc g3).mono (Nat.mul_le_mul n3 f3)
 have k1 : d1 < xL := Nat.lt_of_le_of_lt f1 (by decide)
 have k2 : d2 < xL := Nat.lt_of_le_of_lt f2 (by decide)
 have k3 : d3 < xL := Nat.lt_of_le_of_lt f3 (by decide)
 have r1 : xM (xN i Sa) = 0 := q1.fit k1 (by decide)
 have r2 : xM (xN j Sb) = 0 := q2.fit k2 (by decide)
 have r3 : xM (xN m Sc) = 0 := q3.fit k3 (by decide)
 have r12 : xM (xN i Sa * xN j Sb) = 0 := (q1.mul q2).fit (Nat.lt_of_le_of_lt (Nat.mul_le_mul f1 f2) (by decide)) (by decide)
 have ro : xM (1 : Rat) = 0 := by decide
 have o1 : (1 : Rat) * xN i Sa = xN i Sa := Rat.one_mul _
 rw [qP,jB (ixT (i := ((0 : Nat) : Int)) (k := 0) rfl rfl),jB (ixT (i := ((0 : Nat) : Int)) (k := 0) rfl rfl),jB (zPg ha x),jB (zAo ha hi (bd x ha) h1),jB (zDk ro r1),o1]
 rw [qP,jB (ixT (i := ((0 + 1 : Nat) : Int)) (k := 1) rfl rfl),jB (ixT (i := ((0 + 1 : Nat) : Int)) (k := 1) rfl rfl),jB (zPg hb y),jB (zAo hb hj (bd y hb) h2),jB (zDk r1 r2)]
 rw [qP,jB (ixT (i := ((0 + 1 + 1 : Nat) : Int)) (k := 2) rfl rfl),jB (ixT (i := ((0 + 1 + 1 : Nat) : Int)) (k := 2) rfl rfl),jB (zPg hc z),jB (zAo hc hm (bd z hc) h3),jB (zDk r12 r3),qP]
theorem sum3 (ha : wF a) (hb : wF b) (hc : wF c) (h1 : wD a (sO a x) Sa) (h2 : wD b (sO b y) Sb) (h3 : wD c (sO c z) Sc) {k : Nat} (hk : k < a.length * b.length * c.length) :
  xN k (sS c.length (sS b.length (sS a.length [((0 : Nat),(1 : Rat))] Sa) Sb) Sc) = xN (k / c.length / b.length) Sa * xN (k / c.length % b.length) Sb * xN (k % c.length) Sc := by
 have hb1 := hb.ne
 have T1 := hc.ne
 have d1 : k / c.length < a.length * b.length := Nat.div_lt_of_lt_mul (by rw [Nat.mul_comm]; exact hk)
 have d2 : k / c.length / b.length < a.length := Nat.div_lt_of_lt_mul (by rw [Nat.mul_comm]; exact d1)
 have e1 : k = k / c.length * c.length + k % c.length := by have := Nat.div_add_mod k c.length; rw [Nat.mul_comm] at this; omega
 have e2 : k / c.length = k / c.length / b.length * b.length + k / c.length % b.length := by have := Nat.div_add_mod (k / c.length) b.length; rw [Nat.mul_comm] at this; omega
 have e3 : k / c.length / b.length = 0 * a.length + k / c.length / b.length := by rw [Nat.zero_mul,Nat.zero_add]
 have s1 := bM (k / c.length) (k % c.length) (Nat.mod_lt _ (by omega)) (h3.db hc).2.1 (sS b.length (sS a.length [((0 : Nat),(1 : Rat))] Sa) Sb)
 have s2 := bM (k / c.length / b.length) (k / c.length % b.length) (Nat.mod_lt _ (by omega)) (h2.db hb).2.1 (sS a.length [((0 : Nat),(1 : Rat))] Sa)
 have s3 := bM 0 (k / c.length / b.length) d2 (h1.db ha).2.1 [((0 : Nat),(1 : Rat))]
 rw [← e1] at s1
 rw [← e2] at s2
 rw [← e3] at s3
 rw [s1,s2,s3]
 simp [xN,Rat.add_zero,Rat.one_mul]
end
set_option maxHeartbeats 1000000
theorem zRa (W : List (Nat × Rat)) (k m : Nat) : lw W k (m + 1) = if xN k W ≠ 0 then dX (k,xN k W) :: lw W (k + 1) m else lw W (k + 1) m := by
 unfold lw
 rw [List.range'_succ,List.filter_cons]
 by_cases h : xN k W ≠ 0
 ·rw [if_pos (by simpa using h),if_pos h,List.map_cons]
 ·rw [if_neg (by simpa using h),if_neg h]
section
variable {a b c : List Int} {x y z : Int}
theorem zHl (ha : wF a) (hb : wF b) (hc : wF c) (hN : a.length * b.length * c.length ≤ 256) {W : List (Nat × Rat)} (hW : aI a b c x y z W) (J : List zU → Option (List zU × Int)) : ∀ (m k n : Nat) (acc : List zU),k + m = a.length * b.length * c.length → m < n → acc.length ≤ k →
  jG [a,b,c] [x,y,z] J n k acc = J (acc ++ lw W k m)
 | m,k,0,acc,_,hn,_ => by omega
 | 0,k,n + 1,acc,hk,_,_ => by
  rw [jG,zWi ha.le hb.le hc.le,Option.bind_some,if_neg (by omega)]
  simp [lw]
 | m + 1,k,n + 1,acc,hk,hn,hac => by
  have na := ha.ne
  have nb := hb.ne
  have nc := hc.ne
  obtain ⟨Sa,Sb,Sc,h1,h2,h3,rfl⟩ := hW
  have hkN : k < a.length * b.length * c.length := by omega
  have d1 : k / c.length < a.length * b.length := Nat.div_lt_of_lt_mul (by rw [Nat.mul_comm]; exact hkN)
  have d2 : k / c.length / b.length < a.length := Nat.div_lt_of_lt_mul (by rw [Nat.mul_comm]; exact d1)
  have ih1 := fun acc' h => zHl ha hb hc hN ⟨Sa,Sb,Sc,h1,h2,h3,rfl⟩ J m (k + 1) n acc' (by omega) (by omega) h
  rw [jG,zWi ha.le hb.le hc.le,Option.bind_some,if_pos (by omega),qBn na nb nc k (by omega),Option.bind_some,Nat.mod_eq_of_lt d2,show xD (1 : Int) = some (Raw.of ((1 : Int) : Rat)) from rZ (by decide),Option.bind_some]
  simp only [lt,List.drop_zero]
  refine (axes ha hb hc h1 h2 h3 _ d2 (Nat.mod_lt _ (by omega)) (Nat.mod_lt _ (by omega))).trans ?_
  rw [← sum3 ha hb hc h1 h2 h3 hkN,zRa]
  generalize sS c.length (sS b.length (sS a.length [((0 : Nat),(1 : Rat))] Sa) Sb) Sc = W at *
  by_cases hz : xN k W ≠ 0
  ·rw [if_pos ((len0 _).2 hz),if_pos hz,rZ (by omega),ih1 _ (by simp; omega)]
   rw [List.append_assoc]
   rfl
  ·rw [if_neg (fun h => hz ((len0 _).1 h)),if_neg hz,ih1 _ (by omega)]
theorem zVl (ha : wF a) (hb : wF b) (hc : wF c) (hck : yU [a,b,c] = some 0) (hN : a.length * b.length * c.length ≤ 256) : vB [a,b,c] [x,y,z] = some (lw (Wf a b c x y z) 0 (a.length * b.length * c.length),0) := by
 have hW := (aA ha hb hc hck x y z).1
 unfold vB
 rw [zWh,hck,Option.bind_some,if_neg z0,if_neg (by simp),lt,zHl ha hb hc hN hW _ (a.length * b.length * c.length) 0 257 [] (by omega) (by omega) (by simp),List.nil_append]
end
set_option maxHeartbeats 1000000
def vec (N : Nat) (φ : Nat → Rat) : List Raw := (List.range N).map fun k => Raw.of (φ k)
theorem zRc {N k : Nat} (φ : Nat → Rat) (hk : k < N) : (vec N φ)[k]? = some (Raw.of (φ k)) := by
 unfold vec
 rw [List.getElem?_map,List.getElem?_range hk]
 rfl
theorem zBk {N : Nat} {φ ψ : Nat → Rat} (h : ∀ j,j < N → φ j = ψ j) : vec N φ = vec N ψ := by
 unfold vec
 refine List.map_congr_left fun j hj => ?_
 rw [h j (List.mem_range.1 hj)]
theorem zYm {N k : Nat} (φ : Nat → Rat) (q : Rat) : (vec N φ).set k (Raw.of q) = vec N (fun j => if j = k then q else φ j) := by
 refine List.ext_getElem? fun j => ?_
 rw [List.getElem?_set]
 unfold vec
 simp only [List.length_map,List.length_range,List.getElem?_map]
 by_cases e : k = j
 ·subst e
  rw [if_pos rfl]
  by_cases hk : k < N
  ·rw [if_pos hk,List.getElem?_range hk]; simp
  ·rw [if_neg hk,List.getElem?_eq_none (by simpa using hk)]; rfl
 ·rw [if_neg e]
  by_cases hj : j < N
  ·rw [List.getElem?_range hj]; simp [show ¬ j = k from fun h => e h.symm]
  ·rw [List.getElem?_eq_none (by simpa using hj)]; rfl
theorem r58 {N : Nat} (J : List Raw → Option (List Out)) {pq : Rat} {W : List (Nat × Rat)} (fq : xM pq = 0) (fw : ∀ j,xM (xN j W) = 0) (fp : ∀ j,xM (pq * xN j W) = 0) : ∀ (m k : Nat) (φ : Nat → Rat),k + m = N → N ≤ 1000 → (∀ j,k ≤ j → xM (φ j) = 0) →
  jZ J (Raw.of pq) (lw W k m) (vec N φ) = J (vec N (fun j => if k ≤ j then φ j + pq * xN j W else φ j))
 | 0,k,φ,hk,_,_ => by
  rw [show lw W k 0 = [] from rfl,jZ]
  congr 1
  exact zBk fun j hj => by rw [if_neg (by omega)]
 | m + 1,k,φ,hk,hN,hf => by
  rw [zRa]
  by_cases hz : xN k W ≠ 0
  ·rw [if_pos hz,jZ,show (dX (k,xN k W)).vertex = (k : Int) from rfl,show (dX (k,xN k W)).w = Raw.of (xN k W) from rfl,jB (ixT rfl (zRc φ (by omega))),jB (zDk fq (fw k)),jB (zDv (hf k (Nat.le_refl _)) (sQ (fp k)).1),Raw.of_rat,Int.toNat_natCast,zYm]
   rw [r58 J fq fw fp m (k + 1) _ (by omega) hN fun j hj => by rw [if_neg (by omega)]; exact hf j (by omega)]
   congr 1
   refine zBk fun j hj => ?_
   rcases Nat.lt_trichotomy j k with e | e | e
   ·rw [if_neg (by omega),if_neg (by omega),if_neg (by omega)]
   ·subst e; rw [if_neg (by omega),if_pos rfl,if_pos (Nat.le_refl _)]
   ·rw [if_pos (by omega),if_neg (by omega),if_pos (by omega)]
  ·rw [if_neg hz,r58 J fq fw fp m (k + 1) _ (by omega) hN fun j hj => hf j (by omega)]
   congr 1
   refine zBk fun j hj => ?_
   rcases Nat.lt_trichotomy j k with e | e | e
   ·rw [if_neg (by omega),if_neg (by omega)]
   ·subst e
    rw [if_neg (by omega),if_pos (Nat.le_refl _),Classical.not_not.1 hz,Rat.mul_zero,Rat.add_zero]
   ·rw [if_pos (by omega),if_pos (by omega)]
theorem zZr (j : Nat) {D B : Nat} (hd : D ≠ 0) (pq : Rat) : ∀ S : List (Nat × Rat),(∀ s ∈ S,DB D B (pq * s.2)) → DB D (S.length * B) (pq * xN j S)
 | [],_ => by rw [List.length_nil,Nat.zero_mul,xN,Rat.mul_zero]; exact DB.zero
 | s :: S,h => by
  have ih := zZr j hd pq S fun t ht => h t (by simp [ht])
  rw [xN,List.length_cons,Nat.succ_mul,Nat.add_comm,Rat.mul_add]
  refine DB.add hd ?_ ih
  split
  ·exact h s (by simp)
  ·rw [Rat.mul_zero]; exact DB.zero.mono (Nat.zero_le _)
theorem zMv {n : Nat} (hn : 1 ≤ n) {b : Int} {i j : Nat} : sP n b i = sP n b j ↔ i = j := by
 constructor
 ·intro h
  unfold sP at h
  have h2 : i * n = j * n := by omega
  exact Nat.eq_of_mul_eq_mul_right (by omega) h2
 ·rintro rfl; rfl
theorem zHf {n : Nat} (hn : 1 ≤ n) (b : Int) (pq : Rat) (j : Nat) : ∀ W : List (Nat × Rat),wO (sP n b j) (W.map fun w => (sP n b w.1,pq * w.2)) = pq * xN j W
 | [] => by simp [wO,xN,Rat.mul_zero]
 | w :: W => by
  rw [List.map_cons,wO,xN,zHf hn b pq j W,Rat.mul_add]
  congr 1
  by_cases e : w.1 = j
  ·rw [if_pos e,if_pos (zMv hn |>.2 e)]
  ·rw [if_neg e,if_neg (fun h => e (zMv hn |>.1 h)),Rat.mul_zero]
section
variable {x : zO} {h u v b r : Int}
theorem r34 (E : Env x h u v b r) (hb : 0 ≤ b ∧ b < (x.advisories.length : Int)) (hN : nV x ≤ 256) {D B : Nat} (hD0 : D ≠ 0) (hD : D < xL) {n : zV} (hn : n ∈ x.ownNoise)
  (hc : ∀ o ∈ x.otherNoise,xM (n.p.rat * o.p.rat) = 0 ∧ ∀ w ∈ Wf x.height x.own x.other (h + v - u) (r + n.delta) (v + o.delta),xM w.2 = 0 ∧ xM (n.p.rat * o.p.rat * w.2) = 0 ∧ DB D B (n.p.rat * o.p.rat * w.2) ∧ w.1 < 100000) (J : List Raw → Option (List Out)) :
  ∀ (os : List zV) (φ : Nat → Rat) (c : Nat),(∀ o ∈ os,o ∈ x.otherNoise) → (∀ j,DB D (B * c) (φ j)) → B * (c + 8 * os.length) < xL →
  yB x h u v b n J os (vec (nV x) φ) = J (vec (nV x) (fun j => φ j + wO (sP x.advisories.length b j) (os.flatMap fun o => dZ x h u v b r n o))) ∧ ∀ j,DB D (B * (c + 8 * os.length)) (φ j + wO (sP x.advisories.length b j) (os.flatMap fun o => dZ x h u v b r n o))
 | [],φ,c,_,hm,_ => by
  rw [yB]
  simp only [List.flatMap_nil,wO,Rat.add_zero]
  exact ⟨trivial,fun j => by simpa using hm j⟩
 | o :: os,φ,c,hos,hm,hB => by
  have ho := hos o (by simp)
  have zn := E.o1 n hn
  have zo := E.o2 o ho
  obtain ⟨c1,c2⟩ := hc o ho
  have hW := (aA E.h1 E.h2 E.h3 E.ck (h + v - u) (r + n.delta) (v + o.delta)).1
  obtain ⟨w8,_,d,d0,d1,d2⟩ := hW.db E.h1 E.h2 E.h3
  have hlen : c + 8 * (o :: os).length = c + 8 + 8 * os.length := by simp; omega
  have fw : ∀ j,xM (xN j (Wf x.height x.own x.other (h + v - u) (r + n.delta) (v + o.delta))) = 0 := fun j => ((zCz j d0 _ d2).mono (Nat.mul_le_mul w8 d1)).fit (Nat.lt_of_le_of_lt d1 (by decide)) (by decide)
  have pd : ∀ j,DB D (8 * B) (n.p.rat * o.p.rat * xN j (Wf x.height x.own x.other (h + v - u) (r + n.delta) (v + o.delta))) := fun j => (zZr j hD0 _ _ fun w hw => (c2 w hw).2.2.1).mono (Nat.mul_le_mul_right _ w8)
  have hB1 : 8 * B < xL := Nat.lt_of_le_of_lt (by rw [Nat.mul_comm]; exact Nat.mul_le_mul_left _ (by rw [hlen]; omega)) hB
  have hBc : B * c < xL := Nat.lt_of_le_of_lt (Nat.mul_le_mul_left _ (by omega)) hB
  have hm' : ∀ j,DB D (B * (c + 8)) (φ j + n.p.rat * o.p.rat * xN j (Wf x.height x.own x.other (h + v - u) (r + n.delta) (v + o.delta))) := fun j => by
   rw [Nat.mul_add,Nat.mul_comm B 8]
   exact DB.add hD0 (hm j) (pd j)
  obtain ⟨i1,i2⟩ := r34 E hb hN hD0 hD hn hc J os _ (c + 8) (fun q hq => hos q (by simp [hq])) hm' (by rw [← hlen]; exact hB)
  have hs : ∀ j,φ j + wO (sP x.advisories.length b j) ((o :: os).flatMap fun o => dZ x h u v b r n o) = φ j + n.p.rat * o.p.rat * xN j (Wf x.height x.own x.other (h + v - u) (r + n.delta) (v + o.delta)) + wO (sP x.advisories.length b j) (os.flatMap fun o => dZ x h u v b r n o) := fun j => by
   rw [List.flatMap_cons,bK,show wO (sP x.advisories.length b j) (dZ x h u v b r n o) = n.p.rat * o.p.rat * xN j (Wf x.height x.own x.other (h + v - u) (r + n.delta) (v + o.delta)) from zHf E.a0 b _ j _,Rat.add_assoc]
  simp only [hs]
  rw [hlen]
  refine ⟨?_,i2⟩
  have e1 := E.r0; have e2 := E.r1; have e3 := E.hb; have e4 := E.ub; have e5 := E.vb; have z1 := zn.lo; have z2 := zn.hi; have z3 := zo.lo; have z4 := zo.hi
  have hp : yL n.p o.p = some (Raw.of (n.p.rat * o.p.rat)) := by
   unfold yL
   rw [rZ ⟨zJi zn.chk,zJi zo.chk⟩]
  rw [yB,lt,jB hp,show yQ x = some [x.height,x.own,x.other] from rfl,Option.bind_some,zQi hb,jB E.rr,jE (x := h + v) (by omega) (by omega),jE (x := h + v - u) (by omega) (by omega),jE (x := r + n.delta) (by omega) (by omega),jE (x := v + o.delta) (by omega) (by omega),jB (zVl E.h1 E.h2 E.h3 E.ck hN),List.drop_zero]
  refine (r58 (N := nV x) _ c1 fw (fun j => (pd j).fit hD hB1) (nV x) 0 φ (by omega) (by omega) fun j _ => (hm j).fit hD hBc).trans ?_
  simp only [Nat.zero_le,if_true]
  exact i1
end
set_option maxHeartbeats 1000000
theorem zGp (k : Int) : ∀ T : List (Int × Rat),k ∉ T.map Prod.fst → wO k T = 0
 | [],_ => rfl
 | t :: T,h => by
  rw [List.map_cons,List.mem_cons] at h
  rw [wO,zGp k T (fun h2 => h (.inr h2)),if_neg (fun e => h (.inl e.symm)),Rat.add_zero]
theorem zXi {n : Nat} (hn : 1 ≤ n) {b : Int} {i j : Nat} (h : i < j) : sP n b i < sP n b j := by
 have : (i + 1) * n ≤ j * n := Nat.mul_le_mul_right _ h
 rw [Nat.succ_mul] at this
 unfold sP
 omega
section
variable {x : zO} {h u v b r : Int}
theorem r30 (E : Env x h u v b r) (hb : 0 ≤ b ∧ b < (x.advisories.length : Int)) (hN : nV x ≤ 256) {D B : Nat} (hD0 : D ≠ 0) (hD : D < xL)
  (hc : ∀ n ∈ x.ownNoise,∀ o ∈ x.otherNoise,xM (n.p.rat * o.p.rat) = 0 ∧ ∀ w ∈ Wf x.height x.own x.other (h + v - u) (r + n.delta) (v + o.delta),xM w.2 = 0 ∧ xM (n.p.rat * o.p.rat * w.2) = 0 ∧ DB D B (n.p.rat * o.p.rat * w.2) ∧ w.1 < 100000) (J : List Raw → Option (List Out)) :
  ∀ (ns : List zV) (φ : Nat → Rat) (c : Nat),(∀ n ∈ ns,n ∈ x.ownNoise) → (∀ j,DB D (B * c) (φ j)) → B * (c + 40 * ns.length) < xL →
  jL x h u v b J ns (vec (nV x) φ) = J (vec (nV x) (fun j => φ j + wO (sP x.advisories.length b j) (ns.flatMap fun n => x.otherNoise.flatMap fun o => dZ x h u v b r n o)))
 | [],φ,c,_,hm,_ => by
  rw [jL]
  simp only [List.flatMap_nil,wO,Rat.add_zero]
 | n :: ns,φ,c,hns,hm,hB => by
  have hn := hns n (by simp)
  have hlen : c + 40 * (n :: ns).length = c + 40 + 40 * ns.length := by simp; omega
  have l2 := E.l2
  have hle : B * (c + 8 * x.otherNoise.length) ≤ B * (c + 40 * (n :: ns).length) := Nat.mul_le_mul_left _ (by rw [hlen]; omega)
  obtain ⟨i1,i2⟩ := r34 E hb hN hD0 hD hn (hc n hn) (fun v32 => jL x h u v b J ns v32) x.otherNoise φ c (fun _ h => h) hm (Nat.lt_of_le_of_lt hle hB)
  have i3 := r30 E hb hN hD0 hD hc J ns _ (c + 40) (fun q hq => hns q (by simp [hq])) (fun j => (i2 j).mono (Nat.mul_le_mul_left _ (by omega))) (by rw [← hlen]; exact hB)
  rw [jL,lt,List.drop_zero]
  refine i1.trans (i3.trans ?_)
  congr 1
  refine zBk fun j _ => ?_
  rw [List.flatMap_cons,bK,Rat.add_assoc]
theorem r15 (ha : x.advisories.length ≤ 6) (hb : 0 ≤ b ∧ b ≤ 6) {N : Nat} (hN : N ≤ 256) (ψ : Nat → Rat) (J : List Out → Option (List Out)) : ∀ (m k : Nat) (acc : List Out),k + m = N → acc.length ≤ k →
  qV x b (vec N ψ) J m k acc = J (acc ++ ((List.range' k m).filter fun k => decide (ψ k ≠ 0)).map fun k => Out.mk (sP x.advisories.length b k) (Raw.of (ψ k)))
 | 0,k,acc,_,_ => by rw [qV]; simp
 | m + 1,k,acc,hk,hac => by
  have hm : k * x.advisories.length ≤ 256 * 6 := Nat.mul_le_mul (by omega) ha
  have e1 : i64.wrap ((i64.wrap ((k : Int) * (x.advisories.length : Int))) + b) = sP x.advisories.length b k := by
   rw [← Int.natCast_mul,jE (x := ((k * x.advisories.length : Nat) : Int)) (by omega) (by omega),jE (by omega) (by omega)]
   rfl
  rw [qV,jB (ixT rfl (zRc ψ (by omega))),List.range'_succ,List.filter_cons]
  by_cases hz : ψ k ≠ 0
  ·rw [if_pos ((len0 _).2 hz),if_pos (by simpa using hz),rZ (by omega),e1,r15 ha hb hN ψ J m (k + 1) _ (by omega) (by simp; omega),List.map_cons,List.append_assoc]
   rfl
  ·rw [if_neg (fun h => hz ((len0 _).1 h)),if_neg (by simpa using hz),r15 ha hb hN ψ J m (k + 1) _ (by omega) (by omega)]
theorem zSt (E : Env x h u v b r) (f : zIt x) : ((List.range' 0 (nV x)).filter fun k => decide (wO (sP x.advisories.length b k) (zAw x h u v b r) ≠ 0)).map (fun k => Out.mk (sP x.advisories.length b k) (Raw.of (wO (sP x.advisories.length b k) (zAw x h u v b r)))) = zJc x h u v b r := by
 have ha := E.a0
 have key : ((List.range' 0 (nV x)).filter fun k => decide (wO (sP x.advisories.length b k) (zAw x h u v b r) ≠ 0)).map (sP x.advisories.length b) = dN ((lZ x h u v b r).map Prod.fst) := by
  refine zJl ?_ ?_ fun t => ?_
  ·rw [List.pairwise_map]
   exact ((List.pairwise_lt_range' (s := 0) (n := nV x)).filter _).imp fun hab => zXi ha hab
  ·have := zVu (x := x) (h := h) (u := u) (v := v) (b := b) (r := r)
   unfold zJc at this
   rw [List.pairwise_map] at this
   exact this
  ·rw [(lG _).mem_iff,zJk.2 t,List.mem_map]
   constructor
   ·rintro ⟨k,hk,rfl⟩
    have h2 := (List.mem_filter.1 hk).2
    exact Classical.byContradiction fun hno => (of_decide_eq_true h2) (zGp _ _ hno)
   ·intro ht
    have h2 := zOe _ _ (zWa E f) ht
    obtain ⟨q,hq,rfl⟩ := List.mem_map.1 ht
    obtain ⟨n,_,hq⟩ := List.mem_flatMap.1 hq
    obtain ⟨o,_,hq⟩ := List.mem_flatMap.1 hq
    obtain ⟨w,hw,rfl⟩ := List.mem_map.1 hq
    have hlt := ((aA E.h1 E.h2 E.h3 E.ck _ _ _).1.db E.h1 E.h2 E.h3).2.1 w hw
    refine ⟨w.1,List.mem_filter.2 ⟨List.mem_range'_1.2 ⟨Nat.zero_le _,by rw [Nat.zero_add]; exact hlt⟩,decide_eq_true fun e => ?_⟩,rfl⟩
    rw [e] at h2
    exact absurd h2 (by decide)
 unfold zJc
 rw [← key,List.map_map]
 refine List.map_congr_left fun k _ => ?_
 show _ = Out.mk (sP x.advisories.length b k) (Raw.of (tY (sP x.advisories.length b k) 0 (lZ x h u v b r)))
 rw [zUn]
theorem zZg (E : Env x h u v b r) (f : zIt x) (hb : 0 ≤ b ∧ b < (x.advisories.length : Int)) (g : zFe x) : vH x h u v b = some (zJc x h u v b r) := by
 have hN : nV x ≤ 256 := f.gn
 have ha := E.a
 obtain ⟨D,B,hD0,hD,hB,hc⟩ := E.common
 have l1 := E.l1
 have st := r30 E hb hN hD0 hD hc (fun (v11_0 : List Raw) => qV x b v11_0 (fun v => some v) (nV x) 0 []) x.ownNoise (fun _ => 0) 0 (fun _ h => h) (fun _ => by rw [Nat.mul_zero]; exact DB.zero) (Nat.lt_of_le_of_lt (Nat.mul_le_mul_left _ (by omega)) hB)
 unfold vH
 rw [zTa g,Option.bind_some,Int.toNat_natCast,rZ (by omega),lt,List.drop_zero]
 have e0 : List.replicate (nV x) Raw.zero = vec (nV x) (fun _ => 0) := by
  show List.replicate (nV x) Raw.zero = List.map (fun _ => Raw.of 0) (List.range (nV x))
  rw [of0]
  rw [List.map_const',List.length_range]
 rw [e0]
 refine st.trans ?_
 rw [r15 ha (by omega) hN _ _ (nV x) 0 [] (by omega) (by simp),List.nil_append]
 congr 1
 rw [← zSt E f]
 simp only [Rat.zero_add]
 rfl
end
set_option maxHeartbeats 1000000
theorem zSo (x : zO) (hl : bT x) (h u v b : Int) : vM x h u v b = qZ x h u v b := by
 obtain ⟨e,hc,g⟩ := nM x
 unfold vM qZ
 rw [fP x hl,jB hc,jB hc]
 by_cases he : e = 0
 ·subst he
  have f := (zBh x hl).1 hc
  have g := g rfl
  rw [if_neg z0,if_neg z0,dF _ _ (by decide),Option.bind_some,show zS (100000 : Int) = some 100000 from rfl,Option.bind_some,kZ _ 100000 (by decide),Option.bind_some]
  by_cases h1 : (!inS (-100000) 100000 [h]) = true
  ·rw [if_pos h1,if_pos h1]
  rw [if_neg h1,if_neg h1,dF _ _ (by decide),Option.bind_some,show zS (100 : Int) = some 100 from rfl,Option.bind_some,kZ _ 100 (by decide),Option.bind_some,zGx (-100) 100 u [v]]
  by_cases h2 : (!inS (-100) 100 [u]) = true
  ·rw [if_pos h2,if_pos (by simp only [Bool.not_eq_true'] at h2; rw [h2]; rfl)]
  rw [if_neg h2,dF _ _ (by decide),Option.bind_some]
  have h2' : inS (-100) 100 [u] = true := by simpa using h2
  rw [h2',Bool.true_and]
  by_cases h3 : (!inS (-100) 100 [v]) = true
  ·rw [if_pos h3,if_pos h3]
  rw [if_neg h3,if_neg h3,bU hc g,Option.bind_some]
  by_cases hb : 0 ≤ b ∧ b < (x.advisories.length : Int)
  ·rw [if_pos hb,if_neg z0,if_neg (by omega),if_neg (by omega)]
   have hh := rO.1 (show inS (-100000) 100000 [h] = true by simpa using h1) h (by simp)
   have hu := rO.1 h2' u (by simp)
   have hv := rO.1 (show inS (-100) 100 [v] = true by simpa using h3) v (by simp)
   obtain ⟨r,hr,_⟩ := zLf f g hb hu
   have E := f.env hl hh hu hv hb hr
   have hlen : (zJc x h u v b r).length = (lZ x h u v b r).length := by
    unfold zJc
    rw [List.length_map,(lG _).length_eq,List.length_map]
   rw [zZg E f hb g,zAt E,Option.bind_some,Option.bind_some,hlen]
   by_cases h64 : ((lZ x h u v b r).length : Int) > 64
   ·rw [if_pos h64,if_pos h64]
   ·rw [if_neg h64,if_neg h64]
    rfl
  ·rw [if_neg hb,if_pos z8]
   by_cases h3 : b < 0
   ·rw [if_pos h3]
   rw [if_neg h3,if_pos (by omega)]
 ·have h1 : (e != 0) = true := by simpa using he
  rw [if_pos h1,if_pos h1]
theorem zXn {α : Type} {p : Prop} [Decidable p] {A B : Option α} (h : ∃ c,A = some c) (k : ∃ c,B = some c) : ∃ c,(if p then A else B) = some c := by
 by_cases hp : p
 ·rw [if_pos hp]; exact h
 ·rw [if_neg hp]; exact k
theorem zTi (x : zO) : ∃ y,xY x = some y := by
 obtain ⟨e,hc,g⟩ := nM x
 obtain ⟨n,hn,_⟩ := zFf x
 unfold xY
 rw [jB hc,jB hn]
 exact zXn ⟨_,rfl⟩ ⟨_,rfl⟩
theorem zPa (x : zO) (hl : bT x) (a b : Int) : ∃ y,wH x a b = some y := by
 obtain ⟨e,hc,g⟩ := nM x
 rw [← zKk x hl]
 unfold xH qG
 rw [fP x hl,jB hc]
 simp only [Option.bind_some]
 repeat' first | exact ⟨_,rfl⟩ | apply zXn
theorem zSe (x : zO) (a : Int) : ∃ y,vX x a = some y := by
 obtain ⟨e,hc,g⟩ := nM x
 obtain ⟨n,hn,_⟩ := zFf x
 unfold vX
 rw [jB hc,jB hn]
 by_cases he : e = 0
 ·subst he
  have a1 := (g rfl).a1
  rw [rZ (by omega),rZ (by omega)]
  repeat' first | exact ⟨_,rfl⟩ | apply zXn
 ·rw [if_pos (by simpa using he)]
  exact ⟨_,rfl⟩
theorem zUa (x : zO) (hl : bT x) (hq : zUt x) (a b : Int) : ∃ y,yE x a b = some y := by
 obtain ⟨e,hc,g⟩ := nM x
 by_cases he : e = 0
 ·subst he
  have g := g rfl
  unfold yE
  rw [zCn hc g,Option.bind_some]
  by_cases hk : inS 0 ((x.advisories.length : Int) - 1) [a,b] = true
  ·have ha := rO.1 hk a (by simp)
   have hb := rO.1 hk b (by simp)
   obtain ⟨i,rfl⟩ := Int.eq_ofNat_of_zero_le ha.1
   obtain ⟨j,rfl⟩ := Int.eq_ofNat_of_zero_le hb.1
   rw [if_pos hk,if_neg z0,jB (ixT (k := i) rfl (List.getElem?_eq_getElem (by omega))),jB (ixT (k := j) rfl (List.getElem?_eq_getElem (by omega)))]
   simp only [lt,kH,Option.bind_some]
   repeat' first | exact ⟨_,rfl⟩ | apply zXn
  ·rw [if_neg hk,if_pos z8]
   exact ⟨_,rfl⟩
 ·unfold yE
  rw [zKv hc he,Option.bind_some,if_pos (by simpa using he)]
  exact ⟨_,rfl⟩
theorem zMn (x : zO) (hl : bT x ∧ zUt x) (a b h u v : Int) : xA x a b h u v = some true := by
 obtain ⟨lg,hlg⟩ := qBq x
 unfold xA
 rw [jB hlg,zYy]
 cases lg with
 | true => rw [if_pos rfl]; rfl
 | false =>
  obtain ⟨e,hc,g⟩ := nM x
  obtain ⟨y1,e1⟩ := zTi x
  obtain ⟨y2,e2⟩ := zPa x hl.1 a b
  obtain ⟨y3,e3⟩ := zSe x a
  obtain ⟨r4,f4,e4,_⟩ := zRx hc g u b
  obtain ⟨y5,e5⟩ := zUa x hl.1 hl.2 a b
  obtain ⟨l6,f6,e6,_⟩ := zKx hl.1 h u v b
  have step : ∀ (n : Nat),qE x a b h u v x y1 y2 y3 (r4,f4) y5 (l6,f6) (some true) n = some true := by
   intro n
   induction n with
   | zero => rw [qE]
   | succ n ih =>
    rw [qE,e1,e2,e3,e4,e5,e6,fP x hl.1,hc]
    simp only [Option.bind_some]
    rw [zCt,zSf,zUd]
    simp [ih]
  rw [if_neg (by decide),jB (qCx hlg),zQk x hl.1,e1,Option.bind_some,zKk x hl.1,e2,Option.bind_some,zTv x hl.1,e3,Option.bind_some,zOw x hl.1,e4,Option.bind_some,zXj x hl.1 hl.2,e5,Option.bind_some,zSo x hl.1,e6,Option.bind_some]
  exact step 2
end Go.Proofs.YtjnbipmlmafahaaGreat
